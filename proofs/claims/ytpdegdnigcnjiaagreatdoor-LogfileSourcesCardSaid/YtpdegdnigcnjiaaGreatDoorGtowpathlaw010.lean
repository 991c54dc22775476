/- WRITTEN BY PROGRAM (dec.py): for each Go function the clean formula F, the call's contract C, and the proof S that F gives C. -/
import Derived.Test.YtpdegdnigcnjiaaGreatDoorRows
import Derived.Test.YtpdegdnigcnjiaaGreatDoorGF
namespace Go.Proofs.YtpdegdnigcnjiaaGreatDoor
open Go
set_option linter.unusedVariables false
set_option maxRecDepth 100000
set_option maxHeartbeats 4000000
noncomputable section

/-! ### towpath/towpathlaw01.Beyond (function 7) -/
def c7_0 := cb_ Tryz.f7
def c7_3 := cr_ c7_0
def c7_6 := cr_ c7_3
def c7_7 := cl_ c7_6
def c7_10 := cr_ c7_7
def c7_11 := cl_ c7_10
def c7_12 := cl_ c7_11
def c7_13 := cl_ c7_12
def c7_16 := cr_ c7_13
def c7_17 := cl_ c7_16
def c7_18 := cr_ c7_16
def c7_19 := cr_ c7_12
def c7_20 := cl_ c7_19
def c7_21 := cl_ c7_20
def c7_22 := cl_ c7_21
def r7_22 := co_ c7_22
def c7_24 := cr_ c7_21
def c7_27 := cr_ c7_24
def c7_28 := cl_ c7_27
def c7_31 := cr_ c7_28
def c7_32 := cr_ c7_27
def c7_33 := cr_ c7_19
def r7_33 := co_ c7_33
def c7_35 := cr_ c7_6
def c7_38 := cr_ c7_35

theorem S_towpathlaw01_Beyond {l_ : Slc} {w : World} {R : Bool → World → Prop} (h : F_towpathlaw01_Beyond l_ R w) : C_towpathlaw01_Beyond l_ w R := by
 unfold F_towpathlaw01_Beyond at h
 unfold C_towpathlaw01_Beyond
 refine Calls.mono (calls_of_wpE (args := [sv_ l_]) (R := fun v w' => ∃ (r0 : Bool), v = Value.bool r0 ∧ R r0 w') Tryz.func7 (c := c7_0) (by kernel_rfl) 19 (by kernel_rfl) (by kernel_rfl) [(0, sv_ l_)] (by kernel_rfl) ?_) ?_
 · refine Zp c7_3 P1 [(0, sv_ l_)] ?_
   refine Zp c7_6 P1 [(0, sv_ l_), (3, .int .i64 0)] ?_
   refine Zs c7_7 c7_35 ?_
   refine Zp c7_10 P1 [(0, sv_ l_), (3, .int .i64 0), (4, .int .i64 0)] ?_
   refine Zb 0 c7_11 ?_
   obtain ⟨I, μ, h0, hr⟩ := h
   refine wpE_loop (x := c7_12) (by kernel_rfl) (fun m l w => ∃ (n_ : Int) (i : Int), l = [(0, sv_ l_), (3, Value.int .i64 n_), (4, Value.int .i64 i)] ∧ I n_ i w ∧ μ n_ i w = m) (l' := [(0, sv_ l_), (3, Value.int .i64 0), (4, Value.int .i64 0)]) (Sub.mk (by kernel_rfl)) ⟨0, 0, rfl, h0, rfl⟩ ?_
   rintro _ _ w1 ⟨n_, i, rfl, hI, rfl⟩
   obtain ⟨again_, again__h, h⟩ : ∃ again_ : Int → Int → World → Prop, (∀ n_' i' w', again_ n_' i' w' → I n_' i' w' ∧ μ n_' i' w' < μ n_ i w1) ∧ F_towpathlaw01_Beyond_L0 l_ R again_ n_ i w1 := ⟨_, fun _ _ _ h => h, hr n_ i w1 hI⟩
   clear h0 hI
   unfold F_towpathlaw01_Beyond_L0 at h
   refine Zs c7_13 c7_19 ?_
   refine Zp c7_16 P4 [(0, sv_ l_), (3, .int .i64 n_), (4, .int .i64 i), (8, .bool (decide (i < ((l_.len : Nat) : Int))))] ?_
   refine Zc 8 (decide (i < ((l_.len : Nat) : Int))) c7_17 c7_18 (fun hb => ?_) (fun hb => ?_)
   · replace h := h.1 hb
     refine wpE_skip (by kernel_rfl) ?_
     change WpE _ _ c7_19 _ _ _
     refine Zs c7_20 c7_33 ?_
     refine Zb 1 c7_21 ?_
     refine Zt r7_22 c7_24 ?_
     refine Zn P3 3 [(0, [], sv_ l_), (3, [], .int .i64 n_), (4, [], .int .i64 i), (11, [], .int .i64 n_), (12, [], sv_ l_), (13, [], .int .i64 i)] ?_
     obtain ⟨hp_7, h⟩ := h
     refine Zv (fun pp => [(0, [], sv_ l_), (3, [], .int .i64 n_), (4, [], .int .i64 i), (11, [], .int .i64 n_), (12, [], .slice pp l_.len l_.cap), (13, [], .int .i64 i)]) hp_7 ?_
     obtain ⟨h0, h1, h⟩ := h
     refine Zi 23 3 12 13 (pblk l_.ptr) (poff l_.ptr) l_.len l_.cap i 14 0 h0 h1 ?_
     refine Zn [] 4 [(0, [], sv_ l_), (3, [], .int .i64 n_), (4, [], .int .i64 i), (11, [], .int .i64 n_), (14, [], .pointer (some ⟨(pblk l_.ptr), (poff l_.ptr) + i.toNat, none⟩))] ?_
     obtain ⟨v15, hc, h⟩ := h
     refine Zl 3 14 (pblk l_.ptr) ((poff l_.ptr) + i.toNat) 3 15 hc ?_
     refine Zf P2 [(0, sv_ l_), (3, .int .i64 (IntKind.i64.wrap (n_ + v15))), (4, .int .i64 i)] ?_
     change WpE _ _ c7_24 _ _ _
     refine Zp c7_27 P2 [(0, sv_ l_), (3, .int .i64 (IntKind.i64.wrap (n_ + v15))), (4, .int .i64 i), (18, .bool (decide ((IntKind.i64.wrap (n_ + v15)) > 1048576)))] ?_
     refine Zc 18 (decide ((IntKind.i64.wrap (n_ + v15)) > 1048576)) c7_28 c7_32 (fun hb => ?_) (fun hb => ?_)
     · replace h := h.1 hb
       refine Zp c7_31 P1 [(2, .bool true)] ?_
       refine wpE_ret (by kernel_rfl) ?_
       repeat (first | refine seqQ_ret ?_ | refine blockQ_ret ?_ | refine loopQ_ret ?_ | refine cutQ_ret ?_)
       exact retS (rs := [(ResultVar.tmp 2)]) (v := Value.bool true) (by kernel_rfl) (⟨by kernel_rfl, trivial⟩) ⟨true, rfl, h⟩
     · replace h := h.2 hb
       refine wpE_skip (by kernel_rfl) ?_
       change WpE _ _ c7_33 _ _ _
       refine Zr r7_33 ?_
       refine Zf P3 [(0, sv_ l_), (3, .int .i64 (IntKind.i64.wrap (n_ + v15))), (4, .int .i64 (IntKind.i64.wrap (i + 1)))] ?_
       have hb_ := again__h _ _ _ h
       exact ⟨_, hb_.2, [(0, sv_ l_), (3, Value.int .i64 (IntKind.i64.wrap (n_ + v15))), (4, Value.int .i64 (IntKind.i64.wrap (i + 1)))], Sub.mk (by kernel_rfl), (IntKind.i64.wrap (n_ + v15)), (IntKind.i64.wrap (i + 1)), rfl, hb_.1, rfl⟩
   · replace h := h.2 hb
     refine wpE_exit (id := 0) (by kernel_rfl) ?_
     change WpE _ _ c7_35 _ _ _
     refine Zp c7_38 P1 [(2, .bool false)] ?_
     refine wpE_ret (by kernel_rfl) ?_
     repeat (first | refine seqQ_ret ?_ | refine blockQ_ret ?_ | refine loopQ_ret ?_ | refine cutQ_ret ?_)
     exact retS (rs := [(ResultVar.tmp 2)]) (v := Value.bool false) (by kernel_rfl) (⟨by kernel_rfl, trivial⟩) ⟨false, rfl, h⟩
 · rintro e w' ⟨v, rfl, r0, rfl, h⟩; exact ⟨r0, rfl, h⟩

/-! ### towpath/towpathlaw01.TxnsSize (function 8) -/
def c8_0 := cb_ Tryz.f8
def c8_3 := cr_ c8_0
def c8_6 := cr_ c8_3
def c8_7 := cl_ c8_6
def c8_10 := cr_ c8_7
def c8_11 := cl_ c8_10
def c8_12 := cl_ c8_11
def c8_13 := cl_ c8_12
def c8_16 := cr_ c8_13
def c8_17 := cl_ c8_16
def c8_18 := cr_ c8_16
def c8_19 := cr_ c8_12
def c8_20 := cl_ c8_19
def c8_21 := cl_ c8_20
def r8_21 := co_ c8_21
def c8_23 := cr_ c8_19
def r8_23 := co_ c8_23
def c8_25 := cr_ c8_6
def c8_28 := cr_ c8_25

theorem S_towpathlaw01_TxnsSize {l_ : Slc} {w : World} {R : Int → World → Prop} (h : F_towpathlaw01_TxnsSize l_ R w) : C_towpathlaw01_TxnsSize l_ w R := by
 unfold F_towpathlaw01_TxnsSize at h
 unfold C_towpathlaw01_TxnsSize
 refine Calls.mono (calls_of_wpE (args := [sv_ l_]) (R := fun v w' => ∃ (r0 : Int), v = Value.int .i64 r0 ∧ R r0 w') Tryz.func8 (c := c8_0) (by kernel_rfl) 25 (by kernel_rfl) (by kernel_rfl) [(0, sv_ l_)] (by kernel_rfl) ?_) ?_
 · refine Zp c8_3 P1 [(0, sv_ l_)] ?_
   refine Zp c8_6 P3 [(0, sv_ l_), (3, .int .i64 ((l_.len : Nat) : Int))] ?_
   refine Zs c8_7 c8_25 ?_
   refine Zp c8_10 P1 [(0, sv_ l_), (3, .int .i64 ((l_.len : Nat) : Int)), (4, .int .i64 0)] ?_
   refine Zb 0 c8_11 ?_
   obtain ⟨I, μ, h0, hr⟩ := h
   refine wpE_loop (x := c8_12) (by kernel_rfl) (fun m l w => ∃ (n_ : Int) (i : Int), l = [(0, sv_ l_), (3, Value.int .i64 n_), (4, Value.int .i64 i)] ∧ I n_ i w ∧ μ n_ i w = m) (l' := [(0, sv_ l_), (3, Value.int .i64 ((l_.len : Nat) : Int)), (4, Value.int .i64 0)]) (Sub.mk (by kernel_rfl)) ⟨((l_.len : Nat) : Int), 0, rfl, h0, rfl⟩ ?_
   rintro _ _ w1 ⟨n_, i, rfl, hI, rfl⟩
   obtain ⟨again_, again__h, h⟩ : ∃ again_ : Int → Int → World → Prop, (∀ n_' i' w', again_ n_' i' w' → I n_' i' w' ∧ μ n_' i' w' < μ n_ i w1) ∧ F_towpathlaw01_TxnsSize_L0 l_ R again_ n_ i w1 := ⟨_, fun _ _ _ h => h, hr n_ i w1 hI⟩
   clear h0 hI
   unfold F_towpathlaw01_TxnsSize_L0 at h
   refine Zs c8_13 c8_19 ?_
   refine Zp c8_16 [.plain, .plain, .plain, .plain, .plain, .plain, .plain, .pick] [(0, sv_ l_), (3, .int .i64 n_), (4, .int .i64 i), (14, .bool ((decide (i < ((l_.len : Nat) : Int))) && (decide (n_ ≤ 1048576))))] ?_
   refine Zc 14 ((decide (i < ((l_.len : Nat) : Int))) && (decide (n_ ≤ 1048576))) c8_17 c8_18 (fun hb => ?_) (fun hb => ?_)
   · replace h := h.1 hb
     refine wpE_skip (by kernel_rfl) ?_
     change WpE _ _ c8_19 _ _ _
     refine Zs c8_20 c8_23 ?_
     refine Zb 1 c8_21 ?_
     refine Zr r8_21 ?_
     refine Zn P3 3 [(0, [], sv_ l_), (3, [], .int .i64 n_), (4, [], .int .i64 i), (17, [], .int .i64 n_), (18, [], sv_ l_), (19, [], .int .i64 i)] ?_
     obtain ⟨hp_3, h⟩ := h
     refine Zv (fun pp => [(0, [], sv_ l_), (3, [], .int .i64 n_), (4, [], .int .i64 i), (17, [], .int .i64 n_), (18, [], .slice pp l_.len l_.cap), (19, [], .int .i64 i)]) hp_3 ?_
     obtain ⟨h0, h1, h⟩ := h
     refine Zj 22 52 18 19 (pblk l_.ptr) (poff l_.ptr) l_.len l_.cap i 2 20 0 h0 h1 ?_
     refine Zn [] 4 [(0, [], sv_ l_), (3, [], .int .i64 n_), (4, [], .int .i64 i), (17, [], .int .i64 n_), (20, [], .pointer (some ⟨(pblk l_.ptr), (poff l_.ptr) + i.toNat * 2, none⟩))] ?_
     obtain ⟨v21, hc, h⟩ := h
     refine reg_loadN (t := 52) (a := (Operand.tmp 20)) (b := (pblk l_.ptr)) (o := ((poff l_.ptr) + i.toNat * 2)) (ty := 52) (dst := some 21) [Value.int .i64 v21.Number, sv_ v21.Writes] (by kernel_rfl) (by kernel_rfl) (by kernel_rfl) (k := 2) (by kernel_rfl) (by kernel_rfl) hc ?_
     refine Zn [] 5 [(0, [], sv_ l_), (3, [], .int .i64 n_), (4, [], .int .i64 i), (17, [], .int .i64 n_), (21, [], .agg #[.int .i64 v21.Number, sv_ v21.Writes])] ?_
     refine Zm 43 #[.agg #[.int .i64 v21.Number, sv_ v21.Writes]] (some 22) (Calls.mono h ?_)
     rintro _ w2 ⟨v22, rfl, h⟩
     refine ⟨_, rfl, ?_⟩
     refine Zf P2 [(0, sv_ l_), (3, .int .i64 (IntKind.i64.wrap (n_ + v22))), (4, .int .i64 i)] ?_
     change WpE _ _ c8_23 _ _ _
     refine Zr r8_23 ?_
     refine Zf P3 [(0, sv_ l_), (3, .int .i64 (IntKind.i64.wrap (n_ + v22))), (4, .int .i64 (IntKind.i64.wrap (i + 1)))] ?_
     have hb_ := again__h _ _ _ h
     exact ⟨_, hb_.2, [(0, sv_ l_), (3, Value.int .i64 (IntKind.i64.wrap (n_ + v22))), (4, Value.int .i64 (IntKind.i64.wrap (i + 1)))], Sub.mk (by kernel_rfl), (IntKind.i64.wrap (n_ + v22)), (IntKind.i64.wrap (i + 1)), rfl, hb_.1, rfl⟩
   · replace h := h.2 hb
     refine wpE_exit (id := 0) (by kernel_rfl) ?_
     change WpE _ _ c8_25 _ _ _
     refine Zp c8_28 P2 [(2, .int .i64 n_)] ?_
     refine wpE_ret (by kernel_rfl) ?_
     repeat (first | refine seqQ_ret ?_ | refine blockQ_ret ?_ | refine loopQ_ret ?_ | refine cutQ_ret ?_)
     exact retS (rs := [(ResultVar.tmp 2)]) (v := Value.int .i64 n_) (by kernel_rfl) (⟨by kernel_rfl, trivial⟩) ⟨n_, rfl, h⟩
 · rintro e w' ⟨v, rfl, r0, rfl, h⟩; exact ⟨r0, rfl, h⟩

/-! ### towpath/towpathlaw01.TwinTxns (function 9) -/
def c9_0 := cb_ Tryz.f9
def c9_3 := cr_ c9_0
def c9_4 := cl_ c9_3
def r9_4 := co_ c9_4
def c9_6 := cr_ c9_3
def c9_7 := cl_ c9_6
def c9_10 := cr_ c9_7
def c9_11 := cl_ c9_10
def c9_12 := cl_ c9_11
def c9_13 := cl_ c9_12
def c9_16 := cr_ c9_13
def c9_17 := cl_ c9_16
def c9_18 := cr_ c9_16
def c9_19 := cr_ c9_12
def c9_20 := cl_ c9_19
def c9_21 := cl_ c9_20
def r9_21 := co_ c9_21
def c9_23 := cr_ c9_19
def r9_23 := co_ c9_23
def c9_25 := cr_ c9_6
def c9_26 := cl_ c9_25
def r9_26 := co_ c9_26
def c9_28 := cr_ c9_25

theorem S_towpathlaw01_TwinTxns {l_ : Slc} {w : World} {R : Slc → World → Prop} (h : F_towpathlaw01_TwinTxns l_ R w) : C_towpathlaw01_TwinTxns l_ w R := by
 unfold F_towpathlaw01_TwinTxns at h
 unfold C_towpathlaw01_TwinTxns
 refine Calls.mono (calls_of_wpE (args := [sv_ l_]) (R := fun v w' => ∃ (r0 : Slc), v = sv_ r0 ∧ R r0 w') Tryz.func9 (c := c9_0) (by kernel_rfl) 30 (by kernel_rfl) (by kernel_rfl) [(0, sv_ l_)] (by kernel_rfl) ?_) ?_
 · refine Zp c9_3 P1 [(0, sv_ l_)] ?_
   refine Zt r9_4 c9_6 ?_
   refine Zn P3 3 [(0, [], sv_ l_), (7, [], .int .i64 (IntKind.i64.wrap (((l_.len : Nat) : Int) + 1)))] ?_
   obtain ⟨h0, h1, h2, h⟩ := h
   refine reg_makeSlice (t := 22) (e := 52) (lo := (Operand.const (Value.int Go.IntKind.i64 0))) (co := (Operand.tmp 7)) (l := 0) (c := (IntKind.i64.wrap (((l_.len : Nat) : Int) + 1))) (sz := 2) (by_ := 32) (zs := [Value.int .i64 0, Value.slice none 0 0]) (ty := 22) (dst := some 8) (by kernel_rfl) (by kernel_rfl) (by kernel_rfl) (by kernel_rfl) (by kernel_rfl) (by kernel_rfl) (by kernel_rfl) (by kernel_rfl) (by kernel_rfl) h0 h1 h2 (fun b_ w1 hb hw => ?_)
   replace h := h b_ w1 hb hw
   clear hb hw
   refine Zf P1 [(0, sv_ l_), (3, .slice (some ⟨b_, 0, none⟩) 0 ((IntKind.i64.wrap (((l_.len : Nat) : Int) + 1)).toNat))] ?_
   change WpE _ _ c9_6 _ _ _
   refine Zs c9_7 c9_25 ?_
   refine Zp c9_10 P1 [(0, sv_ l_), (3, .slice (some ⟨b_, 0, none⟩) 0 ((IntKind.i64.wrap (((l_.len : Nat) : Int) + 1)).toNat)), (4, .int .i64 0)] ?_
   refine Zb 0 c9_11 ?_
   obtain ⟨I, μ, h0, hr⟩ := h
   refine wpE_loop (x := c9_12) (by kernel_rfl) (fun m l w => ∃ (t_ : Slc) (i : Int), l = [(0, sv_ l_), (3, sv_ t_), (4, Value.int .i64 i)] ∧ I t_ i w ∧ μ t_ i w = m) (l' := [(0, sv_ l_), (3, Value.slice (some ⟨b_, 0, none⟩) 0 ((IntKind.i64.wrap (((l_.len : Nat) : Int) + 1)).toNat)), (4, Value.int .i64 0)]) (Sub.mk (by kernel_rfl)) ⟨(Slc.mk (some ⟨b_, 0, none⟩) 0 ((IntKind.i64.wrap (((l_.len : Nat) : Int) + 1)).toNat)), 0, rfl, h0, rfl⟩ ?_
   rintro _ _ w2 ⟨t_, i, rfl, hI, rfl⟩
   obtain ⟨again_, again__h, h⟩ : ∃ again_ : Slc → Int → World → Prop, (∀ t_' i' w', again_ t_' i' w' → I t_' i' w' ∧ μ t_' i' w' < μ t_ i w2) ∧ F_towpathlaw01_TwinTxns_L0 l_ R again_ t_ i w2 := ⟨_, fun _ _ _ h => h, hr t_ i w2 hI⟩
   clear h0 hI
   unfold F_towpathlaw01_TwinTxns_L0 at h
   refine Zs c9_13 c9_19 ?_
   refine Zp c9_16 P4 [(0, sv_ l_), (3, sv_ t_), (4, .int .i64 i), (12, .bool (decide (i < ((l_.len : Nat) : Int))))] ?_
   refine Zc 12 (decide (i < ((l_.len : Nat) : Int))) c9_17 c9_18 (fun hb => ?_) (fun hb => ?_)
   · replace h := h.1 hb
     refine wpE_skip (by kernel_rfl) ?_
     change WpE _ _ c9_19 _ _ _
     refine Zs c9_20 c9_23 ?_
     refine Zb 1 c9_21 ?_
     refine Zr r9_21 ?_
     refine Zn P3 3 [(0, [], sv_ l_), (3, [], sv_ t_), (4, [], .int .i64 i), (15, [], sv_ t_), (16, [], sv_ l_), (17, [], .int .i64 i)] ?_
     obtain ⟨hp_3, h⟩ := h
     refine Zv (fun pp => [(0, [], sv_ l_), (3, [], sv_ t_), (4, [], .int .i64 i), (15, [], sv_ t_), (16, [], .slice pp l_.len l_.cap), (17, [], .int .i64 i)]) hp_3 ?_
     obtain ⟨h0, h1, h⟩ := h
     refine Zj 22 52 16 17 (pblk l_.ptr) (poff l_.ptr) l_.len l_.cap i 2 18 0 h0 h1 ?_
     refine Zn [] 4 [(0, [], sv_ l_), (3, [], sv_ t_), (4, [], .int .i64 i), (15, [], sv_ t_), (18, [], .pointer (some ⟨(pblk l_.ptr), (poff l_.ptr) + i.toNat * 2, none⟩))] ?_
     obtain ⟨v19, hc, h⟩ := h
     refine reg_loadN (t := 52) (a := (Operand.tmp 18)) (b := (pblk l_.ptr)) (o := ((poff l_.ptr) + i.toNat * 2)) (ty := 52) (dst := some 19) [Value.int .i64 v19.Number, sv_ v19.Writes] (by kernel_rfl) (by kernel_rfl) (by kernel_rfl) (k := 2) (by kernel_rfl) (by kernel_rfl) hc ?_
     refine Zn [] 5 [(0, [], sv_ l_), (3, [], sv_ t_), (4, [], .int .i64 i), (15, [], sv_ t_), (19, [], .agg #[.int .i64 v19.Number, sv_ v19.Writes])] ?_
     refine Zm 44 #[.agg #[.int .i64 v19.Number, sv_ v19.Writes]] (some 20) (Calls.mono h ?_)
     rintro _ w3 ⟨v20, rfl, h⟩
     refine ⟨_, rfl, ?_⟩
     refine Zn [] 6 [(0, [], sv_ l_), (3, [], sv_ t_), (4, [], .int .i64 i), (15, [], sv_ t_), (20, [], .agg #[.int .i64 v20.Number, sv_ v20.Writes])] ?_
     refine Zw (some 21) (fun bb => .slice (some ⟨bb, 0, none⟩) 1 1) (Obj.cells ([.int .i64 v20.Number, sv_ v20.Writes]).toArray ty_api_Txn (0, 0)) (fun b_1 w4 hb hw => ?_)
     replace h := h b_1 w4 hb hw
     clear hb hw
     refine Zn [] 7 [(0, [], sv_ l_), (3, [], sv_ t_), (4, [], .int .i64 i), (15, [], sv_ t_), (21, [], .slice (some ⟨b_1, 0, none⟩) 1 1)] ?_
     obtain ⟨src, hs, h⟩ := h
     refine reg_append (t := 22) (tx := 22) (e := 52) (a := (Operand.tmp 15)) (xo := (Operand.tmp 21)) (s := t_) (x := (Slc.mk (some ⟨b_1, 0, none⟩) 1 1)) (sz := 2) (by_ := 32) (zs := [Value.int .i64 0, Value.slice none 0 0]) (ty := 22) (dst := some 22)  src (by kernel_rfl) (by kernel_rfl) (by kernel_rfl) (by kernel_rfl) (by kernel_rfl) (by kernel_rfl) (by kernel_rfl) (by kernel_rfl) (by kernel_rfl) hs (AppendW.mono h (fun t_1 w5 h => ?_))
     refine Zf P1 [(0, sv_ l_), (3, sv_ t_1), (4, .int .i64 i)] ?_
     change WpE _ _ c9_23 _ _ _
     refine Zr r9_23 ?_
     refine Zf P3 [(0, sv_ l_), (3, sv_ t_1), (4, .int .i64 (IntKind.i64.wrap (i + 1)))] ?_
     have hb_ := again__h _ _ _ h
     exact ⟨_, hb_.2, [(0, sv_ l_), (3, sv_ t_1), (4, Value.int .i64 (IntKind.i64.wrap (i + 1)))], Sub.mk (by kernel_rfl), t_1, (IntKind.i64.wrap (i + 1)), rfl, hb_.1, rfl⟩
   · replace h := h.2 hb
     refine wpE_exit (id := 0) (by kernel_rfl) ?_
     change WpE _ _ c9_25 _ _ _
     refine Zt r9_26 c9_28 ?_
     refine Zn P2 2 [(0, [], sv_ l_), (23, [], sv_ t_), (24, [], .agg #[.int .i64 7777, .slice none 0 0])] ?_
     refine Zw (some 25) (fun bb => .slice (some ⟨bb, 0, none⟩) 1 1) (Obj.cells ([.int .i64 7777, .slice none 0 0]).toArray ty_api_Txn (0, 0)) (fun b_2 w6 hb hw => ?_)
     replace h := h b_2 w6 hb hw
     clear hb hw
     refine Zn [] 3 [(0, [], sv_ l_), (23, [], sv_ t_), (25, [], .slice (some ⟨b_2, 0, none⟩) 1 1)] ?_
     obtain ⟨src, hs, h⟩ := h
     refine reg_append (t := 22) (tx := 22) (e := 52) (a := (Operand.tmp 23)) (xo := (Operand.tmp 25)) (s := t_) (x := (Slc.mk (some ⟨b_2, 0, none⟩) 1 1)) (sz := 2) (by_ := 32) (zs := [Value.int .i64 0, Value.slice none 0 0]) (ty := 22) (dst := some 26)  src (by kernel_rfl) (by kernel_rfl) (by kernel_rfl) (by kernel_rfl) (by kernel_rfl) (by kernel_rfl) (by kernel_rfl) (by kernel_rfl) (by kernel_rfl) hs (AppendW.mono h (fun v26 w7 h => ?_))
     refine Zn P2 6 [(26, [], sv_ v26), (28, [], .int .i64 ((l_.len : Nat) : Int))] ?_
     obtain ⟨h0, h1, h⟩ := h
     refine reg_sliceHi (t := 22) (e := 52) (x := (Operand.tmp 26)) (hi := (Operand.tmp 28)) (p := v26.ptr) (l := v26.len) (c := v26.cap) (sz := 2) (k := .i64) (j := ((l_.len : Nat) : Int)) (ty := 22) (dst := some 29) (by kernel_rfl) (by kernel_rfl) (by kernel_rfl) (by kernel_rfl) (by kernel_rfl) h0 h1 ?_
     refine Zf P1 [(2, .slice v26.ptr (((l_.len : Nat) : Int).toNat) v26.cap)] ?_
     change WpE _ _ c9_28 _ _ _
     refine wpE_ret (by kernel_rfl) ?_
     repeat (first | refine seqQ_ret ?_ | refine blockQ_ret ?_ | refine loopQ_ret ?_ | refine cutQ_ret ?_)
     exact retS (rs := [(ResultVar.tmp 2)]) (v := Value.slice v26.ptr (((l_.len : Nat) : Int).toNat) v26.cap) (by kernel_rfl) (⟨by kernel_rfl, trivial⟩) ⟨(Slc.mk v26.ptr (((l_.len : Nat) : Int).toNat) v26.cap), rfl, h⟩
 · rintro e w' ⟨v, rfl, r0, rfl, h⟩; exact ⟨r0, rfl, h⟩

/-! ### towpath/towpathlaw01.LeftTxns (function 12) -/
def c12_0 := cb_ Tryz.f12
def c12_3 := cr_ c12_0
def c12_4 := cl_ c12_3
def c12_7 := cr_ c12_4
def c12_8 := cl_ c12_7
def c12_11 := cr_ c12_8
def c12_12 := cr_ c12_7
def c12_13 := cr_ c12_3
def c12_14 := cl_ c12_13
def c12_17 := cr_ c12_14
def c12_18 := cl_ c12_17
def c12_19 := cl_ c12_18
def c12_20 := cl_ c12_19
def c12_23 := cr_ c12_20
def c12_24 := cl_ c12_23
def c12_25 := cr_ c12_23
def c12_26 := cr_ c12_19
def c12_27 := cl_ c12_26
def c12_28 := cl_ c12_27
def c12_29 := cl_ c12_28
def r12_29 := co_ c12_29
def c12_31 := cr_ c12_28
def c12_32 := cl_ c12_31
def c12_35 := cr_ c12_32
def c12_36 := cr_ c12_31
def c12_37 := cr_ c12_26
def r12_37 := co_ c12_37
def c12_39 := cr_ c12_13
def c12_40 := cl_ c12_39
def r12_40 := co_ c12_40
def c12_42 := cr_ c12_39
def c12_43 := cl_ c12_42
def r12_43 := co_ c12_43
def c12_45 := cr_ c12_42

theorem S_towpathlaw01_LeftTxns {t_ : Slc} {l_ : Slc} {w : World} {R : Bool → World → Prop} (h : F_towpathlaw01_LeftTxns t_ l_ R w) : C_towpathlaw01_LeftTxns t_ l_ w R := by
 unfold F_towpathlaw01_LeftTxns at h
 unfold C_towpathlaw01_LeftTxns
 refine Calls.mono (calls_of_wpE (args := [sv_ t_, sv_ l_]) (R := fun v w' => ∃ (r0 : Bool), v = Value.bool r0 ∧ R r0 w') Tryz.func12 (c := c12_0) (by kernel_rfl) 47 (by kernel_rfl) (by kernel_rfl) [(0, sv_ t_), (1, sv_ l_)] (by kernel_rfl) ?_) ?_
 · refine Zp c12_3 P1 [(0, sv_ t_), (1, sv_ l_)] ?_
   refine Zs c12_4 c12_13 ?_
   refine Zp c12_7 [.plain, .plain, .plain, .plain, .plain, .plain, .plain, .plain, .plain, .plain, .plain, .pick] [(0, sv_ t_), (1, sv_ l_), (18, .bool ((((t_.len : Nat) : Int) != ((l_.len : Nat) : Int)) || (decide (((t_.cap : Nat) : Int) ≤ ((l_.len : Nat) : Int)))))] ?_
   refine Zc 18 ((((t_.len : Nat) : Int) != ((l_.len : Nat) : Int)) || (decide (((t_.cap : Nat) : Int) ≤ ((l_.len : Nat) : Int)))) c12_8 c12_12 (fun hb => ?_) (fun hb => ?_)
   · replace h := h.1 hb
     refine Zp c12_11 P1 [(4, .bool false)] ?_
     refine wpE_ret (by kernel_rfl) ?_
     repeat (first | refine seqQ_ret ?_ | refine blockQ_ret ?_ | refine loopQ_ret ?_ | refine cutQ_ret ?_)
     exact retS (rs := [(ResultVar.tmp 4)]) (v := Value.bool false) (by kernel_rfl) (⟨by kernel_rfl, trivial⟩) ⟨false, rfl, h⟩
   · replace h := h.2 hb
     refine wpE_skip (by kernel_rfl) ?_
     change WpE _ _ c12_13 _ _ _
     refine Zs c12_14 c12_39 ?_
     refine Zp c12_17 P1 [(0, sv_ t_), (1, sv_ l_), (5, .int .i64 0)] ?_
     refine Zb 0 c12_18 ?_
     obtain ⟨I, μ, h0, hr⟩ := h
     refine wpE_loop (x := c12_19) (by kernel_rfl) (fun m l w => ∃ (i : Int), l = [(0, sv_ t_), (1, sv_ l_), (5, Value.int .i64 i)] ∧ I i w ∧ μ i w = m) (l' := [(0, sv_ t_), (1, sv_ l_), (5, Value.int .i64 0)]) (Sub.mk (by kernel_rfl)) ⟨0, rfl, h0, rfl⟩ ?_
     rintro _ _ w1 ⟨i, rfl, hI, rfl⟩
     obtain ⟨again_, again__h, h⟩ : ∃ again_ : Int → World → Prop, (∀ i' w', again_ i' w' → I i' w' ∧ μ i' w' < μ i w1) ∧ F_towpathlaw01_LeftTxns_L0 t_ l_ R again_ i w1 := ⟨_, fun _ _ h => h, hr i w1 hI⟩
     clear h0 hI
     unfold F_towpathlaw01_LeftTxns_L0 at h
     refine Zs c12_20 c12_26 ?_
     refine Zp c12_23 P4 [(0, sv_ t_), (1, sv_ l_), (5, .int .i64 i), (22, .bool (decide (i < ((l_.len : Nat) : Int))))] ?_
     refine Zc 22 (decide (i < ((l_.len : Nat) : Int))) c12_24 c12_25 (fun hb => ?_) (fun hb => ?_)
     · replace h := h.1 hb
       refine wpE_skip (by kernel_rfl) ?_
       change WpE _ _ c12_26 _ _ _
       refine Zs c12_27 c12_37 ?_
       refine Zb 1 c12_28 ?_
       refine Zs c12_29 c12_31 ?_
       refine wpE_drawregion (id := 6) (ops := r12_29) (by kernel_rfl) (by kernel_rfl) (by kernel_rfl) ?_
       refine qreg_run P2 2 [(0, [], sv_ t_), (1, [], sv_ l_), (5, [], Value.int .i64 i), (25, [], sv_ t_), (26, [], Value.int .i64 i)] (by kernel_rfl) (by kernel_rfl) ?_
       obtain ⟨hp_14, h⟩ := h
       refine qreg_conv [(0, [], sv_ t_), (1, [], sv_ l_), (5, [], Value.int .i64 i), (25, [], Value.slice (some ⟨(pblk t_.ptr), (poff t_.ptr), none⟩) t_.len t_.cap), (26, [], Value.int .i64 i)] (congrArg (fun pp => ([(0, [], sv_ t_), (1, [], sv_ l_), (5, [], Value.int .i64 i), (25, [], Value.slice pp t_.len t_.cap), (26, [], Value.int .i64 i)] : GEnv)) hp_14) ?_
       obtain ⟨h0, h1, h⟩ := h
       refine qreg_indexS (t := 22) (e := 52) (x := (Operand.tmp 25)) (ix := (Operand.tmp 26)) (b := (pblk t_.ptr)) (o := (poff t_.ptr)) (l := t_.len) (c := t_.cap) (k := .i64) (j := i) (ty := 0) (dst := some 27) (sz := 2) (by kernel_rfl) (by kernel_rfl) (by kernel_rfl) (by kernel_rfl) (by kernel_rfl) h0 h1 ?_
       refine qreg_run [] 3 [(0, [], sv_ t_), (1, [], sv_ l_), (5, [], Value.int .i64 i), (27, [], Value.pointer (some ⟨(pblk t_.ptr), (poff t_.ptr) + i.toNat * 2, none⟩))] (by kernel_rfl) (by kernel_rfl) ?_
       obtain ⟨v28, hc, h⟩ := h
       refine qreg_loadN (t := 52) (a := (Operand.tmp 27)) (b := (pblk t_.ptr)) (o := ((poff t_.ptr) + i.toNat * 2)) (ty := 52) (dst := some 28) [Value.int .i64 v28.Number, sv_ v28.Writes] (by kernel_rfl) (by kernel_rfl) (by kernel_rfl) (k := 2) (by kernel_rfl) (by kernel_rfl) hc ?_
       refine qreg_run P2 6 [(0, [], sv_ t_), (1, [], sv_ l_), (5, [], Value.int .i64 i), (28, [], Value.agg #[Value.int .i64 v28.Number, sv_ v28.Writes]), (29, [], sv_ l_), (30, [], Value.int .i64 i)] (by kernel_rfl) (by kernel_rfl) ?_
       obtain ⟨hp_15, h⟩ := h
       refine qreg_conv [(0, [], sv_ t_), (1, [], sv_ l_), (5, [], Value.int .i64 i), (28, [], Value.agg #[Value.int .i64 v28.Number, sv_ v28.Writes]), (29, [], Value.slice (some ⟨(pblk l_.ptr), (poff l_.ptr), none⟩) l_.len l_.cap), (30, [], Value.int .i64 i)] (congrArg (fun pp => ([(0, [], sv_ t_), (1, [], sv_ l_), (5, [], Value.int .i64 i), (28, [], Value.agg #[Value.int .i64 v28.Number, sv_ v28.Writes]), (29, [], Value.slice pp l_.len l_.cap), (30, [], Value.int .i64 i)] : GEnv)) hp_15) ?_
       obtain ⟨h0, h1, h⟩ := h
       refine qreg_indexS (t := 22) (e := 52) (x := (Operand.tmp 29)) (ix := (Operand.tmp 30)) (b := (pblk l_.ptr)) (o := (poff l_.ptr)) (l := l_.len) (c := l_.cap) (k := .i64) (j := i) (ty := 0) (dst := some 31) (sz := 2) (by kernel_rfl) (by kernel_rfl) (by kernel_rfl) (by kernel_rfl) (by kernel_rfl) h0 h1 ?_
       refine qreg_run [] 7 [(0, [], sv_ t_), (1, [], sv_ l_), (5, [], Value.int .i64 i), (28, [], Value.agg #[Value.int .i64 v28.Number, sv_ v28.Writes]), (31, [], Value.pointer (some ⟨(pblk l_.ptr), (poff l_.ptr) + i.toNat * 2, none⟩))] (by kernel_rfl) (by kernel_rfl) ?_
       obtain ⟨v32, hc, h⟩ := h
       refine qreg_loadN (t := 52) (a := (Operand.tmp 31)) (b := (pblk l_.ptr)) (o := ((poff l_.ptr) + i.toNat * 2)) (ty := 52) (dst := some 32) [Value.int .i64 v32.Number, sv_ v32.Writes] (by kernel_rfl) (by kernel_rfl) (by kernel_rfl) (k := 2) (by kernel_rfl) (by kernel_rfl) hc ?_
       refine qreg_run [] 8 [(0, [], sv_ t_), (1, [], sv_ l_), (5, [], Value.int .i64 i), (28, [], Value.agg #[Value.int .i64 v28.Number, sv_ v28.Writes]), (32, [], Value.agg #[Value.int .i64 v32.Number, sv_ v32.Writes])] (by kernel_rfl) (by kernel_rfl) ?_
       obtain ⟨v33, hq, h⟩ := h
       refine qreg_enter (op := (Op.call (Call.mk (Callee.value (Operand.func 48)) #[(Operand.tmp 28), (Operand.tmp 32)] #[52, 52]))) (ty := 4) (dst := some 33) 48 #[Value.agg #[Value.int .i64 v28.Number, sv_ v28.Writes], Value.agg #[Value.int .i64 v32.Number, sv_ v32.Writes]] (Value.bool v33) (by kernel_rfl) (fun ww => by kernel_rfl) (fun w' he => Calls.mono (hq w' he) (by rintro _ w'' ⟨_, rfl, rfl, hE⟩; exact ⟨rfl, hE⟩)) ?_
       clear hq
       refine qreg_run P1 10 [(0, [], sv_ t_), (1, [], sv_ l_), (5, [], Value.int .i64 i), (34, [], Value.bool (!v33))] (by kernel_rfl) (by kernel_rfl) ?_
       refine qreg_end [(0, sv_ t_), (1, sv_ l_), (5, Value.int .i64 i), (34, Value.bool (!v33))] (by kernel_rfl) (by kernel_rfl) (fun w3 hw => ?_)
       replace h := h w3 hw
       clear hw
       change WpE _ _ c12_31 _ _ _
       refine Zc 34 (!v33) c12_32 c12_36 (fun hb => ?_) (fun hb => ?_)
       · replace h := h.1 hb
         refine Zp c12_35 P1 [(4, .bool false)] ?_
         refine wpE_ret (by kernel_rfl) ?_
         repeat (first | refine seqQ_ret ?_ | refine blockQ_ret ?_ | refine loopQ_ret ?_ | refine cutQ_ret ?_)
         exact retS (rs := [(ResultVar.tmp 4)]) (v := Value.bool false) (by kernel_rfl) (⟨by kernel_rfl, trivial⟩) ⟨false, rfl, h⟩
       · replace h := h.2 hb
         refine wpE_skip (by kernel_rfl) ?_
         change WpE _ _ c12_37 _ _ _
         refine Zr r12_37 ?_
         refine Zf P3 [(0, sv_ t_), (1, sv_ l_), (5, .int .i64 (IntKind.i64.wrap (i + 1)))] ?_
         have hb_ := again__h _ _ h
         exact ⟨_, hb_.2, [(0, sv_ t_), (1, sv_ l_), (5, Value.int .i64 (IntKind.i64.wrap (i + 1)))], Sub.mk (by kernel_rfl), (IntKind.i64.wrap (i + 1)), rfl, hb_.1, rfl⟩
     · replace h := h.2 hb
       refine wpE_exit (id := 0) (by kernel_rfl) ?_
       change WpE _ _ c12_39 _ _ _
       refine Zt r12_40 c12_42 ?_
       refine Zn P4 4 [(1, [], sv_ l_), (35, [], sv_ t_), (38, [], .int .i64 (IntKind.i64.wrap (((l_.len : Nat) : Int) + 1)))] ?_
       obtain ⟨h0, h1, h⟩ := h
       refine reg_sliceHi (t := 22) (e := 52) (x := (Operand.tmp 35)) (hi := (Operand.tmp 38)) (p := t_.ptr) (l := t_.len) (c := t_.cap) (sz := 2) (k := .i64) (j := (IntKind.i64.wrap (((l_.len : Nat) : Int) + 1))) (ty := 22) (dst := some 39) (by kernel_rfl) (by kernel_rfl) (by kernel_rfl) (by kernel_rfl) (by kernel_rfl) h0 h1 ?_
       refine Zn P2 7 [(39, [], .slice t_.ptr ((IntKind.i64.wrap (((l_.len : Nat) : Int) + 1)).toNat) t_.cap), (41, [], .int .i64 ((l_.len : Nat) : Int))] ?_
       obtain ⟨hp_17, h⟩ := h
       refine Zv (fun pp => [(39, [], .slice pp ((IntKind.i64.wrap (((l_.len : Nat) : Int) + 1)).toNat) t_.cap), (41, [], .int .i64 ((l_.len : Nat) : Int))]) hp_17 ?_
       obtain ⟨h0, h1, h⟩ := h
       refine Zj 22 52 39 41 (pblk t_.ptr) (poff t_.ptr) ((IntKind.i64.wrap (((l_.len : Nat) : Int) + 1)).toNat) t_.cap ((l_.len : Nat) : Int) 2 42 0 h0 h1 ?_
       refine Zn [] 8 [(42, [], .pointer (some ⟨(pblk t_.ptr), (poff t_.ptr) + ((l_.len : Nat) : Int).toNat * 2, none⟩))] ?_
       obtain ⟨v43, hc, h⟩ := h
       refine reg_loadN (t := 52) (a := (Operand.tmp 42)) (b := (pblk t_.ptr)) (o := ((poff t_.ptr) + ((l_.len : Nat) : Int).toNat * 2)) (ty := 52) (dst := some 43) [Value.int .i64 v43.Number, sv_ v43.Writes] (by kernel_rfl) (by kernel_rfl) (by kernel_rfl) (k := 2) (by kernel_rfl) (by kernel_rfl) hc ?_
       refine Zn [] 9 [(43, [], .agg #[.int .i64 v43.Number, sv_ v43.Writes])] ?_
       refine Zw (some 6) (fun bb => pv_ bb) (Obj.cells ([.int .i64 0, .slice none 0 0]).toArray ty_api_Txn (0, 0)) (fun b_ w4 hb hw => ?_)
       replace h := h b_ w4 hb hw
       clear hb hw
       refine Zn [] 10 [(6, [], pv_ b_), (43, [], .agg #[.int .i64 v43.Number, sv_ v43.Writes])] ?_
       obtain ⟨hc, h⟩ := h
       refine Zo 52 6 43 b_ 0 2 [.int .i64 v43.Number, sv_ v43.Writes] hc (fun w5 hw => ?_)
       replace h := h w5 hw
       clear hw
       refine Ze [(6, pv_ b_)] ?_
       change WpE _ _ c12_42 _ _ _
       refine Zt r12_43 c12_45 ?_
       refine Zn P1 1 [(44, [], pv_ b_)] ?_
       obtain ⟨v45, hc, h⟩ := h
       refine Zl 3 44 b_ 0 3 45 hc ?_
       refine Zf P2 [(4, .bool (v45 == 7777))] ?_
       change WpE _ _ c12_45 _ _ _
       refine wpE_ret (by kernel_rfl) ?_
       repeat (first | refine seqQ_ret ?_ | refine blockQ_ret ?_ | refine loopQ_ret ?_ | refine cutQ_ret ?_)
       exact retS (rs := [(ResultVar.tmp 4)]) (v := Value.bool (v45 == 7777)) (by kernel_rfl) (⟨by kernel_rfl, trivial⟩) ⟨(v45 == 7777), rfl, h⟩
 · rintro e w' ⟨v, rfl, r0, rfl, h⟩; exact ⟨r0, rfl, h⟩

/-! ### (*towpath/towpathlaw01.Book).Txns (function 13) -/
def c13_0 := cb_ Tryz.f13
def c13_1 := cl_ c13_0
def c13_4 := cr_ c13_1
def c13_5 := cl_ c13_4
def c13_6 := cl_ c13_5
def c13_7 := cl_ c13_6
def c13_10 := cr_ c13_7
def c13_11 := cl_ c13_10
def c13_12 := cr_ c13_10
def c13_13 := cr_ c13_6
def c13_14 := cl_ c13_13
def c13_15 := cl_ c13_14
def r13_15 := co_ c13_15
def c13_17 := cr_ c13_13
def r13_17 := co_ c13_17
def c13_19 := cr_ c13_0
def r13_19 := co_ c13_19

theorem S_towpathlaw01_Book_Txns {b_ : Option Addr} {l_ : Slc} {w : World} {R : World → Prop} (h : F_towpathlaw01_Book_Txns b_ l_ R w) : C_towpathlaw01_Book_Txns b_ l_ w R := by
 unfold F_towpathlaw01_Book_Txns at h
 unfold C_towpathlaw01_Book_Txns
 refine Calls.mono (calls_of_wpE (args := [Value.pointer b_, sv_ l_]) (R := fun v w' => v = Value.tuple #[] ∧ R w') Tryz.func13 (c := c13_0) (by kernel_rfl) 20 (by kernel_rfl) (by kernel_rfl) [(0, Value.pointer b_), (1, sv_ l_)] (by kernel_rfl) ?_) ?_
 · refine Zs c13_1 c13_19 ?_
   refine Zp c13_4 P1 [(0, .pointer b_), (1, sv_ l_), (4, .int .i64 0)] ?_
   refine Zb 0 c13_5 ?_
   obtain ⟨I, μ, h0, hr⟩ := h
   refine wpE_loop (x := c13_6) (by kernel_rfl) (fun m l w => ∃ (i : Int), l = [(0, Value.pointer b_), (1, sv_ l_), (4, Value.int .i64 i)] ∧ I i w ∧ μ i w = m) (l' := [(0, Value.pointer b_), (1, sv_ l_), (4, Value.int .i64 0)]) (Sub.mk (by kernel_rfl)) ⟨0, rfl, h0, rfl⟩ ?_
   rintro _ _ w1 ⟨i, rfl, hI, rfl⟩
   obtain ⟨again_, again__h, h⟩ : ∃ again_ : Int → World → Prop, (∀ i' w', again_ i' w' → I i' w' ∧ μ i' w' < μ i w1) ∧ F_towpathlaw01_Book_Txns_L0 b_ l_ R again_ i w1 := ⟨_, fun _ _ h => h, hr i w1 hI⟩
   clear h0 hI
   unfold F_towpathlaw01_Book_Txns_L0 at h
   refine Zs c13_7 c13_13 ?_
   refine Zp c13_10 P4 [(0, .pointer b_), (1, sv_ l_), (4, .int .i64 i), (8, .bool (decide (i < ((l_.len : Nat) : Int))))] ?_
   refine Zc 8 (decide (i < ((l_.len : Nat) : Int))) c13_11 c13_12 (fun hb => ?_) (fun hb => ?_)
   · replace h := h.1 hb
     refine wpE_skip (by kernel_rfl) ?_
     change WpE _ _ c13_13 _ _ _
     refine Zs c13_14 c13_17 ?_
     refine Zb 1 c13_15 ?_
     refine Zr r13_15 ?_
     refine Zn P3 3 [(0, [], .pointer b_), (1, [], sv_ l_), (4, [], .int .i64 i), (11, [], .pointer b_), (12, [], sv_ l_), (13, [], .int .i64 i)] ?_
     obtain ⟨hp_3, h⟩ := h
     refine Zv (fun pp => [(0, [], .pointer b_), (1, [], sv_ l_), (4, [], .int .i64 i), (11, [], .pointer b_), (12, [], .slice pp l_.len l_.cap), (13, [], .int .i64 i)]) hp_3 ?_
     obtain ⟨h0, h1, h⟩ := h
     refine Zj 22 52 12 13 (pblk l_.ptr) (poff l_.ptr) l_.len l_.cap i 2 14 0 h0 h1 ?_
     refine Zn [] 4 [(0, [], .pointer b_), (1, [], sv_ l_), (4, [], .int .i64 i), (11, [], .pointer b_), (14, [], .pointer (some ⟨(pblk l_.ptr), (poff l_.ptr) + i.toNat * 2, none⟩))] ?_
     obtain ⟨v15, hc, h⟩ := h
     refine reg_loadN (t := 52) (a := (Operand.tmp 14)) (b := (pblk l_.ptr)) (o := ((poff l_.ptr) + i.toNat * 2)) (ty := 52) (dst := some 15) [Value.int .i64 v15.Number, sv_ v15.Writes] (by kernel_rfl) (by kernel_rfl) (by kernel_rfl) (k := 2) (by kernel_rfl) (by kernel_rfl) hc ?_
     refine Zn [] 5 [(0, [], .pointer b_), (1, [], sv_ l_), (4, [], .int .i64 i), (11, [], .pointer b_), (15, [], .agg #[.int .i64 v15.Number, sv_ v15.Writes])] ?_
     refine Zm 20 #[.pointer b_, .agg #[.int .i64 v15.Number, sv_ v15.Writes]] (some 16) (Calls.mono h ?_)
     rintro _ w2 ⟨rfl, h⟩
     refine ⟨_, rfl, ?_⟩
     refine Ze [(0, .pointer b_), (1, sv_ l_), (4, .int .i64 i)] ?_
     change WpE _ _ c13_17 _ _ _
     refine Zr r13_17 ?_
     refine Zf P3 [(0, .pointer b_), (1, sv_ l_), (4, .int .i64 (IntKind.i64.wrap (i + 1)))] ?_
     have hb_ := again__h _ _ h
     exact ⟨_, hb_.2, [(0, Value.pointer b_), (1, sv_ l_), (4, Value.int .i64 (IntKind.i64.wrap (i + 1)))], Sub.mk (by kernel_rfl), (IntKind.i64.wrap (i + 1)), rfl, hb_.1, rfl⟩
   · replace h := h.2 hb
     refine wpE_exit (id := 0) (by kernel_rfl) ?_
     change WpE _ _ c13_19 _ _ _
     refine Zr r13_19 ?_
     refine Zn P2 2 [(17, [], .pointer b_), (18, [], sv_ l_)] ?_
     refine Zm 49 #[.pointer b_, sv_ l_] (some 19) (Calls.mono h ?_)
     rintro _ w3 ⟨rfl, h⟩
     refine ⟨_, rfl, ?_⟩
     refine Ze [] ?_
     repeat (first | refine seqQ_exit ?_ | refine loopQ_exit ?_ | refine cutQ_exit ?_ | refine blockQ_hit ?_ | refine blockQ_miss (by kernel_rfl) ?_)
     refine retQ_normal ?_
     repeat (first | refine seqQ_ret ?_ | refine blockQ_ret ?_ | refine loopQ_ret ?_ | refine cutQ_ret ?_)
     exact retT (rs := []) (vs := []) (by kernel_rfl) (trivial) (by kernel_rfl) ⟨rfl, h⟩
 · rintro e w' ⟨v, rfl, rfl, h⟩; exact ⟨rfl, h⟩

/-! ### (*towpath/towpathlaw01.Book).Apart (function 14) -/
def c14_0 := cb_ Tryz.f14
def c14_3 := cr_ c14_0
def c14_4 := cl_ c14_3
def r14_4 := co_ c14_4
def c14_6 := cr_ c14_3
def c14_7 := cl_ c14_6
def r14_7 := co_ c14_7
def c14_9 := cr_ c14_6
def c14_10 := cl_ c14_9
def r14_10 := co_ c14_10
def c14_12 := cr_ c14_9
def c14_13 := cl_ c14_12
def r14_13 := co_ c14_13
def c14_15 := cr_ c14_12
def c14_16 := cl_ c14_15
def r14_16 := co_ c14_16
def c14_18 := cr_ c14_15
def c14_19 := cl_ c14_18
def r14_19 := co_ c14_19
def c14_21 := cr_ c14_18
def c14_22 := cl_ c14_21
def r14_22 := co_ c14_22
def c14_24 := cr_ c14_21
def c14_25 := cl_ c14_24
def r14_25 := co_ c14_25
def c14_27 := cr_ c14_24
def c14_28 := cl_ c14_27
def r14_28 := co_ c14_28
def c14_30 := cr_ c14_27
def c14_31 := cl_ c14_30
def r14_31 := co_ c14_31
def c14_33 := cr_ c14_30
def c14_34 := cl_ c14_33
def r14_34 := co_ c14_34
def c14_36 := cr_ c14_33
def c14_37 := cl_ c14_36
def r14_37 := co_ c14_37
def c14_39 := cr_ c14_36
def c14_40 := cl_ c14_39
def r14_40 := co_ c14_40
def c14_42 := cr_ c14_39
def c14_43 := cl_ c14_42
def r14_43 := co_ c14_43
def c14_45 := cr_ c14_42
def c14_46 := cl_ c14_45
def r14_46 := co_ c14_46
def c14_48 := cr_ c14_45
def c14_49 := cl_ c14_48
def r14_49 := co_ c14_49
def c14_51 := cr_ c14_48
def c14_52 := cl_ c14_51
def r14_52 := co_ c14_52
def c14_54 := cr_ c14_51
def c14_55 := cl_ c14_54
def r14_55 := co_ c14_55
def c14_57 := cr_ c14_54
def c14_58 := cl_ c14_57
def r14_58 := co_ c14_58
def c14_60 := cr_ c14_57
def c14_61 := cl_ c14_60
def r14_61 := co_ c14_61
def c14_63 := cr_ c14_60
def c14_64 := cl_ c14_63
def r14_64 := co_ c14_64
def c14_66 := cr_ c14_63
def c14_67 := cl_ c14_66
def r14_67 := co_ c14_67
def c14_69 := cr_ c14_66
def c14_70 := cl_ c14_69
def r14_70 := co_ c14_70
def c14_72 := cr_ c14_69

theorem S_towpathlaw01_Book_Apart {b_ : Option Addr} {w : World} {R : Bool → World → Prop} (h : F_towpathlaw01_Book_Apart b_ R w) : C_towpathlaw01_Book_Apart b_ w R := by
 unfold F_towpathlaw01_Book_Apart at h
 unfold C_towpathlaw01_Book_Apart
 refine Calls.mono (calls_of_wpE (args := [Value.pointer b_]) (R := fun v w' => ∃ (r0 : Bool), v = Value.bool r0 ∧ R r0 w') Tryz.func14 (c := c14_0) (by kernel_rfl) 89 (by kernel_rfl) (by kernel_rfl) [(0, Value.pointer b_)] (by kernel_rfl) ?_) ?_
 · refine Zp c14_3 P1 [(0, .pointer b_)] ?_
   refine Zt r14_4 c14_6 ?_
   refine Zn P1 1 [(0, [], .pointer b_), (3, [], .pointer b_)] ?_
   refine Zm 50 #[.pointer b_] (some 4) (Calls.mono h ?_)
   rintro _ w1 ⟨rfl, h⟩
   refine ⟨_, rfl, ?_⟩
   refine Ze [(0, .pointer b_)] ?_
   change WpE _ _ c14_6 _ _ _
   refine Zt r14_7 c14_9 ?_
   refine Zn P1 1 [(0, [], .pointer b_), (5, [], .pointer b_)] ?_
   refine Zm 51 #[.pointer b_] (some 6) (Calls.mono h ?_)
   rintro _ w2 ⟨rfl, h⟩
   refine ⟨_, rfl, ?_⟩
   refine Ze [(0, .pointer b_)] ?_
   change WpE _ _ c14_9 _ _ _
   refine Zt r14_10 c14_12 ?_
   refine Zn P1 1 [(0, [], .pointer b_), (7, [], .pointer b_)] ?_
   refine Zm 52 #[.pointer b_] (some 8) (Calls.mono h ?_)
   rintro _ w3 ⟨rfl, h⟩
   refine ⟨_, rfl, ?_⟩
   refine Ze [(0, .pointer b_)] ?_
   change WpE _ _ c14_12 _ _ _
   refine Zt r14_13 c14_15 ?_
   refine Zn P1 1 [(0, [], .pointer b_), (9, [], .pointer b_)] ?_
   refine Zm 53 #[.pointer b_] (some 10) (Calls.mono h ?_)
   rintro _ w4 ⟨rfl, h⟩
   refine ⟨_, rfl, ?_⟩
   refine Ze [(0, .pointer b_)] ?_
   change WpE _ _ c14_15 _ _ _
   refine Zt r14_16 c14_18 ?_
   refine Zn P1 1 [(0, [], .pointer b_), (11, [], .pointer b_)] ?_
   refine Zm 54 #[.pointer b_] (some 12) (Calls.mono h ?_)
   rintro _ w5 ⟨rfl, h⟩
   refine ⟨_, rfl, ?_⟩
   refine Ze [(0, .pointer b_)] ?_
   change WpE _ _ c14_18 _ _ _
   refine Zt r14_19 c14_21 ?_
   refine Zn P1 1 [(0, [], .pointer b_), (13, [], .pointer b_)] ?_
   refine Zm 55 #[.pointer b_] (some 14) (Calls.mono h ?_)
   rintro _ w6 ⟨rfl, h⟩
   refine ⟨_, rfl, ?_⟩
   refine Ze [(0, .pointer b_)] ?_
   change WpE _ _ c14_21 _ _ _
   refine Zt r14_22 c14_24 ?_
   refine Zn P1 1 [(0, [], .pointer b_), (15, [], .pointer b_)] ?_
   refine Zm 56 #[.pointer b_] (some 16) (Calls.mono h ?_)
   rintro _ w7 ⟨rfl, h⟩
   refine ⟨_, rfl, ?_⟩
   refine Ze [(0, .pointer b_)] ?_
   change WpE _ _ c14_24 _ _ _
   refine Zt r14_25 c14_27 ?_
   refine Zn P1 1 [(0, [], .pointer b_), (17, [], .pointer b_)] ?_
   refine Zm 57 #[.pointer b_] (some 18) (Calls.mono h ?_)
   rintro _ w8 ⟨rfl, h⟩
   refine ⟨_, rfl, ?_⟩
   refine Ze [(0, .pointer b_)] ?_
   change WpE _ _ c14_27 _ _ _
   refine Zt r14_28 c14_30 ?_
   refine Zn P1 1 [(0, [], .pointer b_), (19, [], .pointer b_)] ?_
   refine Zm 58 #[.pointer b_] (some 20) (Calls.mono h ?_)
   rintro _ w9 ⟨rfl, h⟩
   refine ⟨_, rfl, ?_⟩
   refine Ze [(0, .pointer b_)] ?_
   change WpE _ _ c14_30 _ _ _
   refine Zt r14_31 c14_33 ?_
   refine Zn P1 1 [(0, [], .pointer b_), (21, [], .pointer b_)] ?_
   refine Zm 59 #[.pointer b_] (some 22) (Calls.mono h ?_)
   rintro _ w10 ⟨rfl, h⟩
   refine ⟨_, rfl, ?_⟩
   refine Ze [(0, .pointer b_)] ?_
   change WpE _ _ c14_33 _ _ _
   refine Zt r14_34 c14_36 ?_
   refine Zn P1 1 [(0, [], .pointer b_), (23, [], .pointer b_)] ?_
   refine Zm 60 #[.pointer b_] (some 24) (Calls.mono h ?_)
   rintro _ w11 ⟨rfl, h⟩
   refine ⟨_, rfl, ?_⟩
   refine Ze [(0, .pointer b_)] ?_
   change WpE _ _ c14_36 _ _ _
   refine Zt r14_37 c14_39 ?_
   refine Zn P1 1 [(0, [], .pointer b_), (25, [], .pointer b_)] ?_
   refine Zm 61 #[.pointer b_] (some 26) (Calls.mono h ?_)
   rintro _ w12 ⟨rfl, h⟩
   refine ⟨_, rfl, ?_⟩
   refine Ze [(0, .pointer b_)] ?_
   change WpE _ _ c14_39 _ _ _
   refine Zt r14_40 c14_42 ?_
   refine Zn P1 1 [(0, [], .pointer b_), (27, [], .pointer b_)] ?_
   refine Zm 62 #[.pointer b_] (some 28) (Calls.mono h ?_)
   rintro _ w13 ⟨rfl, h⟩
   refine ⟨_, rfl, ?_⟩
   refine Ze [(0, .pointer b_)] ?_
   change WpE _ _ c14_42 _ _ _
   refine Zt r14_43 c14_45 ?_
   refine Zn P1 1 [(0, [], .pointer b_), (29, [], .pointer b_)] ?_
   refine Zm 63 #[.pointer b_] (some 30) (Calls.mono h ?_)
   rintro _ w14 ⟨rfl, h⟩
   refine ⟨_, rfl, ?_⟩
   refine Ze [(0, .pointer b_)] ?_
   change WpE _ _ c14_45 _ _ _
   refine Zt r14_46 c14_48 ?_
   refine Zn P1 1 [(0, [], .pointer b_), (31, [], .pointer b_)] ?_
   refine Zm 64 #[.pointer b_] (some 32) (Calls.mono h ?_)
   rintro _ w15 ⟨rfl, h⟩
   refine ⟨_, rfl, ?_⟩
   refine Ze [(0, .pointer b_)] ?_
   change WpE _ _ c14_48 _ _ _
   refine Zt r14_49 c14_51 ?_
   refine Zn P1 1 [(0, [], .pointer b_), (33, [], .pointer b_)] ?_
   refine Zm 65 #[.pointer b_] (some 34) (Calls.mono h ?_)
   rintro _ w16 ⟨rfl, h⟩
   refine ⟨_, rfl, ?_⟩
   refine Ze [(0, .pointer b_)] ?_
   change WpE _ _ c14_51 _ _ _
   refine Zt r14_52 c14_54 ?_
   refine Zn P1 1 [(0, [], .pointer b_), (35, [], .pointer b_)] ?_
   refine Zm 66 #[.pointer b_] (some 36) (Calls.mono h ?_)
   rintro _ w17 ⟨rfl, h⟩
   refine ⟨_, rfl, ?_⟩
   refine Ze [(0, .pointer b_)] ?_
   change WpE _ _ c14_54 _ _ _
   refine Zt r14_55 c14_57 ?_
   refine Zn P1 1 [(0, [], .pointer b_), (37, [], .pointer b_)] ?_
   refine Zm 67 #[.pointer b_] (some 38) (Calls.mono h ?_)
   rintro _ w18 ⟨rfl, h⟩
   refine ⟨_, rfl, ?_⟩
   refine Ze [(0, .pointer b_)] ?_
   change WpE _ _ c14_57 _ _ _
   refine Zt r14_58 c14_60 ?_
   refine Zn P1 1 [(0, [], .pointer b_), (39, [], .pointer b_)] ?_
   refine Zm 68 #[.pointer b_] (some 40) (Calls.mono h ?_)
   rintro _ w19 ⟨rfl, h⟩
   refine ⟨_, rfl, ?_⟩
   refine Ze [(0, .pointer b_)] ?_
   change WpE _ _ c14_60 _ _ _
   refine Zt r14_61 c14_63 ?_
   refine Zn P1 1 [(0, [], .pointer b_), (41, [], .pointer b_)] ?_
   refine Zm 69 #[.pointer b_] (some 42) (Calls.mono h ?_)
   rintro _ w20 ⟨rfl, h⟩
   refine ⟨_, rfl, ?_⟩
   refine Ze [(0, .pointer b_)] ?_
   change WpE _ _ c14_63 _ _ _
   refine Zt r14_64 c14_66 ?_
   refine Zn P1 1 [(0, [], .pointer b_), (43, [], .pointer b_)] ?_
   refine Zm 70 #[.pointer b_] (some 44) (Calls.mono h ?_)
   rintro _ w21 ⟨rfl, h⟩
   refine ⟨_, rfl, ?_⟩
   refine Ze [(0, .pointer b_)] ?_
   change WpE _ _ c14_66 _ _ _
   refine Zt r14_67 c14_69 ?_
   refine Zn P1 1 [(0, [], .pointer b_), (45, [], .pointer b_)] ?_
   refine Zm 71 #[.pointer b_] (some 46) (Calls.mono h ?_)
   rintro _ w22 ⟨rfl, h⟩
   refine ⟨_, rfl, ?_⟩
   refine Ze [(0, .pointer b_)] ?_
   change WpE _ _ c14_69 _ _ _
   refine Zt r14_70 c14_72 ?_
   refine Zn P1 1 [(0, [], .pointer b_), (47, [], .pointer b_)] ?_
   refine Zm 72 #[.pointer b_] (some 48) (Calls.mono h ?_)
   rintro _ w23 ⟨v48, rfl, h⟩
   refine ⟨_, rfl, ?_⟩
   refine Zn P2 4 [(0, [], .pointer b_), (49, [], .bool v48), (50, [(49, true)], .pointer b_)] ?_
   refine reg_split 49 v48 (by kernel_rfl) (fun hb => ?_) (fun hb => ?_)
   · replace h := h.1 hb
     refine Zn [] 4 [(0, [], .pointer b_), (49, [], .bool true), (50, [], .pointer b_)] ?_
     refine Zn [] 4 [(0, [], .pointer b_), (49, [], .bool true), (50, [], .pointer b_)] ?_
     refine Zm 73 #[.pointer b_] (some 51) (Calls.mono h ?_)
     rintro _ w24 ⟨v51, rfl, h⟩
     refine ⟨_, rfl, ?_⟩
     refine Zn P3 8 [(0, [], .pointer b_), (53, [], .bool v51), (54, [(53, true)], .pointer b_)] ?_
     refine reg_split 53 v51 (by kernel_rfl) (fun hb => ?_) (fun hb => ?_)
     · replace h := h.1 hb
       refine Zn [] 8 [(0, [], .pointer b_), (53, [], .bool true), (54, [], .pointer b_)] ?_
       refine Zn [] 8 [(0, [], .pointer b_), (53, [], .bool true), (54, [], .pointer b_)] ?_
       refine Zm 74 #[.pointer b_] (some 55) (Calls.mono h ?_)
       rintro _ w25 ⟨v55, rfl, h⟩
       refine ⟨_, rfl, ?_⟩
       refine Zn P3 12 [(0, [], .pointer b_), (57, [], .bool v55), (58, [(57, true)], .pointer b_)] ?_
       refine reg_split 57 v55 (by kernel_rfl) (fun hb => ?_) (fun hb => ?_)
       · replace h := h.1 hb
         refine Zn [] 12 [(0, [], .pointer b_), (57, [], .bool true), (58, [], .pointer b_)] ?_
         refine Zn [] 12 [(0, [], .pointer b_), (57, [], .bool true), (58, [], .pointer b_)] ?_
         refine Zm 75 #[.pointer b_] (some 59) (Calls.mono h ?_)
         rintro _ w26 ⟨v59, rfl, h⟩
         refine ⟨_, rfl, ?_⟩
         refine Zn P3 16 [(0, [], .pointer b_), (61, [], .bool v59), (62, [(61, true)], .pointer b_)] ?_
         refine reg_split 61 v59 (by kernel_rfl) (fun hb => ?_) (fun hb => ?_)
         · replace h := h.1 hb
           refine Zn [] 16 [(0, [], .pointer b_), (61, [], .bool true), (62, [], .pointer b_)] ?_
           refine Zn [] 16 [(0, [], .pointer b_), (61, [], .bool true), (62, [], .pointer b_)] ?_
           refine Zm 76 #[.pointer b_] (some 63) (Calls.mono h ?_)
           rintro _ w27 ⟨v63, rfl, h⟩
           refine ⟨_, rfl, ?_⟩
           refine Zn P3 20 [(0, [], .pointer b_), (65, [], .bool v63), (66, [(65, true)], .pointer b_)] ?_
           refine reg_split 65 v63 (by kernel_rfl) (fun hb => ?_) (fun hb => ?_)
           · replace h := h.1 hb
             refine Zn [] 20 [(0, [], .pointer b_), (65, [], .bool true), (66, [], .pointer b_)] ?_
             refine Zn [] 20 [(0, [], .pointer b_), (65, [], .bool true), (66, [], .pointer b_)] ?_
             refine Zm 77 #[.pointer b_] (some 67) (Calls.mono h ?_)
             rintro _ w28 ⟨v67, rfl, h⟩
             refine ⟨_, rfl, ?_⟩
             refine Zn P3 24 [(0, [], .pointer b_), (69, [], .bool v67), (70, [(69, true)], .pointer b_)] ?_
             refine reg_split 69 v67 (by kernel_rfl) (fun hb => ?_) (fun hb => ?_)
             · replace h := h.1 hb
               refine Zn [] 24 [(0, [], .pointer b_), (69, [], .bool true), (70, [], .pointer b_)] ?_
               refine Zn [] 24 [(0, [], .pointer b_), (69, [], .bool true), (70, [], .pointer b_)] ?_
               refine Zm 78 #[.pointer b_] (some 71) (Calls.mono h ?_)
               rintro _ w29 ⟨v71, rfl, h⟩
               refine ⟨_, rfl, ?_⟩
               refine Zn P3 28 [(0, [], .pointer b_), (73, [], .bool v71), (74, [(73, true)], .pointer b_)] ?_
               refine reg_split 73 v71 (by kernel_rfl) (fun hb => ?_) (fun hb => ?_)
               · replace h := h.1 hb
                 refine Zn [] 28 [(0, [], .pointer b_), (73, [], .bool true), (74, [], .pointer b_)] ?_
                 refine Zn [] 28 [(0, [], .pointer b_), (73, [], .bool true), (74, [], .pointer b_)] ?_
                 refine Zm 79 #[.pointer b_] (some 75) (Calls.mono h ?_)
                 rintro _ w30 ⟨v75, rfl, h⟩
                 refine ⟨_, rfl, ?_⟩
                 refine Zn P3 32 [(0, [], .pointer b_), (77, [], .bool v75), (78, [(77, true)], .pointer b_)] ?_
                 refine reg_split 77 v75 (by kernel_rfl) (fun hb => ?_) (fun hb => ?_)
                 · replace h := h.1 hb
                   refine Zn [] 32 [(0, [], .pointer b_), (77, [], .bool true), (78, [], .pointer b_)] ?_
                   refine Zn [] 32 [(0, [], .pointer b_), (77, [], .bool true), (78, [], .pointer b_)] ?_
                   refine Zm 80 #[.pointer b_] (some 79) (Calls.mono h ?_)
                   rintro _ w31 ⟨v79, rfl, h⟩
                   refine ⟨_, rfl, ?_⟩
                   refine Zn P3 36 [(0, [], .pointer b_), (81, [], .bool v79), (82, [(81, true)], .pointer b_)] ?_
                   refine reg_split 81 v79 (by kernel_rfl) (fun hb => ?_) (fun hb => ?_)
                   · replace h := h.1 hb
                     refine Zn [] 36 [(0, [], .pointer b_), (81, [], .bool true), (82, [], .pointer b_)] ?_
                     refine Zn [] 36 [(0, [], .pointer b_), (81, [], .bool true), (82, [], .pointer b_)] ?_
                     refine Zm 81 #[.pointer b_] (some 83) (Calls.mono h ?_)
                     rintro _ w32 ⟨v83, rfl, h⟩
                     refine ⟨_, rfl, ?_⟩
                     refine Zn P3 40 [(85, [], .bool v83), (86, [(85, true)], .pointer b_)] ?_
                     refine reg_split 85 v83 (by kernel_rfl) (fun hb => ?_) (fun hb => ?_)
                     · replace h := h.1 hb
                       refine Zn [] 40 [(85, [], .bool true), (86, [], .pointer b_)] ?_
                       refine Zn [] 40 [(85, [], .bool true), (86, [], .pointer b_)] ?_
                       refine Zm 82 #[.pointer b_] (some 87) (Calls.mono h ?_)
                       rintro _ w33 ⟨v87, rfl, h⟩
                       refine ⟨_, rfl, ?_⟩
                       refine Zf P2 [(2, .bool v87)] ?_
                       change WpE _ _ c14_72 _ _ _
                       refine wpE_ret (by kernel_rfl) ?_
                       repeat (first | refine seqQ_ret ?_ | refine blockQ_ret ?_ | refine loopQ_ret ?_ | refine cutQ_ret ?_)
                       exact retS (rs := [(ResultVar.tmp 2)]) (v := Value.bool v87) (by kernel_rfl) (⟨by kernel_rfl, trivial⟩) ⟨v87, rfl, h⟩
                     · replace h := h.2 hb
                       refine Zn [] 40 [(85, [], .bool false), (86, [], undef)] ?_
                       refine Zf [.skip, .plain, .plain] [(2, .bool false)] ?_
                       change WpE _ _ c14_72 _ _ _
                       refine wpE_ret (by kernel_rfl) ?_
                       repeat (first | refine seqQ_ret ?_ | refine blockQ_ret ?_ | refine loopQ_ret ?_ | refine cutQ_ret ?_)
                       exact retS (rs := [(ResultVar.tmp 2)]) (v := Value.bool false) (by kernel_rfl) (⟨by kernel_rfl, trivial⟩) ⟨false, rfl, h⟩
                   · replace h := h.2 hb
                     refine Zn [] 36 [(0, [], .pointer b_), (81, [], .bool false), (82, [], undef)] ?_
                     refine Zf [.skip, .plain, .plain, .skip, .skip, .plain, .plain] [(2, .bool false)] ?_
                     change WpE _ _ c14_72 _ _ _
                     refine wpE_ret (by kernel_rfl) ?_
                     repeat (first | refine seqQ_ret ?_ | refine blockQ_ret ?_ | refine loopQ_ret ?_ | refine cutQ_ret ?_)
                     exact retS (rs := [(ResultVar.tmp 2)]) (v := Value.bool false) (by kernel_rfl) (⟨by kernel_rfl, trivial⟩) ⟨false, rfl, h⟩
                 · replace h := h.2 hb
                   refine Zn [] 32 [(0, [], .pointer b_), (77, [], .bool false), (78, [], undef)] ?_
                   refine Zf [.skip, .plain, .plain, .skip, .skip, .plain, .plain, .skip, .skip, .plain, .plain] [(2, .bool false)] ?_
                   change WpE _ _ c14_72 _ _ _
                   refine wpE_ret (by kernel_rfl) ?_
                   repeat (first | refine seqQ_ret ?_ | refine blockQ_ret ?_ | refine loopQ_ret ?_ | refine cutQ_ret ?_)
                   exact retS (rs := [(ResultVar.tmp 2)]) (v := Value.bool false) (by kernel_rfl) (⟨by kernel_rfl, trivial⟩) ⟨false, rfl, h⟩
               · replace h := h.2 hb
                 refine Zn [] 28 [(0, [], .pointer b_), (73, [], .bool false), (74, [], undef)] ?_
                 refine Zf [.skip, .plain, .plain, .skip, .skip, .plain, .plain, .skip, .skip, .plain, .plain, .skip, .skip, .plain, .plain] [(2, .bool false)] ?_
                 change WpE _ _ c14_72 _ _ _
                 refine wpE_ret (by kernel_rfl) ?_
                 repeat (first | refine seqQ_ret ?_ | refine blockQ_ret ?_ | refine loopQ_ret ?_ | refine cutQ_ret ?_)
                 exact retS (rs := [(ResultVar.tmp 2)]) (v := Value.bool false) (by kernel_rfl) (⟨by kernel_rfl, trivial⟩) ⟨false, rfl, h⟩
             · replace h := h.2 hb
               refine Zn [] 24 [(0, [], .pointer b_), (69, [], .bool false), (70, [], undef)] ?_
               refine Zf [.skip, .plain, .plain, .skip, .skip, .plain, .plain, .skip, .skip, .plain, .plain, .skip, .skip, .plain, .plain, .skip, .skip, .plain, .plain] [(2, .bool false)] ?_
               change WpE _ _ c14_72 _ _ _
               refine wpE_ret (by kernel_rfl) ?_
               repeat (first | refine seqQ_ret ?_ | refine blockQ_ret ?_ | refine loopQ_ret ?_ | refine cutQ_ret ?_)
               exact retS (rs := [(ResultVar.tmp 2)]) (v := Value.bool false) (by kernel_rfl) (⟨by kernel_rfl, trivial⟩) ⟨false, rfl, h⟩
           · replace h := h.2 hb
             refine Zn [] 20 [(0, [], .pointer b_), (65, [], .bool false), (66, [], undef)] ?_
             refine Zf [.skip, .plain, .plain, .skip, .skip, .plain, .plain, .skip, .skip, .plain, .plain, .skip, .skip, .plain, .plain, .skip, .skip, .plain, .plain, .skip, .skip, .plain, .plain] [(2, .bool false)] ?_
             change WpE _ _ c14_72 _ _ _
             refine wpE_ret (by kernel_rfl) ?_
             repeat (first | refine seqQ_ret ?_ | refine blockQ_ret ?_ | refine loopQ_ret ?_ | refine cutQ_ret ?_)
             exact retS (rs := [(ResultVar.tmp 2)]) (v := Value.bool false) (by kernel_rfl) (⟨by kernel_rfl, trivial⟩) ⟨false, rfl, h⟩
         · replace h := h.2 hb
           refine Zn [] 16 [(0, [], .pointer b_), (61, [], .bool false), (62, [], undef)] ?_
           refine Zf [.skip, .plain, .plain, .skip, .skip, .plain, .plain, .skip, .skip, .plain, .plain, .skip, .skip, .plain, .plain, .skip, .skip, .plain, .plain, .skip, .skip, .plain, .plain, .skip, .skip, .plain, .plain] [(2, .bool false)] ?_
           change WpE _ _ c14_72 _ _ _
           refine wpE_ret (by kernel_rfl) ?_
           repeat (first | refine seqQ_ret ?_ | refine blockQ_ret ?_ | refine loopQ_ret ?_ | refine cutQ_ret ?_)
           exact retS (rs := [(ResultVar.tmp 2)]) (v := Value.bool false) (by kernel_rfl) (⟨by kernel_rfl, trivial⟩) ⟨false, rfl, h⟩
       · replace h := h.2 hb
         refine Zn [] 12 [(0, [], .pointer b_), (57, [], .bool false), (58, [], undef)] ?_
         refine Zf [.skip, .plain, .plain, .skip, .skip, .plain, .plain, .skip, .skip, .plain, .plain, .skip, .skip, .plain, .plain, .skip, .skip, .plain, .plain, .skip, .skip, .plain, .plain, .skip, .skip, .plain, .plain, .skip, .skip, .plain, .plain] [(2, .bool false)] ?_
         change WpE _ _ c14_72 _ _ _
         refine wpE_ret (by kernel_rfl) ?_
         repeat (first | refine seqQ_ret ?_ | refine blockQ_ret ?_ | refine loopQ_ret ?_ | refine cutQ_ret ?_)
         exact retS (rs := [(ResultVar.tmp 2)]) (v := Value.bool false) (by kernel_rfl) (⟨by kernel_rfl, trivial⟩) ⟨false, rfl, h⟩
     · replace h := h.2 hb
       refine Zn [] 8 [(0, [], .pointer b_), (53, [], .bool false), (54, [], undef)] ?_
       refine Zf [.skip, .plain, .plain, .skip, .skip, .plain, .plain, .skip, .skip, .plain, .plain, .skip, .skip, .plain, .plain, .skip, .skip, .plain, .plain, .skip, .skip, .plain, .plain, .skip, .skip, .plain, .plain, .skip, .skip, .plain, .plain, .skip, .skip, .plain, .plain] [(2, .bool false)] ?_
       change WpE _ _ c14_72 _ _ _
       refine wpE_ret (by kernel_rfl) ?_
       repeat (first | refine seqQ_ret ?_ | refine blockQ_ret ?_ | refine loopQ_ret ?_ | refine cutQ_ret ?_)
       exact retS (rs := [(ResultVar.tmp 2)]) (v := Value.bool false) (by kernel_rfl) (⟨by kernel_rfl, trivial⟩) ⟨false, rfl, h⟩
   · replace h := h.2 hb
     refine Zn [] 4 [(0, [], .pointer b_), (49, [], .bool false), (50, [], undef)] ?_
     refine Zf [.skip, .plain, .plain, .skip, .skip, .plain, .plain, .skip, .skip, .plain, .plain, .skip, .skip, .plain, .plain, .skip, .skip, .plain, .plain, .skip, .skip, .plain, .plain, .skip, .skip, .plain, .plain, .skip, .skip, .plain, .plain, .skip, .skip, .plain, .plain, .skip, .skip, .plain, .plain] [(2, .bool false)] ?_
     change WpE _ _ c14_72 _ _ _
     refine wpE_ret (by kernel_rfl) ?_
     repeat (first | refine seqQ_ret ?_ | refine blockQ_ret ?_ | refine loopQ_ret ?_ | refine cutQ_ret ?_)
     exact retS (rs := [(ResultVar.tmp 2)]) (v := Value.bool false) (by kernel_rfl) (⟨by kernel_rfl, trivial⟩) ⟨false, rfl, h⟩
 · rintro e w' ⟨v, rfl, r0, rfl, h⟩; exact ⟨r0, rfl, h⟩

/-! ### towpath/towpathlaw01.SameTxn (function 17) -/
def c17_0 := cb_ Tryz.f17
def c17_1 := cl_ c17_0
def r17_1 := co_ c17_1
def c17_3 := cr_ c17_0
def c17_4 := cl_ c17_3
def r17_4 := co_ c17_4
def c17_6 := cr_ c17_3

theorem S_towpathlaw01_SameTxn {a_ : T_api_Txn} {b_ : T_api_Txn} {w : World} {R : Bool → World → Prop} (h : F_towpathlaw01_SameTxn a_ b_ R w) : C_towpathlaw01_SameTxn a_ b_ w R := by
 unfold F_towpathlaw01_SameTxn at h
 unfold C_towpathlaw01_SameTxn
 refine Calls.mono (calls_of_wpE (args := [Value.agg #[Value.int .i64 a_.Number, sv_ a_.Writes], Value.agg #[Value.int .i64 b_.Number, sv_ b_.Writes]]) (R := fun v w' => ∃ (r0 : Bool), v = Value.bool r0 ∧ R r0 w') Tryz.func17 (c := c17_0) (by kernel_rfl) 17 (by kernel_rfl) (by kernel_rfl) [(0, Value.agg #[Value.int .i64 a_.Number, sv_ a_.Writes]), (1, Value.agg #[Value.int .i64 b_.Number, sv_ b_.Writes])] (by kernel_rfl) ?_) ?_
 · refine Zt r17_1 c17_3 ?_
   refine Zn [] 0 [(0, [], .agg #[.int .i64 a_.Number, sv_ a_.Writes]), (1, [], .agg #[.int .i64 b_.Number, sv_ b_.Writes])] ?_
   refine Zw (some 2) (fun bb => pv_ bb) (Obj.cells ([.int .i64 a_.Number, sv_ a_.Writes]).toArray ty_api_Txn (0, 0)) (fun b_1 w1 hb hw => ?_)
   replace h := h b_1 w1 hb hw
   clear hb hw
   refine Zn [] 1 [(1, [], .agg #[.int .i64 b_.Number, sv_ b_.Writes]), (2, [], pv_ b_1)] ?_
   refine Zw (some 3) (fun bb => pv_ bb) (Obj.cells ([.int .i64 b_.Number, sv_ b_.Writes]).toArray ty_api_Txn (0, 0)) (fun b_2 w2 hb hw => ?_)
   replace h := h b_2 w2 hb hw
   clear hb hw
   refine Zf P1 [(2, pv_ b_1), (3, pv_ b_2)] ?_
   change WpE _ _ c17_3 _ _ _
   refine Zt r17_4 c17_6 ?_
   refine Zn P1 1 [(2, [], pv_ b_1), (3, [], pv_ b_2), (5, [], pv_ b_1)] ?_
   obtain ⟨v6, hc, h⟩ := h
   refine Zl 3 5 b_1 0 3 6 hc ?_
   refine Zn P1 3 [(2, [], pv_ b_1), (3, [], pv_ b_2), (6, [], .int .i64 v6), (7, [], pv_ b_2)] ?_
   obtain ⟨v8, hc, h⟩ := h
   refine Zl 3 7 b_2 0 3 8 hc ?_
   refine Zn P3 7 [(3, [], pv_ b_2), (10, [], .bool (v6 == v8)), (11, [(10, true)], .pointer (some ⟨b_1, 1, none⟩))] ?_
   refine reg_split 10 (v6 == v8) (by kernel_rfl) (fun hb => ?_) (fun hb => ?_)
   · replace h := h.1 hb
     refine Zn [] 7 [(3, [], pv_ b_2), (10, [], .bool true), (11, [], .pointer (some ⟨b_1, 1, none⟩))] ?_
     refine Zn [] 7 [(3, [], pv_ b_2), (10, [], .bool true), (11, [], .pointer (some ⟨b_1, 1, none⟩))] ?_
     obtain ⟨v12, hc, h⟩ := h
     refine Zl 50 11 b_1 1 50 12 hc ?_
     refine Zn [.sure] 9 [(10, [], .bool true), (12, [], sv_ v12), (13, [], .pointer (some ⟨b_2, 1, none⟩))] ?_
     obtain ⟨v14, hc, h⟩ := h
     refine Zl 50 13 b_2 1 50 14 hc ?_
     refine Zn [] 10 [(10, [], .bool true), (12, [], sv_ v12), (14, [], sv_ v14)] ?_
     refine Zm 83 #[sv_ v12, sv_ v14] (some 15) (Calls.mono h ?_)
     rintro _ w3 ⟨v15, rfl, h⟩
     refine ⟨_, rfl, ?_⟩
     refine Zf P2 [(4, .bool v15)] ?_
     change WpE _ _ c17_6 _ _ _
     refine wpE_ret (by kernel_rfl) ?_
     repeat (first | refine seqQ_ret ?_ | refine blockQ_ret ?_ | refine loopQ_ret ?_ | refine cutQ_ret ?_)
     exact retS (rs := [(ResultVar.tmp 4)]) (v := Value.bool v15) (by kernel_rfl) (⟨by kernel_rfl, trivial⟩) ⟨v15, rfl, h⟩
   · replace h := h.2 hb
     refine Zn [] 7 [(3, [], pv_ b_2), (10, [], .bool false), (11, [], undef)] ?_
     refine Zf [.skip, .skip, .skip, .skip, .plain, .plain] [(4, .bool false)] ?_
     change WpE _ _ c17_6 _ _ _
     refine wpE_ret (by kernel_rfl) ?_
     repeat (first | refine seqQ_ret ?_ | refine blockQ_ret ?_ | refine loopQ_ret ?_ | refine cutQ_ret ?_)
     exact retS (rs := [(ResultVar.tmp 4)]) (v := Value.bool false) (by kernel_rfl) (⟨by kernel_rfl, trivial⟩) ⟨false, rfl, h⟩
 · rintro e w' ⟨v, rfl, r0, rfl, h⟩; exact ⟨r0, rfl, h⟩

/-! ### (*towpath/towpathlaw01.Book).Txn (function 20) -/
def c20_0 := cb_ Tryz.f20
def c20_1 := cl_ c20_0
def r20_1 := co_ c20_1
def c20_3 := cr_ c20_0
def r20_3 := co_ c20_3

theorem S_towpathlaw01_Book_Txn {b_ : Option Addr} {t_ : T_api_Txn} {w : World} {R : World → Prop} (h : F_towpathlaw01_Book_Txn b_ t_ R w) : C_towpathlaw01_Book_Txn b_ t_ w R := by
 unfold F_towpathlaw01_Book_Txn at h
 unfold C_towpathlaw01_Book_Txn
 refine Calls.mono (calls_of_wpE (args := [Value.pointer b_, Value.agg #[Value.int .i64 t_.Number, sv_ t_.Writes]]) (R := fun v w' => v = Value.tuple #[] ∧ R w') Tryz.func20 (c := c20_0) (by kernel_rfl) 8 (by kernel_rfl) (by kernel_rfl) [(0, Value.pointer b_), (1, Value.agg #[Value.int .i64 t_.Number, sv_ t_.Writes])] (by kernel_rfl) ?_) ?_
 · refine Zt r20_1 c20_3 ?_
   refine Zn [] 0 [(0, [], .pointer b_), (1, [], .agg #[.int .i64 t_.Number, sv_ t_.Writes])] ?_
   refine Zw (some 3) (fun bb => pv_ bb) (Obj.cells ([.int .i64 t_.Number, sv_ t_.Writes]).toArray ty_api_Txn (0, 0)) (fun b_1 w1 hb hw => ?_)
   replace h := h b_1 w1 hb hw
   clear hb hw
   refine Ze [(0, .pointer b_), (3, pv_ b_1)] ?_
   change WpE _ _ c20_3 _ _ _
   refine Zr r20_3 ?_
   refine Zn P2 2 [(4, [], .pointer b_), (5, [], .pointer (some ⟨b_1, 1, none⟩))] ?_
   obtain ⟨v6, hc, h⟩ := h
   refine Zl 50 5 b_1 1 50 6 hc ?_
   refine Zn [] 3 [(4, [], .pointer b_), (6, [], sv_ v6)] ?_
   refine Zm 84 #[.pointer b_, sv_ v6] (some 7) (Calls.mono h ?_)
   rintro _ w2 ⟨rfl, h⟩
   refine ⟨_, rfl, ?_⟩
   refine Ze [] ?_
   repeat (first | refine seqQ_exit ?_ | refine loopQ_exit ?_ | refine cutQ_exit ?_ | refine blockQ_hit ?_ | refine blockQ_miss (by kernel_rfl) ?_)
   refine retQ_normal ?_
   repeat (first | refine seqQ_ret ?_ | refine blockQ_ret ?_ | refine loopQ_ret ?_ | refine cutQ_ret ?_)
   exact retT (rs := []) (vs := []) (by kernel_rfl) (trivial) (by kernel_rfl) ⟨rfl, h⟩
 · rintro e w' ⟨v, rfl, rfl, h⟩; exact ⟨rfl, h⟩

/-! ### (*towpath/towpathlaw01.Book).Ints (function 21) -/
def c21_0 := cb_ Tryz.f21
def r21_0 := co_ c21_0

theorem S_towpathlaw01_Book_Ints {b_ : Option Addr} {l_ : Slc} {w : World} {R : World → Prop} (h : F_towpathlaw01_Book_Ints b_ l_ R w) : C_towpathlaw01_Book_Ints b_ l_ w R := by
 unfold F_towpathlaw01_Book_Ints at h
 unfold C_towpathlaw01_Book_Ints
 refine Calls.mono (calls_of_wpE (args := [Value.pointer b_, sv_ l_]) (R := fun v w' => v = Value.tuple #[] ∧ R w') Tryz.func21 (c := c21_0) (by kernel_rfl) 7 (by kernel_rfl) (by kernel_rfl) [(0, Value.pointer b_), (1, sv_ l_)] (by kernel_rfl) ?_) ?_
 · refine Zr r21_0 ?_
   refine Zn P2 2 [(4, [], .pointer b_), (5, [], sv_ l_)] ?_
   refine Zm 85 #[.pointer b_, sv_ l_] (some 6) (Calls.mono h ?_)
   rintro _ w1 ⟨rfl, h⟩
   refine ⟨_, rfl, ?_⟩
   refine Ze [] ?_
   repeat (first | refine seqQ_exit ?_ | refine loopQ_exit ?_ | refine cutQ_exit ?_ | refine blockQ_hit ?_ | refine blockQ_miss (by kernel_rfl) ?_)
   refine retQ_normal ?_
   repeat (first | refine seqQ_ret ?_ | refine blockQ_ret ?_ | refine loopQ_ret ?_ | refine cutQ_ret ?_)
   exact retT (rs := []) (vs := []) (by kernel_rfl) (trivial) (by kernel_rfl) ⟨rfl, h⟩
 · rintro e w' ⟨v, rfl, rfl, h⟩; exact ⟨rfl, h⟩

/-! ### towpath/towpathlaw01.SameInts (function 23) -/
def c23_0 := cb_ Tryz.f23
def c23_3 := cr_ c23_0
def c23_4 := cl_ c23_3
def c23_7 := cr_ c23_4
def c23_8 := cl_ c23_7
def c23_11 := cr_ c23_8
def c23_12 := cr_ c23_7
def c23_13 := cr_ c23_3
def c23_14 := cl_ c23_13
def c23_17 := cr_ c23_14
def c23_18 := cl_ c23_17
def c23_19 := cl_ c23_18
def c23_20 := cl_ c23_19
def c23_23 := cr_ c23_20
def c23_24 := cl_ c23_23
def c23_25 := cr_ c23_23
def c23_26 := cr_ c23_19
def c23_27 := cl_ c23_26
def c23_28 := cl_ c23_27
def c23_29 := cl_ c23_28
def r23_29 := co_ c23_29
def c23_31 := cr_ c23_28
def c23_32 := cl_ c23_31
def c23_35 := cr_ c23_32
def c23_36 := cr_ c23_31
def c23_37 := cr_ c23_26
def r23_37 := co_ c23_37
def c23_39 := cr_ c23_13
def c23_42 := cr_ c23_39

theorem S_towpathlaw01_SameInts {a_ : Slc} {b_ : Slc} {w : World} {R : Bool → World → Prop} (h : F_towpathlaw01_SameInts a_ b_ R w) : C_towpathlaw01_SameInts a_ b_ w R := by
 unfold F_towpathlaw01_SameInts at h
 unfold C_towpathlaw01_SameInts
 refine Calls.mono (calls_of_wpE (args := [sv_ a_, sv_ b_]) (R := fun v w' => ∃ (r0 : Bool), v = Value.bool r0 ∧ R r0 w') Tryz.func23 (c := c23_0) (by kernel_rfl) 26 (by kernel_rfl) (by kernel_rfl) [(0, sv_ a_), (1, sv_ b_)] (by kernel_rfl) ?_) ?_
 · refine Zp c23_3 P1 [(0, sv_ a_), (1, sv_ b_)] ?_
   refine Zs c23_4 c23_13 ?_
   refine Zp c23_7 (Pl 5) [(0, sv_ a_), (1, sv_ b_), (10, .bool (((a_.len : Nat) : Int) != ((b_.len : Nat) : Int)))] ?_
   refine Zc 10 (((a_.len : Nat) : Int) != ((b_.len : Nat) : Int)) c23_8 c23_12 (fun hb => ?_) (fun hb => ?_)
   · replace h := h.1 hb
     refine Zp c23_11 P1 [(4, .bool false)] ?_
     refine wpE_ret (by kernel_rfl) ?_
     repeat (first | refine seqQ_ret ?_ | refine blockQ_ret ?_ | refine loopQ_ret ?_ | refine cutQ_ret ?_)
     exact retS (rs := [(ResultVar.tmp 4)]) (v := Value.bool false) (by kernel_rfl) (⟨by kernel_rfl, trivial⟩) ⟨false, rfl, h⟩
   · replace h := h.2 hb
     refine wpE_skip (by kernel_rfl) ?_
     change WpE _ _ c23_13 _ _ _
     refine Zs c23_14 c23_39 ?_
     refine Zp c23_17 P1 [(0, sv_ a_), (1, sv_ b_), (5, .int .i64 0)] ?_
     refine Zb 0 c23_18 ?_
     obtain ⟨I, μ, h0, hr⟩ := h
     refine wpE_loop (x := c23_19) (by kernel_rfl) (fun m l w => ∃ (i : Int), l = [(0, sv_ a_), (1, sv_ b_), (5, Value.int .i64 i)] ∧ I i w ∧ μ i w = m) (l' := [(0, sv_ a_), (1, sv_ b_), (5, Value.int .i64 0)]) (Sub.mk (by kernel_rfl)) ⟨0, rfl, h0, rfl⟩ ?_
     rintro _ _ w1 ⟨i, rfl, hI, rfl⟩
     obtain ⟨again_, again__h, h⟩ : ∃ again_ : Int → World → Prop, (∀ i' w', again_ i' w' → I i' w' ∧ μ i' w' < μ i w1) ∧ F_towpathlaw01_SameInts_L0 a_ b_ R again_ i w1 := ⟨_, fun _ _ h => h, hr i w1 hI⟩
     clear h0 hI
     unfold F_towpathlaw01_SameInts_L0 at h
     refine Zs c23_20 c23_26 ?_
     refine Zp c23_23 P4 [(0, sv_ a_), (1, sv_ b_), (5, .int .i64 i), (14, .bool (decide (i < ((a_.len : Nat) : Int))))] ?_
     refine Zc 14 (decide (i < ((a_.len : Nat) : Int))) c23_24 c23_25 (fun hb => ?_) (fun hb => ?_)
     · replace h := h.1 hb
       refine wpE_skip (by kernel_rfl) ?_
       change WpE _ _ c23_26 _ _ _
       refine Zs c23_27 c23_37 ?_
       refine Zb 1 c23_28 ?_
       refine Zs c23_29 c23_31 ?_
       refine wpE_drawregion (id := 6) (ops := r23_29) (by kernel_rfl) (by kernel_rfl) (by kernel_rfl) ?_
       refine qreg_run P2 2 [(0, [], sv_ a_), (1, [], sv_ b_), (5, [], Value.int .i64 i), (17, [], sv_ a_), (18, [], Value.int .i64 i)] (by kernel_rfl) (by kernel_rfl) ?_
       obtain ⟨hp_14, h⟩ := h
       refine qreg_conv [(0, [], sv_ a_), (1, [], sv_ b_), (5, [], Value.int .i64 i), (17, [], Value.slice (some ⟨(pblk a_.ptr), (poff a_.ptr), none⟩) a_.len a_.cap), (18, [], Value.int .i64 i)] (congrArg (fun pp => ([(0, [], sv_ a_), (1, [], sv_ b_), (5, [], Value.int .i64 i), (17, [], Value.slice pp a_.len a_.cap), (18, [], Value.int .i64 i)] : GEnv)) hp_14) ?_
       obtain ⟨h0, h1, h⟩ := h
       refine qreg_indexS1 (t := 23) (e := 3) (x := (Operand.tmp 17)) (ix := (Operand.tmp 18)) (b := (pblk a_.ptr)) (o := (poff a_.ptr)) (l := a_.len) (c := a_.cap) (k := .i64) (j := i) (ty := 0) (dst := some 19) (by kernel_rfl) (by kernel_rfl) (by kernel_rfl) (by kernel_rfl) (by kernel_rfl) h0 h1 ?_
       refine qreg_run [] 3 [(0, [], sv_ a_), (1, [], sv_ b_), (5, [], Value.int .i64 i), (19, [], Value.pointer (some ⟨(pblk a_.ptr), (poff a_.ptr) + i.toNat, none⟩))] (by kernel_rfl) (by kernel_rfl) ?_
       obtain ⟨v20, hc, h⟩ := h
       refine qreg_load1 (t := 3) (a := (Operand.tmp 19)) (b := (pblk a_.ptr)) (o := ((poff a_.ptr) + i.toNat)) (ty := 3) (dst := some 20) (by kernel_rfl) (by kernel_rfl) (by kernel_rfl) hc ?_
       refine qreg_run P2 6 [(0, [], sv_ a_), (1, [], sv_ b_), (5, [], Value.int .i64 i), (20, [], Value.int .i64 v20), (21, [], sv_ b_), (22, [], Value.int .i64 i)] (by kernel_rfl) (by kernel_rfl) ?_
       obtain ⟨hp_15, h⟩ := h
       refine qreg_conv [(0, [], sv_ a_), (1, [], sv_ b_), (5, [], Value.int .i64 i), (20, [], Value.int .i64 v20), (21, [], Value.slice (some ⟨(pblk b_.ptr), (poff b_.ptr), none⟩) b_.len b_.cap), (22, [], Value.int .i64 i)] (congrArg (fun pp => ([(0, [], sv_ a_), (1, [], sv_ b_), (5, [], Value.int .i64 i), (20, [], Value.int .i64 v20), (21, [], Value.slice pp b_.len b_.cap), (22, [], Value.int .i64 i)] : GEnv)) hp_15) ?_
       obtain ⟨h0, h1, h⟩ := h
       refine qreg_indexS1 (t := 23) (e := 3) (x := (Operand.tmp 21)) (ix := (Operand.tmp 22)) (b := (pblk b_.ptr)) (o := (poff b_.ptr)) (l := b_.len) (c := b_.cap) (k := .i64) (j := i) (ty := 0) (dst := some 23) (by kernel_rfl) (by kernel_rfl) (by kernel_rfl) (by kernel_rfl) (by kernel_rfl) h0 h1 ?_
       refine qreg_run [] 7 [(0, [], sv_ a_), (1, [], sv_ b_), (5, [], Value.int .i64 i), (20, [], Value.int .i64 v20), (23, [], Value.pointer (some ⟨(pblk b_.ptr), (poff b_.ptr) + i.toNat, none⟩))] (by kernel_rfl) (by kernel_rfl) ?_
       obtain ⟨v24, hc, h⟩ := h
       refine qreg_load1 (t := 3) (a := (Operand.tmp 23)) (b := (pblk b_.ptr)) (o := ((poff b_.ptr) + i.toNat)) (ty := 3) (dst := some 24) (by kernel_rfl) (by kernel_rfl) (by kernel_rfl) hc ?_
       refine qreg_run P1 9 [(0, [], sv_ a_), (1, [], sv_ b_), (5, [], Value.int .i64 i), (25, [], Value.bool (v20 != v24))] (by kernel_rfl) (by kernel_rfl) ?_
       refine qreg_end [(0, sv_ a_), (1, sv_ b_), (5, Value.int .i64 i), (25, Value.bool (v20 != v24))] (by kernel_rfl) (by kernel_rfl) (fun w2 hw => ?_)
       replace h := h w2 hw
       clear hw
       change WpE _ _ c23_31 _ _ _
       refine Zc 25 (v20 != v24) c23_32 c23_36 (fun hb => ?_) (fun hb => ?_)
       · replace h := h.1 hb
         refine Zp c23_35 P1 [(4, .bool false)] ?_
         refine wpE_ret (by kernel_rfl) ?_
         repeat (first | refine seqQ_ret ?_ | refine blockQ_ret ?_ | refine loopQ_ret ?_ | refine cutQ_ret ?_)
         exact retS (rs := [(ResultVar.tmp 4)]) (v := Value.bool false) (by kernel_rfl) (⟨by kernel_rfl, trivial⟩) ⟨false, rfl, h⟩
       · replace h := h.2 hb
         refine wpE_skip (by kernel_rfl) ?_
         change WpE _ _ c23_37 _ _ _
         refine Zr r23_37 ?_
         refine Zf P3 [(0, sv_ a_), (1, sv_ b_), (5, .int .i64 (IntKind.i64.wrap (i + 1)))] ?_
         have hb_ := again__h _ _ h
         exact ⟨_, hb_.2, [(0, sv_ a_), (1, sv_ b_), (5, Value.int .i64 (IntKind.i64.wrap (i + 1)))], Sub.mk (by kernel_rfl), (IntKind.i64.wrap (i + 1)), rfl, hb_.1, rfl⟩
     · replace h := h.2 hb
       refine wpE_exit (id := 0) (by kernel_rfl) ?_
       change WpE _ _ c23_39 _ _ _
       refine Zp c23_42 P1 [(4, .bool true)] ?_
       refine wpE_ret (by kernel_rfl) ?_
       repeat (first | refine seqQ_ret ?_ | refine blockQ_ret ?_ | refine loopQ_ret ?_ | refine cutQ_ret ?_)
       exact retS (rs := [(ResultVar.tmp 4)]) (v := Value.bool true) (by kernel_rfl) (⟨by kernel_rfl, trivial⟩) ⟨true, rfl, h⟩
 · rintro e w' ⟨v, rfl, r0, rfl, h⟩; exact ⟨r0, rfl, h⟩
end
end Go.Proofs.YtpdegdnigcnjiaaGreatDoor
