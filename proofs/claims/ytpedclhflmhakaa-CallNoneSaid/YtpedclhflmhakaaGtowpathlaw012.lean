/- WRITTEN BY PROGRAM (dec.py): for each Go function the clean formula F, the call's contract C, and the proof S that F gives C. -/
import Derived.Test.YtpedclhflmhakaaRows
import Derived.Test.YtpedclhflmhakaaGF
namespace Go.Proofs.Ytpedclhflmhakaa
open Go
set_option linter.unusedVariables false
set_option maxRecDepth 100000
set_option maxHeartbeats 4000000
noncomputable section

/-! ### towpath/towpathlaw01.TwinVersions (function 131) -/
def c131_0 := cb_ Try.f131
def c131_3 := cr_ c131_0
def c131_4 := cl_ c131_3
def r131_4 := co_ c131_4
def c131_6 := cr_ c131_3
def c131_7 := cl_ c131_6
def c131_10 := cr_ c131_7
def c131_11 := cl_ c131_10
def c131_12 := cl_ c131_11
def c131_13 := cl_ c131_12
def c131_16 := cr_ c131_13
def c131_17 := cl_ c131_16
def c131_18 := cr_ c131_16
def c131_19 := cr_ c131_12
def c131_20 := cl_ c131_19
def c131_21 := cl_ c131_20
def r131_21 := co_ c131_21
def c131_23 := cr_ c131_19
def r131_23 := co_ c131_23
def c131_25 := cr_ c131_6
def c131_26 := cl_ c131_25
def r131_26 := co_ c131_26
def c131_28 := cr_ c131_25

theorem S_towpathlaw01_TwinVersions {l_ : Slc} {w : World} {R : Slc → World → Prop} (h : F_towpathlaw01_TwinVersions l_ R w) : C_towpathlaw01_TwinVersions l_ w R := by
 unfold F_towpathlaw01_TwinVersions at h
 unfold C_towpathlaw01_TwinVersions
 refine Calls.mono (calls_of_wpE (args := [sv_ l_]) (R := fun v w' => ∃ (r0 : Slc), v = sv_ r0 ∧ R r0 w') Try.func131 (c := c131_0) (by kernel_rfl) 29 (by kernel_rfl) (by kernel_rfl) [(0, sv_ l_)] (by kernel_rfl) ?_) ?_
 · refine Zp c131_3 P1 [(0, sv_ l_)] ?_
   refine Zt r131_4 c131_6 ?_
   refine Zn P3 3 [(0, [], sv_ l_), (7, [], .int .i64 (IntKind.i64.wrap (((l_.len : Nat) : Int) + 1)))] ?_
   obtain ⟨h0, h1, h2, h⟩ := h
   refine reg_makeSlice (t := 141) (e := 145) (lo := (Operand.const (Value.int Go.IntKind.i64 0))) (co := (Operand.tmp 7)) (l := 0) (c := (IntKind.i64.wrap (((l_.len : Nat) : Int) + 1))) (sz := 3) (by_ := 32) (zs := [Value.int .i64 0, Value.string ByteArray.empty, Value.bool false]) (ty := 141) (dst := some 8) (by kernel_rfl) (by kernel_rfl) (by kernel_rfl) (by kernel_rfl) (by kernel_rfl) (by kernel_rfl) (by kernel_rfl) (by kernel_rfl) (by kernel_rfl) h0 h1 h2 (fun b_ w1 hb hw => ?_)
   replace h := h b_ w1 hb hw
   clear hb hw
   refine Zf P1 [(0, sv_ l_), (3, .slice (some ⟨b_, 0, none⟩) 0 ((IntKind.i64.wrap (((l_.len : Nat) : Int) + 1)).toNat))] ?_
   change WpE _ _ c131_6 _ _ _
   refine Zs c131_7 c131_25 ?_
   refine Zp c131_10 P1 [(0, sv_ l_), (3, .slice (some ⟨b_, 0, none⟩) 0 ((IntKind.i64.wrap (((l_.len : Nat) : Int) + 1)).toNat)), (4, .int .i64 0)] ?_
   refine Zb 0 c131_11 ?_
   obtain ⟨I, μ, h0, hr⟩ := h
   refine wpE_loop (x := c131_12) (by kernel_rfl) (fun m l w => ∃ (t_ : Slc) (i : Int), l = [(0, sv_ l_), (3, sv_ t_), (4, Value.int .i64 i)] ∧ I t_ i w ∧ μ t_ i w = m) (l' := [(0, sv_ l_), (3, Value.slice (some ⟨b_, 0, none⟩) 0 ((IntKind.i64.wrap (((l_.len : Nat) : Int) + 1)).toNat)), (4, Value.int .i64 0)]) (Sub.mk (by kernel_rfl)) ⟨(Slc.mk (some ⟨b_, 0, none⟩) 0 ((IntKind.i64.wrap (((l_.len : Nat) : Int) + 1)).toNat)), 0, rfl, h0, rfl⟩ ?_
   rintro _ _ w2 ⟨t_, i, rfl, hI, rfl⟩
   obtain ⟨again_, again__h, h⟩ : ∃ again_ : Slc → Int → World → Prop, (∀ t_' i' w', again_ t_' i' w' → I t_' i' w' ∧ μ t_' i' w' < μ t_ i w2) ∧ F_towpathlaw01_TwinVersions_L0 l_ R again_ t_ i w2 := ⟨_, fun _ _ _ h => h, hr t_ i w2 hI⟩
   clear h0 hI
   unfold F_towpathlaw01_TwinVersions_L0 at h
   refine Zs c131_13 c131_19 ?_
   refine Zp c131_16 P4 [(0, sv_ l_), (3, sv_ t_), (4, .int .i64 i), (12, .bool (decide (i < ((l_.len : Nat) : Int))))] ?_
   refine Zc 12 (decide (i < ((l_.len : Nat) : Int))) c131_17 c131_18 (fun hb => ?_) (fun hb => ?_)
   · replace h := h.1 hb
     refine wpE_skip (by kernel_rfl) ?_
     change WpE _ _ c131_19 _ _ _
     refine Zs c131_20 c131_23 ?_
     refine Zb 1 c131_21 ?_
     refine Zr r131_21 ?_
     refine Zn P3 3 [(0, [], sv_ l_), (3, [], sv_ t_), (4, [], .int .i64 i), (15, [], sv_ t_), (16, [], sv_ l_), (17, [], .int .i64 i)] ?_
     obtain ⟨hp_3, h⟩ := h
     refine Zv (fun pp => [(0, [], sv_ l_), (3, [], sv_ t_), (4, [], .int .i64 i), (15, [], sv_ t_), (16, [], .slice pp l_.len l_.cap), (17, [], .int .i64 i)]) hp_3 ?_
     obtain ⟨h0, h1, h⟩ := h
     refine Zj 141 145 16 17 (pblk l_.ptr) (poff l_.ptr) l_.len l_.cap i 3 18 0 h0 h1 ?_
     refine Zn [] 4 [(0, [], sv_ l_), (3, [], sv_ t_), (4, [], .int .i64 i), (15, [], sv_ t_), (18, [], .pointer (some ⟨(pblk l_.ptr), (poff l_.ptr) + i.toNat * 3, none⟩))] ?_
     obtain ⟨v19, hc, h⟩ := h
     refine reg_loadN (t := 145) (a := (Operand.tmp 18)) (b := (pblk l_.ptr)) (o := ((poff l_.ptr) + i.toNat * 3)) (ty := 145) (dst := some 19) [Value.int .i64 v19.Number, Value.string v19.Val, Value.bool v19.Drop] (by kernel_rfl) (by kernel_rfl) (by kernel_rfl) (k := 3) (by kernel_rfl) (by kernel_rfl) hc ?_
     refine Zn [] 5 [(0, [], sv_ l_), (3, [], sv_ t_), (4, [], .int .i64 i), (15, [], sv_ t_), (19, [], .agg #[.int .i64 v19.Number, .string v19.Val, .bool v19.Drop])] ?_
     refine Zw (some 20) (fun bb => .slice (some ⟨bb, 0, none⟩) 1 1) (Obj.cells ([.int .i64 v19.Number, .string v19.Val, .bool v19.Drop]).toArray ty_api_Version (0, 0)) (fun b_1 w3 hb hw => ?_)
     replace h := h b_1 w3 hb hw
     clear hb hw
     refine Zn [] 6 [(0, [], sv_ l_), (3, [], sv_ t_), (4, [], .int .i64 i), (15, [], sv_ t_), (20, [], .slice (some ⟨b_1, 0, none⟩) 1 1)] ?_
     obtain ⟨src, hs, h⟩ := h
     refine reg_append (t := 141) (tx := 141) (e := 145) (a := (Operand.tmp 15)) (xo := (Operand.tmp 20)) (s := t_) (x := (Slc.mk (some ⟨b_1, 0, none⟩) 1 1)) (sz := 3) (by_ := 32) (zs := [Value.int .i64 0, Value.string ByteArray.empty, Value.bool false]) (ty := 141) (dst := some 21)  src (by kernel_rfl) (by kernel_rfl) (by kernel_rfl) (by kernel_rfl) (by kernel_rfl) (by kernel_rfl) (by kernel_rfl) (by kernel_rfl) (by kernel_rfl) hs (AppendW.mono h (fun t_1 w4 h => ?_))
     refine Zf P1 [(0, sv_ l_), (3, sv_ t_1), (4, .int .i64 i)] ?_
     change WpE _ _ c131_23 _ _ _
     refine Zr r131_23 ?_
     refine Zf P3 [(0, sv_ l_), (3, sv_ t_1), (4, .int .i64 (IntKind.i64.wrap (i + 1)))] ?_
     have hb_ := again__h _ _ _ h
     exact ⟨_, hb_.2, [(0, sv_ l_), (3, sv_ t_1), (4, Value.int .i64 (IntKind.i64.wrap (i + 1)))], Sub.mk (by kernel_rfl), t_1, (IntKind.i64.wrap (i + 1)), rfl, hb_.1, rfl⟩
   · replace h := h.2 hb
     refine wpE_exit (id := 0) (by kernel_rfl) ?_
     change WpE _ _ c131_25 _ _ _
     refine Zt r131_26 c131_28 ?_
     refine Zn P2 2 [(0, [], sv_ l_), (22, [], sv_ t_), (23, [], .agg #[.int .i64 7777, .string ByteArray.empty, .bool false])] ?_
     refine Zw (some 24) (fun bb => .slice (some ⟨bb, 0, none⟩) 1 1) (Obj.cells ([.int .i64 7777, .string ByteArray.empty, .bool false]).toArray ty_api_Version (0, 0)) (fun b_2 w5 hb hw => ?_)
     replace h := h b_2 w5 hb hw
     clear hb hw
     refine Zn [] 3 [(0, [], sv_ l_), (22, [], sv_ t_), (24, [], .slice (some ⟨b_2, 0, none⟩) 1 1)] ?_
     obtain ⟨src, hs, h⟩ := h
     refine reg_append (t := 141) (tx := 141) (e := 145) (a := (Operand.tmp 22)) (xo := (Operand.tmp 24)) (s := t_) (x := (Slc.mk (some ⟨b_2, 0, none⟩) 1 1)) (sz := 3) (by_ := 32) (zs := [Value.int .i64 0, Value.string ByteArray.empty, Value.bool false]) (ty := 141) (dst := some 25)  src (by kernel_rfl) (by kernel_rfl) (by kernel_rfl) (by kernel_rfl) (by kernel_rfl) (by kernel_rfl) (by kernel_rfl) (by kernel_rfl) (by kernel_rfl) hs (AppendW.mono h (fun v25 w6 h => ?_))
     refine Zn P2 6 [(25, [], sv_ v25), (27, [], .int .i64 ((l_.len : Nat) : Int))] ?_
     obtain ⟨h0, h1, h⟩ := h
     refine reg_sliceHi (t := 141) (e := 145) (x := (Operand.tmp 25)) (hi := (Operand.tmp 27)) (p := v25.ptr) (l := v25.len) (c := v25.cap) (sz := 3) (k := .i64) (j := ((l_.len : Nat) : Int)) (ty := 141) (dst := some 28) (by kernel_rfl) (by kernel_rfl) (by kernel_rfl) (by kernel_rfl) (by kernel_rfl) h0 h1 ?_
     refine Zf P1 [(2, .slice v25.ptr (((l_.len : Nat) : Int).toNat) v25.cap)] ?_
     change WpE _ _ c131_28 _ _ _
     refine wpE_ret (by kernel_rfl) ?_
     repeat (first | refine seqQ_ret ?_ | refine blockQ_ret ?_ | refine loopQ_ret ?_ | refine cutQ_ret ?_)
     exact retS (rs := [(ResultVar.tmp 2)]) (v := Value.slice v25.ptr (((l_.len : Nat) : Int).toNat) v25.cap) (by kernel_rfl) (⟨by kernel_rfl, trivial⟩) ⟨(Slc.mk v25.ptr (((l_.len : Nat) : Int).toNat) v25.cap), rfl, h⟩
 · rintro e w' ⟨v, rfl, r0, rfl, h⟩; exact ⟨r0, rfl, h⟩

/-! ### towpath/towpathlaw01.LeftVersions (function 132) -/
def c132_0 := cb_ Try.f132
def c132_3 := cr_ c132_0
def c132_4 := cl_ c132_3
def c132_7 := cr_ c132_4
def c132_8 := cl_ c132_7
def c132_11 := cr_ c132_8
def c132_12 := cr_ c132_7
def c132_13 := cr_ c132_3
def c132_14 := cl_ c132_13
def c132_17 := cr_ c132_14
def c132_18 := cl_ c132_17
def c132_19 := cl_ c132_18
def c132_20 := cl_ c132_19
def c132_23 := cr_ c132_20
def c132_24 := cl_ c132_23
def c132_25 := cr_ c132_23
def c132_26 := cr_ c132_19
def c132_27 := cl_ c132_26
def c132_28 := cl_ c132_27
def c132_29 := cl_ c132_28
def r132_29 := co_ c132_29
def c132_31 := cr_ c132_28
def c132_32 := cl_ c132_31
def c132_35 := cr_ c132_32
def c132_36 := cr_ c132_31
def c132_37 := cr_ c132_26
def r132_37 := co_ c132_37
def c132_39 := cr_ c132_13
def c132_40 := cl_ c132_39
def r132_40 := co_ c132_40
def c132_42 := cr_ c132_39
def c132_43 := cl_ c132_42
def r132_43 := co_ c132_43
def c132_45 := cr_ c132_42

theorem S_towpathlaw01_LeftVersions {t_ : Slc} {l_ : Slc} {w : World} {R : Bool → World → Prop} (h : F_towpathlaw01_LeftVersions t_ l_ R w) : C_towpathlaw01_LeftVersions t_ l_ w R := by
 unfold F_towpathlaw01_LeftVersions at h
 unfold C_towpathlaw01_LeftVersions
 refine Calls.mono (calls_of_wpE (args := [sv_ t_, sv_ l_]) (R := fun v w' => ∃ (r0 : Bool), v = Value.bool r0 ∧ R r0 w') Try.func132 (c := c132_0) (by kernel_rfl) 46 (by kernel_rfl) (by kernel_rfl) [(0, sv_ t_), (1, sv_ l_)] (by kernel_rfl) ?_) ?_
 · refine Zp c132_3 P1 [(0, sv_ t_), (1, sv_ l_)] ?_
   refine Zs c132_4 c132_13 ?_
   refine Zp c132_7 [.plain, .plain, .plain, .plain, .plain, .plain, .plain, .plain, .plain, .plain, .plain, .pick] [(0, sv_ t_), (1, sv_ l_), (18, .bool ((((t_.len : Nat) : Int) != ((l_.len : Nat) : Int)) || (decide (((t_.cap : Nat) : Int) ≤ ((l_.len : Nat) : Int)))))] ?_
   refine Zc 18 ((((t_.len : Nat) : Int) != ((l_.len : Nat) : Int)) || (decide (((t_.cap : Nat) : Int) ≤ ((l_.len : Nat) : Int)))) c132_8 c132_12 (fun hb => ?_) (fun hb => ?_)
   · replace h := h.1 hb
     refine Zp c132_11 P1 [(4, .bool false)] ?_
     refine wpE_ret (by kernel_rfl) ?_
     repeat (first | refine seqQ_ret ?_ | refine blockQ_ret ?_ | refine loopQ_ret ?_ | refine cutQ_ret ?_)
     exact retS (rs := [(ResultVar.tmp 4)]) (v := Value.bool false) (by kernel_rfl) (⟨by kernel_rfl, trivial⟩) ⟨false, rfl, h⟩
   · replace h := h.2 hb
     refine wpE_skip (by kernel_rfl) ?_
     change WpE _ _ c132_13 _ _ _
     refine Zs c132_14 c132_39 ?_
     refine Zp c132_17 P1 [(0, sv_ t_), (1, sv_ l_), (5, .int .i64 0)] ?_
     refine Zb 0 c132_18 ?_
     obtain ⟨I, μ, h0, hr⟩ := h
     refine wpE_loop (x := c132_19) (by kernel_rfl) (fun m l w => ∃ (i : Int), l = [(0, sv_ t_), (1, sv_ l_), (5, Value.int .i64 i)] ∧ I i w ∧ μ i w = m) (l' := [(0, sv_ t_), (1, sv_ l_), (5, Value.int .i64 0)]) (Sub.mk (by kernel_rfl)) ⟨0, rfl, h0, rfl⟩ ?_
     rintro _ _ w1 ⟨i, rfl, hI, rfl⟩
     obtain ⟨again_, again__h, h⟩ : ∃ again_ : Int → World → Prop, (∀ i' w', again_ i' w' → I i' w' ∧ μ i' w' < μ i w1) ∧ F_towpathlaw01_LeftVersions_L0 t_ l_ R again_ i w1 := ⟨_, fun _ _ h => h, hr i w1 hI⟩
     clear h0 hI
     unfold F_towpathlaw01_LeftVersions_L0 at h
     refine Zs c132_20 c132_26 ?_
     refine Zp c132_23 P4 [(0, sv_ t_), (1, sv_ l_), (5, .int .i64 i), (22, .bool (decide (i < ((l_.len : Nat) : Int))))] ?_
     refine Zc 22 (decide (i < ((l_.len : Nat) : Int))) c132_24 c132_25 (fun hb => ?_) (fun hb => ?_)
     · replace h := h.1 hb
       refine wpE_skip (by kernel_rfl) ?_
       change WpE _ _ c132_26 _ _ _
       refine Zs c132_27 c132_37 ?_
       refine Zb 1 c132_28 ?_
       refine Zs c132_29 c132_31 ?_
       refine wpE_drawregion (id := 6) (ops := r132_29) (by kernel_rfl) (by kernel_rfl) (by kernel_rfl) ?_
       refine qreg_run P2 2 [(0, [], sv_ t_), (1, [], sv_ l_), (5, [], Value.int .i64 i), (25, [], sv_ t_), (26, [], Value.int .i64 i)] (by kernel_rfl) (by kernel_rfl) ?_
       obtain ⟨hp_14, h⟩ := h
       refine qreg_conv [(0, [], sv_ t_), (1, [], sv_ l_), (5, [], Value.int .i64 i), (25, [], Value.slice (some ⟨(pblk t_.ptr), (poff t_.ptr), none⟩) t_.len t_.cap), (26, [], Value.int .i64 i)] (congrArg (fun pp => ([(0, [], sv_ t_), (1, [], sv_ l_), (5, [], Value.int .i64 i), (25, [], Value.slice pp t_.len t_.cap), (26, [], Value.int .i64 i)] : GEnv)) hp_14) ?_
       obtain ⟨h0, h1, h⟩ := h
       refine qreg_indexS (t := 141) (e := 145) (x := (Operand.tmp 25)) (ix := (Operand.tmp 26)) (b := (pblk t_.ptr)) (o := (poff t_.ptr)) (l := t_.len) (c := t_.cap) (k := .i64) (j := i) (ty := 0) (dst := some 27) (sz := 3) (by kernel_rfl) (by kernel_rfl) (by kernel_rfl) (by kernel_rfl) (by kernel_rfl) h0 h1 ?_
       refine qreg_run [] 3 [(0, [], sv_ t_), (1, [], sv_ l_), (5, [], Value.int .i64 i), (27, [], Value.pointer (some ⟨(pblk t_.ptr), (poff t_.ptr) + i.toNat * 3, none⟩))] (by kernel_rfl) (by kernel_rfl) ?_
       obtain ⟨v28, hc, h⟩ := h
       refine qreg_loadN (t := 145) (a := (Operand.tmp 27)) (b := (pblk t_.ptr)) (o := ((poff t_.ptr) + i.toNat * 3)) (ty := 145) (dst := some 28) [Value.int .i64 v28.Number, Value.string v28.Val, Value.bool v28.Drop] (by kernel_rfl) (by kernel_rfl) (by kernel_rfl) (k := 3) (by kernel_rfl) (by kernel_rfl) hc ?_
       refine qreg_run P2 6 [(0, [], sv_ t_), (1, [], sv_ l_), (5, [], Value.int .i64 i), (28, [], Value.agg #[Value.int .i64 v28.Number, Value.string v28.Val, Value.bool v28.Drop]), (29, [], sv_ l_), (30, [], Value.int .i64 i)] (by kernel_rfl) (by kernel_rfl) ?_
       obtain ⟨hp_15, h⟩ := h
       refine qreg_conv [(0, [], sv_ t_), (1, [], sv_ l_), (5, [], Value.int .i64 i), (28, [], Value.agg #[Value.int .i64 v28.Number, Value.string v28.Val, Value.bool v28.Drop]), (29, [], Value.slice (some ⟨(pblk l_.ptr), (poff l_.ptr), none⟩) l_.len l_.cap), (30, [], Value.int .i64 i)] (congrArg (fun pp => ([(0, [], sv_ t_), (1, [], sv_ l_), (5, [], Value.int .i64 i), (28, [], Value.agg #[Value.int .i64 v28.Number, Value.string v28.Val, Value.bool v28.Drop]), (29, [], Value.slice pp l_.len l_.cap), (30, [], Value.int .i64 i)] : GEnv)) hp_15) ?_
       obtain ⟨h0, h1, h⟩ := h
       refine qreg_indexS (t := 141) (e := 145) (x := (Operand.tmp 29)) (ix := (Operand.tmp 30)) (b := (pblk l_.ptr)) (o := (poff l_.ptr)) (l := l_.len) (c := l_.cap) (k := .i64) (j := i) (ty := 0) (dst := some 31) (sz := 3) (by kernel_rfl) (by kernel_rfl) (by kernel_rfl) (by kernel_rfl) (by kernel_rfl) h0 h1 ?_
       refine qreg_run [] 7 [(0, [], sv_ t_), (1, [], sv_ l_), (5, [], Value.int .i64 i), (28, [], Value.agg #[Value.int .i64 v28.Number, Value.string v28.Val, Value.bool v28.Drop]), (31, [], Value.pointer (some ⟨(pblk l_.ptr), (poff l_.ptr) + i.toNat * 3, none⟩))] (by kernel_rfl) (by kernel_rfl) ?_
       obtain ⟨v32, hc, h⟩ := h
       refine qreg_loadN (t := 145) (a := (Operand.tmp 31)) (b := (pblk l_.ptr)) (o := ((poff l_.ptr) + i.toNat * 3)) (ty := 145) (dst := some 32) [Value.int .i64 v32.Number, Value.string v32.Val, Value.bool v32.Drop] (by kernel_rfl) (by kernel_rfl) (by kernel_rfl) (k := 3) (by kernel_rfl) (by kernel_rfl) hc ?_
       refine qreg_run [] 8 [(0, [], sv_ t_), (1, [], sv_ l_), (5, [], Value.int .i64 i), (28, [], Value.agg #[Value.int .i64 v28.Number, Value.string v28.Val, Value.bool v28.Drop]), (32, [], Value.agg #[Value.int .i64 v32.Number, Value.string v32.Val, Value.bool v32.Drop])] (by kernel_rfl) (by kernel_rfl) ?_
       refine qreg_val (op := (Op.binOp BinOp.neq 145 (Operand.tmp 28) (Operand.tmp 32) 145)) (ty := 4) (dst := some 33) (Value.bool (!(((v28.Number == v32.Number) && (v28.Val == v32.Val)) && (v28.Drop == v32.Drop)))) (by kernel_rfl) (fun ww => run_struct_neq (xs := [Value.int .i64 v28.Number, Value.string v28.Val, Value.bool v28.Drop]) (ys := [Value.int .i64 v32.Number, Value.string v32.Val, Value.bool v32.Drop]) (by kernel_rfl) (by kernel_rfl) (by kernel_rfl) (by kernel_rfl) (by kernel_rfl) ww) ?_
       refine qreg_end [(0, sv_ t_), (1, sv_ l_), (5, Value.int .i64 i), (33, Value.bool (!(((v28.Number == v32.Number) && (v28.Val == v32.Val)) && (v28.Drop == v32.Drop))))] (by kernel_rfl) (by kernel_rfl) (fun w2 hw => ?_)
       replace h := h w2 hw
       clear hw
       change WpE _ _ c132_31 _ _ _
       refine Zc 33 (!(((v28.Number == v32.Number) && (v28.Val == v32.Val)) && (v28.Drop == v32.Drop))) c132_32 c132_36 (fun hb => ?_) (fun hb => ?_)
       · replace h := h.1 hb
         refine Zp c132_35 P1 [(4, .bool false)] ?_
         refine wpE_ret (by kernel_rfl) ?_
         repeat (first | refine seqQ_ret ?_ | refine blockQ_ret ?_ | refine loopQ_ret ?_ | refine cutQ_ret ?_)
         exact retS (rs := [(ResultVar.tmp 4)]) (v := Value.bool false) (by kernel_rfl) (⟨by kernel_rfl, trivial⟩) ⟨false, rfl, h⟩
       · replace h := h.2 hb
         refine wpE_skip (by kernel_rfl) ?_
         change WpE _ _ c132_37 _ _ _
         refine Zr r132_37 ?_
         refine Zf P3 [(0, sv_ t_), (1, sv_ l_), (5, .int .i64 (IntKind.i64.wrap (i + 1)))] ?_
         have hb_ := again__h _ _ h
         exact ⟨_, hb_.2, [(0, sv_ t_), (1, sv_ l_), (5, Value.int .i64 (IntKind.i64.wrap (i + 1)))], Sub.mk (by kernel_rfl), (IntKind.i64.wrap (i + 1)), rfl, hb_.1, rfl⟩
     · replace h := h.2 hb
       refine wpE_exit (id := 0) (by kernel_rfl) ?_
       change WpE _ _ c132_39 _ _ _
       refine Zt r132_40 c132_42 ?_
       refine Zn P4 4 [(1, [], sv_ l_), (34, [], sv_ t_), (37, [], .int .i64 (IntKind.i64.wrap (((l_.len : Nat) : Int) + 1)))] ?_
       obtain ⟨h0, h1, h⟩ := h
       refine reg_sliceHi (t := 141) (e := 145) (x := (Operand.tmp 34)) (hi := (Operand.tmp 37)) (p := t_.ptr) (l := t_.len) (c := t_.cap) (sz := 3) (k := .i64) (j := (IntKind.i64.wrap (((l_.len : Nat) : Int) + 1))) (ty := 141) (dst := some 38) (by kernel_rfl) (by kernel_rfl) (by kernel_rfl) (by kernel_rfl) (by kernel_rfl) h0 h1 ?_
       refine Zn P2 7 [(38, [], .slice t_.ptr ((IntKind.i64.wrap (((l_.len : Nat) : Int) + 1)).toNat) t_.cap), (40, [], .int .i64 ((l_.len : Nat) : Int))] ?_
       obtain ⟨hp_17, h⟩ := h
       refine Zv (fun pp => [(38, [], .slice pp ((IntKind.i64.wrap (((l_.len : Nat) : Int) + 1)).toNat) t_.cap), (40, [], .int .i64 ((l_.len : Nat) : Int))]) hp_17 ?_
       obtain ⟨h0, h1, h⟩ := h
       refine Zj 141 145 38 40 (pblk t_.ptr) (poff t_.ptr) ((IntKind.i64.wrap (((l_.len : Nat) : Int) + 1)).toNat) t_.cap ((l_.len : Nat) : Int) 3 41 0 h0 h1 ?_
       refine Zn [] 8 [(41, [], .pointer (some ⟨(pblk t_.ptr), (poff t_.ptr) + ((l_.len : Nat) : Int).toNat * 3, none⟩))] ?_
       obtain ⟨v42, hc, h⟩ := h
       refine reg_loadN (t := 145) (a := (Operand.tmp 41)) (b := (pblk t_.ptr)) (o := ((poff t_.ptr) + ((l_.len : Nat) : Int).toNat * 3)) (ty := 145) (dst := some 42) [Value.int .i64 v42.Number, Value.string v42.Val, Value.bool v42.Drop] (by kernel_rfl) (by kernel_rfl) (by kernel_rfl) (k := 3) (by kernel_rfl) (by kernel_rfl) hc ?_
       refine Zn [] 9 [(42, [], .agg #[.int .i64 v42.Number, .string v42.Val, .bool v42.Drop])] ?_
       refine Zw (some 6) (fun bb => pv_ bb) (Obj.cells ([.int .i64 0, .string ByteArray.empty, .bool false]).toArray ty_api_Version (0, 0)) (fun b_ w3 hb hw => ?_)
       replace h := h b_ w3 hb hw
       clear hb hw
       refine Zn [] 10 [(6, [], pv_ b_), (42, [], .agg #[.int .i64 v42.Number, .string v42.Val, .bool v42.Drop])] ?_
       obtain ⟨hc, h⟩ := h
       refine Zo 145 6 42 b_ 0 3 [.int .i64 v42.Number, .string v42.Val, .bool v42.Drop] hc (fun w4 hw => ?_)
       replace h := h w4 hw
       clear hw
       refine Ze [(6, pv_ b_)] ?_
       change WpE _ _ c132_42 _ _ _
       refine Zt r132_43 c132_45 ?_
       refine Zn [] 0 [(6, [], pv_ b_)] ?_
       obtain ⟨v43, hc, h⟩ := h
       refine reg_loadN (t := 145) (a := (Operand.tmp 6)) (b := b_) (o := 0) (ty := 145) (dst := some 43) [Value.int .i64 v43.Number, Value.string v43.Val, Value.bool v43.Drop] (by kernel_rfl) (by kernel_rfl) (by kernel_rfl) (k := 3) (by kernel_rfl) (by kernel_rfl) hc ?_
       refine Zn P1 2 [(43, [], .agg #[.int .i64 v43.Number, .string v43.Val, .bool v43.Drop]), (44, [], .agg #[.int .i64 7777, .string ByteArray.empty, .bool false])] ?_
       refine reg_val (op := (Op.binOp BinOp.eql 145 (Operand.tmp 43) (Operand.tmp 44) 145)) (ty := 4) (dst := some 45) (Value.bool (((v43.Number == 7777) && (v43.Val == ByteArray.empty)) && (v43.Drop == false))) (by kernel_rfl) (fun ww => run_struct_eql (xs := [Value.int .i64 v43.Number, Value.string v43.Val, Value.bool v43.Drop]) (ys := [Value.int .i64 7777, Value.string ByteArray.empty, Value.bool false]) (by kernel_rfl) (by kernel_rfl) (by kernel_rfl) (by kernel_rfl) (by kernel_rfl) ww) ?_
       refine Zf P1 [(4, .bool (((v43.Number == 7777) && (v43.Val == ByteArray.empty)) && (v43.Drop == false)))] ?_
       change WpE _ _ c132_45 _ _ _
       refine wpE_ret (by kernel_rfl) ?_
       repeat (first | refine seqQ_ret ?_ | refine blockQ_ret ?_ | refine loopQ_ret ?_ | refine cutQ_ret ?_)
       exact retS (rs := [(ResultVar.tmp 4)]) (v := Value.bool (((v43.Number == 7777) && (v43.Val == ByteArray.empty)) && (v43.Drop == false))) (by kernel_rfl) (⟨by kernel_rfl, trivial⟩) ⟨(((v43.Number == 7777) && (v43.Val == ByteArray.empty)) && (v43.Drop == false)), rfl, h⟩
 · rintro e w' ⟨v, rfl, r0, rfl, h⟩; exact ⟨r0, rfl, h⟩
end
end Go.Proofs.Ytpedclhflmhakaa
