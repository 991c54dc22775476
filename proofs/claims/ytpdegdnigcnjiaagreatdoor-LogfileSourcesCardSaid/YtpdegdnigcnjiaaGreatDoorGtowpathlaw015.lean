/- WRITTEN BY PROGRAM (dec.py): for each Go function the clean formula F, the call's contract C, and the proof S that F gives C. -/
import Derived.Test.YtpdegdnigcnjiaaGreatDoorRows
import Derived.Test.YtpdegdnigcnjiaaGreatDoorGF
namespace Go.Proofs.YtpdegdnigcnjiaaGreatDoor
open Go
set_option linter.unusedVariables false
set_option maxRecDepth 100000
set_option maxHeartbeats 4000000
noncomputable section

/-! ### towpath/towpathlaw01.LeftWrites (function 124) -/
def c124_0 := cb_ Tryz.f124
def c124_3 := cr_ c124_0
def c124_4 := cl_ c124_3
def c124_7 := cr_ c124_4
def c124_8 := cl_ c124_7
def c124_11 := cr_ c124_8
def c124_12 := cr_ c124_7
def c124_13 := cr_ c124_3
def c124_14 := cl_ c124_13
def c124_17 := cr_ c124_14
def c124_18 := cl_ c124_17
def c124_19 := cl_ c124_18
def c124_20 := cl_ c124_19
def c124_23 := cr_ c124_20
def c124_24 := cl_ c124_23
def c124_25 := cr_ c124_23
def c124_26 := cr_ c124_19
def c124_27 := cl_ c124_26
def c124_28 := cl_ c124_27
def c124_29 := cl_ c124_28
def r124_29 := co_ c124_29
def c124_31 := cr_ c124_28
def c124_32 := cl_ c124_31
def c124_35 := cr_ c124_32
def c124_36 := cr_ c124_31
def c124_37 := cr_ c124_26
def r124_37 := co_ c124_37
def c124_39 := cr_ c124_13
def c124_40 := cl_ c124_39
def r124_40 := co_ c124_40
def c124_42 := cr_ c124_39
def c124_43 := cl_ c124_42
def r124_43 := co_ c124_43
def c124_45 := cr_ c124_42

theorem S_towpathlaw01_LeftWrites {t_ : Slc} {l_ : Slc} {w : World} {R : Bool → World → Prop} (h : F_towpathlaw01_LeftWrites t_ l_ R w) : C_towpathlaw01_LeftWrites t_ l_ w R := by
 unfold F_towpathlaw01_LeftWrites at h
 unfold C_towpathlaw01_LeftWrites
 refine Calls.mono (calls_of_wpE (args := [sv_ t_, sv_ l_]) (R := fun v w' => ∃ (r0 : Bool), v = Value.bool r0 ∧ R r0 w') Tryz.func124 (c := c124_0) (by kernel_rfl) 46 (by kernel_rfl) (by kernel_rfl) [(0, sv_ t_), (1, sv_ l_)] (by kernel_rfl) ?_) ?_
 · refine Zp c124_3 P1 [(0, sv_ t_), (1, sv_ l_)] ?_
   refine Zs c124_4 c124_13 ?_
   refine Zp c124_7 [.plain, .plain, .plain, .plain, .plain, .plain, .plain, .plain, .plain, .plain, .plain, .pick] [(0, sv_ t_), (1, sv_ l_), (18, .bool ((((t_.len : Nat) : Int) != ((l_.len : Nat) : Int)) || (decide (((t_.cap : Nat) : Int) ≤ ((l_.len : Nat) : Int)))))] ?_
   refine Zc 18 ((((t_.len : Nat) : Int) != ((l_.len : Nat) : Int)) || (decide (((t_.cap : Nat) : Int) ≤ ((l_.len : Nat) : Int)))) c124_8 c124_12 (fun hb => ?_) (fun hb => ?_)
   · replace h := h.1 hb
     refine Zp c124_11 P1 [(4, .bool false)] ?_
     refine wpE_ret (by kernel_rfl) ?_
     repeat (first | refine seqQ_ret ?_ | refine blockQ_ret ?_ | refine loopQ_ret ?_ | refine cutQ_ret ?_)
     exact retS (rs := [(ResultVar.tmp 4)]) (v := Value.bool false) (by kernel_rfl) (⟨by kernel_rfl, trivial⟩) ⟨false, rfl, h⟩
   · replace h := h.2 hb
     refine wpE_skip (by kernel_rfl) ?_
     change WpE _ _ c124_13 _ _ _
     refine Zs c124_14 c124_39 ?_
     refine Zp c124_17 P1 [(0, sv_ t_), (1, sv_ l_), (5, .int .i64 0)] ?_
     refine Zb 0 c124_18 ?_
     obtain ⟨I, μ, h0, hr⟩ := h
     refine wpE_loop (x := c124_19) (by kernel_rfl) (fun m l w => ∃ (i : Int), l = [(0, sv_ t_), (1, sv_ l_), (5, Value.int .i64 i)] ∧ I i w ∧ μ i w = m) (l' := [(0, sv_ t_), (1, sv_ l_), (5, Value.int .i64 0)]) (Sub.mk (by kernel_rfl)) ⟨0, rfl, h0, rfl⟩ ?_
     rintro _ _ w1 ⟨i, rfl, hI, rfl⟩
     obtain ⟨again_, again__h, h⟩ : ∃ again_ : Int → World → Prop, (∀ i' w', again_ i' w' → I i' w' ∧ μ i' w' < μ i w1) ∧ F_towpathlaw01_LeftWrites_L0 t_ l_ R again_ i w1 := ⟨_, fun _ _ h => h, hr i w1 hI⟩
     clear h0 hI
     unfold F_towpathlaw01_LeftWrites_L0 at h
     refine Zs c124_20 c124_26 ?_
     refine Zp c124_23 P4 [(0, sv_ t_), (1, sv_ l_), (5, .int .i64 i), (22, .bool (decide (i < ((l_.len : Nat) : Int))))] ?_
     refine Zc 22 (decide (i < ((l_.len : Nat) : Int))) c124_24 c124_25 (fun hb => ?_) (fun hb => ?_)
     · replace h := h.1 hb
       refine wpE_skip (by kernel_rfl) ?_
       change WpE _ _ c124_26 _ _ _
       refine Zs c124_27 c124_37 ?_
       refine Zb 1 c124_28 ?_
       refine Zs c124_29 c124_31 ?_
       refine wpE_drawregion (id := 6) (ops := r124_29) (by kernel_rfl) (by kernel_rfl) (by kernel_rfl) ?_
       refine qreg_run P2 2 [(0, [], sv_ t_), (1, [], sv_ l_), (5, [], Value.int .i64 i), (25, [], sv_ t_), (26, [], Value.int .i64 i)] (by kernel_rfl) (by kernel_rfl) ?_
       obtain ⟨hp_14, h⟩ := h
       refine qreg_conv [(0, [], sv_ t_), (1, [], sv_ l_), (5, [], Value.int .i64 i), (25, [], Value.slice (some ⟨(pblk t_.ptr), (poff t_.ptr), none⟩) t_.len t_.cap), (26, [], Value.int .i64 i)] (congrArg (fun pp => ([(0, [], sv_ t_), (1, [], sv_ l_), (5, [], Value.int .i64 i), (25, [], Value.slice pp t_.len t_.cap), (26, [], Value.int .i64 i)] : GEnv)) hp_14) ?_
       obtain ⟨h0, h1, h⟩ := h
       refine qreg_indexS (t := 50) (e := 139) (x := (Operand.tmp 25)) (ix := (Operand.tmp 26)) (b := (pblk t_.ptr)) (o := (poff t_.ptr)) (l := t_.len) (c := t_.cap) (k := .i64) (j := i) (ty := 0) (dst := some 27) (sz := 3) (by kernel_rfl) (by kernel_rfl) (by kernel_rfl) (by kernel_rfl) (by kernel_rfl) h0 h1 ?_
       refine qreg_run [] 3 [(0, [], sv_ t_), (1, [], sv_ l_), (5, [], Value.int .i64 i), (27, [], Value.pointer (some ⟨(pblk t_.ptr), (poff t_.ptr) + i.toNat * 3, none⟩))] (by kernel_rfl) (by kernel_rfl) ?_
       obtain ⟨v28, hc, h⟩ := h
       refine qreg_loadN (t := 139) (a := (Operand.tmp 27)) (b := (pblk t_.ptr)) (o := ((poff t_.ptr) + i.toNat * 3)) (ty := 139) (dst := some 28) [Value.string v28.Key, Value.string v28.Val, Value.bool v28.Drop] (by kernel_rfl) (by kernel_rfl) (by kernel_rfl) (k := 3) (by kernel_rfl) (by kernel_rfl) hc ?_
       refine qreg_run P2 6 [(0, [], sv_ t_), (1, [], sv_ l_), (5, [], Value.int .i64 i), (28, [], Value.agg #[Value.string v28.Key, Value.string v28.Val, Value.bool v28.Drop]), (29, [], sv_ l_), (30, [], Value.int .i64 i)] (by kernel_rfl) (by kernel_rfl) ?_
       obtain ⟨hp_15, h⟩ := h
       refine qreg_conv [(0, [], sv_ t_), (1, [], sv_ l_), (5, [], Value.int .i64 i), (28, [], Value.agg #[Value.string v28.Key, Value.string v28.Val, Value.bool v28.Drop]), (29, [], Value.slice (some ⟨(pblk l_.ptr), (poff l_.ptr), none⟩) l_.len l_.cap), (30, [], Value.int .i64 i)] (congrArg (fun pp => ([(0, [], sv_ t_), (1, [], sv_ l_), (5, [], Value.int .i64 i), (28, [], Value.agg #[Value.string v28.Key, Value.string v28.Val, Value.bool v28.Drop]), (29, [], Value.slice pp l_.len l_.cap), (30, [], Value.int .i64 i)] : GEnv)) hp_15) ?_
       obtain ⟨h0, h1, h⟩ := h
       refine qreg_indexS (t := 50) (e := 139) (x := (Operand.tmp 29)) (ix := (Operand.tmp 30)) (b := (pblk l_.ptr)) (o := (poff l_.ptr)) (l := l_.len) (c := l_.cap) (k := .i64) (j := i) (ty := 0) (dst := some 31) (sz := 3) (by kernel_rfl) (by kernel_rfl) (by kernel_rfl) (by kernel_rfl) (by kernel_rfl) h0 h1 ?_
       refine qreg_run [] 7 [(0, [], sv_ t_), (1, [], sv_ l_), (5, [], Value.int .i64 i), (28, [], Value.agg #[Value.string v28.Key, Value.string v28.Val, Value.bool v28.Drop]), (31, [], Value.pointer (some ⟨(pblk l_.ptr), (poff l_.ptr) + i.toNat * 3, none⟩))] (by kernel_rfl) (by kernel_rfl) ?_
       obtain ⟨v32, hc, h⟩ := h
       refine qreg_loadN (t := 139) (a := (Operand.tmp 31)) (b := (pblk l_.ptr)) (o := ((poff l_.ptr) + i.toNat * 3)) (ty := 139) (dst := some 32) [Value.string v32.Key, Value.string v32.Val, Value.bool v32.Drop] (by kernel_rfl) (by kernel_rfl) (by kernel_rfl) (k := 3) (by kernel_rfl) (by kernel_rfl) hc ?_
       refine qreg_run [] 8 [(0, [], sv_ t_), (1, [], sv_ l_), (5, [], Value.int .i64 i), (28, [], Value.agg #[Value.string v28.Key, Value.string v28.Val, Value.bool v28.Drop]), (32, [], Value.agg #[Value.string v32.Key, Value.string v32.Val, Value.bool v32.Drop])] (by kernel_rfl) (by kernel_rfl) ?_
       refine qreg_val (op := (Op.binOp BinOp.neq 139 (Operand.tmp 28) (Operand.tmp 32) 139)) (ty := 4) (dst := some 33) (Value.bool (!(((v28.Key == v32.Key) && (v28.Val == v32.Val)) && (v28.Drop == v32.Drop)))) (by kernel_rfl) (fun ww => run_struct_neq (xs := [Value.string v28.Key, Value.string v28.Val, Value.bool v28.Drop]) (ys := [Value.string v32.Key, Value.string v32.Val, Value.bool v32.Drop]) (by kernel_rfl) (by kernel_rfl) (by kernel_rfl) (by kernel_rfl) (by kernel_rfl) ww) ?_
       refine qreg_end [(0, sv_ t_), (1, sv_ l_), (5, Value.int .i64 i), (33, Value.bool (!(((v28.Key == v32.Key) && (v28.Val == v32.Val)) && (v28.Drop == v32.Drop))))] (by kernel_rfl) (by kernel_rfl) (fun w2 hw => ?_)
       replace h := h w2 hw
       clear hw
       change WpE _ _ c124_31 _ _ _
       refine Zc 33 (!(((v28.Key == v32.Key) && (v28.Val == v32.Val)) && (v28.Drop == v32.Drop))) c124_32 c124_36 (fun hb => ?_) (fun hb => ?_)
       · replace h := h.1 hb
         refine Zp c124_35 P1 [(4, .bool false)] ?_
         refine wpE_ret (by kernel_rfl) ?_
         repeat (first | refine seqQ_ret ?_ | refine blockQ_ret ?_ | refine loopQ_ret ?_ | refine cutQ_ret ?_)
         exact retS (rs := [(ResultVar.tmp 4)]) (v := Value.bool false) (by kernel_rfl) (⟨by kernel_rfl, trivial⟩) ⟨false, rfl, h⟩
       · replace h := h.2 hb
         refine wpE_skip (by kernel_rfl) ?_
         change WpE _ _ c124_37 _ _ _
         refine Zr r124_37 ?_
         refine Zf P3 [(0, sv_ t_), (1, sv_ l_), (5, .int .i64 (IntKind.i64.wrap (i + 1)))] ?_
         have hb_ := again__h _ _ h
         exact ⟨_, hb_.2, [(0, sv_ t_), (1, sv_ l_), (5, Value.int .i64 (IntKind.i64.wrap (i + 1)))], Sub.mk (by kernel_rfl), (IntKind.i64.wrap (i + 1)), rfl, hb_.1, rfl⟩
     · replace h := h.2 hb
       refine wpE_exit (id := 0) (by kernel_rfl) ?_
       change WpE _ _ c124_39 _ _ _
       refine Zt r124_40 c124_42 ?_
       refine Zn P4 4 [(1, [], sv_ l_), (34, [], sv_ t_), (37, [], .int .i64 (IntKind.i64.wrap (((l_.len : Nat) : Int) + 1)))] ?_
       obtain ⟨h0, h1, h⟩ := h
       refine reg_sliceHi (t := 50) (e := 139) (x := (Operand.tmp 34)) (hi := (Operand.tmp 37)) (p := t_.ptr) (l := t_.len) (c := t_.cap) (sz := 3) (k := .i64) (j := (IntKind.i64.wrap (((l_.len : Nat) : Int) + 1))) (ty := 50) (dst := some 38) (by kernel_rfl) (by kernel_rfl) (by kernel_rfl) (by kernel_rfl) (by kernel_rfl) h0 h1 ?_
       refine Zn P2 7 [(38, [], .slice t_.ptr ((IntKind.i64.wrap (((l_.len : Nat) : Int) + 1)).toNat) t_.cap), (40, [], .int .i64 ((l_.len : Nat) : Int))] ?_
       obtain ⟨hp_17, h⟩ := h
       refine Zv (fun pp => [(38, [], .slice pp ((IntKind.i64.wrap (((l_.len : Nat) : Int) + 1)).toNat) t_.cap), (40, [], .int .i64 ((l_.len : Nat) : Int))]) hp_17 ?_
       obtain ⟨h0, h1, h⟩ := h
       refine Zj 50 139 38 40 (pblk t_.ptr) (poff t_.ptr) ((IntKind.i64.wrap (((l_.len : Nat) : Int) + 1)).toNat) t_.cap ((l_.len : Nat) : Int) 3 41 0 h0 h1 ?_
       refine Zn [] 8 [(41, [], .pointer (some ⟨(pblk t_.ptr), (poff t_.ptr) + ((l_.len : Nat) : Int).toNat * 3, none⟩))] ?_
       obtain ⟨v42, hc, h⟩ := h
       refine reg_loadN (t := 139) (a := (Operand.tmp 41)) (b := (pblk t_.ptr)) (o := ((poff t_.ptr) + ((l_.len : Nat) : Int).toNat * 3)) (ty := 139) (dst := some 42) [Value.string v42.Key, Value.string v42.Val, Value.bool v42.Drop] (by kernel_rfl) (by kernel_rfl) (by kernel_rfl) (k := 3) (by kernel_rfl) (by kernel_rfl) hc ?_
       refine Zn [] 9 [(42, [], .agg #[.string v42.Key, .string v42.Val, .bool v42.Drop])] ?_
       refine Zw (some 6) (fun bb => pv_ bb) (Obj.cells ([.string ByteArray.empty, .string ByteArray.empty, .bool false]).toArray ty_api_Write (0, 0)) (fun b_ w3 hb hw => ?_)
       replace h := h b_ w3 hb hw
       clear hb hw
       refine Zn [] 10 [(6, [], pv_ b_), (42, [], .agg #[.string v42.Key, .string v42.Val, .bool v42.Drop])] ?_
       obtain ⟨hc, h⟩ := h
       refine Zo 139 6 42 b_ 0 3 [.string v42.Key, .string v42.Val, .bool v42.Drop] hc (fun w4 hw => ?_)
       replace h := h w4 hw
       clear hw
       refine Ze [(6, pv_ b_)] ?_
       change WpE _ _ c124_42 _ _ _
       refine Zt r124_43 c124_45 ?_
       refine Zn [] 0 [(6, [], pv_ b_)] ?_
       obtain ⟨v43, hc, h⟩ := h
       refine reg_loadN (t := 139) (a := (Operand.tmp 6)) (b := b_) (o := 0) (ty := 139) (dst := some 43) [Value.string v43.Key, Value.string v43.Val, Value.bool v43.Drop] (by kernel_rfl) (by kernel_rfl) (by kernel_rfl) (k := 3) (by kernel_rfl) (by kernel_rfl) hc ?_
       refine Zn P1 2 [(43, [], .agg #[.string v43.Key, .string v43.Val, .bool v43.Drop]), (44, [], .agg #[.string (ByteArray.mk #[115, 112, 97, 114, 101]), .string ByteArray.empty, .bool false])] ?_
       refine reg_val (op := (Op.binOp BinOp.eql 139 (Operand.tmp 43) (Operand.tmp 44) 139)) (ty := 4) (dst := some 45) (Value.bool (((v43.Key == (ByteArray.mk #[115, 112, 97, 114, 101])) && (v43.Val == ByteArray.empty)) && (v43.Drop == false))) (by kernel_rfl) (fun ww => run_struct_eql (xs := [Value.string v43.Key, Value.string v43.Val, Value.bool v43.Drop]) (ys := [Value.string (ByteArray.mk #[115, 112, 97, 114, 101]), Value.string ByteArray.empty, Value.bool false]) (by kernel_rfl) (by kernel_rfl) (by kernel_rfl) (by kernel_rfl) (by kernel_rfl) ww) ?_
       refine Zf P1 [(4, .bool (((v43.Key == (ByteArray.mk #[115, 112, 97, 114, 101])) && (v43.Val == ByteArray.empty)) && (v43.Drop == false)))] ?_
       change WpE _ _ c124_45 _ _ _
       refine wpE_ret (by kernel_rfl) ?_
       repeat (first | refine seqQ_ret ?_ | refine blockQ_ret ?_ | refine loopQ_ret ?_ | refine cutQ_ret ?_)
       exact retS (rs := [(ResultVar.tmp 4)]) (v := Value.bool (((v43.Key == (ByteArray.mk #[115, 112, 97, 114, 101])) && (v43.Val == ByteArray.empty)) && (v43.Drop == false))) (by kernel_rfl) (⟨by kernel_rfl, trivial⟩) ⟨(((v43.Key == (ByteArray.mk #[115, 112, 97, 114, 101])) && (v43.Val == ByteArray.empty)) && (v43.Drop == false)), rfl, h⟩
 · rintro e w' ⟨v, rfl, r0, rfl, h⟩; exact ⟨r0, rfl, h⟩

/-! ### towpath/towpathlaw01.markInt (function 126) -/
def c126_0 := cb_ Tryz.f126
def c126_3 := cr_ c126_0
def c126_6 := cr_ c126_3

theorem S_towpathlaw01_markInt {n_ : Int} {w : World} {R : Int → World → Prop} (h : F_towpathlaw01_markInt n_ R w) : C_towpathlaw01_markInt n_ w R := by
 unfold F_towpathlaw01_markInt at h
 unfold C_towpathlaw01_markInt
 refine Calls.mono (calls_of_wpE (args := [Value.int .i64 n_]) (R := fun v w' => ∃ (r0 : Int), v = Value.int .i64 r0 ∧ R r0 w') Tryz.func126 (c := c126_0) (by kernel_rfl) 5 (by kernel_rfl) (by kernel_rfl) [(0, Value.int .i64 n_)] (by kernel_rfl) ?_) ?_
 · refine Zp c126_3 P1 [(0, .int .i64 n_)] ?_
   refine Zp c126_6 P3 [(2, .int .i64 (IntKind.i64.wrap ((-1000) - n_)))] ?_
   refine wpE_ret (by kernel_rfl) ?_
   repeat (first | refine seqQ_ret ?_ | refine blockQ_ret ?_ | refine loopQ_ret ?_ | refine cutQ_ret ?_)
   exact retS (rs := [(ResultVar.tmp 2)]) (v := Value.int .i64 (IntKind.i64.wrap ((-1000) - n_))) (by kernel_rfl) (⟨by kernel_rfl, trivial⟩) ⟨(IntKind.i64.wrap ((-1000) - n_)), rfl, h⟩
 · rintro e w' ⟨v, rfl, r0, rfl, h⟩; exact ⟨r0, rfl, h⟩

/-! ### towpath/towpathlaw01.markWrite (function 128) -/
def c128_0 := cb_ Tryz.f128
def c128_1 := cl_ c128_0
def r128_1 := co_ c128_1
def c128_3 := cr_ c128_0
def c128_4 := cl_ c128_3
def r128_4 := co_ c128_4
def c128_6 := cr_ c128_3

theorem S_towpathlaw01_markWrite {n_ : Int} {w : World} {R : T_api_Write → World → Prop} (h : F_towpathlaw01_markWrite n_ R w) : C_towpathlaw01_markWrite n_ w R := by
 unfold F_towpathlaw01_markWrite at h
 unfold C_towpathlaw01_markWrite
 refine Calls.mono (calls_of_wpE (args := [Value.int .i64 n_]) (R := fun v w' => ∃ (r0 : T_api_Write), v = Value.agg #[Value.string r0.Key, Value.string r0.Val, Value.bool r0.Drop] ∧ R r0 w') Tryz.func128 (c := c128_0) (by kernel_rfl) 6 (by kernel_rfl) (by kernel_rfl) [(0, Value.int .i64 n_)] (by kernel_rfl) ?_) ?_
 · refine Zt r128_1 c128_3 ?_
   refine Zn [] 0 [(0, [], .int .i64 n_)] ?_
   refine Zw (some 2) (fun bb => pv_ bb) (Obj.cells ([.string ByteArray.empty, .string ByteArray.empty, .bool false]).toArray ty_api_Write (0, 0)) (fun b_ w1 hb hw => ?_)
   replace h := h b_ w1 hb hw
   clear hb hw
   refine Ze [(0, .int .i64 n_), (2, pv_ b_)] ?_
   change WpE _ _ c128_3 _ _ _
   refine Zt r128_4 c128_6 ?_
   refine Zn P1 1 [(2, [], pv_ b_), (3, [], .int .i64 n_)] ?_
   refine Zm 186 #[.int .i64 n_] (some 4) (Calls.mono h ?_)
   rintro _ w2 ⟨v4, rfl, h⟩
   refine ⟨_, rfl, ?_⟩
   refine Zn P1 3 [(2, [], pv_ b_), (5, [], .agg #[.string v4, .string ByteArray.empty, .bool false])] ?_
   obtain ⟨hc, h⟩ := h
   refine Zo 139 2 5 b_ 0 3 [.string v4, .string ByteArray.empty, .bool false] hc (fun w3 hw => ?_)
   replace h := h w3 hw
   clear hw
   refine Ze [(2, pv_ b_)] ?_
   change WpE _ _ c128_6 _ _ _
   refine wpE_ret (by kernel_rfl) ?_
   obtain ⟨res, hc_res, h⟩ := h
   repeat (first | refine seqQ_ret ?_ | refine blockQ_ret ?_ | refine loopQ_ret ?_ | refine cutQ_ret ?_)
   exact retS (rs := [(ResultVar.cell 2 139)]) (v := Value.agg #[Value.string res.Key, Value.string res.Val, Value.bool res.Drop]) (by kernel_rfl) (⟨b_, 0, [Value.string res.Key, Value.string res.Val, Value.bool res.Drop], by kernel_rfl, hc_res, (sizeP_of (k := 3) (by kernel_rfl) (by kernel_rfl)), .inl ⟨by kernel_rfl, rfl⟩, trivial⟩) ⟨res, rfl, h⟩
 · rintro e w' ⟨v, rfl, r0, rfl, h⟩; exact ⟨r0, rfl, h⟩

/-! ### towpath/towpathlaw01.markTxn (function 131) -/
def c131_0 := cb_ Tryz.f131
def c131_1 := cl_ c131_0
def r131_1 := co_ c131_1
def c131_3 := cr_ c131_0
def c131_4 := cl_ c131_3
def r131_4 := co_ c131_4
def c131_6 := cr_ c131_3

theorem S_towpathlaw01_markTxn {n_ : Int} {w : World} {R : T_api_Txn → World → Prop} (h : F_towpathlaw01_markTxn n_ R w) : C_towpathlaw01_markTxn n_ w R := by
 unfold F_towpathlaw01_markTxn at h
 unfold C_towpathlaw01_markTxn
 refine Calls.mono (calls_of_wpE (args := [Value.int .i64 n_]) (R := fun v w' => ∃ (r0 : T_api_Txn), v = Value.agg #[Value.int .i64 r0.Number, sv_ r0.Writes] ∧ R r0 w') Tryz.func131 (c := c131_0) (by kernel_rfl) 6 (by kernel_rfl) (by kernel_rfl) [(0, Value.int .i64 n_)] (by kernel_rfl) ?_) ?_
 · refine Zt r131_1 c131_3 ?_
   refine Zn [] 0 [(0, [], .int .i64 n_)] ?_
   refine Zw (some 2) (fun bb => pv_ bb) (Obj.cells ([.int .i64 0, .slice none 0 0]).toArray ty_api_Txn (0, 0)) (fun b_ w1 hb hw => ?_)
   replace h := h b_ w1 hb hw
   clear hb hw
   refine Ze [(0, .int .i64 n_), (2, pv_ b_)] ?_
   change WpE _ _ c131_3 _ _ _
   refine Zt r131_4 c131_6 ?_
   refine Zn P3 3 [(2, [], pv_ b_), (5, [], .agg #[.int .i64 (IntKind.i64.wrap ((-1000) - n_)), .slice none 0 0])] ?_
   obtain ⟨hc, h⟩ := h
   refine Zo 52 2 5 b_ 0 2 [.int .i64 (IntKind.i64.wrap ((-1000) - n_)), .slice none 0 0] hc (fun w2 hw => ?_)
   replace h := h w2 hw
   clear hw
   refine Ze [(2, pv_ b_)] ?_
   change WpE _ _ c131_6 _ _ _
   refine wpE_ret (by kernel_rfl) ?_
   obtain ⟨res, hc_res, h⟩ := h
   repeat (first | refine seqQ_ret ?_ | refine blockQ_ret ?_ | refine loopQ_ret ?_ | refine cutQ_ret ?_)
   exact retS (rs := [(ResultVar.cell 2 52)]) (v := Value.agg #[Value.int .i64 res.Number, sv_ res.Writes]) (by kernel_rfl) (⟨b_, 0, [Value.int .i64 res.Number, sv_ res.Writes], by kernel_rfl, hc_res, (sizeP_of (k := 2) (by kernel_rfl) (by kernel_rfl)), .inl ⟨by kernel_rfl, rfl⟩, trivial⟩) ⟨res, rfl, h⟩
 · rintro e w' ⟨v, rfl, r0, rfl, h⟩; exact ⟨r0, rfl, h⟩

/-! ### towpath/towpathlaw01.isInt (function 137) -/
def c137_0 := cb_ Tryz.f137
def c137_3 := cr_ c137_0
def c137_6 := cr_ c137_3

theorem S_towpathlaw01_isInt {x : Int} {n_ : Int} {w : World} {R : Bool → World → Prop} (h : F_towpathlaw01_isInt x n_ R w) : C_towpathlaw01_isInt x n_ w R := by
 unfold F_towpathlaw01_isInt at h
 unfold C_towpathlaw01_isInt
 refine Calls.mono (calls_of_wpE (args := [Value.int .i64 x, Value.int .i64 n_]) (R := fun v w' => ∃ (r0 : Bool), v = Value.bool r0 ∧ R r0 w') Tryz.func137 (c := c137_0) (by kernel_rfl) 9 (by kernel_rfl) (by kernel_rfl) [(0, Value.int .i64 x), (1, Value.int .i64 n_)] (by kernel_rfl) ?_) ?_
 · refine Zp c137_3 P1 [(0, .int .i64 x), (1, .int .i64 n_)] ?_
   refine Zp c137_6 (Pl 5) [(4, .bool (x == (IntKind.i64.wrap ((-1000) - n_))))] ?_
   refine wpE_ret (by kernel_rfl) ?_
   repeat (first | refine seqQ_ret ?_ | refine blockQ_ret ?_ | refine loopQ_ret ?_ | refine cutQ_ret ?_)
   exact retS (rs := [(ResultVar.tmp 4)]) (v := Value.bool (x == (IntKind.i64.wrap ((-1000) - n_)))) (by kernel_rfl) (⟨by kernel_rfl, trivial⟩) ⟨(x == (IntKind.i64.wrap ((-1000) - n_))), rfl, h⟩
 · rintro e w' ⟨v, rfl, r0, rfl, h⟩; exact ⟨r0, rfl, h⟩

/-! ### towpath/towpathlaw01.isWrite (function 139) -/
def c139_0 := cb_ Tryz.f139
def c139_1 := cl_ c139_0
def r139_1 := co_ c139_1
def c139_3 := cr_ c139_0
def c139_4 := cl_ c139_3
def r139_4 := co_ c139_4
def c139_6 := cr_ c139_3
def o_towpathlaw01_isWrite_4 : List Nat := [0, 1, 2, 3, 4, 5]

theorem S_towpathlaw01_isWrite {x : T_api_Write} {n_ : Int} {w : World} {R : Bool → World → Prop} (h : F_towpathlaw01_isWrite x n_ R w) : C_towpathlaw01_isWrite x n_ w R := by
 unfold F_towpathlaw01_isWrite at h
 unfold C_towpathlaw01_isWrite
 refine Calls.mono (calls_of_wpE (args := [Value.agg #[Value.string x.Key, Value.string x.Val, Value.bool x.Drop], Value.int .i64 n_]) (R := fun v w' => ∃ (r0 : Bool), v = Value.bool r0 ∧ R r0 w') Tryz.func139 (c := c139_0) (by kernel_rfl) 10 (by kernel_rfl) (by kernel_rfl) [(0, Value.agg #[Value.string x.Key, Value.string x.Val, Value.bool x.Drop]), (1, Value.int .i64 n_)] (by kernel_rfl) ?_) ?_
 · refine Zt r139_1 c139_3 ?_
   refine Zn [] 0 [(0, [], .agg #[.string x.Key, .string x.Val, .bool x.Drop]), (1, [], .int .i64 n_)] ?_
   refine Zw (some 2) (fun bb => pv_ bb) (Obj.cells ([.string x.Key, .string x.Val, .bool x.Drop]).toArray ty_api_Write (0, 0)) (fun b_ w1 hb hw => ?_)
   replace h := h b_ w1 hb hw
   clear hb hw
   refine Zf P1 [(1, .int .i64 n_), (2, pv_ b_)] ?_
   change WpE _ _ c139_3 _ _ _
   refine Zs c139_4 c139_6 ?_
   refine wpE_mixregion (id := 1) (ops := r139_4) o_towpathlaw01_isWrite_4 (by kernel_rfl) (by kernel_rfl) (by kernel_rfl) (by kernel_rfl) (fun w2 hw => ?_)
   replace h := h w2 hw
   clear hw
   refine mreg_run [] 0 [(1, [], Value.int .i64 n_), (2, [], pv_ b_)] (by kernel_rfl) (by kernel_rfl) ?_
   obtain ⟨v5, hc, h⟩ := h
   refine mreg_loadN (i := 0) (by kernel_rfl) (t := 139) (a := (Operand.tmp 2)) (b := b_) (o := 0) (ty := 139) (dst := some 5) [Value.string v5.Key, Value.string v5.Val, Value.bool v5.Drop] (by kernel_rfl) (by kernel_rfl) (by kernel_rfl) (k := 3) (by kernel_rfl) (by kernel_rfl) hc ?_
   refine mreg_run P1 2 [(5, [], Value.agg #[Value.string v5.Key, Value.string v5.Val, Value.bool v5.Drop]), (6, [], Value.int .i64 n_)] (by kernel_rfl) (by kernel_rfl) ?_
   refine mreg_enter (op := (Op.call (Call.mk (Callee.value (Operand.func 186)) #[(Operand.tmp 6)] #[3]))) (ty := 9) (dst := some 7) 2 [1] [(0, fun w' => CellsAt w' b_ 0 [Value.string v5.Key, Value.string v5.Val, Value.bool v5.Drop])] 186 #[Value.int .i64 n_] (by kernel_rfl) (by kernel_rfl) (by kernel_rfl) (by kernel_rfl) (by kernel_rfl) (fun ww => by kernel_rfl) (Calls.mono h ?_)
   rintro _ w3 ⟨v7, rfl, h⟩
   obtain ⟨hk0, h⟩ := h
   refine ⟨_, rfl, ⟨hk0, trivial⟩, ?_⟩
   refine mreg_run P1 4 [(5, [], Value.agg #[Value.string v5.Key, Value.string v5.Val, Value.bool v5.Drop]), (8, [], Value.agg #[Value.string v7, Value.string ByteArray.empty, Value.bool false])] (by kernel_rfl) (by kernel_rfl) ?_
   refine mreg_val (i := 4) (by kernel_rfl) (op := (Op.binOp BinOp.eql 139 (Operand.tmp 5) (Operand.tmp 8) 139)) (ty := 4) (dst := some 9) (Value.bool (((v5.Key == v7) && (v5.Val == ByteArray.empty)) && (v5.Drop == false))) (by kernel_rfl) (fun ww => run_struct_eql (xs := [Value.string v5.Key, Value.string v5.Val, Value.bool v5.Drop]) (ys := [Value.string v7, Value.string ByteArray.empty, Value.bool false]) (by kernel_rfl) (by kernel_rfl) (by kernel_rfl) (by kernel_rfl) (by kernel_rfl) ww) ?_
   refine mreg_run P1 6 [(4, [], Value.bool (((v5.Key == v7) && (v5.Val == ByteArray.empty)) && (v5.Drop == false)))] (by kernel_rfl) (by kernel_rfl) ?_
   refine mreg_end [(4, Value.bool (((v5.Key == v7) && (v5.Val == ByteArray.empty)) && (v5.Drop == false)))] (by kernel_rfl) (by kernel_rfl) (by kernel_rfl) ?_
   change WpE _ _ c139_6 _ _ _
   refine wpE_ret (by kernel_rfl) ?_
   repeat (first | refine seqQ_ret ?_ | refine blockQ_ret ?_ | refine loopQ_ret ?_ | refine cutQ_ret ?_)
   exact retS (rs := [(ResultVar.tmp 4)]) (v := Value.bool (((v5.Key == v7) && (v5.Val == ByteArray.empty)) && (v5.Drop == false))) (by kernel_rfl) (⟨by kernel_rfl, trivial⟩) ⟨(((v5.Key == v7) && (v5.Val == ByteArray.empty)) && (v5.Drop == false)), rfl, h⟩
 · rintro e w' ⟨v, rfl, r0, rfl, h⟩; exact ⟨r0, rfl, h⟩

/-! ### towpath/towpathlaw01.isTxn (function 142) -/
def c142_0 := cb_ Tryz.f142
def c142_1 := cl_ c142_0
def r142_1 := co_ c142_1
def c142_3 := cr_ c142_0
def c142_4 := cl_ c142_3
def r142_4 := co_ c142_4
def c142_6 := cr_ c142_3

theorem S_towpathlaw01_isTxn {x : T_api_Txn} {n_ : Int} {w : World} {R : Bool → World → Prop} (h : F_towpathlaw01_isTxn x n_ R w) : C_towpathlaw01_isTxn x n_ w R := by
 unfold F_towpathlaw01_isTxn at h
 unfold C_towpathlaw01_isTxn
 refine Calls.mono (calls_of_wpE (args := [Value.agg #[Value.int .i64 x.Number, sv_ x.Writes], Value.int .i64 n_]) (R := fun v w' => ∃ (r0 : Bool), v = Value.bool r0 ∧ R r0 w') Tryz.func142 (c := c142_0) (by kernel_rfl) 16 (by kernel_rfl) (by kernel_rfl) [(0, Value.agg #[Value.int .i64 x.Number, sv_ x.Writes]), (1, Value.int .i64 n_)] (by kernel_rfl) ?_) ?_
 · refine Zt r142_1 c142_3 ?_
   refine Zn [] 0 [(0, [], .agg #[.int .i64 x.Number, sv_ x.Writes]), (1, [], .int .i64 n_)] ?_
   refine Zw (some 2) (fun bb => pv_ bb) (Obj.cells ([.int .i64 x.Number, sv_ x.Writes]).toArray ty_api_Txn (0, 0)) (fun b_ w1 hb hw => ?_)
   replace h := h b_ w1 hb hw
   clear hb hw
   refine Zf P1 [(1, .int .i64 n_), (2, pv_ b_)] ?_
   change WpE _ _ c142_3 _ _ _
   refine Zt r142_4 c142_6 ?_
   refine Zn P1 1 [(1, [], .int .i64 n_), (2, [], pv_ b_), (5, [], pv_ b_)] ?_
   obtain ⟨v6, hc, h⟩ := h
   refine Zl 3 5 b_ 0 3 6 hc ?_
   refine Zn (Pl 5) 7 [(10, [], .bool (v6 == (IntKind.i64.wrap ((-1000) - n_)))), (11, [(10, true)], .pointer (some ⟨b_, 1, none⟩))] ?_
   refine reg_split 10 (v6 == (IntKind.i64.wrap ((-1000) - n_))) (by kernel_rfl) (fun hb => ?_) (fun hb => ?_)
   · replace h := h.1 hb
     refine Zn [] 7 [(10, [], .bool true), (11, [], .pointer (some ⟨b_, 1, none⟩))] ?_
     refine Zn [] 7 [(10, [], .bool true), (11, [], .pointer (some ⟨b_, 1, none⟩))] ?_
     obtain ⟨v12, hc, h⟩ := h
     refine Zl 50 11 b_ 1 50 12 hc ?_
     refine Zf [.sure, .sure, .plain, .plain] [(4, .bool (((v12.len : Nat) : Int) == 0))] ?_
     change WpE _ _ c142_6 _ _ _
     refine wpE_ret (by kernel_rfl) ?_
     repeat (first | refine seqQ_ret ?_ | refine blockQ_ret ?_ | refine loopQ_ret ?_ | refine cutQ_ret ?_)
     exact retS (rs := [(ResultVar.tmp 4)]) (v := Value.bool (((v12.len : Nat) : Int) == 0)) (by kernel_rfl) (⟨by kernel_rfl, trivial⟩) ⟨(((v12.len : Nat) : Int) == 0), rfl, h⟩
   · replace h := h.2 hb
     refine Zn [] 7 [(10, [], .bool false), (11, [], undef)] ?_
     refine Zf [.skip, .skip, .skip, .plain, .plain] [(4, .bool false)] ?_
     change WpE _ _ c142_6 _ _ _
     refine wpE_ret (by kernel_rfl) ?_
     repeat (first | refine seqQ_ret ?_ | refine blockQ_ret ?_ | refine loopQ_ret ?_ | refine cutQ_ret ?_)
     exact retS (rs := [(ResultVar.tmp 4)]) (v := Value.bool false) (by kernel_rfl) (⟨by kernel_rfl, trivial⟩) ⟨false, rfl, h⟩
 · rintro e w' ⟨v, rfl, r0, rfl, h⟩; exact ⟨r0, rfl, h⟩

/-! ### (*towpath/towpathlaw01.Book).keepWrite (function 147) -/
def c147_0 := cb_ Tryz.f147
def c147_1 := cl_ c147_0
def r147_1 := co_ c147_1
def c147_3 := cr_ c147_0
def r147_3 := co_ c147_3
def o_towpathlaw01_Book_keepWrite_3 : List Nat := [0, 1, 2, 3, 4, 5, 6, 7, 8, 9, 10, 11, 12, 13, 14, 15]

theorem S_towpathlaw01_Book_keepWrite {b_ : Option Addr} {l_ : Slc} {w : World} {R : World → Prop} (h : F_towpathlaw01_Book_keepWrite b_ l_ R w) : C_towpathlaw01_Book_keepWrite b_ l_ w R := by
 unfold F_towpathlaw01_Book_keepWrite at h
 unfold C_towpathlaw01_Book_keepWrite
 refine Calls.mono (calls_of_wpE (args := [Value.pointer b_, sv_ l_]) (R := fun v w' => v = Value.tuple #[] ∧ R w') Tryz.func147 (c := c147_0) (by kernel_rfl) 26 (by kernel_rfl) (by kernel_rfl) [(0, Value.pointer b_), (1, sv_ l_)] (by kernel_rfl) ?_) ?_
 · refine Zt r147_1 c147_3 ?_
   refine Zn P1 1 [(0, [], .pointer b_), (1, [], sv_ l_), (4, [], .pointer b_)] ?_
   obtain ⟨hp_1, h⟩ := h
   refine Zv (fun pp => [(0, [], .pointer b_), (1, [], sv_ l_), (4, [], .pointer pp)]) hp_1 ?_
   refine Zn P1 2 [(0, [], .pointer b_), (1, [], sv_ l_), (4, [], .pointer (some ⟨(pblk b_), (poff b_), none⟩)), (5, [], .pointer (some ⟨(pblk b_), (poff b_), none⟩))] ?_
   refine Zn P1 3 [(0, [], .pointer b_), (1, [], sv_ l_), (4, [], .pointer (some ⟨(pblk b_), (poff b_), none⟩)), (6, [], .pointer (some ⟨(pblk b_), (poff b_), none⟩))] ?_
   obtain ⟨v7, hc, h⟩ := h
   refine Zl 3 6 (pblk b_) (poff b_) 3 7 hc ?_
   refine Zn P3 7 [(0, [], .pointer b_), (1, [], sv_ l_), (8, [], .int .i64 (IntKind.i64.wrap (v7 + 1))), (10, [], .pointer (some ⟨(pblk b_), (poff b_), none⟩))] ?_
   obtain ⟨hc, h⟩ := h
   refine Zo 3 10 8 (pblk b_) (poff b_) 1 [.int .i64 (IntKind.i64.wrap (v7 + 1))] hc (fun w1 hw => ?_)
   replace h := h w1 hw
   clear hw
   refine Ze [(0, .pointer b_), (1, sv_ l_)] ?_
   change WpE _ _ c147_3 _ _ _
   refine wpE_mixregion (id := 1) (ops := r147_3) o_towpathlaw01_Book_keepWrite_3 (by kernel_rfl) (by kernel_rfl) (by kernel_rfl) (by kernel_rfl) (fun w2 hw => ?_)
   replace h := h w2 hw
   clear hw
   refine mreg_run P2 2 [(0, [], Value.pointer b_), (1, [], sv_ l_), (11, [], Value.pointer b_), (12, [], Value.pointer b_)] (by kernel_rfl) (by kernel_rfl) ?_
   obtain ⟨hp_2, h⟩ := h
   refine mreg_conv [(0, [], Value.pointer b_), (1, [], sv_ l_), (11, [], Value.pointer b_), (12, [], Value.pointer (some ⟨(pblk b_), (poff b_), none⟩))] (congrArg (fun pp => ([(0, [], Value.pointer b_), (1, [], sv_ l_), (11, [], Value.pointer b_), (12, [], Value.pointer pp)] : GEnv)) hp_2) ?_
   refine mreg_run P1 3 [(0, [], Value.pointer b_), (1, [], sv_ l_), (11, [], Value.pointer b_), (12, [], Value.pointer (some ⟨(pblk b_), (poff b_), none⟩)), (13, [], Value.pointer (some ⟨(pblk b_), (poff b_), none⟩))] (by kernel_rfl) (by kernel_rfl) ?_
   refine mreg_run P1 4 [(0, [], Value.pointer b_), (1, [], sv_ l_), (11, [], Value.pointer b_), (14, [], Value.pointer (some ⟨(pblk b_), (poff b_) + 4, none⟩))] (by kernel_rfl) (by kernel_rfl) ?_
   obtain ⟨v15, hc, h⟩ := h
   refine mreg_load1 (i := 4) (by kernel_rfl) (t := 38) (a := (Operand.tmp 14)) (b := (pblk b_)) (o := ((poff b_) + 4)) (ty := 38) (dst := some 15) (by kernel_rfl) (by kernel_rfl) (by kernel_rfl) hc ?_
   refine mreg_run P2 7 [(11, [], Value.pointer b_), (15, [], sv_ v15), (16, [], sv_ l_), (17, [], Value.pointer b_)] (by kernel_rfl) (by kernel_rfl) ?_
   obtain ⟨hp_3, h⟩ := h
   refine mreg_conv [(11, [], Value.pointer b_), (15, [], sv_ v15), (16, [], sv_ l_), (17, [], Value.pointer (some ⟨(pblk b_), (poff b_), none⟩))] (congrArg (fun pp => ([(11, [], Value.pointer b_), (15, [], sv_ v15), (16, [], sv_ l_), (17, [], Value.pointer pp)] : GEnv)) hp_3) ?_
   refine mreg_run P1 8 [(11, [], Value.pointer b_), (15, [], sv_ v15), (16, [], sv_ l_), (17, [], Value.pointer (some ⟨(pblk b_), (poff b_), none⟩)), (18, [], Value.pointer (some ⟨(pblk b_), (poff b_), none⟩))] (by kernel_rfl) (by kernel_rfl) ?_
   refine mreg_run P1 9 [(11, [], Value.pointer b_), (15, [], sv_ v15), (16, [], sv_ l_), (19, [], Value.pointer (some ⟨(pblk b_), (poff b_), none⟩))] (by kernel_rfl) (by kernel_rfl) ?_
   obtain ⟨v20, hc, h⟩ := h
   refine mreg_load1 (i := 9) (by kernel_rfl) (t := 3) (a := (Operand.tmp 19)) (b := (pblk b_)) (o := (poff b_)) (ty := 3) (dst := some 20) (by kernel_rfl) (by kernel_rfl) (by kernel_rfl) hc ?_
   refine mreg_run P1 11 [(11, [], Value.pointer b_), (15, [], sv_ v15), (21, [], Value.agg #[sv_ l_, Value.slice none 0 0, Value.int .i64 v20])] (by kernel_rfl) (by kernel_rfl) ?_
   refine mreg_new (op := (Op.buildSlice 38 1 #[(0, (Operand.tmp 21))])) (ty := 38) (dst := some 22) 11 [10, 5, 9, 8, 7, 6] [(4, fun w' => w'.cell? ⟨(pblk b_), (poff b_) + 4, none⟩ = some (sv_ v15))] (fun bb => Value.slice (some ⟨bb, 0, none⟩) 1 1) (Obj.cells ([sv_ l_, Value.slice none 0 0, Value.int .i64 v20]).toArray ty_towpathlaw01_heldWrite (0, 0)) (by kernel_rfl) (by kernel_rfl) (by kernel_rfl) (by kernel_rfl) (by kernel_rfl) (by kernel_rfl) (fun b_1 w3 hb hw => ?_)
   replace h := h b_1 w3 hb hw
   clear hb hw
   obtain ⟨hk0, h⟩ := h
   refine ⟨⟨hk0, trivial⟩, ?_⟩
   refine mreg_run [] 12 [(11, [], Value.pointer b_), (15, [], sv_ v15), (22, [], Value.slice (some ⟨b_1, 0, none⟩) 1 1)] (by kernel_rfl) (by kernel_rfl) ?_
   obtain ⟨src, hs, h⟩ := h
   refine mreg_append (t := 38) (tx := 38) (e := 153) (a := (Operand.tmp 15)) (xo := (Operand.tmp 22)) (s := v15) (x := (Slc.mk (some ⟨b_1, 0, none⟩) 1 1)) (sz := 3) (by_ := 56) (zs := [Value.slice none 0 0, Value.slice none 0 0, Value.int .i64 0]) (ty := 38) (dst := some 23) 12 [4, 11, 3, 10, 2, 5, 9, 1, 8, 7, 6] [] src (by kernel_rfl) (by kernel_rfl) (by kernel_rfl) (by kernel_rfl) (by kernel_rfl) (by kernel_rfl) (by kernel_rfl) (by kernel_rfl) (by kernel_rfl) (by kernel_rfl) (by kernel_rfl) (by kernel_rfl) (by kernel_rfl) hs (AppendW.mono h (fun v23 w4 h => ?_))
   refine ⟨trivial, ?_⟩
   refine mreg_run [] 13 [(11, [], Value.pointer b_), (23, [], sv_ v23)] (by kernel_rfl) (by kernel_rfl) ?_
   obtain ⟨hp_4, h⟩ := h
   refine mreg_conv [(11, [], Value.pointer (some ⟨(pblk b_), (poff b_), none⟩)), (23, [], sv_ v23)] (congrArg (fun pp => ([(11, [], Value.pointer pp), (23, [], sv_ v23)] : GEnv)) hp_4) ?_
   refine mreg_run P1 14 [(11, [], Value.pointer (some ⟨(pblk b_), (poff b_), none⟩)), (23, [], sv_ v23), (24, [], Value.pointer (some ⟨(pblk b_), (poff b_), none⟩))] (by kernel_rfl) (by kernel_rfl) ?_
   refine mreg_run P1 15 [(23, [], sv_ v23), (25, [], Value.pointer (some ⟨(pblk b_), (poff b_) + 4, none⟩))] (by kernel_rfl) (by kernel_rfl) ?_
   obtain ⟨hc, h⟩ := h
   refine mreg_store (t := 38) (a := (Operand.tmp 25)) (x := (Operand.tmp 23)) (b := (pblk b_)) (o := ((poff b_) + 4)) (k := 1) (ty := 0) (dst := none) 15 [0, 1, 2, 3, 4, 5, 6, 7, 8, 9, 10, 11, 12, 14, 13] [] [sv_ v23] (by kernel_rfl) (by kernel_rfl) (by kernel_rfl) (by kernel_rfl) (by kernel_rfl) (by kernel_rfl) (by kernel_rfl) (by kernel_rfl) (by kernel_rfl) (by kernel_rfl) hc (fun w5 hw => ?_)
   replace h := h w5 hw
   clear hw
   refine ⟨trivial, ?_⟩
   refine mreg_end [] (by kernel_rfl) (by kernel_rfl) (by kernel_rfl) ?_
   repeat (first | refine seqQ_exit ?_ | refine loopQ_exit ?_ | refine cutQ_exit ?_ | refine blockQ_hit ?_ | refine blockQ_miss (by kernel_rfl) ?_)
   refine retQ_normal ?_
   repeat (first | refine seqQ_ret ?_ | refine blockQ_ret ?_ | refine loopQ_ret ?_ | refine cutQ_ret ?_)
   exact retT (rs := []) (vs := []) (by kernel_rfl) (trivial) (by kernel_rfl) ⟨rfl, h⟩
 · rintro e w' ⟨v, rfl, rfl, h⟩; exact ⟨rfl, h⟩

/-! ### towpath/towpathlaw01.word (function 186) -/
def c186_0 := cb_ Tryz.f186
def c186_3 := cr_ c186_0
def c186_4 := cl_ c186_3
def r186_4 := co_ c186_4
def c186_6 := cr_ c186_3

theorem S_towpathlaw01_word {n_ : Int} {w : World} {R : ByteArray → World → Prop} (h : F_towpathlaw01_word n_ R w) : C_towpathlaw01_word n_ w R := by
 unfold F_towpathlaw01_word at h
 unfold C_towpathlaw01_word
 refine Calls.mono (calls_of_wpE (args := [Value.int .i64 n_]) (R := fun v w' => ∃ (r0 : ByteArray), v = Value.string r0 ∧ R r0 w') Tryz.func186 (c := c186_0) (by kernel_rfl) 6 (by kernel_rfl) (by kernel_rfl) [(0, Value.int .i64 n_)] (by kernel_rfl) ?_) ?_
 · refine Zp c186_3 P1 [(0, .int .i64 n_)] ?_
   refine Zt r186_4 c186_6 ?_
   refine Zn P1 1 [(3, [], .int .i64 n_)] ?_
   refine Zm 207 #[.int .i64 n_] (some 4) (Calls.mono h ?_)
   rintro _ w1 ⟨v4, rfl, h⟩
   refine ⟨_, rfl, ?_⟩
   refine Zn [] 2 [(4, [], .string v4)] ?_
   obtain ⟨h0, h⟩ := h
   refine reg_val (op := (Op.binOp BinOp.add 9 (Operand.const (Value.string (ByteArray.mk #[35]))) (Operand.tmp 4) 9)) (ty := 9) (dst := some 5) (Value.string ((ByteArray.mk #[35]) ++ v4)) (by kernel_rfl) (fun ww => run_stradd (by kernel_rfl) (by kernel_rfl) h0 ww) ?_
   refine Zf P1 [(2, .string ((ByteArray.mk #[35]) ++ v4))] ?_
   change WpE _ _ c186_6 _ _ _
   refine wpE_ret (by kernel_rfl) ?_
   repeat (first | refine seqQ_ret ?_ | refine blockQ_ret ?_ | refine loopQ_ret ?_ | refine cutQ_ret ?_)
   exact retS (rs := [(ResultVar.tmp 2)]) (v := Value.string ((ByteArray.mk #[35]) ++ v4)) (by kernel_rfl) (⟨by kernel_rfl, trivial⟩) ⟨((ByteArray.mk #[35]) ++ v4), rfl, h⟩
 · rintro e w' ⟨v, rfl, r0, rfl, h⟩; exact ⟨r0, rfl, h⟩
end
end Go.Proofs.YtpdegdnigcnjiaaGreatDoor
