/- WRITTEN BY PROGRAM (dec.py): for each Go function the clean formula F, the call's contract C, and the proof S that F gives C. -/
import Derived.Test.YtfmkemmgakdddaaGreatDoorRows
import Derived.Test.YtfmkemmgakdddaaGreatDoorGF
namespace Go.Proofs.YtfmkemmgakdddaaGreatDoor
open Go
set_option linter.unusedVariables false
set_option maxRecDepth 100000
set_option maxHeartbeats 4000000

/-! ### towpath/towpathlaw01.LeftWrites (function 30) -/
noncomputable def c30_0 := (Tryz.f30.body).getD Code.skip
noncomputable def c30_3 := Code.r c30_0
noncomputable def c30_4 := Code.l c30_3
noncomputable def c30_7 := Code.r c30_4
noncomputable def c30_8 := Code.l c30_7
noncomputable def c30_11 := Code.r c30_8
noncomputable def c30_12 := Code.r c30_7
noncomputable def c30_13 := Code.r c30_3
noncomputable def c30_14 := Code.l c30_13
noncomputable def c30_17 := Code.r c30_14
noncomputable def c30_18 := Code.l c30_17
noncomputable def c30_19 := Code.l c30_18
noncomputable def c30_20 := Code.l c30_19
noncomputable def c30_23 := Code.r c30_20
noncomputable def c30_24 := Code.l c30_23
noncomputable def c30_25 := Code.r c30_23
noncomputable def c30_26 := Code.r c30_19
noncomputable def c30_27 := Code.l c30_26
noncomputable def c30_28 := Code.l c30_27
noncomputable def c30_29 := Code.l c30_28
noncomputable def r30_29 := Code.ops c30_29
noncomputable def c30_31 := Code.r c30_28
noncomputable def c30_32 := Code.l c30_31
noncomputable def c30_35 := Code.r c30_32
noncomputable def c30_36 := Code.r c30_31
noncomputable def c30_37 := Code.r c30_26
noncomputable def r30_37 := Code.ops c30_37
noncomputable def c30_39 := Code.r c30_13
noncomputable def c30_40 := Code.l c30_39
noncomputable def r30_40 := Code.ops c30_40
noncomputable def c30_42 := Code.r c30_39
noncomputable def c30_43 := Code.l c30_42
noncomputable def r30_43 := Code.ops c30_43
noncomputable def c30_45 := Code.r c30_42

theorem S_towpathlaw01_LeftWrites {t_ : Slc} {l_ : Slc} {w : World} {R : Bool → World → Prop} (h : F_towpathlaw01_LeftWrites t_ l_ R w) : C_towpathlaw01_LeftWrites t_ l_ w R := by
  unfold F_towpathlaw01_LeftWrites at h
  unfold C_towpathlaw01_LeftWrites
  refine Calls.mono (calls_of_wpE (args := [Value.slice t_.ptr t_.len t_.cap, Value.slice l_.ptr l_.len l_.cap]) (R := fun v w' => ∃ (r0 : Bool), v = Value.bool r0 ∧ R r0 w') Tryz.func30 (c := c30_0) (by kernel_rfl) 46 (by kernel_rfl) (by kernel_rfl) [(0, Value.slice t_.ptr t_.len t_.cap), (1, Value.slice l_.ptr l_.len l_.cap)] (by kernel_rfl) ?_) ?_
  · refine Zp c30_3 P1 [(0, .slice t_.ptr t_.len t_.cap), (1, .slice l_.ptr l_.len l_.cap)] ?_
    refine Zs c30_4 c30_13 ?_
    refine Zp c30_7 [.plain, .plain, .plain, .plain, .plain, .plain, .plain, .plain, .plain, .plain, .plain, .pick] [(0, .slice t_.ptr t_.len t_.cap), (1, .slice l_.ptr l_.len l_.cap), (18, .bool ((((t_.len : Nat) : Int) != ((l_.len : Nat) : Int)) || (decide (((t_.cap : Nat) : Int) ≤ ((l_.len : Nat) : Int)))))] ?_
    refine Zc 18 ((((t_.len : Nat) : Int) != ((l_.len : Nat) : Int)) || (decide (((t_.cap : Nat) : Int) ≤ ((l_.len : Nat) : Int)))) c30_8 c30_12 (fun hb => ?_) (fun hb => ?_)
    · replace h := h.1 hb
      refine Zp c30_11 P1 [(4, .bool false)] ?_
      refine wpE_ret (by kernel_rfl) ?_
      repeat (first | refine seqQ_ret ?_ | refine blockQ_ret ?_ | refine loopQ_ret ?_ | refine cutQ_ret ?_)
      exact retS (rs := [(ResultVar.tmp 4)]) (v := Value.bool false) (by kernel_rfl) (⟨by kernel_rfl, trivial⟩) ⟨false, rfl, h⟩
    · replace h := h.2 hb
      refine wpE_skip (by kernel_rfl) ?_
      change WpE _ _ c30_13 _ _ _
      refine Zs c30_14 c30_39 ?_
      refine Zp c30_17 P1 [(0, .slice t_.ptr t_.len t_.cap), (1, .slice l_.ptr l_.len l_.cap), (5, .int .i64 0)] ?_
      refine Zb 0 c30_18 ?_
      obtain ⟨I, μ, h0, hr⟩ := h
      refine wpE_loop (x := c30_19) (by kernel_rfl) (fun m l w => ∃ (i : Int), l = [(0, Value.slice t_.ptr t_.len t_.cap), (1, Value.slice l_.ptr l_.len l_.cap), (5, Value.int .i64 i)] ∧ I i w ∧ μ i w = m) (l' := [(0, Value.slice t_.ptr t_.len t_.cap), (1, Value.slice l_.ptr l_.len l_.cap), (5, Value.int .i64 0)]) (Sub.mk (by kernel_rfl)) ⟨0, rfl, h0, rfl⟩ ?_
      rintro _ _ w1 ⟨i, rfl, hI, rfl⟩
      obtain ⟨again_, again__h, h⟩ : ∃ again_ : Int → World → Prop, (∀ i' w', again_ i' w' → I i' w' ∧ μ i' w' < μ i w1) ∧ F_towpathlaw01_LeftWrites_L0 t_ l_ R again_ i w1 := ⟨_, fun _ _ h => h, hr i w1 hI⟩
      clear h0 hI
      unfold F_towpathlaw01_LeftWrites_L0 at h
      refine Zs c30_20 c30_26 ?_
      refine Zp c30_23 P4 [(0, .slice t_.ptr t_.len t_.cap), (1, .slice l_.ptr l_.len l_.cap), (5, .int .i64 i), (22, .bool (decide (i < ((l_.len : Nat) : Int))))] ?_
      refine Zc 22 (decide (i < ((l_.len : Nat) : Int))) c30_24 c30_25 (fun hb => ?_) (fun hb => ?_)
      · replace h := h.1 hb
        refine wpE_skip (by kernel_rfl) ?_
        change WpE _ _ c30_26 _ _ _
        refine Zs c30_27 c30_37 ?_
        refine Zb 1 c30_28 ?_
        refine Zs c30_29 c30_31 ?_
        refine wpE_drawregion (id := 6) (ops := r30_29) (by kernel_rfl) (by kernel_rfl) (by kernel_rfl) ?_
        refine qreg_run P2 2 [(0, [], Value.slice t_.ptr t_.len t_.cap), (1, [], Value.slice l_.ptr l_.len l_.cap), (5, [], Value.int .i64 i), (25, [], Value.slice t_.ptr t_.len t_.cap), (26, [], Value.int .i64 i)] (by kernel_rfl) (by kernel_rfl) ?_
        obtain ⟨hp_14, h⟩ := h
        refine qreg_conv [(0, [], Value.slice t_.ptr t_.len t_.cap), (1, [], Value.slice l_.ptr l_.len l_.cap), (5, [], Value.int .i64 i), (25, [], Value.slice (some ⟨(pblk t_.ptr), (poff t_.ptr), none⟩) t_.len t_.cap), (26, [], Value.int .i64 i)] (congrArg (fun pp => ([(0, [], Value.slice t_.ptr t_.len t_.cap), (1, [], Value.slice l_.ptr l_.len l_.cap), (5, [], Value.int .i64 i), (25, [], Value.slice pp t_.len t_.cap), (26, [], Value.int .i64 i)] : GEnv)) hp_14) ?_
        obtain ⟨h0, h1, h⟩ := h
        refine qreg_indexS (t := 22) (e := 62) (x := (Operand.tmp 25)) (ix := (Operand.tmp 26)) (b := (pblk t_.ptr)) (o := (poff t_.ptr)) (l := t_.len) (c := t_.cap) (k := .i64) (j := i) (ty := 0) (dst := some 27) (sz := 3) (by kernel_rfl) (by kernel_rfl) (by kernel_rfl) (by kernel_rfl) (by kernel_rfl) h0 h1 ?_
        refine qreg_run [] 3 [(0, [], Value.slice t_.ptr t_.len t_.cap), (1, [], Value.slice l_.ptr l_.len l_.cap), (5, [], Value.int .i64 i), (27, [], Value.pointer (some ⟨(pblk t_.ptr), (poff t_.ptr) + i.toNat * 3, none⟩))] (by kernel_rfl) (by kernel_rfl) ?_
        obtain ⟨v28, hc, h⟩ := h
        refine qreg_loadN (t := 62) (a := (Operand.tmp 27)) (b := (pblk t_.ptr)) (o := ((poff t_.ptr) + i.toNat * 3)) (ty := 62) (dst := some 28) [Value.string v28.Key, Value.string v28.Val, Value.bool v28.Drop] (by kernel_rfl) (by kernel_rfl) (by kernel_rfl) (k := 3) (by kernel_rfl) (by kernel_rfl) hc ?_
        refine qreg_run P2 6 [(0, [], Value.slice t_.ptr t_.len t_.cap), (1, [], Value.slice l_.ptr l_.len l_.cap), (5, [], Value.int .i64 i), (28, [], Value.agg #[Value.string v28.Key, Value.string v28.Val, Value.bool v28.Drop]), (29, [], Value.slice l_.ptr l_.len l_.cap), (30, [], Value.int .i64 i)] (by kernel_rfl) (by kernel_rfl) ?_
        obtain ⟨hp_15, h⟩ := h
        refine qreg_conv [(0, [], Value.slice t_.ptr t_.len t_.cap), (1, [], Value.slice l_.ptr l_.len l_.cap), (5, [], Value.int .i64 i), (28, [], Value.agg #[Value.string v28.Key, Value.string v28.Val, Value.bool v28.Drop]), (29, [], Value.slice (some ⟨(pblk l_.ptr), (poff l_.ptr), none⟩) l_.len l_.cap), (30, [], Value.int .i64 i)] (congrArg (fun pp => ([(0, [], Value.slice t_.ptr t_.len t_.cap), (1, [], Value.slice l_.ptr l_.len l_.cap), (5, [], Value.int .i64 i), (28, [], Value.agg #[Value.string v28.Key, Value.string v28.Val, Value.bool v28.Drop]), (29, [], Value.slice pp l_.len l_.cap), (30, [], Value.int .i64 i)] : GEnv)) hp_15) ?_
        obtain ⟨h0, h1, h⟩ := h
        refine qreg_indexS (t := 22) (e := 62) (x := (Operand.tmp 29)) (ix := (Operand.tmp 30)) (b := (pblk l_.ptr)) (o := (poff l_.ptr)) (l := l_.len) (c := l_.cap) (k := .i64) (j := i) (ty := 0) (dst := some 31) (sz := 3) (by kernel_rfl) (by kernel_rfl) (by kernel_rfl) (by kernel_rfl) (by kernel_rfl) h0 h1 ?_
        refine qreg_run [] 7 [(0, [], Value.slice t_.ptr t_.len t_.cap), (1, [], Value.slice l_.ptr l_.len l_.cap), (5, [], Value.int .i64 i), (28, [], Value.agg #[Value.string v28.Key, Value.string v28.Val, Value.bool v28.Drop]), (31, [], Value.pointer (some ⟨(pblk l_.ptr), (poff l_.ptr) + i.toNat * 3, none⟩))] (by kernel_rfl) (by kernel_rfl) ?_
        obtain ⟨v32, hc, h⟩ := h
        refine qreg_loadN (t := 62) (a := (Operand.tmp 31)) (b := (pblk l_.ptr)) (o := ((poff l_.ptr) + i.toNat * 3)) (ty := 62) (dst := some 32) [Value.string v32.Key, Value.string v32.Val, Value.bool v32.Drop] (by kernel_rfl) (by kernel_rfl) (by kernel_rfl) (k := 3) (by kernel_rfl) (by kernel_rfl) hc ?_
        refine qreg_run [] 8 [(0, [], Value.slice t_.ptr t_.len t_.cap), (1, [], Value.slice l_.ptr l_.len l_.cap), (5, [], Value.int .i64 i), (28, [], Value.agg #[Value.string v28.Key, Value.string v28.Val, Value.bool v28.Drop]), (32, [], Value.agg #[Value.string v32.Key, Value.string v32.Val, Value.bool v32.Drop])] (by kernel_rfl) (by kernel_rfl) ?_
        refine qreg_val (op := (Op.binOp BinOp.neq 62 (Operand.tmp 28) (Operand.tmp 32) 62)) (ty := 4) (dst := some 33) (Value.bool (!(((v28.Key == v32.Key) && (v28.Val == v32.Val)) && (v28.Drop == v32.Drop)))) (by kernel_rfl) (fun ww => run_struct_neq (xs := [Value.string v28.Key, Value.string v28.Val, Value.bool v28.Drop]) (ys := [Value.string v32.Key, Value.string v32.Val, Value.bool v32.Drop]) (by kernel_rfl) (by kernel_rfl) (by kernel_rfl) (by kernel_rfl) (by kernel_rfl) ww) ?_
        refine qreg_end [(0, Value.slice t_.ptr t_.len t_.cap), (1, Value.slice l_.ptr l_.len l_.cap), (5, Value.int .i64 i), (33, Value.bool (!(((v28.Key == v32.Key) && (v28.Val == v32.Val)) && (v28.Drop == v32.Drop))))] (by kernel_rfl) (by kernel_rfl) (fun w2 hw => ?_)
        replace h := h w2 hw
        clear hw
        change WpE _ _ c30_31 _ _ _
        refine Zc 33 (!(((v28.Key == v32.Key) && (v28.Val == v32.Val)) && (v28.Drop == v32.Drop))) c30_32 c30_36 (fun hb => ?_) (fun hb => ?_)
        · replace h := h.1 hb
          refine Zp c30_35 P1 [(4, .bool false)] ?_
          refine wpE_ret (by kernel_rfl) ?_
          repeat (first | refine seqQ_ret ?_ | refine blockQ_ret ?_ | refine loopQ_ret ?_ | refine cutQ_ret ?_)
          exact retS (rs := [(ResultVar.tmp 4)]) (v := Value.bool false) (by kernel_rfl) (⟨by kernel_rfl, trivial⟩) ⟨false, rfl, h⟩
        · replace h := h.2 hb
          refine wpE_skip (by kernel_rfl) ?_
          change WpE _ _ c30_37 _ _ _
          refine Zr r30_37 ?_
          refine Zf P3 [(0, .slice t_.ptr t_.len t_.cap), (1, .slice l_.ptr l_.len l_.cap), (5, .int .i64 (IntKind.i64.wrap (i + 1)))] ?_
          have hb_ := again__h _ _ h
          exact ⟨_, hb_.2, [(0, Value.slice t_.ptr t_.len t_.cap), (1, Value.slice l_.ptr l_.len l_.cap), (5, Value.int .i64 (IntKind.i64.wrap (i + 1)))], Sub.mk (by kernel_rfl), (IntKind.i64.wrap (i + 1)), rfl, hb_.1, rfl⟩
      · replace h := h.2 hb
        refine wpE_exit (id := 0) (by kernel_rfl) ?_
        change WpE _ _ c30_39 _ _ _
        refine Zt r30_40 c30_42 ?_
        refine Zn P4 4 [(1, [], .slice l_.ptr l_.len l_.cap), (34, [], .slice t_.ptr t_.len t_.cap), (37, [], .int .i64 (IntKind.i64.wrap (((l_.len : Nat) : Int) + 1)))] ?_
        obtain ⟨h0, h1, h⟩ := h
        refine reg_sliceHi (t := 22) (e := 62) (x := (Operand.tmp 34)) (hi := (Operand.tmp 37)) (p := t_.ptr) (l := t_.len) (c := t_.cap) (sz := 3) (k := .i64) (j := (IntKind.i64.wrap (((l_.len : Nat) : Int) + 1))) (ty := 22) (dst := some 38) (by kernel_rfl) (by kernel_rfl) (by kernel_rfl) (by kernel_rfl) (by kernel_rfl) h0 h1 ?_
        refine Zn P2 7 [(38, [], .slice t_.ptr ((IntKind.i64.wrap (((l_.len : Nat) : Int) + 1)).toNat) t_.cap), (40, [], .int .i64 ((l_.len : Nat) : Int))] ?_
        obtain ⟨hp_17, h⟩ := h
        refine Zv (fun pp => [(38, [], .slice pp ((IntKind.i64.wrap (((l_.len : Nat) : Int) + 1)).toNat) t_.cap), (40, [], .int .i64 ((l_.len : Nat) : Int))]) hp_17 ?_
        obtain ⟨h0, h1, h⟩ := h
        refine Zj 22 62 38 40 (pblk t_.ptr) (poff t_.ptr) ((IntKind.i64.wrap (((l_.len : Nat) : Int) + 1)).toNat) t_.cap ((l_.len : Nat) : Int) 3 41 0 h0 h1 ?_
        refine Zn [] 8 [(41, [], .pointer (some ⟨(pblk t_.ptr), (poff t_.ptr) + ((l_.len : Nat) : Int).toNat * 3, none⟩))] ?_
        obtain ⟨v42, hc, h⟩ := h
        refine reg_loadN (t := 62) (a := (Operand.tmp 41)) (b := (pblk t_.ptr)) (o := ((poff t_.ptr) + ((l_.len : Nat) : Int).toNat * 3)) (ty := 62) (dst := some 42) [Value.string v42.Key, Value.string v42.Val, Value.bool v42.Drop] (by kernel_rfl) (by kernel_rfl) (by kernel_rfl) (k := 3) (by kernel_rfl) (by kernel_rfl) hc ?_
        refine Zn [] 9 [(42, [], .agg #[.string v42.Key, .string v42.Val, .bool v42.Drop])] ?_
        refine Zw (some 6) (fun bb => .pointer (some ⟨bb, 0, none⟩)) (Obj.cells ([.string ByteArray.empty, .string ByteArray.empty, .bool false]).toArray ty_api_Write (0, 0)) (fun b_ w3 hb hw => ?_)
        replace h := h b_ w3 hb hw
        clear hb hw
        refine Zn [] 10 [(6, [], .pointer (some ⟨b_, 0, none⟩)), (42, [], .agg #[.string v42.Key, .string v42.Val, .bool v42.Drop])] ?_
        obtain ⟨hc, h⟩ := h
        refine Zo 62 6 42 b_ 0 3 [.string v42.Key, .string v42.Val, .bool v42.Drop] hc (fun w4 hw => ?_)
        replace h := h w4 hw
        clear hw
        refine Ze [(6, .pointer (some ⟨b_, 0, none⟩))] ?_
        change WpE _ _ c30_42 _ _ _
        refine Zt r30_43 c30_45 ?_
        refine Zn [] 0 [(6, [], .pointer (some ⟨b_, 0, none⟩))] ?_
        obtain ⟨v43, hc, h⟩ := h
        refine reg_loadN (t := 62) (a := (Operand.tmp 6)) (b := b_) (o := 0) (ty := 62) (dst := some 43) [Value.string v43.Key, Value.string v43.Val, Value.bool v43.Drop] (by kernel_rfl) (by kernel_rfl) (by kernel_rfl) (k := 3) (by kernel_rfl) (by kernel_rfl) hc ?_
        refine Zn P1 2 [(43, [], .agg #[.string v43.Key, .string v43.Val, .bool v43.Drop]), (44, [], .agg #[.string (ByteArray.mk #[115, 112, 97, 114, 101]), .string ByteArray.empty, .bool false])] ?_
        refine reg_val (op := (Op.binOp BinOp.eql 62 (Operand.tmp 43) (Operand.tmp 44) 62)) (ty := 4) (dst := some 45) (Value.bool (((v43.Key == (ByteArray.mk #[115, 112, 97, 114, 101])) && (v43.Val == ByteArray.empty)) && (v43.Drop == false))) (by kernel_rfl) (fun ww => run_struct_eql (xs := [Value.string v43.Key, Value.string v43.Val, Value.bool v43.Drop]) (ys := [Value.string (ByteArray.mk #[115, 112, 97, 114, 101]), Value.string ByteArray.empty, Value.bool false]) (by kernel_rfl) (by kernel_rfl) (by kernel_rfl) (by kernel_rfl) (by kernel_rfl) ww) ?_
        refine Zf P1 [(4, .bool (((v43.Key == (ByteArray.mk #[115, 112, 97, 114, 101])) && (v43.Val == ByteArray.empty)) && (v43.Drop == false)))] ?_
        change WpE _ _ c30_45 _ _ _
        refine wpE_ret (by kernel_rfl) ?_
        repeat (first | refine seqQ_ret ?_ | refine blockQ_ret ?_ | refine loopQ_ret ?_ | refine cutQ_ret ?_)
        exact retS (rs := [(ResultVar.tmp 4)]) (v := Value.bool (((v43.Key == (ByteArray.mk #[115, 112, 97, 114, 101])) && (v43.Val == ByteArray.empty)) && (v43.Drop == false))) (by kernel_rfl) (⟨by kernel_rfl, trivial⟩) ⟨(((v43.Key == (ByteArray.mk #[115, 112, 97, 114, 101])) && (v43.Val == ByteArray.empty)) && (v43.Drop == false)), rfl, h⟩
  · rintro e w' ⟨v, rfl, r0, rfl, h⟩; exact ⟨r0, rfl, h⟩

/-! ### (*towpath/towpathlaw01.Book).Writes (function 31) -/
noncomputable def c31_0 := (Tryz.f31.body).getD Code.skip
noncomputable def r31_0 := Code.ops c31_0

theorem S_towpathlaw01_Book_Writes {b_ : Option Addr} {l_ : Slc} {w : World} {R : World → Prop} (h : F_towpathlaw01_Book_Writes b_ l_ R w) : C_towpathlaw01_Book_Writes b_ l_ w R := by
  unfold F_towpathlaw01_Book_Writes at h
  unfold C_towpathlaw01_Book_Writes
  refine Calls.mono (calls_of_wpE (args := [Value.pointer b_, Value.slice l_.ptr l_.len l_.cap]) (R := fun v w' => v = Value.tuple #[] ∧ R w') Tryz.func31 (c := c31_0) (by kernel_rfl) 7 (by kernel_rfl) (by kernel_rfl) [(0, Value.pointer b_), (1, Value.slice l_.ptr l_.len l_.cap)] (by kernel_rfl) ?_) ?_
  · refine Zr r31_0 ?_
    refine Zn P2 2 [(4, [], .pointer b_), (5, [], .slice l_.ptr l_.len l_.cap)] ?_
    refine Zm 71 #[.pointer b_, .slice l_.ptr l_.len l_.cap] (some 6) (Calls.mono h ?_)
    rintro _ w1 ⟨rfl, h⟩
    refine ⟨_, rfl, ?_⟩
    refine Ze [] ?_
    repeat (first | refine seqQ_exit ?_ | refine loopQ_exit ?_ | refine cutQ_exit ?_ | refine blockQ_hit ?_ | refine blockQ_miss (by kernel_rfl) ?_)
    refine retQ_normal ?_
    repeat (first | refine seqQ_ret ?_ | refine blockQ_ret ?_ | refine loopQ_ret ?_ | refine cutQ_ret ?_)
    exact retT (rs := []) (vs := []) (by kernel_rfl) (trivial) (by kernel_rfl) ⟨rfl, h⟩
  · rintro e w' ⟨v, rfl, rfl, h⟩; exact ⟨rfl, h⟩

/-! ### (*towpath/towpathlaw01.Book).keepByte (function 32) -/
noncomputable def c32_0 := (Tryz.f32.body).getD Code.skip
noncomputable def c32_1 := Code.l c32_0
noncomputable def r32_1 := Code.ops c32_1
noncomputable def c32_3 := Code.r c32_0
noncomputable def r32_3 := Code.ops c32_3
def o_towpathlaw01_Book_keepByte_3 : List Nat := [0, 1, 2, 3, 4, 5, 6, 7, 8, 9, 10, 11, 12, 13, 14, 15]

theorem S_towpathlaw01_Book_keepByte {b_ : Option Addr} {l_ : Slc} {w : World} {R : World → Prop} (h : F_towpathlaw01_Book_keepByte b_ l_ R w) : C_towpathlaw01_Book_keepByte b_ l_ w R := by
  unfold F_towpathlaw01_Book_keepByte at h
  unfold C_towpathlaw01_Book_keepByte
  refine Calls.mono (calls_of_wpE (args := [Value.pointer b_, Value.slice l_.ptr l_.len l_.cap]) (R := fun v w' => v = Value.tuple #[] ∧ R w') Tryz.func32 (c := c32_0) (by kernel_rfl) 26 (by kernel_rfl) (by kernel_rfl) [(0, Value.pointer b_), (1, Value.slice l_.ptr l_.len l_.cap)] (by kernel_rfl) ?_) ?_
  · refine Zt r32_1 c32_3 ?_
    refine Zn P1 1 [(0, [], .pointer b_), (1, [], .slice l_.ptr l_.len l_.cap), (4, [], .pointer b_)] ?_
    obtain ⟨hp_1, h⟩ := h
    refine Zv (fun pp => [(0, [], .pointer b_), (1, [], .slice l_.ptr l_.len l_.cap), (4, [], .pointer pp)]) hp_1 ?_
    refine Zn P1 2 [(0, [], .pointer b_), (1, [], .slice l_.ptr l_.len l_.cap), (4, [], .pointer (some ⟨(pblk b_), (poff b_), none⟩)), (5, [], .pointer (some ⟨(pblk b_), (poff b_), none⟩))] ?_
    refine Zn P1 3 [(0, [], .pointer b_), (1, [], .slice l_.ptr l_.len l_.cap), (4, [], .pointer (some ⟨(pblk b_), (poff b_), none⟩)), (6, [], .pointer (some ⟨(pblk b_), (poff b_), none⟩))] ?_
    obtain ⟨v7, hc, h⟩ := h
    refine Zl 3 6 (pblk b_) (poff b_) 3 7 hc ?_
    refine Zn P3 7 [(0, [], .pointer b_), (1, [], .slice l_.ptr l_.len l_.cap), (8, [], .int .i64 (IntKind.i64.wrap (v7 + 1))), (10, [], .pointer (some ⟨(pblk b_), (poff b_), none⟩))] ?_
    obtain ⟨hc, h⟩ := h
    refine Zo 3 10 8 (pblk b_) (poff b_) 1 [.int .i64 (IntKind.i64.wrap (v7 + 1))] hc (fun w1 hw => ?_)
    replace h := h w1 hw
    clear hw
    refine Ze [(0, .pointer b_), (1, .slice l_.ptr l_.len l_.cap)] ?_
    change WpE _ _ c32_3 _ _ _
    refine wpE_mixregion (id := 1) (ops := r32_3) o_towpathlaw01_Book_keepByte_3 (by kernel_rfl) (by kernel_rfl) (by kernel_rfl) (by kernel_rfl) (fun w2 hw => ?_)
    replace h := h w2 hw
    clear hw
    refine mreg_run P2 2 [(0, [], Value.pointer b_), (1, [], Value.slice l_.ptr l_.len l_.cap), (11, [], Value.pointer b_), (12, [], Value.pointer b_)] (by kernel_rfl) (by kernel_rfl) ?_
    obtain ⟨hp_2, h⟩ := h
    refine mreg_conv [(0, [], Value.pointer b_), (1, [], Value.slice l_.ptr l_.len l_.cap), (11, [], Value.pointer b_), (12, [], Value.pointer (some ⟨(pblk b_), (poff b_), none⟩))] (congrArg (fun pp => ([(0, [], Value.pointer b_), (1, [], Value.slice l_.ptr l_.len l_.cap), (11, [], Value.pointer b_), (12, [], Value.pointer pp)] : GEnv)) hp_2) ?_
    refine mreg_run P1 3 [(0, [], Value.pointer b_), (1, [], Value.slice l_.ptr l_.len l_.cap), (11, [], Value.pointer b_), (12, [], Value.pointer (some ⟨(pblk b_), (poff b_), none⟩)), (13, [], Value.pointer (some ⟨(pblk b_), (poff b_), none⟩))] (by kernel_rfl) (by kernel_rfl) ?_
    refine mreg_run P1 4 [(0, [], Value.pointer b_), (1, [], Value.slice l_.ptr l_.len l_.cap), (11, [], Value.pointer b_), (14, [], Value.pointer (some ⟨(pblk b_), (poff b_) + 1, none⟩))] (by kernel_rfl) (by kernel_rfl) ?_
    obtain ⟨v15, hc, h⟩ := h
    refine mreg_load1 (i := 4) (by kernel_rfl) (t := 37) (a := (Operand.tmp 14)) (b := (pblk b_)) (o := ((poff b_) + 1)) (ty := 37) (dst := some 15) (by kernel_rfl) (by kernel_rfl) (by kernel_rfl) hc ?_
    refine mreg_run P2 7 [(11, [], Value.pointer b_), (15, [], Value.slice v15.ptr v15.len v15.cap), (16, [], Value.slice l_.ptr l_.len l_.cap), (17, [], Value.pointer b_)] (by kernel_rfl) (by kernel_rfl) ?_
    obtain ⟨hp_3, h⟩ := h
    refine mreg_conv [(11, [], Value.pointer b_), (15, [], Value.slice v15.ptr v15.len v15.cap), (16, [], Value.slice l_.ptr l_.len l_.cap), (17, [], Value.pointer (some ⟨(pblk b_), (poff b_), none⟩))] (congrArg (fun pp => ([(11, [], Value.pointer b_), (15, [], Value.slice v15.ptr v15.len v15.cap), (16, [], Value.slice l_.ptr l_.len l_.cap), (17, [], Value.pointer pp)] : GEnv)) hp_3) ?_
    refine mreg_run P1 8 [(11, [], Value.pointer b_), (15, [], Value.slice v15.ptr v15.len v15.cap), (16, [], Value.slice l_.ptr l_.len l_.cap), (17, [], Value.pointer (some ⟨(pblk b_), (poff b_), none⟩)), (18, [], Value.pointer (some ⟨(pblk b_), (poff b_), none⟩))] (by kernel_rfl) (by kernel_rfl) ?_
    refine mreg_run P1 9 [(11, [], Value.pointer b_), (15, [], Value.slice v15.ptr v15.len v15.cap), (16, [], Value.slice l_.ptr l_.len l_.cap), (19, [], Value.pointer (some ⟨(pblk b_), (poff b_), none⟩))] (by kernel_rfl) (by kernel_rfl) ?_
    obtain ⟨v20, hc, h⟩ := h
    refine mreg_load1 (i := 9) (by kernel_rfl) (t := 3) (a := (Operand.tmp 19)) (b := (pblk b_)) (o := (poff b_)) (ty := 3) (dst := some 20) (by kernel_rfl) (by kernel_rfl) (by kernel_rfl) hc ?_
    refine mreg_run P1 11 [(11, [], Value.pointer b_), (15, [], Value.slice v15.ptr v15.len v15.cap), (21, [], Value.agg #[Value.slice l_.ptr l_.len l_.cap, Value.slice none 0 0, Value.int .i64 v20])] (by kernel_rfl) (by kernel_rfl) ?_
    refine mreg_new (op := (Op.buildSlice 37 1 #[(0, (Operand.tmp 21))])) (ty := 37) (dst := some 22) 11 [10, 5, 9, 8, 7, 6] [(4, fun w' => w'.cell? ⟨(pblk b_), (poff b_) + 1, none⟩ = some (Value.slice v15.ptr v15.len v15.cap))] (fun bb => Value.slice (some ⟨bb, 0, none⟩) 1 1) (Obj.cells ([Value.slice l_.ptr l_.len l_.cap, Value.slice none 0 0, Value.int .i64 v20]).toArray ty_towpathlaw01_heldByte (0, 0)) (by kernel_rfl) (by kernel_rfl) (by kernel_rfl) (by kernel_rfl) (by kernel_rfl) (by kernel_rfl) (fun b_1 w3 hb hw => ?_)
    replace h := h b_1 w3 hb hw
    clear hb hw
    obtain ⟨hk0, h⟩ := h
    refine ⟨⟨hk0, trivial⟩, ?_⟩
    refine mreg_run [] 12 [(11, [], Value.pointer b_), (15, [], Value.slice v15.ptr v15.len v15.cap), (22, [], Value.slice (some ⟨b_1, 0, none⟩) 1 1)] (by kernel_rfl) (by kernel_rfl) ?_
    obtain ⟨src, hs, h⟩ := h
    refine mreg_append (t := 37) (tx := 37) (e := 81) (a := (Operand.tmp 15)) (xo := (Operand.tmp 22)) (s := v15) (x := (Slc.mk (some ⟨b_1, 0, none⟩) 1 1)) (sz := 3) (by_ := 56) (zs := [Value.slice none 0 0, Value.slice none 0 0, Value.int .i64 0]) (ty := 37) (dst := some 23) 12 [4, 11, 3, 10, 2, 5, 9, 1, 8, 7, 6] [] src (by kernel_rfl) (by kernel_rfl) (by kernel_rfl) (by kernel_rfl) (by kernel_rfl) (by kernel_rfl) (by kernel_rfl) (by kernel_rfl) (by kernel_rfl) (by kernel_rfl) (by kernel_rfl) (by kernel_rfl) (by kernel_rfl) hs (AppendW.mono h (fun v23 w4 h => ?_))
    refine ⟨trivial, ?_⟩
    refine mreg_run [] 13 [(11, [], Value.pointer b_), (23, [], Value.slice v23.ptr v23.len v23.cap)] (by kernel_rfl) (by kernel_rfl) ?_
    obtain ⟨hp_4, h⟩ := h
    refine mreg_conv [(11, [], Value.pointer (some ⟨(pblk b_), (poff b_), none⟩)), (23, [], Value.slice v23.ptr v23.len v23.cap)] (congrArg (fun pp => ([(11, [], Value.pointer pp), (23, [], Value.slice v23.ptr v23.len v23.cap)] : GEnv)) hp_4) ?_
    refine mreg_run P1 14 [(11, [], Value.pointer (some ⟨(pblk b_), (poff b_), none⟩)), (23, [], Value.slice v23.ptr v23.len v23.cap), (24, [], Value.pointer (some ⟨(pblk b_), (poff b_), none⟩))] (by kernel_rfl) (by kernel_rfl) ?_
    refine mreg_run P1 15 [(23, [], Value.slice v23.ptr v23.len v23.cap), (25, [], Value.pointer (some ⟨(pblk b_), (poff b_) + 1, none⟩))] (by kernel_rfl) (by kernel_rfl) ?_
    obtain ⟨hc, h⟩ := h
    refine mreg_store (t := 37) (a := (Operand.tmp 25)) (x := (Operand.tmp 23)) (b := (pblk b_)) (o := ((poff b_) + 1)) (k := 1) (ty := 0) (dst := none) 15 [0, 1, 2, 3, 4, 5, 6, 7, 8, 9, 10, 11, 12, 14, 13] [] [Value.slice v23.ptr v23.len v23.cap] (by kernel_rfl) (by kernel_rfl) (by kernel_rfl) (by kernel_rfl) (by kernel_rfl) (by kernel_rfl) (by kernel_rfl) (by kernel_rfl) (by kernel_rfl) (by kernel_rfl) hc (fun w5 hw => ?_)
    replace h := h w5 hw
    clear hw
    refine ⟨trivial, ?_⟩
    refine mreg_end [] (by kernel_rfl) (by kernel_rfl) (by kernel_rfl) ?_
    repeat (first | refine seqQ_exit ?_ | refine loopQ_exit ?_ | refine cutQ_exit ?_ | refine blockQ_hit ?_ | refine blockQ_miss (by kernel_rfl) ?_)
    refine retQ_normal ?_
    repeat (first | refine seqQ_ret ?_ | refine blockQ_ret ?_ | refine loopQ_ret ?_ | refine cutQ_ret ?_)
    exact retT (rs := []) (vs := []) (by kernel_rfl) (trivial) (by kernel_rfl) ⟨rfl, h⟩
  · rintro e w' ⟨v, rfl, rfl, h⟩; exact ⟨rfl, h⟩

/-! ### (*towpath/towpathlaw01.Book).fillByte (function 33) -/
noncomputable def c33_0 := (Tryz.f33.body).getD Code.skip
noncomputable def c33_3 := Code.r c33_0
noncomputable def c33_4 := Code.l c33_3
noncomputable def c33_5 := Code.l c33_4
noncomputable def c33_6 := Code.l c33_5
noncomputable def c33_7 := Code.l c33_6
noncomputable def r33_7 := Code.ops c33_7
noncomputable def c33_9 := Code.r c33_6
noncomputable def c33_10 := Code.l c33_9
noncomputable def c33_11 := Code.r c33_9
noncomputable def c33_12 := Code.r c33_5
noncomputable def c33_13 := Code.l c33_12
noncomputable def c33_14 := Code.l c33_13
noncomputable def c33_15 := Code.l c33_14
noncomputable def r33_15 := Code.ops c33_15
noncomputable def c33_17 := Code.r c33_14
noncomputable def c33_20 := Code.r c33_17
noncomputable def c33_21 := Code.l c33_20
noncomputable def c33_22 := Code.l c33_21
noncomputable def c33_23 := Code.l c33_22
noncomputable def c33_24 := Code.l c33_23
noncomputable def r33_24 := Code.ops c33_24
noncomputable def c33_26 := Code.r c33_23
noncomputable def c33_27 := Code.l c33_26
noncomputable def c33_28 := Code.r c33_26
noncomputable def c33_29 := Code.r c33_22
noncomputable def c33_30 := Code.l c33_29
noncomputable def c33_31 := Code.l c33_30
noncomputable def r33_31 := Code.ops c33_31
noncomputable def c33_33 := Code.r c33_29
noncomputable def r33_33 := Code.ops c33_33
noncomputable def c33_35 := Code.r c33_12
noncomputable def r33_35 := Code.ops c33_35
def o_towpathlaw01_Book_fillByte_31 : List Nat := [0, 1, 2, 3, 4, 5, 6, 7]

theorem S_towpathlaw01_Book_fillByte {b_ : Option Addr} {w : World} {R : World → Prop} (h : F_towpathlaw01_Book_fillByte b_ R w) : C_towpathlaw01_Book_fillByte b_ w R := by
  unfold F_towpathlaw01_Book_fillByte at h
  unfold C_towpathlaw01_Book_fillByte
  refine Calls.mono (calls_of_wpE (args := [Value.pointer b_]) (R := fun v w' => v = Value.tuple #[] ∧ R w') Tryz.func33 (c := c33_0) (by kernel_rfl) 35 (by kernel_rfl) (by kernel_rfl) [(0, Value.pointer b_)] (by kernel_rfl) ?_) ?_
  · refine Zp c33_3 P1 [(0, .pointer b_), (2, .int .i64 0)] ?_
    refine Zb 0 c33_4 ?_
    obtain ⟨I, μ, h0, hr⟩ := h
    refine wpE_loop (x := c33_5) (by kernel_rfl) (fun m l w => ∃ (i : Int), l = [(0, Value.pointer b_), (2, Value.int .i64 i)] ∧ I i w ∧ μ i w = m) (l' := [(0, Value.pointer b_), (2, Value.int .i64 0)]) (Sub.mk (by kernel_rfl)) ⟨0, rfl, h0, rfl⟩ ?_
    rintro _ _ w1 ⟨i, rfl, hI, rfl⟩
    obtain ⟨again_, again__h, h⟩ : ∃ again_ : Int → World → Prop, (∀ i' w', again_ i' w' → I i' w' ∧ μ i' w' < μ i w1) ∧ F_towpathlaw01_Book_fillByte_L0 b_ R again_ i w1 := ⟨_, fun _ _ h => h, hr i w1 hI⟩
    clear h0 hI
    unfold F_towpathlaw01_Book_fillByte_L0 at h
    refine Zs c33_6 c33_12 ?_
    refine Zt r33_7 c33_9 ?_
    refine Zn P2 2 [(0, [], .pointer b_), (2, [], .int .i64 i), (5, [], .int .i64 i), (6, [], .pointer b_)] ?_
    obtain ⟨hp_3, h⟩ := h
    refine Zv (fun pp => [(0, [], .pointer b_), (2, [], .int .i64 i), (5, [], .int .i64 i), (6, [], .pointer pp)]) hp_3 ?_
    refine Zn P1 3 [(0, [], .pointer b_), (2, [], .int .i64 i), (5, [], .int .i64 i), (6, [], .pointer (some ⟨(pblk b_), (poff b_), none⟩)), (7, [], .pointer (some ⟨(pblk b_), (poff b_), none⟩))] ?_
    refine Zn P1 4 [(0, [], .pointer b_), (2, [], .int .i64 i), (5, [], .int .i64 i), (8, [], .pointer (some ⟨(pblk b_), (poff b_) + 1, none⟩))] ?_
    obtain ⟨v9, hc, h⟩ := h
    refine Zl 37 8 (pblk b_) ((poff b_) + 1) 37 9 hc ?_
    refine Zf P2 [(0, .pointer b_), (2, .int .i64 i), (11, .bool (decide (i < ((v9.len : Nat) : Int))))] ?_
    change WpE _ _ c33_9 _ _ _
    refine Zc 11 (decide (i < ((v9.len : Nat) : Int))) c33_10 c33_11 (fun hb => ?_) (fun hb => ?_)
    · replace h := h.1 hb
      refine wpE_skip (by kernel_rfl) ?_
      change WpE _ _ c33_12 _ _ _
      refine Zs c33_13 c33_35 ?_
      refine Zb 1 c33_14 ?_
      refine Zt r33_15 c33_17 ?_
      refine Zn P1 1 [(0, [], .pointer b_), (2, [], .int .i64 i), (14, [], .pointer b_)] ?_
      obtain ⟨hp_12, h⟩ := h
      refine Zv (fun pp => [(0, [], .pointer b_), (2, [], .int .i64 i), (14, [], .pointer pp)]) hp_12 ?_
      refine Zn P1 2 [(0, [], .pointer b_), (2, [], .int .i64 i), (14, [], .pointer (some ⟨(pblk b_), (poff b_), none⟩)), (15, [], .pointer (some ⟨(pblk b_), (poff b_), none⟩))] ?_
      refine Zn P1 3 [(0, [], .pointer b_), (2, [], .int .i64 i), (16, [], .pointer (some ⟨(pblk b_), (poff b_) + 1, none⟩))] ?_
      obtain ⟨v17, hc, h⟩ := h
      refine Zl 37 16 (pblk b_) ((poff b_) + 1) 37 17 hc ?_
      refine Zn P1 5 [(0, [], .pointer b_), (2, [], .int .i64 i), (17, [], .slice v17.ptr v17.len v17.cap), (18, [], .int .i64 i)] ?_
      obtain ⟨hp_13, h⟩ := h
      refine Zv (fun pp => [(0, [], .pointer b_), (2, [], .int .i64 i), (17, [], .slice pp v17.len v17.cap), (18, [], .int .i64 i)]) hp_13 ?_
      obtain ⟨h0, h1, h⟩ := h
      refine Zj 37 81 17 18 (pblk v17.ptr) (poff v17.ptr) v17.len v17.cap i 3 19 0 h0 h1 ?_
      refine Zn [] 6 [(0, [], .pointer b_), (2, [], .int .i64 i), (19, [], .pointer (some ⟨(pblk v17.ptr), (poff v17.ptr) + i.toNat * 3, none⟩))] ?_
      obtain ⟨v20, hc, h⟩ := h
      refine reg_loadN (t := 81) (a := (Operand.tmp 19)) (b := (pblk v17.ptr)) (o := ((poff v17.ptr) + i.toNat * 3)) (ty := 81) (dst := some 20) [Value.slice v20.l.ptr v20.l.len v20.l.cap, Value.slice v20.long.ptr v20.long.len v20.long.cap, Value.int .i64 v20.n] (by kernel_rfl) (by kernel_rfl) (by kernel_rfl) (k := 3) (by kernel_rfl) (by kernel_rfl) hc ?_
      refine Zn [] 7 [(0, [], .pointer b_), (2, [], .int .i64 i), (20, [], .agg #[.slice v20.l.ptr v20.l.len v20.l.cap, .slice v20.long.ptr v20.long.len v20.long.cap, .int .i64 v20.n])] ?_
      refine Zw (some 3) (fun bb => .pointer (some ⟨bb, 0, none⟩)) (Obj.cells ([.slice none 0 0, .slice none 0 0, .int .i64 0]).toArray ty_towpathlaw01_heldByte (0, 0)) (fun b_1 w2 hb hw => ?_)
      replace h := h b_1 w2 hb hw
      clear hb hw
      refine Zn [] 8 [(0, [], .pointer b_), (2, [], .int .i64 i), (3, [], .pointer (some ⟨b_1, 0, none⟩)), (20, [], .agg #[.slice v20.l.ptr v20.l.len v20.l.cap, .slice v20.long.ptr v20.long.len v20.long.cap, .int .i64 v20.n])] ?_
      obtain ⟨hc, h⟩ := h
      refine Zo 81 3 20 b_1 0 3 [.slice v20.l.ptr v20.l.len v20.l.cap, .slice v20.long.ptr v20.long.len v20.long.cap, .int .i64 v20.n] hc (fun w3 hw => ?_)
      replace h := h w3 hw
      clear hw
      refine Ze [(0, .pointer b_), (2, .int .i64 i), (3, .pointer (some ⟨b_1, 0, none⟩))] ?_
      change WpE _ _ c33_17 _ _ _
      refine Zp c33_20 P1 [(0, .pointer b_), (2, .int .i64 i), (3, .pointer (some ⟨b_1, 0, none⟩)), (4, .int .i64 0)] ?_
      refine Zb 2 c33_21 ?_
      obtain ⟨I, μ, h0, hr⟩ := h
      refine wpE_loop (x := c33_22) (by kernel_rfl) (fun m l w => ∃ (k : Int), l = [(0, Value.pointer b_), (2, Value.int .i64 i), (3, Value.pointer (some ⟨b_1, 0, none⟩)), (4, Value.int .i64 k)] ∧ I k w ∧ μ k w = m) (l' := [(0, Value.pointer b_), (2, Value.int .i64 i), (3, Value.pointer (some ⟨b_1, 0, none⟩)), (4, Value.int .i64 0)]) (Sub.mk (by kernel_rfl)) ⟨0, rfl, h0, rfl⟩ ?_
      rintro _ _ w4 ⟨k, rfl, hI, rfl⟩
      obtain ⟨again_1, again_1_h, h⟩ : ∃ again_1 : Int → World → Prop, (∀ k' w', again_1 k' w' → I k' w' ∧ μ k' w' < μ k w4) ∧ F_towpathlaw01_Book_fillByte_L1 i again_ b_1 again_1 k w4 := ⟨_, fun _ _ h => h, hr k w4 hI⟩
      clear h0 hI
      unfold F_towpathlaw01_Book_fillByte_L1 at h
      refine Zs c33_23 c33_29 ?_
      refine Zt r33_24 c33_26 ?_
      refine Zn P2 2 [(0, [], .pointer b_), (2, [], .int .i64 i), (3, [], .pointer (some ⟨b_1, 0, none⟩)), (4, [], .int .i64 k), (21, [], .int .i64 k), (22, [], .pointer (some ⟨b_1, 0, none⟩))] ?_
      obtain ⟨v23, hc, h⟩ := h
      refine Zl 28 22 b_1 0 28 23 hc ?_
      refine Zf P2 [(0, .pointer b_), (2, .int .i64 i), (3, .pointer (some ⟨b_1, 0, none⟩)), (4, .int .i64 k), (25, .bool (decide (k < ((v23.len : Nat) : Int))))] ?_
      change WpE _ _ c33_26 _ _ _
      refine Zc 25 (decide (k < ((v23.len : Nat) : Int))) c33_27 c33_28 (fun hb => ?_) (fun hb => ?_)
      · replace h := h.1 hb
        refine wpE_skip (by kernel_rfl) ?_
        change WpE _ _ c33_29 _ _ _
        refine Zs c33_30 c33_33 ?_
        refine Zb 3 c33_31 ?_
        refine wpE_mixregion (id := 7) (ops := r33_31) o_towpathlaw01_Book_fillByte_31 (by kernel_rfl) (by kernel_rfl) (by kernel_rfl) (by kernel_rfl) (fun w5 hw => ?_)
        replace h := h w5 hw
        clear hw
        refine mreg_run P1 1 [(0, [], Value.pointer b_), (2, [], Value.int .i64 i), (3, [], Value.pointer (some ⟨b_1, 0, none⟩)), (4, [], Value.int .i64 k), (28, [], Value.pointer (some ⟨b_1, 0, none⟩))] (by kernel_rfl) (by kernel_rfl) ?_
        obtain ⟨v29, hc, h⟩ := h
        refine mreg_load1 (i := 1) (by kernel_rfl) (t := 28) (a := (Operand.tmp 28)) (b := b_1) (o := 0) (ty := 28) (dst := some 29) (by kernel_rfl) (by kernel_rfl) (by kernel_rfl) hc ?_
        refine mreg_run P2 4 [(0, [], Value.pointer b_), (2, [], Value.int .i64 i), (3, [], Value.pointer (some ⟨b_1, 0, none⟩)), (4, [], Value.int .i64 k), (29, [], Value.slice v29.ptr v29.len v29.cap), (30, [], Value.int .i64 k), (31, [], Value.pointer (some ⟨b_1, 2, none⟩))] (by kernel_rfl) (by kernel_rfl) ?_
        obtain ⟨v32, hc, h⟩ := h
        refine mreg_load1 (i := 4) (by kernel_rfl) (t := 3) (a := (Operand.tmp 31)) (b := b_1) (o := 2) (ty := 3) (dst := some 32) (by kernel_rfl) (by kernel_rfl) (by kernel_rfl) hc ?_
        refine mreg_run [] 5 [(0, [], Value.pointer b_), (2, [], Value.int .i64 i), (3, [], Value.pointer (some ⟨b_1, 0, none⟩)), (4, [], Value.int .i64 k), (29, [], Value.slice v29.ptr v29.len v29.cap), (30, [], Value.int .i64 k), (32, [], Value.int .i64 v32)] (by kernel_rfl) (by kernel_rfl) ?_
        refine mreg_enter (op := (Op.call (Call.mk (Callee.value (Operand.func 72)) #[(Operand.tmp 32)] #[3]))) (ty := 5) (dst := some 33) 5 [4, 3] [(1, fun w' => w'.cell? ⟨b_1, 0, none⟩ = some (Value.slice v29.ptr v29.len v29.cap))] 72 #[Value.int .i64 v32] (by kernel_rfl) (by kernel_rfl) (by kernel_rfl) (by kernel_rfl) (by kernel_rfl) (fun ww => by kernel_rfl) (Calls.mono h ?_)
        rintro _ w6 ⟨v33, rfl, h⟩
        obtain ⟨hk0, h⟩ := h
        refine ⟨_, rfl, ⟨hk0, trivial⟩, ?_⟩
        refine mreg_run [] 6 [(0, [], Value.pointer b_), (2, [], Value.int .i64 i), (3, [], Value.pointer (some ⟨b_1, 0, none⟩)), (4, [], Value.int .i64 k), (29, [], Value.slice v29.ptr v29.len v29.cap), (30, [], Value.int .i64 k), (33, [], Value.int .u8 v33)] (by kernel_rfl) (by kernel_rfl) ?_
        obtain ⟨hp_15, h⟩ := h
        refine mreg_conv [(0, [], Value.pointer b_), (2, [], Value.int .i64 i), (3, [], Value.pointer (some ⟨b_1, 0, none⟩)), (4, [], Value.int .i64 k), (29, [], Value.slice (some ⟨(pblk v29.ptr), (poff v29.ptr), none⟩) v29.len v29.cap), (30, [], Value.int .i64 k), (33, [], Value.int .u8 v33)] (congrArg (fun pp => ([(0, [], Value.pointer b_), (2, [], Value.int .i64 i), (3, [], Value.pointer (some ⟨b_1, 0, none⟩)), (4, [], Value.int .i64 k), (29, [], Value.slice pp v29.len v29.cap), (30, [], Value.int .i64 k), (33, [], Value.int .u8 v33)] : GEnv)) hp_15) ?_
        obtain ⟨h0, h1, h⟩ := h
        refine mreg_indexS1 (i := 6) (by kernel_rfl) (t := 28) (e := 5) (x := (Operand.tmp 29)) (ix := (Operand.tmp 30)) (b := (pblk v29.ptr)) (o := (poff v29.ptr)) (l := v29.len) (c := v29.cap) (k := .i64) (j := k) (ty := 0) (dst := some 34) (by kernel_rfl) (by kernel_rfl) (by kernel_rfl) (by kernel_rfl) (by kernel_rfl) h0 h1 ?_
        refine mreg_run [] 7 [(0, [], Value.pointer b_), (2, [], Value.int .i64 i), (3, [], Value.pointer (some ⟨b_1, 0, none⟩)), (4, [], Value.int .i64 k), (33, [], Value.int .u8 v33), (34, [], Value.pointer (some ⟨(pblk v29.ptr), (poff v29.ptr) + k.toNat, none⟩))] (by kernel_rfl) (by kernel_rfl) ?_
        obtain ⟨hc, h⟩ := h
        refine mreg_store (t := 5) (a := (Operand.tmp 34)) (x := (Operand.tmp 33)) (b := (pblk v29.ptr)) (o := ((poff v29.ptr) + k.toNat)) (k := 1) (ty := 0) (dst := none) 7 [0, 1, 2, 3, 4, 5, 6] [] [Value.int .u8 v33] (by kernel_rfl) (by kernel_rfl) (by kernel_rfl) (by kernel_rfl) (by kernel_rfl) (by kernel_rfl) (by kernel_rfl) (by kernel_rfl) (by kernel_rfl) (by kernel_rfl) hc (fun w7 hw => ?_)
        replace h := h w7 hw
        clear hw
        refine ⟨trivial, ?_⟩
        refine mreg_end [(0, Value.pointer b_), (2, Value.int .i64 i), (3, Value.pointer (some ⟨b_1, 0, none⟩)), (4, Value.int .i64 k)] (by kernel_rfl) (by kernel_rfl) (by kernel_rfl) ?_
        change WpE _ _ c33_33 _ _ _
        refine Zr r33_33 ?_
        refine Zf P3 [(0, .pointer b_), (2, .int .i64 i), (3, .pointer (some ⟨b_1, 0, none⟩)), (4, .int .i64 (IntKind.i64.wrap (k + 1)))] ?_
        have hb_ := again_1_h _ _ h
        exact ⟨_, hb_.2, [(0, Value.pointer b_), (2, Value.int .i64 i), (3, Value.pointer (some ⟨b_1, 0, none⟩)), (4, Value.int .i64 (IntKind.i64.wrap (k + 1)))], Sub.mk (by kernel_rfl), (IntKind.i64.wrap (k + 1)), rfl, hb_.1, rfl⟩
      · replace h := h.2 hb
        refine wpE_exit (id := 2) (by kernel_rfl) ?_
        change WpE _ _ c33_35 _ _ _
        refine Zr r33_35 ?_
        refine Zf P3 [(0, .pointer b_), (2, .int .i64 (IntKind.i64.wrap (i + 1)))] ?_
        have hb_ := again__h _ _ h
        exact ⟨_, hb_.2, [(0, Value.pointer b_), (2, Value.int .i64 (IntKind.i64.wrap (i + 1)))], Sub.mk (by kernel_rfl), (IntKind.i64.wrap (i + 1)), rfl, hb_.1, rfl⟩
    · replace h := h.2 hb
      refine wpE_exit (id := 0) (by kernel_rfl) ?_
      repeat (first | refine seqQ_exit ?_ | refine loopQ_exit ?_ | refine cutQ_exit ?_ | refine blockQ_hit ?_ | refine blockQ_miss (by kernel_rfl) ?_)
      refine retQ_normal ?_
      repeat (first | refine seqQ_ret ?_ | refine blockQ_ret ?_ | refine loopQ_ret ?_ | refine cutQ_ret ?_)
      exact retT (rs := []) (vs := []) (by kernel_rfl) (trivial) (by kernel_rfl) ⟨rfl, h⟩
  · rintro e w' ⟨v, rfl, rfl, h⟩; exact ⟨rfl, h⟩

/-! ### (*towpath/towpathlaw01.Book).fillInt (function 34) -/
noncomputable def c34_0 := (Tryz.f34.body).getD Code.skip
noncomputable def c34_3 := Code.r c34_0
noncomputable def c34_4 := Code.l c34_3
noncomputable def c34_5 := Code.l c34_4
noncomputable def c34_6 := Code.l c34_5
noncomputable def c34_7 := Code.l c34_6
noncomputable def r34_7 := Code.ops c34_7
noncomputable def c34_9 := Code.r c34_6
noncomputable def c34_10 := Code.l c34_9
noncomputable def c34_11 := Code.r c34_9
noncomputable def c34_12 := Code.r c34_5

theorem S_towpathlaw01_Book_fillInt {b_ : Option Addr} {w : World} {R : World → Prop} (h : F_towpathlaw01_Book_fillInt b_ R w) : C_towpathlaw01_Book_fillInt b_ w R := by
  unfold F_towpathlaw01_Book_fillInt at h
  unfold C_towpathlaw01_Book_fillInt
  refine Calls.mono (calls_of_wpE (args := [Value.pointer b_]) (R := fun v w' => v = Value.tuple #[] ∧ R w') Tryz.func34 (c := c34_0) (by kernel_rfl) 35 (by kernel_rfl) (by kernel_rfl) [(0, Value.pointer b_)] (by kernel_rfl) ?_) ?_
  · refine Zp c34_3 P1 [(0, .pointer b_), (2, .int .i64 0)] ?_
    refine Zb 0 c34_4 ?_
    obtain ⟨I, μ, h0, hr⟩ := h
    refine wpE_loop (x := c34_5) (by kernel_rfl) (fun m l w => ∃ (i : Int), l = [(0, Value.pointer b_), (2, Value.int .i64 i)] ∧ I i w ∧ μ i w = m) (l' := [(0, Value.pointer b_), (2, Value.int .i64 0)]) (Sub.mk (by kernel_rfl)) ⟨0, rfl, h0, rfl⟩ ?_
    rintro _ _ w1 ⟨i, rfl, hI, rfl⟩
    obtain ⟨again_, again__h, h⟩ : ∃ again_ : Int → World → Prop, (∀ i' w', again_ i' w' → I i' w' ∧ μ i' w' < μ i w1) ∧ F_towpathlaw01_Book_fillInt_L0 b_ R again_ i w1 := ⟨_, fun _ _ h => h, hr i w1 hI⟩
    clear h0 hI
    unfold F_towpathlaw01_Book_fillInt_L0 at h
    refine Zs c34_6 c34_12 ?_
    refine Zt r34_7 c34_9 ?_
    refine Zn P2 2 [(0, [], .pointer b_), (2, [], .int .i64 i), (5, [], .int .i64 i), (6, [], .pointer b_)] ?_
    obtain ⟨hp_3, h⟩ := h
    refine Zv (fun pp => [(0, [], .pointer b_), (2, [], .int .i64 i), (5, [], .int .i64 i), (6, [], .pointer pp)]) hp_3 ?_
    refine Zn P1 3 [(0, [], .pointer b_), (2, [], .int .i64 i), (5, [], .int .i64 i), (6, [], .pointer (some ⟨(pblk b_), (poff b_), none⟩)), (7, [], .pointer (some ⟨(pblk b_), (poff b_), none⟩))] ?_
    refine Zn P1 4 [(0, [], .pointer b_), (2, [], .int .i64 i), (5, [], .int .i64 i), (8, [], .pointer (some ⟨(pblk b_), (poff b_) + 2, none⟩))] ?_
    obtain ⟨v9, hc, h⟩ := h
    refine Zl 38 8 (pblk b_) ((poff b_) + 2) 38 9 hc ?_
    refine Zf P2 [(0, .pointer b_), (2, .int .i64 i), (11, .bool (decide (i < ((v9.len : Nat) : Int))))] ?_
    change WpE _ _ c34_9 _ _ _
    refine Zc 11 (decide (i < ((v9.len : Nat) : Int))) c34_10 c34_11 (fun hb => ?_) (fun hb => ?_)
    · replace h := h.1 hb
      exact h.elim
    · replace h := h.2 hb
      refine wpE_exit (id := 0) (by kernel_rfl) ?_
      repeat (first | refine seqQ_exit ?_ | refine loopQ_exit ?_ | refine cutQ_exit ?_ | refine blockQ_hit ?_ | refine blockQ_miss (by kernel_rfl) ?_)
      refine retQ_normal ?_
      repeat (first | refine seqQ_ret ?_ | refine blockQ_ret ?_ | refine loopQ_ret ?_ | refine cutQ_ret ?_)
      exact retT (rs := []) (vs := []) (by kernel_rfl) (trivial) (by kernel_rfl) ⟨rfl, h⟩
  · rintro e w' ⟨v, rfl, rfl, h⟩; exact ⟨rfl, h⟩

/-! ### (*towpath/towpathlaw01.Book).fillText (function 35) -/
noncomputable def c35_0 := (Tryz.f35.body).getD Code.skip
noncomputable def c35_3 := Code.r c35_0
noncomputable def c35_4 := Code.l c35_3
noncomputable def c35_5 := Code.l c35_4
noncomputable def c35_6 := Code.l c35_5
noncomputable def c35_7 := Code.l c35_6
noncomputable def r35_7 := Code.ops c35_7
noncomputable def c35_9 := Code.r c35_6
noncomputable def c35_10 := Code.l c35_9
noncomputable def c35_11 := Code.r c35_9
noncomputable def c35_12 := Code.r c35_5

theorem S_towpathlaw01_Book_fillText {b_ : Option Addr} {w : World} {R : World → Prop} (h : F_towpathlaw01_Book_fillText b_ R w) : C_towpathlaw01_Book_fillText b_ w R := by
  unfold F_towpathlaw01_Book_fillText at h
  unfold C_towpathlaw01_Book_fillText
  refine Calls.mono (calls_of_wpE (args := [Value.pointer b_]) (R := fun v w' => v = Value.tuple #[] ∧ R w') Tryz.func35 (c := c35_0) (by kernel_rfl) 35 (by kernel_rfl) (by kernel_rfl) [(0, Value.pointer b_)] (by kernel_rfl) ?_) ?_
  · refine Zp c35_3 P1 [(0, .pointer b_), (2, .int .i64 0)] ?_
    refine Zb 0 c35_4 ?_
    obtain ⟨I, μ, h0, hr⟩ := h
    refine wpE_loop (x := c35_5) (by kernel_rfl) (fun m l w => ∃ (i : Int), l = [(0, Value.pointer b_), (2, Value.int .i64 i)] ∧ I i w ∧ μ i w = m) (l' := [(0, Value.pointer b_), (2, Value.int .i64 0)]) (Sub.mk (by kernel_rfl)) ⟨0, rfl, h0, rfl⟩ ?_
    rintro _ _ w1 ⟨i, rfl, hI, rfl⟩
    obtain ⟨again_, again__h, h⟩ : ∃ again_ : Int → World → Prop, (∀ i' w', again_ i' w' → I i' w' ∧ μ i' w' < μ i w1) ∧ F_towpathlaw01_Book_fillText_L0 b_ R again_ i w1 := ⟨_, fun _ _ h => h, hr i w1 hI⟩
    clear h0 hI
    unfold F_towpathlaw01_Book_fillText_L0 at h
    refine Zs c35_6 c35_12 ?_
    refine Zt r35_7 c35_9 ?_
    refine Zn P2 2 [(0, [], .pointer b_), (2, [], .int .i64 i), (5, [], .int .i64 i), (6, [], .pointer b_)] ?_
    obtain ⟨hp_3, h⟩ := h
    refine Zv (fun pp => [(0, [], .pointer b_), (2, [], .int .i64 i), (5, [], .int .i64 i), (6, [], .pointer pp)]) hp_3 ?_
    refine Zn P1 3 [(0, [], .pointer b_), (2, [], .int .i64 i), (5, [], .int .i64 i), (6, [], .pointer (some ⟨(pblk b_), (poff b_), none⟩)), (7, [], .pointer (some ⟨(pblk b_), (poff b_), none⟩))] ?_
    refine Zn P1 4 [(0, [], .pointer b_), (2, [], .int .i64 i), (5, [], .int .i64 i), (8, [], .pointer (some ⟨(pblk b_), (poff b_) + 3, none⟩))] ?_
    obtain ⟨v9, hc, h⟩ := h
    refine Zl 39 8 (pblk b_) ((poff b_) + 3) 39 9 hc ?_
    refine Zf P2 [(0, .pointer b_), (2, .int .i64 i), (11, .bool (decide (i < ((v9.len : Nat) : Int))))] ?_
    change WpE _ _ c35_9 _ _ _
    refine Zc 11 (decide (i < ((v9.len : Nat) : Int))) c35_10 c35_11 (fun hb => ?_) (fun hb => ?_)
    · replace h := h.1 hb
      exact h.elim
    · replace h := h.2 hb
      refine wpE_exit (id := 0) (by kernel_rfl) ?_
      repeat (first | refine seqQ_exit ?_ | refine loopQ_exit ?_ | refine cutQ_exit ?_ | refine blockQ_hit ?_ | refine blockQ_miss (by kernel_rfl) ?_)
      refine retQ_normal ?_
      repeat (first | refine seqQ_ret ?_ | refine blockQ_ret ?_ | refine loopQ_ret ?_ | refine cutQ_ret ?_)
      exact retT (rs := []) (vs := []) (by kernel_rfl) (trivial) (by kernel_rfl) ⟨rfl, h⟩
  · rintro e w' ⟨v, rfl, rfl, h⟩; exact ⟨rfl, h⟩

/-! ### (*towpath/towpathlaw01.Book).fillWrite (function 36) -/
noncomputable def c36_0 := (Tryz.f36.body).getD Code.skip
noncomputable def c36_3 := Code.r c36_0
noncomputable def c36_4 := Code.l c36_3
noncomputable def c36_5 := Code.l c36_4
noncomputable def c36_6 := Code.l c36_5
noncomputable def c36_7 := Code.l c36_6
noncomputable def r36_7 := Code.ops c36_7
noncomputable def c36_9 := Code.r c36_6
noncomputable def c36_10 := Code.l c36_9
noncomputable def c36_11 := Code.r c36_9
noncomputable def c36_12 := Code.r c36_5
noncomputable def c36_13 := Code.l c36_12
noncomputable def c36_14 := Code.l c36_13
noncomputable def c36_15 := Code.l c36_14
noncomputable def r36_15 := Code.ops c36_15
noncomputable def c36_17 := Code.r c36_14
noncomputable def c36_20 := Code.r c36_17
noncomputable def c36_21 := Code.l c36_20
noncomputable def c36_22 := Code.l c36_21
noncomputable def c36_23 := Code.l c36_22
noncomputable def c36_24 := Code.l c36_23
noncomputable def r36_24 := Code.ops c36_24
noncomputable def c36_26 := Code.r c36_23
noncomputable def c36_27 := Code.l c36_26
noncomputable def c36_28 := Code.r c36_26
noncomputable def c36_29 := Code.r c36_22
noncomputable def c36_30 := Code.l c36_29
noncomputable def c36_31 := Code.l c36_30
noncomputable def r36_31 := Code.ops c36_31
noncomputable def c36_33 := Code.r c36_29
noncomputable def r36_33 := Code.ops c36_33
noncomputable def c36_35 := Code.r c36_12
noncomputable def r36_35 := Code.ops c36_35
def o_towpathlaw01_Book_fillWrite_31 : List Nat := [0, 1, 2, 3, 4, 5, 6, 7]

theorem S_towpathlaw01_Book_fillWrite {b_ : Option Addr} {w : World} {R : World → Prop} (h : F_towpathlaw01_Book_fillWrite b_ R w) : C_towpathlaw01_Book_fillWrite b_ w R := by
  unfold F_towpathlaw01_Book_fillWrite at h
  unfold C_towpathlaw01_Book_fillWrite
  refine Calls.mono (calls_of_wpE (args := [Value.pointer b_]) (R := fun v w' => v = Value.tuple #[] ∧ R w') Tryz.func36 (c := c36_0) (by kernel_rfl) 35 (by kernel_rfl) (by kernel_rfl) [(0, Value.pointer b_)] (by kernel_rfl) ?_) ?_
  · refine Zp c36_3 P1 [(0, .pointer b_), (2, .int .i64 0)] ?_
    refine Zb 0 c36_4 ?_
    obtain ⟨I, μ, h0, hr⟩ := h
    refine wpE_loop (x := c36_5) (by kernel_rfl) (fun m l w => ∃ (i : Int), l = [(0, Value.pointer b_), (2, Value.int .i64 i)] ∧ I i w ∧ μ i w = m) (l' := [(0, Value.pointer b_), (2, Value.int .i64 0)]) (Sub.mk (by kernel_rfl)) ⟨0, rfl, h0, rfl⟩ ?_
    rintro _ _ w1 ⟨i, rfl, hI, rfl⟩
    obtain ⟨again_, again__h, h⟩ : ∃ again_ : Int → World → Prop, (∀ i' w', again_ i' w' → I i' w' ∧ μ i' w' < μ i w1) ∧ F_towpathlaw01_Book_fillWrite_L0 b_ R again_ i w1 := ⟨_, fun _ _ h => h, hr i w1 hI⟩
    clear h0 hI
    unfold F_towpathlaw01_Book_fillWrite_L0 at h
    refine Zs c36_6 c36_12 ?_
    refine Zt r36_7 c36_9 ?_
    refine Zn P2 2 [(0, [], .pointer b_), (2, [], .int .i64 i), (5, [], .int .i64 i), (6, [], .pointer b_)] ?_
    obtain ⟨hp_3, h⟩ := h
    refine Zv (fun pp => [(0, [], .pointer b_), (2, [], .int .i64 i), (5, [], .int .i64 i), (6, [], .pointer pp)]) hp_3 ?_
    refine Zn P1 3 [(0, [], .pointer b_), (2, [], .int .i64 i), (5, [], .int .i64 i), (6, [], .pointer (some ⟨(pblk b_), (poff b_), none⟩)), (7, [], .pointer (some ⟨(pblk b_), (poff b_), none⟩))] ?_
    refine Zn P1 4 [(0, [], .pointer b_), (2, [], .int .i64 i), (5, [], .int .i64 i), (8, [], .pointer (some ⟨(pblk b_), (poff b_) + 4, none⟩))] ?_
    obtain ⟨v9, hc, h⟩ := h
    refine Zl 40 8 (pblk b_) ((poff b_) + 4) 40 9 hc ?_
    refine Zf P2 [(0, .pointer b_), (2, .int .i64 i), (11, .bool (decide (i < ((v9.len : Nat) : Int))))] ?_
    change WpE _ _ c36_9 _ _ _
    refine Zc 11 (decide (i < ((v9.len : Nat) : Int))) c36_10 c36_11 (fun hb => ?_) (fun hb => ?_)
    · replace h := h.1 hb
      refine wpE_skip (by kernel_rfl) ?_
      change WpE _ _ c36_12 _ _ _
      refine Zs c36_13 c36_35 ?_
      refine Zb 1 c36_14 ?_
      refine Zt r36_15 c36_17 ?_
      refine Zn P1 1 [(0, [], .pointer b_), (2, [], .int .i64 i), (14, [], .pointer b_)] ?_
      obtain ⟨hp_12, h⟩ := h
      refine Zv (fun pp => [(0, [], .pointer b_), (2, [], .int .i64 i), (14, [], .pointer pp)]) hp_12 ?_
      refine Zn P1 2 [(0, [], .pointer b_), (2, [], .int .i64 i), (14, [], .pointer (some ⟨(pblk b_), (poff b_), none⟩)), (15, [], .pointer (some ⟨(pblk b_), (poff b_), none⟩))] ?_
      refine Zn P1 3 [(0, [], .pointer b_), (2, [], .int .i64 i), (16, [], .pointer (some ⟨(pblk b_), (poff b_) + 4, none⟩))] ?_
      obtain ⟨v17, hc, h⟩ := h
      refine Zl 40 16 (pblk b_) ((poff b_) + 4) 40 17 hc ?_
      refine Zn P1 5 [(0, [], .pointer b_), (2, [], .int .i64 i), (17, [], .slice v17.ptr v17.len v17.cap), (18, [], .int .i64 i)] ?_
      obtain ⟨hp_13, h⟩ := h
      refine Zv (fun pp => [(0, [], .pointer b_), (2, [], .int .i64 i), (17, [], .slice pp v17.len v17.cap), (18, [], .int .i64 i)]) hp_13 ?_
      obtain ⟨h0, h1, h⟩ := h
      refine Zj 40 91 17 18 (pblk v17.ptr) (poff v17.ptr) v17.len v17.cap i 3 19 0 h0 h1 ?_
      refine Zn [] 6 [(0, [], .pointer b_), (2, [], .int .i64 i), (19, [], .pointer (some ⟨(pblk v17.ptr), (poff v17.ptr) + i.toNat * 3, none⟩))] ?_
      obtain ⟨v20, hc, h⟩ := h
      refine reg_loadN (t := 91) (a := (Operand.tmp 19)) (b := (pblk v17.ptr)) (o := ((poff v17.ptr) + i.toNat * 3)) (ty := 91) (dst := some 20) [Value.slice v20.l.ptr v20.l.len v20.l.cap, Value.slice v20.long.ptr v20.long.len v20.long.cap, Value.int .i64 v20.n] (by kernel_rfl) (by kernel_rfl) (by kernel_rfl) (k := 3) (by kernel_rfl) (by kernel_rfl) hc ?_
      refine Zn [] 7 [(0, [], .pointer b_), (2, [], .int .i64 i), (20, [], .agg #[.slice v20.l.ptr v20.l.len v20.l.cap, .slice v20.long.ptr v20.long.len v20.long.cap, .int .i64 v20.n])] ?_
      refine Zw (some 3) (fun bb => .pointer (some ⟨bb, 0, none⟩)) (Obj.cells ([.slice none 0 0, .slice none 0 0, .int .i64 0]).toArray ty_towpathlaw01_heldWrite (0, 0)) (fun b_1 w2 hb hw => ?_)
      replace h := h b_1 w2 hb hw
      clear hb hw
      refine Zn [] 8 [(0, [], .pointer b_), (2, [], .int .i64 i), (3, [], .pointer (some ⟨b_1, 0, none⟩)), (20, [], .agg #[.slice v20.l.ptr v20.l.len v20.l.cap, .slice v20.long.ptr v20.long.len v20.long.cap, .int .i64 v20.n])] ?_
      obtain ⟨hc, h⟩ := h
      refine Zo 91 3 20 b_1 0 3 [.slice v20.l.ptr v20.l.len v20.l.cap, .slice v20.long.ptr v20.long.len v20.long.cap, .int .i64 v20.n] hc (fun w3 hw => ?_)
      replace h := h w3 hw
      clear hw
      refine Ze [(0, .pointer b_), (2, .int .i64 i), (3, .pointer (some ⟨b_1, 0, none⟩))] ?_
      change WpE _ _ c36_17 _ _ _
      refine Zp c36_20 P1 [(0, .pointer b_), (2, .int .i64 i), (3, .pointer (some ⟨b_1, 0, none⟩)), (4, .int .i64 0)] ?_
      refine Zb 2 c36_21 ?_
      obtain ⟨I, μ, h0, hr⟩ := h
      refine wpE_loop (x := c36_22) (by kernel_rfl) (fun m l w => ∃ (k : Int), l = [(0, Value.pointer b_), (2, Value.int .i64 i), (3, Value.pointer (some ⟨b_1, 0, none⟩)), (4, Value.int .i64 k)] ∧ I k w ∧ μ k w = m) (l' := [(0, Value.pointer b_), (2, Value.int .i64 i), (3, Value.pointer (some ⟨b_1, 0, none⟩)), (4, Value.int .i64 0)]) (Sub.mk (by kernel_rfl)) ⟨0, rfl, h0, rfl⟩ ?_
      rintro _ _ w4 ⟨k, rfl, hI, rfl⟩
      obtain ⟨again_1, again_1_h, h⟩ : ∃ again_1 : Int → World → Prop, (∀ k' w', again_1 k' w' → I k' w' ∧ μ k' w' < μ k w4) ∧ F_towpathlaw01_Book_fillWrite_L1 i again_ b_1 again_1 k w4 := ⟨_, fun _ _ h => h, hr k w4 hI⟩
      clear h0 hI
      unfold F_towpathlaw01_Book_fillWrite_L1 at h
      refine Zs c36_23 c36_29 ?_
      refine Zt r36_24 c36_26 ?_
      refine Zn P2 2 [(0, [], .pointer b_), (2, [], .int .i64 i), (3, [], .pointer (some ⟨b_1, 0, none⟩)), (4, [], .int .i64 k), (21, [], .int .i64 k), (22, [], .pointer (some ⟨b_1, 0, none⟩))] ?_
      obtain ⟨v23, hc, h⟩ := h
      refine Zl 22 22 b_1 0 22 23 hc ?_
      refine Zf P2 [(0, .pointer b_), (2, .int .i64 i), (3, .pointer (some ⟨b_1, 0, none⟩)), (4, .int .i64 k), (25, .bool (decide (k < ((v23.len : Nat) : Int))))] ?_
      change WpE _ _ c36_26 _ _ _
      refine Zc 25 (decide (k < ((v23.len : Nat) : Int))) c36_27 c36_28 (fun hb => ?_) (fun hb => ?_)
      · replace h := h.1 hb
        refine wpE_skip (by kernel_rfl) ?_
        change WpE _ _ c36_29 _ _ _
        refine Zs c36_30 c36_33 ?_
        refine Zb 3 c36_31 ?_
        refine wpE_mixregion (id := 7) (ops := r36_31) o_towpathlaw01_Book_fillWrite_31 (by kernel_rfl) (by kernel_rfl) (by kernel_rfl) (by kernel_rfl) (fun w5 hw => ?_)
        replace h := h w5 hw
        clear hw
        refine mreg_run P1 1 [(0, [], Value.pointer b_), (2, [], Value.int .i64 i), (3, [], Value.pointer (some ⟨b_1, 0, none⟩)), (4, [], Value.int .i64 k), (28, [], Value.pointer (some ⟨b_1, 0, none⟩))] (by kernel_rfl) (by kernel_rfl) ?_
        obtain ⟨v29, hc, h⟩ := h
        refine mreg_load1 (i := 1) (by kernel_rfl) (t := 22) (a := (Operand.tmp 28)) (b := b_1) (o := 0) (ty := 22) (dst := some 29) (by kernel_rfl) (by kernel_rfl) (by kernel_rfl) hc ?_
        refine mreg_run P2 4 [(0, [], Value.pointer b_), (2, [], Value.int .i64 i), (3, [], Value.pointer (some ⟨b_1, 0, none⟩)), (4, [], Value.int .i64 k), (29, [], Value.slice v29.ptr v29.len v29.cap), (30, [], Value.int .i64 k), (31, [], Value.pointer (some ⟨b_1, 2, none⟩))] (by kernel_rfl) (by kernel_rfl) ?_
        obtain ⟨v32, hc, h⟩ := h
        refine mreg_load1 (i := 4) (by kernel_rfl) (t := 3) (a := (Operand.tmp 31)) (b := b_1) (o := 2) (ty := 3) (dst := some 32) (by kernel_rfl) (by kernel_rfl) (by kernel_rfl) hc ?_
        refine mreg_run [] 5 [(0, [], Value.pointer b_), (2, [], Value.int .i64 i), (3, [], Value.pointer (some ⟨b_1, 0, none⟩)), (4, [], Value.int .i64 k), (29, [], Value.slice v29.ptr v29.len v29.cap), (30, [], Value.int .i64 k), (32, [], Value.int .i64 v32)] (by kernel_rfl) (by kernel_rfl) ?_
        refine mreg_enter (op := (Op.call (Call.mk (Callee.value (Operand.func 75)) #[(Operand.tmp 32)] #[3]))) (ty := 62) (dst := some 33) 5 [4, 3] [(1, fun w' => w'.cell? ⟨b_1, 0, none⟩ = some (Value.slice v29.ptr v29.len v29.cap))] 75 #[Value.int .i64 v32] (by kernel_rfl) (by kernel_rfl) (by kernel_rfl) (by kernel_rfl) (by kernel_rfl) (fun ww => by kernel_rfl) (Calls.mono h ?_)
        rintro _ w6 ⟨v33, rfl, h⟩
        obtain ⟨hk0, h⟩ := h
        refine ⟨_, rfl, ⟨hk0, trivial⟩, ?_⟩
        refine mreg_run [] 6 [(0, [], Value.pointer b_), (2, [], Value.int .i64 i), (3, [], Value.pointer (some ⟨b_1, 0, none⟩)), (4, [], Value.int .i64 k), (29, [], Value.slice v29.ptr v29.len v29.cap), (30, [], Value.int .i64 k), (33, [], Value.agg #[Value.string v33.Key, Value.string v33.Val, Value.bool v33.Drop])] (by kernel_rfl) (by kernel_rfl) ?_
        obtain ⟨hp_15, h⟩ := h
        refine mreg_conv [(0, [], Value.pointer b_), (2, [], Value.int .i64 i), (3, [], Value.pointer (some ⟨b_1, 0, none⟩)), (4, [], Value.int .i64 k), (29, [], Value.slice (some ⟨(pblk v29.ptr), (poff v29.ptr), none⟩) v29.len v29.cap), (30, [], Value.int .i64 k), (33, [], Value.agg #[Value.string v33.Key, Value.string v33.Val, Value.bool v33.Drop])] (congrArg (fun pp => ([(0, [], Value.pointer b_), (2, [], Value.int .i64 i), (3, [], Value.pointer (some ⟨b_1, 0, none⟩)), (4, [], Value.int .i64 k), (29, [], Value.slice pp v29.len v29.cap), (30, [], Value.int .i64 k), (33, [], Value.agg #[Value.string v33.Key, Value.string v33.Val, Value.bool v33.Drop])] : GEnv)) hp_15) ?_
        obtain ⟨h0, h1, h⟩ := h
        refine mreg_indexS (i := 6) (by kernel_rfl) (t := 22) (e := 62) (x := (Operand.tmp 29)) (ix := (Operand.tmp 30)) (b := (pblk v29.ptr)) (o := (poff v29.ptr)) (l := v29.len) (c := v29.cap) (k := .i64) (j := k) (ty := 0) (dst := some 34) (sz := 3) (by kernel_rfl) (by kernel_rfl) (by kernel_rfl) (by kernel_rfl) (by kernel_rfl) h0 h1 ?_
        refine mreg_run [] 7 [(0, [], Value.pointer b_), (2, [], Value.int .i64 i), (3, [], Value.pointer (some ⟨b_1, 0, none⟩)), (4, [], Value.int .i64 k), (33, [], Value.agg #[Value.string v33.Key, Value.string v33.Val, Value.bool v33.Drop]), (34, [], Value.pointer (some ⟨(pblk v29.ptr), (poff v29.ptr) + k.toNat * 3, none⟩))] (by kernel_rfl) (by kernel_rfl) ?_
        obtain ⟨hc, h⟩ := h
        refine mreg_store (t := 62) (a := (Operand.tmp 34)) (x := (Operand.tmp 33)) (b := (pblk v29.ptr)) (o := ((poff v29.ptr) + k.toNat * 3)) (k := 3) (ty := 0) (dst := none) 7 [0, 1, 2, 3, 4, 5, 6] [] [Value.string v33.Key, Value.string v33.Val, Value.bool v33.Drop] (by kernel_rfl) (by kernel_rfl) (by kernel_rfl) (by kernel_rfl) (by kernel_rfl) (by kernel_rfl) (by kernel_rfl) (by kernel_rfl) (by kernel_rfl) (by kernel_rfl) hc (fun w7 hw => ?_)
        replace h := h w7 hw
        clear hw
        refine ⟨trivial, ?_⟩
        refine mreg_end [(0, Value.pointer b_), (2, Value.int .i64 i), (3, Value.pointer (some ⟨b_1, 0, none⟩)), (4, Value.int .i64 k)] (by kernel_rfl) (by kernel_rfl) (by kernel_rfl) ?_
        change WpE _ _ c36_33 _ _ _
        refine Zr r36_33 ?_
        refine Zf P3 [(0, .pointer b_), (2, .int .i64 i), (3, .pointer (some ⟨b_1, 0, none⟩)), (4, .int .i64 (IntKind.i64.wrap (k + 1)))] ?_
        have hb_ := again_1_h _ _ h
        exact ⟨_, hb_.2, [(0, Value.pointer b_), (2, Value.int .i64 i), (3, Value.pointer (some ⟨b_1, 0, none⟩)), (4, Value.int .i64 (IntKind.i64.wrap (k + 1)))], Sub.mk (by kernel_rfl), (IntKind.i64.wrap (k + 1)), rfl, hb_.1, rfl⟩
      · replace h := h.2 hb
        refine wpE_exit (id := 2) (by kernel_rfl) ?_
        change WpE _ _ c36_35 _ _ _
        refine Zr r36_35 ?_
        refine Zf P3 [(0, .pointer b_), (2, .int .i64 (IntKind.i64.wrap (i + 1)))] ?_
        have hb_ := again__h _ _ h
        exact ⟨_, hb_.2, [(0, Value.pointer b_), (2, Value.int .i64 (IntKind.i64.wrap (i + 1)))], Sub.mk (by kernel_rfl), (IntKind.i64.wrap (i + 1)), rfl, hb_.1, rfl⟩
    · replace h := h.2 hb
      refine wpE_exit (id := 0) (by kernel_rfl) ?_
      repeat (first | refine seqQ_exit ?_ | refine loopQ_exit ?_ | refine cutQ_exit ?_ | refine blockQ_hit ?_ | refine blockQ_miss (by kernel_rfl) ?_)
      refine retQ_normal ?_
      repeat (first | refine seqQ_ret ?_ | refine blockQ_ret ?_ | refine loopQ_ret ?_ | refine cutQ_ret ?_)
      exact retT (rs := []) (vs := []) (by kernel_rfl) (trivial) (by kernel_rfl) ⟨rfl, h⟩
  · rintro e w' ⟨v, rfl, rfl, h⟩; exact ⟨rfl, h⟩

/-! ### (*towpath/towpathlaw01.Book).fillEntry (function 37) -/
noncomputable def c37_0 := (Tryz.f37.body).getD Code.skip
noncomputable def c37_3 := Code.r c37_0
noncomputable def c37_4 := Code.l c37_3
noncomputable def c37_5 := Code.l c37_4
noncomputable def c37_6 := Code.l c37_5
noncomputable def c37_7 := Code.l c37_6
noncomputable def r37_7 := Code.ops c37_7
noncomputable def c37_9 := Code.r c37_6
noncomputable def c37_10 := Code.l c37_9
noncomputable def c37_11 := Code.r c37_9
noncomputable def c37_12 := Code.r c37_5

theorem S_towpathlaw01_Book_fillEntry {b_ : Option Addr} {w : World} {R : World → Prop} (h : F_towpathlaw01_Book_fillEntry b_ R w) : C_towpathlaw01_Book_fillEntry b_ w R := by
  unfold F_towpathlaw01_Book_fillEntry at h
  unfold C_towpathlaw01_Book_fillEntry
  refine Calls.mono (calls_of_wpE (args := [Value.pointer b_]) (R := fun v w' => v = Value.tuple #[] ∧ R w') Tryz.func37 (c := c37_0) (by kernel_rfl) 35 (by kernel_rfl) (by kernel_rfl) [(0, Value.pointer b_)] (by kernel_rfl) ?_) ?_
  · refine Zp c37_3 P1 [(0, .pointer b_), (2, .int .i64 0)] ?_
    refine Zb 0 c37_4 ?_
    obtain ⟨I, μ, h0, hr⟩ := h
    refine wpE_loop (x := c37_5) (by kernel_rfl) (fun m l w => ∃ (i : Int), l = [(0, Value.pointer b_), (2, Value.int .i64 i)] ∧ I i w ∧ μ i w = m) (l' := [(0, Value.pointer b_), (2, Value.int .i64 0)]) (Sub.mk (by kernel_rfl)) ⟨0, rfl, h0, rfl⟩ ?_
    rintro _ _ w1 ⟨i, rfl, hI, rfl⟩
    obtain ⟨again_, again__h, h⟩ : ∃ again_ : Int → World → Prop, (∀ i' w', again_ i' w' → I i' w' ∧ μ i' w' < μ i w1) ∧ F_towpathlaw01_Book_fillEntry_L0 b_ R again_ i w1 := ⟨_, fun _ _ h => h, hr i w1 hI⟩
    clear h0 hI
    unfold F_towpathlaw01_Book_fillEntry_L0 at h
    refine Zs c37_6 c37_12 ?_
    refine Zt r37_7 c37_9 ?_
    refine Zn P2 2 [(0, [], .pointer b_), (2, [], .int .i64 i), (5, [], .int .i64 i), (6, [], .pointer b_)] ?_
    obtain ⟨hp_3, h⟩ := h
    refine Zv (fun pp => [(0, [], .pointer b_), (2, [], .int .i64 i), (5, [], .int .i64 i), (6, [], .pointer pp)]) hp_3 ?_
    refine Zn P1 3 [(0, [], .pointer b_), (2, [], .int .i64 i), (5, [], .int .i64 i), (6, [], .pointer (some ⟨(pblk b_), (poff b_), none⟩)), (7, [], .pointer (some ⟨(pblk b_), (poff b_), none⟩))] ?_
    refine Zn P1 4 [(0, [], .pointer b_), (2, [], .int .i64 i), (5, [], .int .i64 i), (8, [], .pointer (some ⟨(pblk b_), (poff b_) + 5, none⟩))] ?_
    obtain ⟨v9, hc, h⟩ := h
    refine Zl 41 8 (pblk b_) ((poff b_) + 5) 41 9 hc ?_
    refine Zf P2 [(0, .pointer b_), (2, .int .i64 i), (11, .bool (decide (i < ((v9.len : Nat) : Int))))] ?_
    change WpE _ _ c37_9 _ _ _
    refine Zc 11 (decide (i < ((v9.len : Nat) : Int))) c37_10 c37_11 (fun hb => ?_) (fun hb => ?_)
    · replace h := h.1 hb
      exact h.elim
    · replace h := h.2 hb
      refine wpE_exit (id := 0) (by kernel_rfl) ?_
      repeat (first | refine seqQ_exit ?_ | refine loopQ_exit ?_ | refine cutQ_exit ?_ | refine blockQ_hit ?_ | refine blockQ_miss (by kernel_rfl) ?_)
      refine retQ_normal ?_
      repeat (first | refine seqQ_ret ?_ | refine blockQ_ret ?_ | refine loopQ_ret ?_ | refine cutQ_ret ?_)
      exact retT (rs := []) (vs := []) (by kernel_rfl) (trivial) (by kernel_rfl) ⟨rfl, h⟩
  · rintro e w' ⟨v, rfl, rfl, h⟩; exact ⟨rfl, h⟩

/-! ### (*towpath/towpathlaw01.Book).fillVersion (function 38) -/
noncomputable def c38_0 := (Tryz.f38.body).getD Code.skip
noncomputable def c38_3 := Code.r c38_0
noncomputable def c38_4 := Code.l c38_3
noncomputable def c38_5 := Code.l c38_4
noncomputable def c38_6 := Code.l c38_5
noncomputable def c38_7 := Code.l c38_6
noncomputable def r38_7 := Code.ops c38_7
noncomputable def c38_9 := Code.r c38_6
noncomputable def c38_10 := Code.l c38_9
noncomputable def c38_11 := Code.r c38_9
noncomputable def c38_12 := Code.r c38_5

theorem S_towpathlaw01_Book_fillVersion {b_ : Option Addr} {w : World} {R : World → Prop} (h : F_towpathlaw01_Book_fillVersion b_ R w) : C_towpathlaw01_Book_fillVersion b_ w R := by
  unfold F_towpathlaw01_Book_fillVersion at h
  unfold C_towpathlaw01_Book_fillVersion
  refine Calls.mono (calls_of_wpE (args := [Value.pointer b_]) (R := fun v w' => v = Value.tuple #[] ∧ R w') Tryz.func38 (c := c38_0) (by kernel_rfl) 35 (by kernel_rfl) (by kernel_rfl) [(0, Value.pointer b_)] (by kernel_rfl) ?_) ?_
  · refine Zp c38_3 P1 [(0, .pointer b_), (2, .int .i64 0)] ?_
    refine Zb 0 c38_4 ?_
    obtain ⟨I, μ, h0, hr⟩ := h
    refine wpE_loop (x := c38_5) (by kernel_rfl) (fun m l w => ∃ (i : Int), l = [(0, Value.pointer b_), (2, Value.int .i64 i)] ∧ I i w ∧ μ i w = m) (l' := [(0, Value.pointer b_), (2, Value.int .i64 0)]) (Sub.mk (by kernel_rfl)) ⟨0, rfl, h0, rfl⟩ ?_
    rintro _ _ w1 ⟨i, rfl, hI, rfl⟩
    obtain ⟨again_, again__h, h⟩ : ∃ again_ : Int → World → Prop, (∀ i' w', again_ i' w' → I i' w' ∧ μ i' w' < μ i w1) ∧ F_towpathlaw01_Book_fillVersion_L0 b_ R again_ i w1 := ⟨_, fun _ _ h => h, hr i w1 hI⟩
    clear h0 hI
    unfold F_towpathlaw01_Book_fillVersion_L0 at h
    refine Zs c38_6 c38_12 ?_
    refine Zt r38_7 c38_9 ?_
    refine Zn P2 2 [(0, [], .pointer b_), (2, [], .int .i64 i), (5, [], .int .i64 i), (6, [], .pointer b_)] ?_
    obtain ⟨hp_3, h⟩ := h
    refine Zv (fun pp => [(0, [], .pointer b_), (2, [], .int .i64 i), (5, [], .int .i64 i), (6, [], .pointer pp)]) hp_3 ?_
    refine Zn P1 3 [(0, [], .pointer b_), (2, [], .int .i64 i), (5, [], .int .i64 i), (6, [], .pointer (some ⟨(pblk b_), (poff b_), none⟩)), (7, [], .pointer (some ⟨(pblk b_), (poff b_), none⟩))] ?_
    refine Zn P1 4 [(0, [], .pointer b_), (2, [], .int .i64 i), (5, [], .int .i64 i), (8, [], .pointer (some ⟨(pblk b_), (poff b_) + 6, none⟩))] ?_
    obtain ⟨v9, hc, h⟩ := h
    refine Zl 42 8 (pblk b_) ((poff b_) + 6) 42 9 hc ?_
    refine Zf P2 [(0, .pointer b_), (2, .int .i64 i), (11, .bool (decide (i < ((v9.len : Nat) : Int))))] ?_
    change WpE _ _ c38_9 _ _ _
    refine Zc 11 (decide (i < ((v9.len : Nat) : Int))) c38_10 c38_11 (fun hb => ?_) (fun hb => ?_)
    · replace h := h.1 hb
      exact h.elim
    · replace h := h.2 hb
      refine wpE_exit (id := 0) (by kernel_rfl) ?_
      repeat (first | refine seqQ_exit ?_ | refine loopQ_exit ?_ | refine cutQ_exit ?_ | refine blockQ_hit ?_ | refine blockQ_miss (by kernel_rfl) ?_)
      refine retQ_normal ?_
      repeat (first | refine seqQ_ret ?_ | refine blockQ_ret ?_ | refine loopQ_ret ?_ | refine cutQ_ret ?_)
      exact retT (rs := []) (vs := []) (by kernel_rfl) (trivial) (by kernel_rfl) ⟨rfl, h⟩
  · rintro e w' ⟨v, rfl, rfl, h⟩; exact ⟨rfl, h⟩

/-! ### (*towpath/towpathlaw01.Book).fillTxn (function 39) -/
noncomputable def c39_0 := (Tryz.f39.body).getD Code.skip
noncomputable def c39_3 := Code.r c39_0
noncomputable def c39_4 := Code.l c39_3
noncomputable def c39_5 := Code.l c39_4
noncomputable def c39_6 := Code.l c39_5
noncomputable def c39_7 := Code.l c39_6
noncomputable def r39_7 := Code.ops c39_7
noncomputable def c39_9 := Code.r c39_6
noncomputable def c39_10 := Code.l c39_9
noncomputable def c39_11 := Code.r c39_9
noncomputable def c39_12 := Code.r c39_5

theorem S_towpathlaw01_Book_fillTxn {b_ : Option Addr} {w : World} {R : World → Prop} (h : F_towpathlaw01_Book_fillTxn b_ R w) : C_towpathlaw01_Book_fillTxn b_ w R := by
  unfold F_towpathlaw01_Book_fillTxn at h
  unfold C_towpathlaw01_Book_fillTxn
  refine Calls.mono (calls_of_wpE (args := [Value.pointer b_]) (R := fun v w' => v = Value.tuple #[] ∧ R w') Tryz.func39 (c := c39_0) (by kernel_rfl) 35 (by kernel_rfl) (by kernel_rfl) [(0, Value.pointer b_)] (by kernel_rfl) ?_) ?_
  · refine Zp c39_3 P1 [(0, .pointer b_), (2, .int .i64 0)] ?_
    refine Zb 0 c39_4 ?_
    obtain ⟨I, μ, h0, hr⟩ := h
    refine wpE_loop (x := c39_5) (by kernel_rfl) (fun m l w => ∃ (i : Int), l = [(0, Value.pointer b_), (2, Value.int .i64 i)] ∧ I i w ∧ μ i w = m) (l' := [(0, Value.pointer b_), (2, Value.int .i64 0)]) (Sub.mk (by kernel_rfl)) ⟨0, rfl, h0, rfl⟩ ?_
    rintro _ _ w1 ⟨i, rfl, hI, rfl⟩
    obtain ⟨again_, again__h, h⟩ : ∃ again_ : Int → World → Prop, (∀ i' w', again_ i' w' → I i' w' ∧ μ i' w' < μ i w1) ∧ F_towpathlaw01_Book_fillTxn_L0 b_ R again_ i w1 := ⟨_, fun _ _ h => h, hr i w1 hI⟩
    clear h0 hI
    unfold F_towpathlaw01_Book_fillTxn_L0 at h
    refine Zs c39_6 c39_12 ?_
    refine Zt r39_7 c39_9 ?_
    refine Zn P2 2 [(0, [], .pointer b_), (2, [], .int .i64 i), (5, [], .int .i64 i), (6, [], .pointer b_)] ?_
    obtain ⟨hp_3, h⟩ := h
    refine Zv (fun pp => [(0, [], .pointer b_), (2, [], .int .i64 i), (5, [], .int .i64 i), (6, [], .pointer pp)]) hp_3 ?_
    refine Zn P1 3 [(0, [], .pointer b_), (2, [], .int .i64 i), (5, [], .int .i64 i), (6, [], .pointer (some ⟨(pblk b_), (poff b_), none⟩)), (7, [], .pointer (some ⟨(pblk b_), (poff b_), none⟩))] ?_
    refine Zn P1 4 [(0, [], .pointer b_), (2, [], .int .i64 i), (5, [], .int .i64 i), (8, [], .pointer (some ⟨(pblk b_), (poff b_) + 7, none⟩))] ?_
    obtain ⟨v9, hc, h⟩ := h
    refine Zl 43 8 (pblk b_) ((poff b_) + 7) 43 9 hc ?_
    refine Zf P2 [(0, .pointer b_), (2, .int .i64 i), (11, .bool (decide (i < ((v9.len : Nat) : Int))))] ?_
    change WpE _ _ c39_9 _ _ _
    refine Zc 11 (decide (i < ((v9.len : Nat) : Int))) c39_10 c39_11 (fun hb => ?_) (fun hb => ?_)
    · replace h := h.1 hb
      exact h.elim
    · replace h := h.2 hb
      refine wpE_exit (id := 0) (by kernel_rfl) ?_
      repeat (first | refine seqQ_exit ?_ | refine loopQ_exit ?_ | refine cutQ_exit ?_ | refine blockQ_hit ?_ | refine blockQ_miss (by kernel_rfl) ?_)
      refine retQ_normal ?_
      repeat (first | refine seqQ_ret ?_ | refine blockQ_ret ?_ | refine loopQ_ret ?_ | refine cutQ_ret ?_)
      exact retT (rs := []) (vs := []) (by kernel_rfl) (trivial) (by kernel_rfl) ⟨rfl, h⟩
  · rintro e w' ⟨v, rfl, rfl, h⟩; exact ⟨rfl, h⟩

/-! ### (*towpath/towpathlaw01.Book).fillHeld (function 40) -/
noncomputable def c40_0 := (Tryz.f40.body).getD Code.skip
noncomputable def c40_3 := Code.r c40_0
noncomputable def c40_4 := Code.l c40_3
noncomputable def c40_5 := Code.l c40_4
noncomputable def c40_6 := Code.l c40_5
noncomputable def c40_7 := Code.l c40_6
noncomputable def r40_7 := Code.ops c40_7
noncomputable def c40_9 := Code.r c40_6
noncomputable def c40_10 := Code.l c40_9
noncomputable def c40_11 := Code.r c40_9
noncomputable def c40_12 := Code.r c40_5

theorem S_towpathlaw01_Book_fillHeld {b_ : Option Addr} {w : World} {R : World → Prop} (h : F_towpathlaw01_Book_fillHeld b_ R w) : C_towpathlaw01_Book_fillHeld b_ w R := by
  unfold F_towpathlaw01_Book_fillHeld at h
  unfold C_towpathlaw01_Book_fillHeld
  refine Calls.mono (calls_of_wpE (args := [Value.pointer b_]) (R := fun v w' => v = Value.tuple #[] ∧ R w') Tryz.func40 (c := c40_0) (by kernel_rfl) 35 (by kernel_rfl) (by kernel_rfl) [(0, Value.pointer b_)] (by kernel_rfl) ?_) ?_
  · refine Zp c40_3 P1 [(0, .pointer b_), (2, .int .i64 0)] ?_
    refine Zb 0 c40_4 ?_
    obtain ⟨I, μ, h0, hr⟩ := h
    refine wpE_loop (x := c40_5) (by kernel_rfl) (fun m l w => ∃ (i : Int), l = [(0, Value.pointer b_), (2, Value.int .i64 i)] ∧ I i w ∧ μ i w = m) (l' := [(0, Value.pointer b_), (2, Value.int .i64 0)]) (Sub.mk (by kernel_rfl)) ⟨0, rfl, h0, rfl⟩ ?_
    rintro _ _ w1 ⟨i, rfl, hI, rfl⟩
    obtain ⟨again_, again__h, h⟩ : ∃ again_ : Int → World → Prop, (∀ i' w', again_ i' w' → I i' w' ∧ μ i' w' < μ i w1) ∧ F_towpathlaw01_Book_fillHeld_L0 b_ R again_ i w1 := ⟨_, fun _ _ h => h, hr i w1 hI⟩
    clear h0 hI
    unfold F_towpathlaw01_Book_fillHeld_L0 at h
    refine Zs c40_6 c40_12 ?_
    refine Zt r40_7 c40_9 ?_
    refine Zn P2 2 [(0, [], .pointer b_), (2, [], .int .i64 i), (5, [], .int .i64 i), (6, [], .pointer b_)] ?_
    obtain ⟨hp_3, h⟩ := h
    refine Zv (fun pp => [(0, [], .pointer b_), (2, [], .int .i64 i), (5, [], .int .i64 i), (6, [], .pointer pp)]) hp_3 ?_
    refine Zn P1 3 [(0, [], .pointer b_), (2, [], .int .i64 i), (5, [], .int .i64 i), (6, [], .pointer (some ⟨(pblk b_), (poff b_), none⟩)), (7, [], .pointer (some ⟨(pblk b_), (poff b_), none⟩))] ?_
    refine Zn P1 4 [(0, [], .pointer b_), (2, [], .int .i64 i), (5, [], .int .i64 i), (8, [], .pointer (some ⟨(pblk b_), (poff b_) + 8, none⟩))] ?_
    obtain ⟨v9, hc, h⟩ := h
    refine Zl 44 8 (pblk b_) ((poff b_) + 8) 44 9 hc ?_
    refine Zf P2 [(0, .pointer b_), (2, .int .i64 i), (11, .bool (decide (i < ((v9.len : Nat) : Int))))] ?_
    change WpE _ _ c40_9 _ _ _
    refine Zc 11 (decide (i < ((v9.len : Nat) : Int))) c40_10 c40_11 (fun hb => ?_) (fun hb => ?_)
    · replace h := h.1 hb
      exact h.elim
    · replace h := h.2 hb
      refine wpE_exit (id := 0) (by kernel_rfl) ?_
      repeat (first | refine seqQ_exit ?_ | refine loopQ_exit ?_ | refine cutQ_exit ?_ | refine blockQ_hit ?_ | refine blockQ_miss (by kernel_rfl) ?_)
      refine retQ_normal ?_
      repeat (first | refine seqQ_ret ?_ | refine blockQ_ret ?_ | refine loopQ_ret ?_ | refine cutQ_ret ?_)
      exact retT (rs := []) (vs := []) (by kernel_rfl) (trivial) (by kernel_rfl) ⟨rfl, h⟩
  · rintro e w' ⟨v, rfl, rfl, h⟩; exact ⟨rfl, h⟩

/-! ### (*towpath/towpathlaw01.Book).fillHeldList (function 41) -/
noncomputable def c41_0 := (Tryz.f41.body).getD Code.skip
noncomputable def c41_3 := Code.r c41_0
noncomputable def c41_4 := Code.l c41_3
noncomputable def c41_5 := Code.l c41_4
noncomputable def c41_6 := Code.l c41_5
noncomputable def c41_7 := Code.l c41_6
noncomputable def r41_7 := Code.ops c41_7
noncomputable def c41_9 := Code.r c41_6
noncomputable def c41_10 := Code.l c41_9
noncomputable def c41_11 := Code.r c41_9
noncomputable def c41_12 := Code.r c41_5

theorem S_towpathlaw01_Book_fillHeldList {b_ : Option Addr} {w : World} {R : World → Prop} (h : F_towpathlaw01_Book_fillHeldList b_ R w) : C_towpathlaw01_Book_fillHeldList b_ w R := by
  unfold F_towpathlaw01_Book_fillHeldList at h
  unfold C_towpathlaw01_Book_fillHeldList
  refine Calls.mono (calls_of_wpE (args := [Value.pointer b_]) (R := fun v w' => v = Value.tuple #[] ∧ R w') Tryz.func41 (c := c41_0) (by kernel_rfl) 35 (by kernel_rfl) (by kernel_rfl) [(0, Value.pointer b_)] (by kernel_rfl) ?_) ?_
  · refine Zp c41_3 P1 [(0, .pointer b_), (2, .int .i64 0)] ?_
    refine Zb 0 c41_4 ?_
    obtain ⟨I, μ, h0, hr⟩ := h
    refine wpE_loop (x := c41_5) (by kernel_rfl) (fun m l w => ∃ (i : Int), l = [(0, Value.pointer b_), (2, Value.int .i64 i)] ∧ I i w ∧ μ i w = m) (l' := [(0, Value.pointer b_), (2, Value.int .i64 0)]) (Sub.mk (by kernel_rfl)) ⟨0, rfl, h0, rfl⟩ ?_
    rintro _ _ w1 ⟨i, rfl, hI, rfl⟩
    obtain ⟨again_, again__h, h⟩ : ∃ again_ : Int → World → Prop, (∀ i' w', again_ i' w' → I i' w' ∧ μ i' w' < μ i w1) ∧ F_towpathlaw01_Book_fillHeldList_L0 b_ R again_ i w1 := ⟨_, fun _ _ h => h, hr i w1 hI⟩
    clear h0 hI
    unfold F_towpathlaw01_Book_fillHeldList_L0 at h
    refine Zs c41_6 c41_12 ?_
    refine Zt r41_7 c41_9 ?_
    refine Zn P2 2 [(0, [], .pointer b_), (2, [], .int .i64 i), (5, [], .int .i64 i), (6, [], .pointer b_)] ?_
    obtain ⟨hp_3, h⟩ := h
    refine Zv (fun pp => [(0, [], .pointer b_), (2, [], .int .i64 i), (5, [], .int .i64 i), (6, [], .pointer pp)]) hp_3 ?_
    refine Zn P1 3 [(0, [], .pointer b_), (2, [], .int .i64 i), (5, [], .int .i64 i), (6, [], .pointer (some ⟨(pblk b_), (poff b_), none⟩)), (7, [], .pointer (some ⟨(pblk b_), (poff b_), none⟩))] ?_
    refine Zn P1 4 [(0, [], .pointer b_), (2, [], .int .i64 i), (5, [], .int .i64 i), (8, [], .pointer (some ⟨(pblk b_), (poff b_) + 9, none⟩))] ?_
    obtain ⟨v9, hc, h⟩ := h
    refine Zl 45 8 (pblk b_) ((poff b_) + 9) 45 9 hc ?_
    refine Zf P2 [(0, .pointer b_), (2, .int .i64 i), (11, .bool (decide (i < ((v9.len : Nat) : Int))))] ?_
    change WpE _ _ c41_9 _ _ _
    refine Zc 11 (decide (i < ((v9.len : Nat) : Int))) c41_10 c41_11 (fun hb => ?_) (fun hb => ?_)
    · replace h := h.1 hb
      exact h.elim
    · replace h := h.2 hb
      refine wpE_exit (id := 0) (by kernel_rfl) ?_
      repeat (first | refine seqQ_exit ?_ | refine loopQ_exit ?_ | refine cutQ_exit ?_ | refine blockQ_hit ?_ | refine blockQ_miss (by kernel_rfl) ?_)
      refine retQ_normal ?_
      repeat (first | refine seqQ_ret ?_ | refine blockQ_ret ?_ | refine loopQ_ret ?_ | refine cutQ_ret ?_)
      exact retT (rs := []) (vs := []) (by kernel_rfl) (trivial) (by kernel_rfl) ⟨rfl, h⟩
  · rintro e w' ⟨v, rfl, rfl, h⟩; exact ⟨rfl, h⟩

/-! ### (*towpath/towpathlaw01.Book).fillEvent (function 42) -/
noncomputable def c42_0 := (Tryz.f42.body).getD Code.skip
noncomputable def c42_3 := Code.r c42_0
noncomputable def c42_4 := Code.l c42_3
noncomputable def c42_5 := Code.l c42_4
noncomputable def c42_6 := Code.l c42_5
noncomputable def c42_7 := Code.l c42_6
noncomputable def r42_7 := Code.ops c42_7
noncomputable def c42_9 := Code.r c42_6
noncomputable def c42_10 := Code.l c42_9
noncomputable def c42_11 := Code.r c42_9
noncomputable def c42_12 := Code.r c42_5

theorem S_towpathlaw01_Book_fillEvent {b_ : Option Addr} {w : World} {R : World → Prop} (h : F_towpathlaw01_Book_fillEvent b_ R w) : C_towpathlaw01_Book_fillEvent b_ w R := by
  unfold F_towpathlaw01_Book_fillEvent at h
  unfold C_towpathlaw01_Book_fillEvent
  refine Calls.mono (calls_of_wpE (args := [Value.pointer b_]) (R := fun v w' => v = Value.tuple #[] ∧ R w') Tryz.func42 (c := c42_0) (by kernel_rfl) 35 (by kernel_rfl) (by kernel_rfl) [(0, Value.pointer b_)] (by kernel_rfl) ?_) ?_
  · refine Zp c42_3 P1 [(0, .pointer b_), (2, .int .i64 0)] ?_
    refine Zb 0 c42_4 ?_
    obtain ⟨I, μ, h0, hr⟩ := h
    refine wpE_loop (x := c42_5) (by kernel_rfl) (fun m l w => ∃ (i : Int), l = [(0, Value.pointer b_), (2, Value.int .i64 i)] ∧ I i w ∧ μ i w = m) (l' := [(0, Value.pointer b_), (2, Value.int .i64 0)]) (Sub.mk (by kernel_rfl)) ⟨0, rfl, h0, rfl⟩ ?_
    rintro _ _ w1 ⟨i, rfl, hI, rfl⟩
    obtain ⟨again_, again__h, h⟩ : ∃ again_ : Int → World → Prop, (∀ i' w', again_ i' w' → I i' w' ∧ μ i' w' < μ i w1) ∧ F_towpathlaw01_Book_fillEvent_L0 b_ R again_ i w1 := ⟨_, fun _ _ h => h, hr i w1 hI⟩
    clear h0 hI
    unfold F_towpathlaw01_Book_fillEvent_L0 at h
    refine Zs c42_6 c42_12 ?_
    refine Zt r42_7 c42_9 ?_
    refine Zn P2 2 [(0, [], .pointer b_), (2, [], .int .i64 i), (5, [], .int .i64 i), (6, [], .pointer b_)] ?_
    obtain ⟨hp_3, h⟩ := h
    refine Zv (fun pp => [(0, [], .pointer b_), (2, [], .int .i64 i), (5, [], .int .i64 i), (6, [], .pointer pp)]) hp_3 ?_
    refine Zn P1 3 [(0, [], .pointer b_), (2, [], .int .i64 i), (5, [], .int .i64 i), (6, [], .pointer (some ⟨(pblk b_), (poff b_), none⟩)), (7, [], .pointer (some ⟨(pblk b_), (poff b_), none⟩))] ?_
    refine Zn P1 4 [(0, [], .pointer b_), (2, [], .int .i64 i), (5, [], .int .i64 i), (8, [], .pointer (some ⟨(pblk b_), (poff b_) + 10, none⟩))] ?_
    obtain ⟨v9, hc, h⟩ := h
    refine Zl 46 8 (pblk b_) ((poff b_) + 10) 46 9 hc ?_
    refine Zf P2 [(0, .pointer b_), (2, .int .i64 i), (11, .bool (decide (i < ((v9.len : Nat) : Int))))] ?_
    change WpE _ _ c42_9 _ _ _
    refine Zc 11 (decide (i < ((v9.len : Nat) : Int))) c42_10 c42_11 (fun hb => ?_) (fun hb => ?_)
    · replace h := h.1 hb
      exact h.elim
    · replace h := h.2 hb
      refine wpE_exit (id := 0) (by kernel_rfl) ?_
      repeat (first | refine seqQ_exit ?_ | refine loopQ_exit ?_ | refine cutQ_exit ?_ | refine blockQ_hit ?_ | refine blockQ_miss (by kernel_rfl) ?_)
      refine retQ_normal ?_
      repeat (first | refine seqQ_ret ?_ | refine blockQ_ret ?_ | refine loopQ_ret ?_ | refine cutQ_ret ?_)
      exact retT (rs := []) (vs := []) (by kernel_rfl) (trivial) (by kernel_rfl) ⟨rfl, h⟩
  · rintro e w' ⟨v, rfl, rfl, h⟩; exact ⟨rfl, h⟩
end Go.Proofs.YtfmkemmgakdddaaGreatDoor
