/- WRITTEN BY PROGRAM (dec.py): for each Go function the clean formula F, the call's contract C, and the proof S that F gives C. -/
import Derived.Test.YtfmkemmgakdddaaGreatDoorRows
import Derived.Test.YtfmkemmgakdddaaGreatDoorGF
namespace Go.Proofs.YtfmkemmgakdddaaGreatDoor
open Go
set_option linter.unusedVariables false
set_option maxRecDepth 100000
set_option maxHeartbeats 4000000

/-! ### slices.ContainsFunc[[]towpath/api.Write,towpath/api.Write] (function 27) -/
noncomputable def c27_0 := (Tryz.f27.body).getD Code.skip
noncomputable def c27_3 := Code.r c27_0
noncomputable def c27_4 := Code.l c27_3
noncomputable def r27_4 := Code.ops c27_4
noncomputable def c27_6 := Code.r c27_3

theorem S_slices_ContainsFunc_api_Write_api_Write {s : Slc} {f : Value} {w : World} {R : Bool → World → Prop} (h : F_slices_ContainsFunc_api_Write_api_Write s f R w) : C_slices_ContainsFunc_api_Write_api_Write s f w R := by
  unfold F_slices_ContainsFunc_api_Write_api_Write at h
  unfold C_slices_ContainsFunc_api_Write_api_Write
  refine Calls.mono (calls_of_wpE (args := [Value.slice s.ptr s.len s.cap, f]) (R := fun v w' => ∃ (r0 : Bool), v = Value.bool r0 ∧ R r0 w') Tryz.func27 (c := c27_0) (by kernel_rfl) 9 (by kernel_rfl) (by kernel_rfl) [(0, Value.slice s.ptr s.len s.cap), (1, f)] (by kernel_rfl) ?_) ?_
  · refine Zp c27_3 P1 [(0, .slice s.ptr s.len s.cap), (1, f)] ?_
    refine Zt r27_4 c27_6 ?_
    refine Zn P2 2 [(5, [], .slice s.ptr s.len s.cap), (6, [], f)] ?_
    refine Zm 68 #[.slice s.ptr s.len s.cap, f] (some 7) (Calls.mono h ?_)
    rintro _ w1 ⟨v7, rfl, h⟩
    refine ⟨_, rfl, ?_⟩
    refine Zf P2 [(4, .bool (decide (v7 ≥ 0)))] ?_
    change WpE _ _ c27_6 _ _ _
    refine wpE_ret (by kernel_rfl) ?_
    repeat (first | refine seqQ_ret ?_ | refine blockQ_ret ?_ | refine loopQ_ret ?_ | refine cutQ_ret ?_)
    exact retS (rs := [(ResultVar.tmp 4)]) (v := Value.bool (decide (v7 ≥ 0))) (by kernel_rfl) (⟨by kernel_rfl, trivial⟩) ⟨(decide (v7 ≥ 0)), rfl, h⟩
  · rintro e w' ⟨v, rfl, r0, rfl, h⟩; exact ⟨r0, rfl, h⟩

/-! ### slices.Clone[[]byte,byte] (function 67) -/
noncomputable def c67_0 := (Tryz.f67.body).getD Code.skip
noncomputable def c67_3 := Code.r c67_0
noncomputable def c67_4 := Code.l c67_3
noncomputable def c67_5 := Code.l c67_4
noncomputable def r67_5 := Code.ops c67_5
noncomputable def c67_7 := Code.r c67_4
noncomputable def c67_8 := Code.l c67_7
noncomputable def c67_11 := Code.r c67_8
noncomputable def c67_12 := Code.r c67_7
noncomputable def c67_13 := Code.r c67_3
noncomputable def c67_14 := Code.l c67_13
noncomputable def r67_14 := Code.ops c67_14
noncomputable def c67_16 := Code.r c67_13

theorem S_slices_Clone_byte_byte {s : Slc} {w : World} {R : Slc → World → Prop} (h : F_slices_Clone_byte_byte s R w) : C_slices_Clone_byte_byte s w R := by
  unfold F_slices_Clone_byte_byte at h
  unfold C_slices_Clone_byte_byte
  refine Calls.mono (calls_of_wpE (args := [Value.slice s.ptr s.len s.cap]) (R := fun v w' => ∃ (r0 : Slc), v = Value.slice r0.ptr r0.len r0.cap ∧ R r0 w') Tryz.func67 (c := c67_0) (by kernel_rfl) 8 (by kernel_rfl) (by kernel_rfl) [(0, Value.slice s.ptr s.len s.cap)] (by kernel_rfl) ?_) ?_
  · refine Zp c67_3 P1 [(0, .slice s.ptr s.len s.cap)] ?_
    refine Zs c67_4 c67_13 ?_
    refine Zt r67_5 c67_7 ?_
    refine Zn P1 1 [(0, [], .slice s.ptr s.len s.cap), (3, [], .slice s.ptr s.len s.cap)] ?_
    refine reg_val (op := (Op.binOp BinOp.eql 28 (Operand.tmp 3) (Operand.const (Value.slice none 0 0)) 28)) (ty := 4) (dst := some 4) (Value.bool s.ptr.isNone) (by kernel_rfl) (fun ww => run_slice_eql_R (p := s.ptr) (l := s.len) (c := s.cap) (by kernel_rfl) (by kernel_rfl) (by kernel_rfl) ww) ?_
    refine Ze [(0, .slice s.ptr s.len s.cap), (4, .bool s.ptr.isNone)] ?_
    change WpE _ _ c67_7 _ _ _
    refine Zc 4 s.ptr.isNone c67_8 c67_12 (fun hb => ?_) (fun hb => ?_)
    · replace h := h.1 hb
      refine Zp c67_11 P1 [(2, .slice none 0 0)] ?_
      refine wpE_ret (by kernel_rfl) ?_
      repeat (first | refine seqQ_ret ?_ | refine blockQ_ret ?_ | refine loopQ_ret ?_ | refine cutQ_ret ?_)
      exact retS (rs := [(ResultVar.tmp 2)]) (v := Value.slice none 0 0) (by kernel_rfl) (⟨by kernel_rfl, trivial⟩) ⟨(Slc.mk none 0 0), rfl, h⟩
    · replace h := h.2 hb
      refine wpE_skip (by kernel_rfl) ?_
      change WpE _ _ c67_13 _ _ _
      refine Zt r67_14 c67_16 ?_
      refine Zn [] 0 [(0, [], .slice s.ptr s.len s.cap)] ?_
      refine Zw (some 5) (fun bb => .slice (some ⟨bb, 0, none⟩) 0 0) (Obj.cells ([]).toArray ty_uint8 (0, 0)) (fun b_ w1 hb hw => ?_)
      replace h := h b_ w1 hb hw
      clear hb hw
      refine Zn P1 2 [(5, [], .slice (some ⟨b_, 0, none⟩) 0 0), (6, [], .slice s.ptr s.len s.cap)] ?_
      obtain ⟨src, hs, h⟩ := h
      refine reg_append (t := 28) (tx := 28) (e := 5) (a := (Operand.tmp 5)) (xo := (Operand.tmp 6)) (s := (Slc.mk (some ⟨b_, 0, none⟩) 0 0)) (x := s) (sz := 1) (by_ := 1) (zs := [Value.int .u8 0]) (ty := 28) (dst := some 7)  src (by kernel_rfl) (by kernel_rfl) (by kernel_rfl) (by kernel_rfl) (by kernel_rfl) (by kernel_rfl) (by kernel_rfl) (by kernel_rfl) (by kernel_rfl) hs (AppendW.mono h (fun v7 w2 h => ?_))
      refine Zf P1 [(2, .slice v7.ptr v7.len v7.cap)] ?_
      change WpE _ _ c67_16 _ _ _
      refine wpE_ret (by kernel_rfl) ?_
      repeat (first | refine seqQ_ret ?_ | refine blockQ_ret ?_ | refine loopQ_ret ?_ | refine cutQ_ret ?_)
      exact retS (rs := [(ResultVar.tmp 2)]) (v := Value.slice v7.ptr v7.len v7.cap) (by kernel_rfl) (⟨by kernel_rfl, trivial⟩) ⟨v7, rfl, h⟩
  · rintro e w' ⟨v, rfl, r0, rfl, h⟩; exact ⟨r0, rfl, h⟩

/-! ### slices.IndexFunc[[]towpath/api.Write,towpath/api.Write] (function 68) -/
noncomputable def c68_0 := (Tryz.f68.body).getD Code.skip
noncomputable def c68_3 := Code.r c68_0
noncomputable def c68_4 := Code.l c68_3
noncomputable def c68_7 := Code.r c68_4
noncomputable def c68_8 := Code.l c68_7
noncomputable def c68_9 := Code.l c68_8
noncomputable def c68_12 := Code.r c68_9
noncomputable def c68_13 := Code.l c68_12
noncomputable def c68_14 := Code.l c68_13
noncomputable def c68_15 := Code.r c68_13
noncomputable def c68_16 := Code.r c68_12
noncomputable def c68_17 := Code.l c68_16
noncomputable def c68_18 := Code.l c68_17
noncomputable def c68_21 := Code.r c68_18
noncomputable def c68_22 := Code.l c68_21
noncomputable def r68_22 := Code.ops c68_22
noncomputable def c68_24 := Code.r c68_21
noncomputable def c68_25 := Code.l c68_24
noncomputable def c68_28 := Code.r c68_25
noncomputable def c68_29 := Code.r c68_24
noncomputable def c68_30 := Code.r c68_16
noncomputable def r68_30 := Code.ops c68_30
noncomputable def c68_32 := Code.r c68_3
noncomputable def c68_35 := Code.r c68_32

theorem S_slices_IndexFunc_api_Write_api_Write {s : Slc} {f : Value} {w : World} {R : Int → World → Prop} (h : F_slices_IndexFunc_api_Write_api_Write s f R w) : C_slices_IndexFunc_api_Write_api_Write s f w R := by
  unfold F_slices_IndexFunc_api_Write_api_Write at h
  unfold C_slices_IndexFunc_api_Write_api_Write
  refine Calls.mono (calls_of_wpE (args := [Value.slice s.ptr s.len s.cap, f]) (R := fun v w' => ∃ (r0 : Int), v = Value.int .i64 r0 ∧ R r0 w') Tryz.func68 (c := c68_0) (by kernel_rfl) 19 (by kernel_rfl) (by kernel_rfl) [(0, Value.slice s.ptr s.len s.cap), (1, f)] (by kernel_rfl) ?_) ?_
  · refine Zp c68_3 P1 [(0, .slice s.ptr s.len s.cap), (1, f)] ?_
    refine Zs c68_4 c68_32 ?_
    refine Zp c68_7 P3 [(0, .slice s.ptr s.len s.cap), (1, f), (7, .int .i64 ((s.len : Nat) : Int)), (8, .int .i64 0)] ?_
    refine Zb 0 c68_8 ?_
    obtain ⟨I, μ, h0, hr⟩ := h
    refine wpE_loop (x := c68_9) (by kernel_rfl) (fun m l w => ∃ (t8 : Int), l = [(0, Value.slice s.ptr s.len s.cap), (1, f), (7, Value.int .i64 ((s.len : Nat) : Int)), (8, Value.int .i64 t8)] ∧ I t8 w ∧ μ t8 w = m) (l' := [(0, Value.slice s.ptr s.len s.cap), (1, f), (7, Value.int .i64 ((s.len : Nat) : Int)), (8, Value.int .i64 0)]) (Sub.mk (by kernel_rfl)) ⟨0, rfl, h0, rfl⟩ ?_
    rintro _ _ w1 ⟨t8, rfl, hI, rfl⟩
    obtain ⟨again_, again__h, h⟩ : ∃ again_ : Int → World → Prop, (∀ t8' w', again_ t8' w' → I t8' w' ∧ μ t8' w' < μ t8 w1) ∧ F_slices_IndexFunc_api_Write_api_Write_L0 s f R again_ t8 w1 := ⟨_, fun _ _ h => h, hr t8 w1 hI⟩
    clear h0 hI
    unfold F_slices_IndexFunc_api_Write_api_Write_L0 at h
    refine Zp c68_12 P1 [(0, .slice s.ptr s.len s.cap), (1, f), (7, .int .i64 ((s.len : Nat) : Int)), (8, .int .i64 t8), (9, .bool (decide (t8 < ((s.len : Nat) : Int))))] ?_
    refine Zs c68_13 c68_16 ?_
    refine Zc 9 (decide (t8 < ((s.len : Nat) : Int))) c68_14 c68_15 (fun hb => ?_) (fun hb => ?_)
    · replace h := h.1 hb
      refine wpE_skip (by kernel_rfl) ?_
      change WpE _ _ c68_16 _ _ _
      refine Zs c68_17 c68_30 ?_
      refine Zb 1 c68_18 ?_
      refine Zp c68_21 P2 [(0, .slice s.ptr s.len s.cap), (1, f), (5, .int .i64 t8), (7, .int .i64 ((s.len : Nat) : Int)), (8, .int .i64 t8)] ?_
      refine Zt r68_22 c68_24 ?_
      refine Zn P3 3 [(0, [], .slice s.ptr s.len s.cap), (1, [], f), (5, [], .int .i64 t8), (7, [], .int .i64 ((s.len : Nat) : Int)), (8, [], .int .i64 t8), (11, [], f), (12, [], .slice s.ptr s.len s.cap), (13, [], .int .i64 t8)] ?_
      obtain ⟨hp_7, h⟩ := h
      refine Zv (fun pp => [(0, [], .slice s.ptr s.len s.cap), (1, [], f), (5, [], .int .i64 t8), (7, [], .int .i64 ((s.len : Nat) : Int)), (8, [], .int .i64 t8), (11, [], f), (12, [], .slice pp s.len s.cap), (13, [], .int .i64 t8)]) hp_7 ?_
      obtain ⟨h0, h1, h⟩ := h
      refine Zj 22 62 12 13 (pblk s.ptr) (poff s.ptr) s.len s.cap t8 3 14 0 h0 h1 ?_
      refine Zn [] 4 [(0, [], .slice s.ptr s.len s.cap), (1, [], f), (5, [], .int .i64 t8), (7, [], .int .i64 ((s.len : Nat) : Int)), (8, [], .int .i64 t8), (11, [], f), (14, [], .pointer (some ⟨(pblk s.ptr), (poff s.ptr) + t8.toNat * 3, none⟩))] ?_
      obtain ⟨v15, hc, h⟩ := h
      refine reg_loadN (t := 62) (a := (Operand.tmp 14)) (b := (pblk s.ptr)) (o := ((poff s.ptr) + t8.toNat * 3)) (ty := 62) (dst := some 15) [Value.string v15.Key, Value.string v15.Val, Value.bool v15.Drop] (by kernel_rfl) (by kernel_rfl) (by kernel_rfl) (k := 3) (by kernel_rfl) (by kernel_rfl) hc ?_
      refine Zn [] 5 [(0, [], .slice s.ptr s.len s.cap), (1, [], f), (5, [], .int .i64 t8), (7, [], .int .i64 ((s.len : Nat) : Int)), (8, [], .int .i64 t8), (11, [], f), (15, [], .agg #[.string v15.Key, .string v15.Val, .bool v15.Drop])] ?_
      refine reg_enterV (fo := (Operand.tmp 11)) (aa := #[(Operand.tmp 15)]) (ts := #[62]) (fv := f) (ty := 4) (dst := some 16) #[Value.agg #[Value.string v15.Key, Value.string v15.Val, Value.bool v15.Drop]] (by kernel_rfl) (by kernel_rfl) (by kernel_rfl) (CallsV.mono h ?_)
      rintro _ w2 ⟨v16, rfl, h⟩
      refine ⟨_, rfl, ?_⟩
      refine Ze [(0, .slice s.ptr s.len s.cap), (1, f), (5, .int .i64 t8), (7, .int .i64 ((s.len : Nat) : Int)), (8, .int .i64 t8), (16, .bool v16)] ?_
      change WpE _ _ c68_24 _ _ _
      refine Zc 16 v16 c68_25 c68_29 (fun hb => ?_) (fun hb => ?_)
      · replace h := h.1 hb
        refine Zp c68_28 P2 [(4, .int .i64 t8)] ?_
        refine wpE_ret (by kernel_rfl) ?_
        repeat (first | refine seqQ_ret ?_ | refine blockQ_ret ?_ | refine loopQ_ret ?_ | refine cutQ_ret ?_)
        exact retS (rs := [(ResultVar.tmp 4)]) (v := Value.int .i64 t8) (by kernel_rfl) (⟨by kernel_rfl, trivial⟩) ⟨t8, rfl, h⟩
      · replace h := h.2 hb
        refine wpE_skip (by kernel_rfl) ?_
        change WpE _ _ c68_30 _ _ _
        refine Zr r68_30 ?_
        refine Zf P2 [(0, .slice s.ptr s.len s.cap), (1, f), (7, .int .i64 ((s.len : Nat) : Int)), (8, .int .i64 (IntKind.i64.wrap (t8 + 1)))] ?_
        have hb_ := again__h _ _ h
        exact ⟨_, hb_.2, [(0, Value.slice s.ptr s.len s.cap), (1, f), (7, Value.int .i64 ((s.len : Nat) : Int)), (8, Value.int .i64 (IntKind.i64.wrap (t8 + 1)))], Sub.mk (by kernel_rfl), (IntKind.i64.wrap (t8 + 1)), rfl, hb_.1, rfl⟩
    · replace h := h.2 hb
      refine wpE_exit (id := 0) (by kernel_rfl) ?_
      change WpE _ _ c68_32 _ _ _
      refine Zp c68_35 P1 [(4, .int .i64 (-1))] ?_
      refine wpE_ret (by kernel_rfl) ?_
      repeat (first | refine seqQ_ret ?_ | refine blockQ_ret ?_ | refine loopQ_ret ?_ | refine cutQ_ret ?_)
      exact retS (rs := [(ResultVar.tmp 4)]) (v := Value.int .i64 (-1)) (by kernel_rfl) (⟨by kernel_rfl, trivial⟩) ⟨(-1), rfl, h⟩
  · rintro e w' ⟨v, rfl, r0, rfl, h⟩; exact ⟨r0, rfl, h⟩
end Go.Proofs.YtfmkemmgakdddaaGreatDoor
