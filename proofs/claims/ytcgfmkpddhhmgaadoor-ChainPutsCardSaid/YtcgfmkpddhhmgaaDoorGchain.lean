/- WRITTEN BY PROGRAM (dec.py): for each Go function the clean formula F, the call's contract C, and the proof S that F gives C. -/
import Derived.Test.YtcgfmkpddhhmgaaDoorRows
import Derived.Test.YtcgfmkpddhhmgaaDoorGF
namespace Go.Proofs.YtcgfmkpddhhmgaaDoor
open Go
set_option linter.unusedVariables false

/-! ### towpath/chain.Put (function 22) -/
noncomputable def c_chain_Put_0 : Code := (Tryd.f22.body).getD Code.skip
noncomputable def c_chain_Put_1 : Code := Code.l c_chain_Put_0
noncomputable def r_chain_Put_1 : Array Oper := Code.ops c_chain_Put_1
noncomputable def c_chain_Put_3 : Code := Code.r c_chain_Put_0
noncomputable def c_chain_Put_4 : Code := Code.l c_chain_Put_3
noncomputable def c_chain_Put_5 : Code := Code.l c_chain_Put_4
noncomputable def r_chain_Put_5 : Array Oper := Code.ops c_chain_Put_5
noncomputable def c_chain_Put_7 : Code := Code.r c_chain_Put_4
noncomputable def c_chain_Put_8 : Code := Code.l c_chain_Put_7
noncomputable def c_chain_Put_9 : Code := Code.l c_chain_Put_8
noncomputable def r_chain_Put_9 : Array Oper := Code.ops c_chain_Put_9
noncomputable def c_chain_Put_11 : Code := Code.r c_chain_Put_8
noncomputable def c_chain_Put_12 : Code := Code.r c_chain_Put_7
noncomputable def c_chain_Put_13 : Code := Code.r c_chain_Put_3
noncomputable def c_chain_Put_14 : Code := Code.l c_chain_Put_13
noncomputable def r_chain_Put_14 : Array Oper := Code.ops c_chain_Put_14
noncomputable def c_chain_Put_16 : Code := Code.r c_chain_Put_13
noncomputable def c_chain_Put_17 : Code := Code.l c_chain_Put_16
noncomputable def c_chain_Put_18 : Code := Code.l c_chain_Put_17
noncomputable def r_chain_Put_18 : Array Oper := Code.ops c_chain_Put_18
noncomputable def c_chain_Put_20 : Code := Code.r c_chain_Put_17
noncomputable def c_chain_Put_21 : Code := Code.l c_chain_Put_20
noncomputable def c_chain_Put_22 : Code := Code.l c_chain_Put_21
noncomputable def r_chain_Put_22 : Array Oper := Code.ops c_chain_Put_22
noncomputable def c_chain_Put_24 : Code := Code.r c_chain_Put_21
noncomputable def c_chain_Put_25 : Code := Code.r c_chain_Put_20
noncomputable def c_chain_Put_26 : Code := Code.r c_chain_Put_16
noncomputable def c_chain_Put_27 : Code := Code.l c_chain_Put_26
noncomputable def r_chain_Put_27 : Array Oper := Code.ops c_chain_Put_27
noncomputable def c_chain_Put_29 : Code := Code.r c_chain_Put_26
def o_chain_Put_27 : List Nat := [0, 2, 3, 1, 4, 5, 6, 7, 8]
def o_chain_Put_27_1 : List Nat := [0, 2, 3, 1, 4, 5, 6, 7, 8]
def o_chain_Put_27_2 : List Nat := [0, 2, 3, 4, 1, 5, 6, 7, 8]

set_option maxRecDepth 100000 in
set_option maxHeartbeats 4000000 in
theorem S_chain_Put {l_ : Slc} {v : T_api_Version} {w : World} {R : Slc → Bool → Int → World → Prop} (h : F_chain_Put l_ v R w) : C_chain_Put l_ v w R := by
  unfold F_chain_Put at h
  unfold C_chain_Put
  refine Calls.mono (calls_of_wpE (args := [Value.slice l_.ptr l_.len l_.cap, Value.agg #[Value.int .i64 v.Number, Value.string v.Val, Value.bool v.Drop]]) (R := fun v w' => ∃ (r0 : Slc) (r1 : Bool) (r2 : Int), v = Value.tuple #[Value.slice r0.ptr r0.len r0.cap, Value.bool r1, Value.int .i64 r2] ∧ R r0 r1 r2 w') Tryd.func22 (c := c_chain_Put_0) (by kernel_rfl) 42 (by kernel_rfl) (by kernel_rfl) [(0, Value.slice l_.ptr l_.len l_.cap), (1, Value.agg #[Value.int .i64 v.Number, Value.string v.Val, Value.bool v.Drop])] (by kernel_rfl) ?_) ?_
  · refine wpE_seq (x := c_chain_Put_1) (y := c_chain_Put_3) (by kernel_rfl) ?_
    refine wpE_region (id := 0) (ops := r_chain_Put_1) (by kernel_rfl) ?_
    refine reg_run [] 0 [(0, [], Value.slice l_.ptr l_.len l_.cap), (1, [], Value.agg #[Value.int .i64 v.Number, Value.string v.Val, Value.bool v.Drop])] (by kernel_rfl) (by kernel_rfl) ?_
    refine reg_new (op := (Go.Op.box 27 (Go.Operand.tmp 1))) (ty := 0) (dst := some 3) (fun bb => Value.pointer (some ⟨bb, 0, none⟩)) (Obj.cells ([Value.int .i64 v.Number, Value.string v.Val, Value.bool v.Drop]).toArray ty_api_Version (0, 0)) (by kernel_rfl) (by kernel_rfl) (fun b_ w1 hb hw => ?_)
    replace h := h b_ w1 hb hw
    clear hb hw
    refine reg_run [.plain, .plain, .plain] 4 [(0, [], Value.slice l_.ptr l_.len l_.cap), (3, [], Value.pointer (some ⟨b_, 0, none⟩))] (by kernel_rfl) (by kernel_rfl) ?_
    refine reg_end [(0, Value.slice l_.ptr l_.len l_.cap), (3, Value.pointer (some ⟨b_, 0, none⟩))] (by kernel_rfl) (by kernel_rfl) ?_
    change WpE _ _ c_chain_Put_3 _ _ _
    refine wpE_seq (x := c_chain_Put_4) (y := c_chain_Put_13) (by kernel_rfl) ?_
    refine wpE_seq_cut (x := c_chain_Put_5) (y := c_chain_Put_7) (by kernel_rfl) (fun l w => ∃ (t16 : Bool), l = [(0, Value.slice l_.ptr l_.len l_.cap), (3, Value.pointer (some ⟨b_, 0, none⟩)), (16, Value.bool t16)] ∧ F_chain_Put_k0 l_ R b_ t16 w) ?_ ?_
    · refine wpE_region (id := 1) (ops := r_chain_Put_5) (by kernel_rfl) ?_
      refine reg_run [.plain] 1 [(0, [], Value.slice l_.ptr l_.len l_.cap), (3, [], Value.pointer (some ⟨b_, 0, none⟩)), (8, [], Value.slice l_.ptr l_.len l_.cap)] (by kernel_rfl) (by kernel_rfl) ?_
      refine reg_enter (op := (Go.Op.call (Go.Call.mk (Go.Callee.value (Go.Operand.func 24)) #[(Go.Operand.tmp 8)] #[22]))) (ty := 28) (dst := some 9) 24 #[Value.slice l_.ptr l_.len l_.cap] (by kernel_rfl) (fun ww => by kernel_rfl) (Calls.mono h ?_)
      rintro _ w15 ⟨v9, rfl, h⟩
      refine ⟨_, rfl, ?_⟩
      refine reg_run [.plain, .plain] 4 [(0, [], Value.slice l_.ptr l_.len l_.cap), (3, [], Value.pointer (some ⟨b_, 0, none⟩)), (11, [], Value.bool (v9 != 0))] (by kernel_rfl) (by kernel_rfl) ?_
      refine reg_split 11 (v9 != 0) (by kernel_rfl) (fun hb => ?_) (fun hb => ?_)
      · replace h := h.1 hb
        refine reg_run [] 4 [(0, [], Value.slice l_.ptr l_.len l_.cap), (3, [], Value.pointer (some ⟨b_, 0, none⟩)), (11, [], Value.bool true)] (by kernel_rfl) (by kernel_rfl) ?_
        refine reg_run [.skip, .skip, .skip, .skip, .plain] 9 [(0, [], Value.slice l_.ptr l_.len l_.cap), (3, [], Value.pointer (some ⟨b_, 0, none⟩)), (16, [], Value.bool true)] (by kernel_rfl) (by kernel_rfl) ?_
        refine reg_end [(0, Value.slice l_.ptr l_.len l_.cap), (3, Value.pointer (some ⟨b_, 0, none⟩)), (16, Value.bool true)] (by kernel_rfl) (by kernel_rfl) ?_
        exact ⟨[(0, Value.slice l_.ptr l_.len l_.cap), (3, Value.pointer (some ⟨b_, 0, none⟩)), (16, Value.bool true)], Sub.mk (by kernel_rfl), true, rfl, h⟩
      · replace h := h.2 hb
        refine reg_run [] 4 [(0, [], Value.slice l_.ptr l_.len l_.cap), (3, [], Value.pointer (some ⟨b_, 0, none⟩)), (11, [], Value.bool false)] (by kernel_rfl) (by kernel_rfl) ?_
        refine reg_run [] 4 [(0, [], Value.slice l_.ptr l_.len l_.cap), (3, [], Value.pointer (some ⟨b_, 0, none⟩)), (11, [], Value.bool false)] (by kernel_rfl) (by kernel_rfl) ?_
        obtain ⟨v12, hc, h⟩ := h
        refine reg_loadN (t := 27) (a := (Go.Operand.tmp 3)) (b := b_) (o := 0) (ty := 27) (dst := some 12) [Value.int .i64 v12.Number, Value.string v12.Val, Value.bool v12.Drop] (by kernel_rfl) (by kernel_rfl) (by kernel_rfl) (k := 3) (by kernel_rfl) (by kernel_rfl) hc ?_
        refine reg_run [] 5 [(0, [], Value.slice l_.ptr l_.len l_.cap), (3, [], Value.pointer (some ⟨b_, 0, none⟩)), (11, [], Value.bool false), (12, [], Value.agg #[Value.int .i64 v12.Number, Value.string v12.Val, Value.bool v12.Drop])] (by kernel_rfl) (by kernel_rfl) ?_
        refine reg_new (op := (Go.Op.buildSlice 22 1 #[(0, (Go.Operand.tmp 12))])) (ty := 22) (dst := some 13) (fun bb => Value.slice (some ⟨bb, 0, none⟩) 1 1) (Obj.cells ([Value.int .i64 v12.Number, Value.string v12.Val, Value.bool v12.Drop]).toArray ty_api_Version (0, 0)) (by kernel_rfl) (by kernel_rfl) (fun b_3 w16 hb hw => ?_)
        replace h := h b_3 w16 hb hw
        clear hb hw
        refine reg_run [] 6 [(0, [], Value.slice l_.ptr l_.len l_.cap), (3, [], Value.pointer (some ⟨b_, 0, none⟩)), (11, [], Value.bool false), (13, [], Value.slice (some ⟨b_3, 0, none⟩) 1 1)] (by kernel_rfl) (by kernel_rfl) ?_
        refine reg_enter (op := (Go.Op.call (Go.Call.mk (Go.Callee.value (Go.Operand.func 24)) #[(Go.Operand.tmp 13)] #[22]))) (ty := 28) (dst := some 14) 24 #[Value.slice (some ⟨b_3, 0, none⟩) 1 1] (by kernel_rfl) (fun ww => by kernel_rfl) (Calls.mono h ?_)
        rintro _ w17 ⟨v14, rfl, h⟩
        refine ⟨_, rfl, ?_⟩
        refine reg_run [.sure, .plain] 9 [(0, [], Value.slice l_.ptr l_.len l_.cap), (3, [], Value.pointer (some ⟨b_, 0, none⟩)), (16, [], Value.bool (v14 != 0))] (by kernel_rfl) (by kernel_rfl) ?_
        refine reg_end [(0, Value.slice l_.ptr l_.len l_.cap), (3, Value.pointer (some ⟨b_, 0, none⟩)), (16, Value.bool (v14 != 0))] (by kernel_rfl) (by kernel_rfl) ?_
        exact ⟨[(0, Value.slice l_.ptr l_.len l_.cap), (3, Value.pointer (some ⟨b_, 0, none⟩)), (16, Value.bool (v14 != 0))], Sub.mk (by kernel_rfl), (v14 != 0), rfl, h⟩
    · rintro _ w2 ⟨t16, rfl, h⟩
      unfold F_chain_Put_k0 at h
      refine wpE_cond (o := (Operand.tmp 16)) (b := t16) (x := c_chain_Put_8) (y := c_chain_Put_12) (by kernel_rfl) (by kernel_rfl) (fun hb => ?_) (fun hb => ?_)
      · replace h := h.1 hb
        refine wpE_seq (x := c_chain_Put_9) (y := c_chain_Put_11) (by kernel_rfl) ?_
        refine wpE_region (id := 2) (ops := r_chain_Put_9) (by kernel_rfl) ?_
        refine reg_run [.plain, .plain, .plain] 3 [(4, [], Value.slice none 0 0), (5, [], Value.bool false), (6, [], Value.int .i64 1)] (by kernel_rfl) (by kernel_rfl) ?_
        refine reg_end [(4, Value.slice none 0 0), (5, Value.bool false), (6, Value.int .i64 1)] (by kernel_rfl) (by kernel_rfl) ?_
        change WpE _ _ c_chain_Put_11 _ _ _
        refine wpE_ret (by kernel_rfl) ?_
        repeat (first | refine seqQ_ret ?_ | refine blockQ_ret ?_ | refine loopQ_ret ?_ | refine cutQ_ret ?_)
        exact retT (rs := [(Go.ResultVar.tmp 4), (Go.ResultVar.tmp 5), (Go.ResultVar.tmp 6)]) (vs := [Value.slice none 0 0, Value.bool false, Value.int .i64 1]) (by kernel_rfl) (⟨by kernel_rfl, ⟨by kernel_rfl, ⟨by kernel_rfl, trivial⟩⟩⟩) (by kernel_rfl) ⟨(Slc.mk none 0 0), false, 1, rfl, h⟩
      · replace h := h.2 hb
        refine wpE_skip (by kernel_rfl) ?_
        change WpE _ _ c_chain_Put_13 _ _ _
        refine wpE_seq (x := c_chain_Put_14) (y := c_chain_Put_16) (by kernel_rfl) ?_
        refine wpE_region (id := 3) (ops := r_chain_Put_14) (by kernel_rfl) ?_
        refine reg_run [.plain, .plain] 2 [(0, [], Value.slice l_.ptr l_.len l_.cap), (3, [], Value.pointer (some ⟨b_, 0, none⟩)), (17, [], Value.slice l_.ptr l_.len l_.cap), (18, [], Value.pointer (some ⟨b_, 0, none⟩))] (by kernel_rfl) (by kernel_rfl) ?_
        obtain ⟨v19, hc, h⟩ := h
        refine reg_load1 (t := 3) (a := (Go.Operand.tmp 18)) (b := b_) (o := 0) (ty := 3) (dst := some 19) (by kernel_rfl) (by kernel_rfl) (by kernel_rfl) hc ?_
        refine reg_run [] 3 [(0, [], Value.slice l_.ptr l_.len l_.cap), (3, [], Value.pointer (some ⟨b_, 0, none⟩)), (17, [], Value.slice l_.ptr l_.len l_.cap), (19, [], Value.int .i64 v19)] (by kernel_rfl) (by kernel_rfl) ?_
        refine reg_enter (op := (Go.Op.call (Go.Call.mk (Go.Callee.value (Go.Operand.func 26)) #[(Go.Operand.tmp 17), (Go.Operand.tmp 19)] #[61, 3]))) (ty := 3) (dst := some 20) 26 #[Value.slice l_.ptr l_.len l_.cap, Value.int .i64 v19] (by kernel_rfl) (fun ww => by kernel_rfl) (Calls.mono h ?_)
        rintro _ w3 ⟨v20, rfl, h⟩
        refine ⟨_, rfl, ?_⟩
        refine reg_run [.plain] 5 [(0, [], Value.slice l_.ptr l_.len l_.cap), (3, [], Value.pointer (some ⟨b_, 0, none⟩)), (7, [], Value.int .i64 v20)] (by kernel_rfl) (by kernel_rfl) ?_
        refine reg_end [(0, Value.slice l_.ptr l_.len l_.cap), (3, Value.pointer (some ⟨b_, 0, none⟩)), (7, Value.int .i64 v20)] (by kernel_rfl) (by kernel_rfl) ?_
        change WpE _ _ c_chain_Put_16 _ _ _
        refine wpE_seq (x := c_chain_Put_17) (y := c_chain_Put_26) (by kernel_rfl) ?_
        refine wpE_seq_cut (x := c_chain_Put_18) (y := c_chain_Put_20) (by kernel_rfl) (fun l w => ∃ (t33 : Bool), l = [(0, Value.slice l_.ptr l_.len l_.cap), (3, Value.pointer (some ⟨b_, 0, none⟩)), (7, Value.int .i64 v20), (33, Value.bool t33)] ∧ F_chain_Put_k1 l_ R b_ v20 t33 w) ?_ ?_
        · refine wpE_drawregion (id := 4) (ops := r_chain_Put_18) (by kernel_rfl) (by kernel_rfl) (by kernel_rfl) ?_
          refine qreg_run [.plain, .plain, .plain, .plain, .plain, .plain] 6 [(0, [], Value.slice l_.ptr l_.len l_.cap), (3, [], Value.pointer (some ⟨b_, 0, none⟩)), (7, [], Value.int .i64 v20), (23, [], Value.bool (decide (v20 > 0))), (24, [(23, true)], Value.slice l_.ptr l_.len l_.cap), (26, [(23, true)], Value.int .i64 (IntKind.i64.wrap (v20 - 1)))] (by kernel_rfl) (by kernel_rfl) ?_
          refine qreg_split 23 (decide (v20 > 0)) (by kernel_rfl) (fun hb => ?_) (fun hb => ?_)
          · replace h := h.1 hb
            refine qreg_run [] 6 [(0, [], Value.slice l_.ptr l_.len l_.cap), (3, [], Value.pointer (some ⟨b_, 0, none⟩)), (7, [], Value.int .i64 v20), (23, [], Value.bool true), (24, [], Value.slice l_.ptr l_.len l_.cap), (26, [], Value.int .i64 (IntKind.i64.wrap (v20 - 1)))] (by kernel_rfl) (by kernel_rfl) ?_
            refine qreg_run [] 6 [(0, [], Value.slice l_.ptr l_.len l_.cap), (3, [], Value.pointer (some ⟨b_, 0, none⟩)), (7, [], Value.int .i64 v20), (23, [], Value.bool true), (24, [], Value.slice l_.ptr l_.len l_.cap), (26, [], Value.int .i64 (IntKind.i64.wrap (v20 - 1)))] (by kernel_rfl) (by kernel_rfl) ?_
            obtain ⟨hp_3, h⟩ := h
            refine qreg_conv [(0, [], Value.slice l_.ptr l_.len l_.cap), (3, [], Value.pointer (some ⟨b_, 0, none⟩)), (7, [], Value.int .i64 v20), (23, [], Value.bool true), (24, [], Value.slice (some ⟨(pblk l_.ptr), (poff l_.ptr), none⟩) l_.len l_.cap), (26, [], Value.int .i64 (IntKind.i64.wrap (v20 - 1)))] (congrArg (fun pp => ([(0, [], Value.slice l_.ptr l_.len l_.cap), (3, [], Value.pointer (some ⟨b_, 0, none⟩)), (7, [], Value.int .i64 v20), (23, [], Value.bool true), (24, [], Value.slice pp l_.len l_.cap), (26, [], Value.int .i64 (IntKind.i64.wrap (v20 - 1)))] : GEnv)) hp_3) ?_
            obtain ⟨h0, h1, h⟩ := h
            refine qreg_indexS (t := 22) (e := 27) (x := (Go.Operand.tmp 24)) (ix := (Go.Operand.tmp 26)) (b := (pblk l_.ptr)) (o := (poff l_.ptr)) (l := l_.len) (c := l_.cap) (k := .i64) (j := (IntKind.i64.wrap (v20 - 1))) (ty := 0) (dst := some 27) (sz := 3) (by kernel_rfl) (by kernel_rfl) (by kernel_rfl) (by kernel_rfl) (by kernel_rfl) h0 h1 ?_
            refine qreg_run [.sure] 8 [(0, [], Value.slice l_.ptr l_.len l_.cap), (3, [], Value.pointer (some ⟨b_, 0, none⟩)), (7, [], Value.int .i64 v20), (23, [], Value.bool true), (28, [], Value.pointer (some ⟨(pblk l_.ptr), (poff l_.ptr) + (IntKind.i64.wrap (v20 - 1)).toNat * 3, none⟩))] (by kernel_rfl) (by kernel_rfl) ?_
            obtain ⟨v29, hc, h⟩ := h
            refine qreg_load1 (t := 3) (a := (Go.Operand.tmp 28)) (b := (pblk l_.ptr)) (o := ((poff l_.ptr) + (IntKind.i64.wrap (v20 - 1)).toNat * 3)) (ty := 3) (dst := some 29) (by kernel_rfl) (by kernel_rfl) (by kernel_rfl) hc ?_
            refine qreg_run [.sure] 10 [(0, [], Value.slice l_.ptr l_.len l_.cap), (3, [], Value.pointer (some ⟨b_, 0, none⟩)), (7, [], Value.int .i64 v20), (23, [], Value.bool true), (29, [], Value.int .i64 v29), (30, [], Value.pointer (some ⟨b_, 0, none⟩))] (by kernel_rfl) (by kernel_rfl) ?_
            obtain ⟨v31, hc, h⟩ := h
            refine qreg_load1 (t := 3) (a := (Go.Operand.tmp 30)) (b := b_) (o := 0) (ty := 3) (dst := some 31) (by kernel_rfl) (by kernel_rfl) (by kernel_rfl) hc ?_
            refine qreg_run [.sure, .plain] 13 [(0, [], Value.slice l_.ptr l_.len l_.cap), (3, [], Value.pointer (some ⟨b_, 0, none⟩)), (7, [], Value.int .i64 v20), (33, [], Value.bool (v29 == v31))] (by kernel_rfl) (by kernel_rfl) ?_
            refine qreg_end [(0, Value.slice l_.ptr l_.len l_.cap), (3, Value.pointer (some ⟨b_, 0, none⟩)), (7, Value.int .i64 v20), (33, Value.bool (v29 == v31))] (by kernel_rfl) (by kernel_rfl) (fun w13 hw => ?_)
            replace h := h w13 hw
            clear hw
            exact ⟨[(0, Value.slice l_.ptr l_.len l_.cap), (3, Value.pointer (some ⟨b_, 0, none⟩)), (7, Value.int .i64 v20), (33, Value.bool (v29 == v31))], Sub.mk (by kernel_rfl), (v29 == v31), rfl, h⟩
          · replace h := h.2 hb
            refine qreg_run [] 6 [(0, [], Value.slice l_.ptr l_.len l_.cap), (3, [], Value.pointer (some ⟨b_, 0, none⟩)), (7, [], Value.int .i64 v20), (23, [], Value.bool false), (24, [], undef), (26, [], undef)] (by kernel_rfl) (by kernel_rfl) ?_
            refine qreg_run [.skip, .skip, .skip, .skip, .skip, .skip, .plain] 13 [(0, [], Value.slice l_.ptr l_.len l_.cap), (3, [], Value.pointer (some ⟨b_, 0, none⟩)), (7, [], Value.int .i64 v20), (33, [], Value.bool false)] (by kernel_rfl) (by kernel_rfl) ?_
            refine qreg_end [(0, Value.slice l_.ptr l_.len l_.cap), (3, Value.pointer (some ⟨b_, 0, none⟩)), (7, Value.int .i64 v20), (33, Value.bool false)] (by kernel_rfl) (by kernel_rfl) (fun w14 hw => ?_)
            replace h := h w14 hw
            clear hw
            exact ⟨[(0, Value.slice l_.ptr l_.len l_.cap), (3, Value.pointer (some ⟨b_, 0, none⟩)), (7, Value.int .i64 v20), (33, Value.bool false)], Sub.mk (by kernel_rfl), false, rfl, h⟩
        · rintro _ w4 ⟨t33, rfl, h⟩
          unfold F_chain_Put_k1 at h
          refine wpE_cond (o := (Operand.tmp 33)) (b := t33) (x := c_chain_Put_21) (y := c_chain_Put_25) (by kernel_rfl) (by kernel_rfl) (fun hb => ?_) (fun hb => ?_)
          · replace h := h.1 hb
            refine wpE_seq (x := c_chain_Put_22) (y := c_chain_Put_24) (by kernel_rfl) ?_
            refine wpE_region (id := 5) (ops := r_chain_Put_22) (by kernel_rfl) ?_
            refine reg_run [.plain] 1 [(34, [], Value.slice l_.ptr l_.len l_.cap)] (by kernel_rfl) (by kernel_rfl) ?_
            refine reg_enter (op := (Go.Op.call (Go.Call.mk (Go.Callee.value (Go.Operand.func 28)) #[(Go.Operand.tmp 34)] #[22]))) (ty := 22) (dst := some 35) 28 #[Value.slice l_.ptr l_.len l_.cap] (by kernel_rfl) (fun ww => by kernel_rfl) (Calls.mono h ?_)
            rintro _ w5 ⟨v35, rfl, h⟩
            refine ⟨_, rfl, ?_⟩
            refine reg_run [.plain, .plain, .plain] 5 [(4, [], Value.slice v35.ptr v35.len v35.cap), (5, [], Value.bool false), (6, [], Value.int .i64 0)] (by kernel_rfl) (by kernel_rfl) ?_
            refine reg_end [(4, Value.slice v35.ptr v35.len v35.cap), (5, Value.bool false), (6, Value.int .i64 0)] (by kernel_rfl) (by kernel_rfl) ?_
            change WpE _ _ c_chain_Put_24 _ _ _
            refine wpE_ret (by kernel_rfl) ?_
            repeat (first | refine seqQ_ret ?_ | refine blockQ_ret ?_ | refine loopQ_ret ?_ | refine cutQ_ret ?_)
            exact retT (rs := [(Go.ResultVar.tmp 4), (Go.ResultVar.tmp 5), (Go.ResultVar.tmp 6)]) (vs := [Value.slice v35.ptr v35.len v35.cap, Value.bool false, Value.int .i64 0]) (by kernel_rfl) (⟨by kernel_rfl, ⟨by kernel_rfl, ⟨by kernel_rfl, trivial⟩⟩⟩) (by kernel_rfl) ⟨v35, false, 0, rfl, h⟩
          · replace h := h.2 hb
            refine wpE_skip (by kernel_rfl) ?_
            change WpE _ _ c_chain_Put_26 _ _ _
            refine wpE_seq (x := c_chain_Put_27) (y := c_chain_Put_29) (by kernel_rfl) ?_
            refine wpE_mixregion (id := 6) (ops := r_chain_Put_27) o_chain_Put_27 (by kernel_rfl) (by kernel_rfl) (by kernel_rfl) (by kernel_rfl) (fun w6 hw => ?_)
            replace h := h w6 hw
            clear hw
            refine mreg_run [.plain, .plain] 2 [(3, [], Value.pointer (some ⟨b_, 0, none⟩)), (36, [], Value.slice l_.ptr l_.len l_.cap), (38, [], Value.int .i64 v20)] (by kernel_rfl) (by kernel_rfl) ?_
            obtain ⟨v39, hc, h⟩ := h
            refine mreg_loadN (i := 3) (by kernel_rfl) (t := 27) (a := (Go.Operand.tmp 3)) (b := b_) (o := 0) (ty := 27) (dst := some 39) [Value.int .i64 v39.Number, Value.string v39.Val, Value.bool v39.Drop] (by kernel_rfl) (by kernel_rfl) (by kernel_rfl) (k := 3) (by kernel_rfl) (by kernel_rfl) hc ?_
            refine mreg_run [] 3 [(36, [], Value.slice l_.ptr l_.len l_.cap), (38, [], Value.int .i64 v20), (39, [], Value.agg #[Value.int .i64 v39.Number, Value.string v39.Val, Value.bool v39.Drop])] (by kernel_rfl) (by kernel_rfl) ?_
            refine mreg_fork 1 [1, 4] (by kernel_rfl) (by kernel_rfl) (fork_two ?_ ?_)
            · replace h := h.1
              refine eff_enter (π := o_chain_Put_27_1) (k := 3) (op := (Go.Op.call (Go.Call.mk (Go.Callee.value (Go.Operand.func 28)) #[(Go.Operand.tmp 36)] #[22]))) (ty := 22) (dst := some 37) 1 [0] [(3, fun w' => CellsAt w' b_ 0 [Value.int .i64 v39.Number, Value.string v39.Val, Value.bool v39.Drop])] 28 #[Value.slice l_.ptr l_.len l_.cap] (by kernel_rfl) (by kernel_rfl) (by kernel_rfl) (by kernel_rfl) (by kernel_rfl) (by kernel_rfl) (fun ww => by kernel_rfl) (Calls.mono h ?_)
              rintro _ w7 ⟨v37, rfl, h⟩
              obtain ⟨hk0, h⟩ := h
              refine ⟨_, rfl, ⟨hk0, trivial⟩, ?_⟩
              refine mreg_run [] 4 [(37, [], Value.slice v37.ptr v37.len v37.cap), (38, [], Value.int .i64 v20), (39, [], Value.agg #[Value.int .i64 v39.Number, Value.string v39.Val, Value.bool v39.Drop])] (by kernel_rfl) (by kernel_rfl) ?_
              refine mreg_new (op := (Go.Op.buildSlice 22 1 #[(0, (Go.Operand.tmp 39))])) (ty := 22) (dst := some 40) 4 [3] [] (fun bb => Value.slice (some ⟨bb, 0, none⟩) 1 1) (Obj.cells ([Value.int .i64 v39.Number, Value.string v39.Val, Value.bool v39.Drop]).toArray ty_api_Version (0, 0)) (by kernel_rfl) (by kernel_rfl) (by kernel_rfl) (by kernel_rfl) (by kernel_rfl) (by kernel_rfl) (fun b_1 w8 hb hw => ?_)
              replace h := h b_1 w8 hb hw
              clear hb hw
              refine ⟨trivial, ?_⟩
              refine mreg_run [] 5 [(37, [], Value.slice v37.ptr v37.len v37.cap), (38, [], Value.int .i64 v20), (40, [], Value.slice (some ⟨b_1, 0, none⟩) 1 1)] (by kernel_rfl) (by kernel_rfl) ?_
              refine mreg_enter (op := (Go.Op.call (Go.Call.mk (Go.Callee.value (Go.Operand.func 65)) #[(Go.Operand.tmp 37), (Go.Operand.tmp 38), (Go.Operand.tmp 40)] #[22, 3, 22]))) (ty := 22) (dst := some 41) 5 [1, 2, 4, 0, 3] [] 65 #[Value.slice v37.ptr v37.len v37.cap, Value.int .i64 v20, Value.slice (some ⟨b_1, 0, none⟩) 1 1] (by kernel_rfl) (by kernel_rfl) (by kernel_rfl) (by kernel_rfl) (by kernel_rfl) (fun ww => by kernel_rfl) (Calls.mono h ?_)
              rintro _ w9 ⟨v41, rfl, h⟩
              refine ⟨_, rfl, trivial, ?_⟩
              refine mreg_run [.plain, .plain, .plain] 9 [(4, [], Value.slice v41.ptr v41.len v41.cap), (5, [], Value.bool true), (6, [], Value.int .i64 0)] (by kernel_rfl) (by kernel_rfl) ?_
              refine mreg_end [(4, Value.slice v41.ptr v41.len v41.cap), (5, Value.bool true), (6, Value.int .i64 0)] (by kernel_rfl) (by kernel_rfl) (by kernel_rfl) ?_
              change WpE _ _ c_chain_Put_29 _ _ _
              refine wpE_ret (by kernel_rfl) ?_
              repeat (first | refine seqQ_ret ?_ | refine blockQ_ret ?_ | refine loopQ_ret ?_ | refine cutQ_ret ?_)
              exact retT (rs := [(Go.ResultVar.tmp 4), (Go.ResultVar.tmp 5), (Go.ResultVar.tmp 6)]) (vs := [Value.slice v41.ptr v41.len v41.cap, Value.bool true, Value.int .i64 0]) (by kernel_rfl) (⟨by kernel_rfl, ⟨by kernel_rfl, ⟨by kernel_rfl, trivial⟩⟩⟩) (by kernel_rfl) ⟨v41, true, 0, rfl, h⟩
            · replace h := h.2
              refine eff_new (π := o_chain_Put_27_2) (k := 3) (op := (Go.Op.buildSlice 22 1 #[(0, (Go.Operand.tmp 39))])) (ty := 22) (dst := some 40) 4 [3] [] (fun bb => Value.slice (some ⟨bb, 0, none⟩) 1 1) (Obj.cells ([Value.int .i64 v39.Number, Value.string v39.Val, Value.bool v39.Drop]).toArray ty_api_Version (0, 0)) (by kernel_rfl) (by kernel_rfl) (by kernel_rfl) (by kernel_rfl) (by kernel_rfl) (by kernel_rfl) (by kernel_rfl) (fun b_2 w10 hb hw => ?_)
              replace h := h b_2 w10 hb hw
              clear hb hw
              refine ⟨trivial, ?_⟩
              refine mreg_run [] 4 [(36, [], Value.slice l_.ptr l_.len l_.cap), (38, [], Value.int .i64 v20), (40, [], Value.slice (some ⟨b_2, 0, none⟩) 1 1)] (by kernel_rfl) (by kernel_rfl) ?_
              refine mreg_enter (op := (Go.Op.call (Go.Call.mk (Go.Callee.value (Go.Operand.func 28)) #[(Go.Operand.tmp 36)] #[22]))) (ty := 22) (dst := some 37) 1 [0] [] 28 #[Value.slice l_.ptr l_.len l_.cap] (by kernel_rfl) (by kernel_rfl) (by kernel_rfl) (by kernel_rfl) (by kernel_rfl) (fun ww => by kernel_rfl) (Calls.mono h ?_)
              rintro _ w11 ⟨v371, rfl, h⟩
              refine ⟨_, rfl, trivial, ?_⟩
              refine mreg_run [] 5 [(37, [], Value.slice v371.ptr v371.len v371.cap), (38, [], Value.int .i64 v20), (40, [], Value.slice (some ⟨b_2, 0, none⟩) 1 1)] (by kernel_rfl) (by kernel_rfl) ?_
              refine mreg_enter (op := (Go.Op.call (Go.Call.mk (Go.Callee.value (Go.Operand.func 65)) #[(Go.Operand.tmp 37), (Go.Operand.tmp 38), (Go.Operand.tmp 40)] #[22, 3, 22]))) (ty := 22) (dst := some 41) 5 [1, 2, 4, 0, 3] [] 65 #[Value.slice v371.ptr v371.len v371.cap, Value.int .i64 v20, Value.slice (some ⟨b_2, 0, none⟩) 1 1] (by kernel_rfl) (by kernel_rfl) (by kernel_rfl) (by kernel_rfl) (by kernel_rfl) (fun ww => by kernel_rfl) (Calls.mono h ?_)
              rintro _ w12 ⟨v411, rfl, h⟩
              refine ⟨_, rfl, trivial, ?_⟩
              refine mreg_run [.plain, .plain, .plain] 9 [(4, [], Value.slice v411.ptr v411.len v411.cap), (5, [], Value.bool true), (6, [], Value.int .i64 0)] (by kernel_rfl) (by kernel_rfl) ?_
              refine mreg_end [(4, Value.slice v411.ptr v411.len v411.cap), (5, Value.bool true), (6, Value.int .i64 0)] (by kernel_rfl) (by kernel_rfl) (by kernel_rfl) ?_
              change WpE _ _ c_chain_Put_29 _ _ _
              refine wpE_ret (by kernel_rfl) ?_
              repeat (first | refine seqQ_ret ?_ | refine blockQ_ret ?_ | refine loopQ_ret ?_ | refine cutQ_ret ?_)
              exact retT (rs := [(Go.ResultVar.tmp 4), (Go.ResultVar.tmp 5), (Go.ResultVar.tmp 6)]) (vs := [Value.slice v411.ptr v411.len v411.cap, Value.bool true, Value.int .i64 0]) (by kernel_rfl) (⟨by kernel_rfl, ⟨by kernel_rfl, ⟨by kernel_rfl, trivial⟩⟩⟩) (by kernel_rfl) ⟨v411, true, 0, rfl, h⟩
  · rintro e w' ⟨v, rfl, r0, r1, r2, rfl, h⟩; exact ⟨r0, r1, r2, rfl, h⟩

/-! ### towpath/chain.Check (function 24) -/
noncomputable def c_chain_Check_0 : Code := (Tryd.f24.body).getD Code.skip
noncomputable def c_chain_Check_1 : Code := Code.l c_chain_Check_0
noncomputable def r_chain_Check_1 : Array Oper := Code.ops c_chain_Check_1
noncomputable def c_chain_Check_3 : Code := Code.r c_chain_Check_0
noncomputable def c_chain_Check_4 : Code := Code.l c_chain_Check_3
noncomputable def c_chain_Check_5 : Code := Code.l c_chain_Check_4
noncomputable def r_chain_Check_5 : Array Oper := Code.ops c_chain_Check_5
noncomputable def c_chain_Check_7 : Code := Code.r c_chain_Check_4
noncomputable def c_chain_Check_8 : Code := Code.l c_chain_Check_7
noncomputable def c_chain_Check_9 : Code := Code.l c_chain_Check_8
noncomputable def c_chain_Check_10 : Code := Code.l c_chain_Check_9
noncomputable def r_chain_Check_10 : Array Oper := Code.ops c_chain_Check_10
noncomputable def c_chain_Check_12 : Code := Code.r c_chain_Check_9
noncomputable def c_chain_Check_13 : Code := Code.l c_chain_Check_12
noncomputable def c_chain_Check_14 : Code := Code.l c_chain_Check_13
noncomputable def c_chain_Check_15 : Code := Code.r c_chain_Check_13
noncomputable def c_chain_Check_16 : Code := Code.r c_chain_Check_12
noncomputable def c_chain_Check_17 : Code := Code.l c_chain_Check_16
noncomputable def c_chain_Check_18 : Code := Code.l c_chain_Check_17
noncomputable def c_chain_Check_19 : Code := Code.l c_chain_Check_18
noncomputable def r_chain_Check_19 : Array Oper := Code.ops c_chain_Check_19
noncomputable def c_chain_Check_21 : Code := Code.r c_chain_Check_18
noncomputable def c_chain_Check_22 : Code := Code.l c_chain_Check_21
noncomputable def r_chain_Check_22 : Array Oper := Code.ops c_chain_Check_22
noncomputable def c_chain_Check_24 : Code := Code.r c_chain_Check_21
noncomputable def c_chain_Check_25 : Code := Code.l c_chain_Check_24
noncomputable def c_chain_Check_26 : Code := Code.l c_chain_Check_25
noncomputable def r_chain_Check_26 : Array Oper := Code.ops c_chain_Check_26
noncomputable def c_chain_Check_28 : Code := Code.r c_chain_Check_25
noncomputable def c_chain_Check_29 : Code := Code.r c_chain_Check_24
noncomputable def c_chain_Check_30 : Code := Code.r c_chain_Check_16
noncomputable def r_chain_Check_30 : Array Oper := Code.ops c_chain_Check_30
noncomputable def c_chain_Check_32 : Code := Code.r c_chain_Check_3
noncomputable def c_chain_Check_33 : Code := Code.l c_chain_Check_32
noncomputable def r_chain_Check_33 : Array Oper := Code.ops c_chain_Check_33
noncomputable def c_chain_Check_35 : Code := Code.r c_chain_Check_32

set_option maxRecDepth 100000 in
set_option maxHeartbeats 4000000 in
theorem S_chain_Check {l_ : Slc} {w : World} {R : Int → World → Prop} (h : F_chain_Check l_ R w) : C_chain_Check l_ w R := by
  unfold F_chain_Check at h
  unfold C_chain_Check
  refine Calls.mono (calls_of_wpE (args := [Value.slice l_.ptr l_.len l_.cap]) (R := fun v w' => ∃ (r0 : Int), v = Value.int .i64 r0 ∧ R r0 w') Tryd.func24 (c := c_chain_Check_0) (by kernel_rfl) 51 (by kernel_rfl) (by kernel_rfl) [(0, Value.slice l_.ptr l_.len l_.cap)] (by kernel_rfl) ?_) ?_
  · refine wpE_seq (x := c_chain_Check_1) (y := c_chain_Check_3) (by kernel_rfl) ?_
    refine wpE_region (id := 0) (ops := r_chain_Check_1) (by kernel_rfl) ?_
    refine reg_run [.plain] 1 [(0, [], Value.slice l_.ptr l_.len l_.cap)] (by kernel_rfl) (by kernel_rfl) ?_
    refine reg_end [(0, Value.slice l_.ptr l_.len l_.cap)] (by kernel_rfl) (by kernel_rfl) ?_
    change WpE _ _ c_chain_Check_3 _ _ _
    refine wpE_seq (x := c_chain_Check_4) (y := c_chain_Check_32) (by kernel_rfl) ?_
    refine wpE_seq (x := c_chain_Check_5) (y := c_chain_Check_7) (by kernel_rfl) ?_
    refine wpE_region (id := 1) (ops := r_chain_Check_5) (by kernel_rfl) ?_
    refine reg_run [.plain, .plain, .plain] 3 [(0, [], Value.slice l_.ptr l_.len l_.cap), (5, [], Value.slice l_.ptr l_.len l_.cap), (6, [], Value.int .i64 ((l_.len : Nat) : Int)), (7, [], Value.int .i64 0)] (by kernel_rfl) (by kernel_rfl) ?_
    refine reg_end [(0, Value.slice l_.ptr l_.len l_.cap), (5, Value.slice l_.ptr l_.len l_.cap), (6, Value.int .i64 ((l_.len : Nat) : Int)), (7, Value.int .i64 0)] (by kernel_rfl) (by kernel_rfl) ?_
    change WpE _ _ c_chain_Check_7 _ _ _
    refine wpE_block (id := 0) (x := c_chain_Check_8) (by kernel_rfl) ?_
    obtain ⟨I, μ, h0, hr⟩ := h
    refine wpE_loop (x := c_chain_Check_9) (by kernel_rfl) (fun m l w => ∃ (t7 : Int), l = [(0, Value.slice l_.ptr l_.len l_.cap), (5, Value.slice l_.ptr l_.len l_.cap), (6, Value.int .i64 ((l_.len : Nat) : Int)), (7, Value.int .i64 t7)] ∧ I t7 w ∧ μ t7 w = m) (l' := [(0, Value.slice l_.ptr l_.len l_.cap), (5, Value.slice l_.ptr l_.len l_.cap), (6, Value.int .i64 ((l_.len : Nat) : Int)), (7, Value.int .i64 0)]) (Sub.mk (by kernel_rfl)) ⟨0, rfl, h0, rfl⟩ ?_
    rintro _ _ w1 ⟨t7, rfl, hI, rfl⟩
    obtain ⟨again_, again__h, h⟩ : ∃ again_ : Int → World → Prop, (∀ t7' w', again_ t7' w' → I t7' w' ∧ μ t7' w' < μ t7 w1) ∧ F_chain_Check_L0 l_ R again_ t7 w1 := ⟨_, fun _ _ h => h, hr t7 w1 hI⟩
    clear h0 hI
    unfold F_chain_Check_L0 at h
    refine wpE_seq (x := c_chain_Check_10) (y := c_chain_Check_12) (by kernel_rfl) ?_
    refine wpE_region (id := 2) (ops := r_chain_Check_10) (by kernel_rfl) ?_
    refine reg_run [.plain] 1 [(0, [], Value.slice l_.ptr l_.len l_.cap), (5, [], Value.slice l_.ptr l_.len l_.cap), (6, [], Value.int .i64 ((l_.len : Nat) : Int)), (7, [], Value.int .i64 t7), (8, [], Value.bool (decide (t7 < ((l_.len : Nat) : Int))))] (by kernel_rfl) (by kernel_rfl) ?_
    refine reg_end [(0, Value.slice l_.ptr l_.len l_.cap), (5, Value.slice l_.ptr l_.len l_.cap), (6, Value.int .i64 ((l_.len : Nat) : Int)), (7, Value.int .i64 t7), (8, Value.bool (decide (t7 < ((l_.len : Nat) : Int))))] (by kernel_rfl) (by kernel_rfl) ?_
    change WpE _ _ c_chain_Check_12 _ _ _
    refine wpE_seq (x := c_chain_Check_13) (y := c_chain_Check_16) (by kernel_rfl) ?_
    refine wpE_cond (o := (Operand.tmp 8)) (b := (decide (t7 < ((l_.len : Nat) : Int)))) (x := c_chain_Check_14) (y := c_chain_Check_15) (by kernel_rfl) (by kernel_rfl) (fun hb => ?_) (fun hb => ?_)
    · replace h := h.1 hb
      refine wpE_skip (by kernel_rfl) ?_
      change WpE _ _ c_chain_Check_16 _ _ _
      refine wpE_seq (x := c_chain_Check_17) (y := c_chain_Check_30) (by kernel_rfl) ?_
      refine wpE_block (id := 1) (x := c_chain_Check_18) (by kernel_rfl) ?_
      refine wpE_seq (x := c_chain_Check_19) (y := c_chain_Check_21) (by kernel_rfl) ?_
      refine wpE_region (id := 3) (ops := r_chain_Check_19) (by kernel_rfl) ?_
      refine reg_run [.plain] 1 [(0, [], Value.slice l_.ptr l_.len l_.cap), (5, [], Value.slice l_.ptr l_.len l_.cap), (6, [], Value.int .i64 ((l_.len : Nat) : Int)), (7, [], Value.int .i64 t7), (9, [], Value.int .i64 t7)] (by kernel_rfl) (by kernel_rfl) ?_
      obtain ⟨hp_19, h⟩ := h
      refine reg_conv [(0, [], Value.slice l_.ptr l_.len l_.cap), (5, [], Value.slice (some ⟨(pblk l_.ptr), (poff l_.ptr), none⟩) l_.len l_.cap), (6, [], Value.int .i64 ((l_.len : Nat) : Int)), (7, [], Value.int .i64 t7), (9, [], Value.int .i64 t7)] (congrArg (fun pp => ([(0, [], Value.slice l_.ptr l_.len l_.cap), (5, [], Value.slice pp l_.len l_.cap), (6, [], Value.int .i64 ((l_.len : Nat) : Int)), (7, [], Value.int .i64 t7), (9, [], Value.int .i64 t7)] : GEnv)) hp_19) ?_
      obtain ⟨h0, h1, h⟩ := h
      refine reg_indexS (t := 22) (e := 27) (x := (Go.Operand.tmp 5)) (ix := (Go.Operand.tmp 7)) (b := (pblk l_.ptr)) (o := (poff l_.ptr)) (l := l_.len) (c := l_.cap) (k := .i64) (j := t7) (ty := 0) (dst := some 10) (sz := 3) (by kernel_rfl) (by kernel_rfl) (by kernel_rfl) (by kernel_rfl) (by kernel_rfl) h0 h1 ?_
      refine reg_run [] 2 [(0, [], Value.slice l_.ptr l_.len l_.cap), (5, [], Value.slice (some ⟨(pblk l_.ptr), (poff l_.ptr), none⟩) l_.len l_.cap), (6, [], Value.int .i64 ((l_.len : Nat) : Int)), (7, [], Value.int .i64 t7), (9, [], Value.int .i64 t7), (10, [], Value.pointer (some ⟨(pblk l_.ptr), (poff l_.ptr) + t7.toNat * 3, none⟩))] (by kernel_rfl) (by kernel_rfl) ?_
      obtain ⟨v11, hc, h⟩ := h
      refine reg_loadN (t := 27) (a := (Go.Operand.tmp 10)) (b := (pblk l_.ptr)) (o := ((poff l_.ptr) + t7.toNat * 3)) (ty := 27) (dst := some 11) [Value.int .i64 v11.Number, Value.string v11.Val, Value.bool v11.Drop] (by kernel_rfl) (by kernel_rfl) (by kernel_rfl) (k := 3) (by kernel_rfl) (by kernel_rfl) hc ?_
      refine reg_run [] 3 [(0, [], Value.slice l_.ptr l_.len l_.cap), (5, [], Value.slice (some ⟨(pblk l_.ptr), (poff l_.ptr), none⟩) l_.len l_.cap), (6, [], Value.int .i64 ((l_.len : Nat) : Int)), (7, [], Value.int .i64 t7), (9, [], Value.int .i64 t7), (11, [], Value.agg #[Value.int .i64 v11.Number, Value.string v11.Val, Value.bool v11.Drop])] (by kernel_rfl) (by kernel_rfl) ?_
      refine reg_new (op := (Go.Op.alloc 27)) (ty := 0) (dst := some 4) (fun bb => Value.pointer (some ⟨bb, 0, none⟩)) (Obj.cells ([Value.int .i64 0, Value.string ByteArray.empty, Value.bool false]).toArray ty_api_Version (0, 0)) (by kernel_rfl) (by kernel_rfl) (fun b_ w2 hb hw => ?_)
      replace h := h b_ w2 hb hw
      clear hb hw
      refine reg_run [.plain] 5 [(0, [], Value.slice l_.ptr l_.len l_.cap), (3, [], Value.int .i64 t7), (4, [], Value.pointer (some ⟨b_, 0, none⟩)), (5, [], Value.slice (some ⟨(pblk l_.ptr), (poff l_.ptr), none⟩) l_.len l_.cap), (6, [], Value.int .i64 ((l_.len : Nat) : Int)), (7, [], Value.int .i64 t7), (11, [], Value.agg #[Value.int .i64 v11.Number, Value.string v11.Val, Value.bool v11.Drop])] (by kernel_rfl) (by kernel_rfl) ?_
      obtain ⟨hc, h⟩ := h
      refine reg_store (t := 27) (a := (Go.Operand.tmp 4)) (x := (Go.Operand.tmp 11)) (b := b_) (o := 0) (ty := 0) (dst := none) [Value.int .i64 v11.Number, Value.string v11.Val, Value.bool v11.Drop] (by kernel_rfl) (by kernel_rfl) (by kernel_rfl) (k := 3) (by kernel_rfl) (by kernel_rfl) (by kernel_rfl) hc (fun w3 hw => ?_)
      replace h := h w3 hw
      clear hw
      refine reg_run [] 6 [(0, [], Value.slice l_.ptr l_.len l_.cap), (3, [], Value.int .i64 t7), (4, [], Value.pointer (some ⟨b_, 0, none⟩)), (5, [], Value.slice (some ⟨(pblk l_.ptr), (poff l_.ptr), none⟩) l_.len l_.cap), (6, [], Value.int .i64 ((l_.len : Nat) : Int)), (7, [], Value.int .i64 t7)] (by kernel_rfl) (by kernel_rfl) ?_
      refine reg_conv [(0, [], Value.slice l_.ptr l_.len l_.cap), (3, [], Value.int .i64 t7), (4, [], Value.pointer (some ⟨b_, 0, none⟩)), (5, [], Value.slice l_.ptr l_.len l_.cap), (6, [], Value.int .i64 ((l_.len : Nat) : Int)), (7, [], Value.int .i64 t7)] (congrArg (fun pp => ([(0, [], Value.slice l_.ptr l_.len l_.cap), (3, [], Value.int .i64 t7), (4, [], Value.pointer (some ⟨b_, 0, none⟩)), (5, [], Value.slice pp l_.len l_.cap), (6, [], Value.int .i64 ((l_.len : Nat) : Int)), (7, [], Value.int .i64 t7)] : GEnv)) hp_19.symm) ?_
      refine reg_end [(0, Value.slice l_.ptr l_.len l_.cap), (3, Value.int .i64 t7), (4, Value.pointer (some ⟨b_, 0, none⟩)), (5, Value.slice l_.ptr l_.len l_.cap), (6, Value.int .i64 ((l_.len : Nat) : Int)), (7, Value.int .i64 t7)] (by kernel_rfl) (by kernel_rfl) ?_
      change WpE _ _ c_chain_Check_21 _ _ _
      refine wpE_seq_cut (x := c_chain_Check_22) (y := c_chain_Check_24) (by kernel_rfl) (fun l w => ∃ (t49 : Bool), l = [(0, Value.slice l_.ptr l_.len l_.cap), (5, Value.slice l_.ptr l_.len l_.cap), (6, Value.int .i64 ((l_.len : Nat) : Int)), (7, Value.int .i64 t7), (49, Value.bool t49)] ∧ F_chain_Check_k1 R t7 again_ t49 w) ?_ ?_
      · refine wpE_drawregion (id := 4) (ops := r_chain_Check_22) (by kernel_rfl) (by kernel_rfl) (by kernel_rfl) ?_
        refine qreg_run [.plain] 1 [(0, [], Value.slice l_.ptr l_.len l_.cap), (3, [], Value.int .i64 t7), (4, [], Value.pointer (some ⟨b_, 0, none⟩)), (5, [], Value.slice l_.ptr l_.len l_.cap), (6, [], Value.int .i64 ((l_.len : Nat) : Int)), (7, [], Value.int .i64 t7), (12, [], Value.pointer (some ⟨b_, 0, none⟩))] (by kernel_rfl) (by kernel_rfl) ?_
        obtain ⟨v13, hc, h⟩ := h
        refine qreg_load1 (t := 3) (a := (Go.Operand.tmp 12)) (b := b_) (o := 0) (ty := 3) (dst := some 13) (by kernel_rfl) (by kernel_rfl) (by kernel_rfl) hc ?_
        refine qreg_run [.plain, .plain, .plain] 5 [(0, [], Value.slice l_.ptr l_.len l_.cap), (3, [], Value.int .i64 t7), (4, [], Value.pointer (some ⟨b_, 0, none⟩)), (5, [], Value.slice l_.ptr l_.len l_.cap), (6, [], Value.int .i64 ((l_.len : Nat) : Int)), (7, [], Value.int .i64 t7), (15, [], Value.bool (decide (v13 < 1))), (16, [(15, false)], Value.pointer (some ⟨b_, 0, none⟩))] (by kernel_rfl) (by kernel_rfl) ?_
        refine qreg_split 15 (decide (v13 < 1)) (by kernel_rfl) (fun hb => ?_) (fun hb => ?_)
        · replace h := h.1 hb
          refine qreg_run [] 5 [(0, [], Value.slice l_.ptr l_.len l_.cap), (3, [], Value.int .i64 t7), (4, [], Value.pointer (some ⟨b_, 0, none⟩)), (5, [], Value.slice l_.ptr l_.len l_.cap), (6, [], Value.int .i64 ((l_.len : Nat) : Int)), (7, [], Value.int .i64 t7), (15, [], Value.bool true), (16, [], undef)] (by kernel_rfl) (by kernel_rfl) ?_
          refine qreg_run [.skip, .skip, .plain, .plain, .skip, .skip, .skip, .skip, .plain, .plain, .skip, .skip, .skip, .skip, .skip, .skip, .skip, .plain, .plain, .skip, .skip, .skip, .skip, .skip, .skip, .skip, .skip, .skip, .skip, .skip, .skip, .skip, .plain] 38 [(0, [], Value.slice l_.ptr l_.len l_.cap), (5, [], Value.slice l_.ptr l_.len l_.cap), (6, [], Value.int .i64 ((l_.len : Nat) : Int)), (7, [], Value.int .i64 t7), (49, [], Value.bool true)] (by kernel_rfl) (by kernel_rfl) ?_
          refine qreg_end [(0, Value.slice l_.ptr l_.len l_.cap), (5, Value.slice l_.ptr l_.len l_.cap), (6, Value.int .i64 ((l_.len : Nat) : Int)), (7, Value.int .i64 t7), (49, Value.bool true)] (by kernel_rfl) (by kernel_rfl) (fun w5 hw => ?_)
          replace h := h w5 hw
          clear hw
          exact ⟨[(0, Value.slice l_.ptr l_.len l_.cap), (5, Value.slice l_.ptr l_.len l_.cap), (6, Value.int .i64 ((l_.len : Nat) : Int)), (7, Value.int .i64 t7), (49, Value.bool true)], Sub.mk (by kernel_rfl), true, rfl, h⟩
        · replace h := h.2 hb
          refine qreg_run [] 5 [(0, [], Value.slice l_.ptr l_.len l_.cap), (3, [], Value.int .i64 t7), (4, [], Value.pointer (some ⟨b_, 0, none⟩)), (5, [], Value.slice l_.ptr l_.len l_.cap), (6, [], Value.int .i64 ((l_.len : Nat) : Int)), (7, [], Value.int .i64 t7), (15, [], Value.bool false), (16, [], Value.pointer (some ⟨b_, 0, none⟩))] (by kernel_rfl) (by kernel_rfl) ?_
          refine qreg_run [] 5 [(0, [], Value.slice l_.ptr l_.len l_.cap), (3, [], Value.int .i64 t7), (4, [], Value.pointer (some ⟨b_, 0, none⟩)), (5, [], Value.slice l_.ptr l_.len l_.cap), (6, [], Value.int .i64 ((l_.len : Nat) : Int)), (7, [], Value.int .i64 t7), (15, [], Value.bool false), (16, [], Value.pointer (some ⟨b_, 0, none⟩))] (by kernel_rfl) (by kernel_rfl) ?_
          obtain ⟨v17, hc, h⟩ := h
          refine qreg_load1 (t := 3) (a := (Go.Operand.tmp 16)) (b := b_) (o := 0) (ty := 3) (dst := some 17) (by kernel_rfl) (by kernel_rfl) (by kernel_rfl) hc ?_
          refine qreg_run [.sure, .plain, .plain, .plain] 10 [(0, [], Value.slice l_.ptr l_.len l_.cap), (3, [], Value.int .i64 t7), (4, [], Value.pointer (some ⟨b_, 0, none⟩)), (5, [], Value.slice l_.ptr l_.len l_.cap), (6, [], Value.int .i64 ((l_.len : Nat) : Int)), (7, [], Value.int .i64 t7), (20, [], Value.bool (decide (v17 > 65536))), (21, [(20, false)], Value.pointer (some ⟨b_, 1, none⟩))] (by kernel_rfl) (by kernel_rfl) ?_
          refine qreg_split 20 (decide (v17 > 65536)) (by kernel_rfl) (fun hb => ?_) (fun hb => ?_)
          · replace h := h.1 hb
            refine qreg_run [] 10 [(0, [], Value.slice l_.ptr l_.len l_.cap), (3, [], Value.int .i64 t7), (4, [], Value.pointer (some ⟨b_, 0, none⟩)), (5, [], Value.slice l_.ptr l_.len l_.cap), (6, [], Value.int .i64 ((l_.len : Nat) : Int)), (7, [], Value.int .i64 t7), (20, [], Value.bool true), (21, [], undef)] (by kernel_rfl) (by kernel_rfl) ?_
            refine qreg_run [.skip, .skip, .skip, .plain, .plain, .skip, .skip, .skip, .skip, .skip, .skip, .skip, .plain, .plain, .skip, .skip, .skip, .skip, .skip, .skip, .skip, .skip, .skip, .skip, .skip, .skip, .skip, .plain] 38 [(0, [], Value.slice l_.ptr l_.len l_.cap), (5, [], Value.slice l_.ptr l_.len l_.cap), (6, [], Value.int .i64 ((l_.len : Nat) : Int)), (7, [], Value.int .i64 t7), (49, [], Value.bool true)] (by kernel_rfl) (by kernel_rfl) ?_
            refine qreg_end [(0, Value.slice l_.ptr l_.len l_.cap), (5, Value.slice l_.ptr l_.len l_.cap), (6, Value.int .i64 ((l_.len : Nat) : Int)), (7, Value.int .i64 t7), (49, Value.bool true)] (by kernel_rfl) (by kernel_rfl) (fun w6 hw => ?_)
            replace h := h w6 hw
            clear hw
            exact ⟨[(0, Value.slice l_.ptr l_.len l_.cap), (5, Value.slice l_.ptr l_.len l_.cap), (6, Value.int .i64 ((l_.len : Nat) : Int)), (7, Value.int .i64 t7), (49, Value.bool true)], Sub.mk (by kernel_rfl), true, rfl, h⟩
          · replace h := h.2 hb
            refine qreg_run [] 10 [(0, [], Value.slice l_.ptr l_.len l_.cap), (3, [], Value.int .i64 t7), (4, [], Value.pointer (some ⟨b_, 0, none⟩)), (5, [], Value.slice l_.ptr l_.len l_.cap), (6, [], Value.int .i64 ((l_.len : Nat) : Int)), (7, [], Value.int .i64 t7), (20, [], Value.bool false), (21, [], Value.pointer (some ⟨b_, 1, none⟩))] (by kernel_rfl) (by kernel_rfl) ?_
            refine qreg_run [] 10 [(0, [], Value.slice l_.ptr l_.len l_.cap), (3, [], Value.int .i64 t7), (4, [], Value.pointer (some ⟨b_, 0, none⟩)), (5, [], Value.slice l_.ptr l_.len l_.cap), (6, [], Value.int .i64 ((l_.len : Nat) : Int)), (7, [], Value.int .i64 t7), (20, [], Value.bool false), (21, [], Value.pointer (some ⟨b_, 1, none⟩))] (by kernel_rfl) (by kernel_rfl) ?_
            obtain ⟨v22, hc, h⟩ := h
            refine qreg_load1 (t := 9) (a := (Go.Operand.tmp 21)) (b := b_) (o := 1) (ty := 9) (dst := some 22) (by kernel_rfl) (by kernel_rfl) (by kernel_rfl) hc ?_
            refine qreg_run [.sure, .sure, .plain, .plain, .plain] 16 [(0, [], Value.slice l_.ptr l_.len l_.cap), (3, [], Value.int .i64 t7), (4, [], Value.pointer (some ⟨b_, 0, none⟩)), (5, [], Value.slice l_.ptr l_.len l_.cap), (6, [], Value.int .i64 ((l_.len : Nat) : Int)), (7, [], Value.int .i64 t7), (26, [], Value.bool (decide (((v22.size : Nat) : Int) > 1024))), (27, [(26, false)], Value.pointer (some ⟨b_, 2, none⟩))] (by kernel_rfl) (by kernel_rfl) ?_
            refine qreg_split 26 (decide (((v22.size : Nat) : Int) > 1024)) (by kernel_rfl) (fun hb => ?_) (fun hb => ?_)
            · replace h := h.1 hb
              refine qreg_run [] 16 [(0, [], Value.slice l_.ptr l_.len l_.cap), (3, [], Value.int .i64 t7), (4, [], Value.pointer (some ⟨b_, 0, none⟩)), (5, [], Value.slice l_.ptr l_.len l_.cap), (6, [], Value.int .i64 ((l_.len : Nat) : Int)), (7, [], Value.int .i64 t7), (26, [], Value.bool true), (27, [], undef)] (by kernel_rfl) (by kernel_rfl) ?_
              refine qreg_run [.skip, .skip, .skip, .skip, .skip, .skip, .plain, .plain, .skip, .skip, .skip, .skip, .skip, .skip, .skip, .skip, .skip, .skip, .skip, .skip, .skip, .plain] 38 [(0, [], Value.slice l_.ptr l_.len l_.cap), (5, [], Value.slice l_.ptr l_.len l_.cap), (6, [], Value.int .i64 ((l_.len : Nat) : Int)), (7, [], Value.int .i64 t7), (49, [], Value.bool true)] (by kernel_rfl) (by kernel_rfl) ?_
              refine qreg_end [(0, Value.slice l_.ptr l_.len l_.cap), (5, Value.slice l_.ptr l_.len l_.cap), (6, Value.int .i64 ((l_.len : Nat) : Int)), (7, Value.int .i64 t7), (49, Value.bool true)] (by kernel_rfl) (by kernel_rfl) (fun w7 hw => ?_)
              replace h := h w7 hw
              clear hw
              exact ⟨[(0, Value.slice l_.ptr l_.len l_.cap), (5, Value.slice l_.ptr l_.len l_.cap), (6, Value.int .i64 ((l_.len : Nat) : Int)), (7, Value.int .i64 t7), (49, Value.bool true)], Sub.mk (by kernel_rfl), true, rfl, h⟩
            · replace h := h.2 hb
              refine qreg_run [] 16 [(0, [], Value.slice l_.ptr l_.len l_.cap), (3, [], Value.int .i64 t7), (4, [], Value.pointer (some ⟨b_, 0, none⟩)), (5, [], Value.slice l_.ptr l_.len l_.cap), (6, [], Value.int .i64 ((l_.len : Nat) : Int)), (7, [], Value.int .i64 t7), (26, [], Value.bool false), (27, [], Value.pointer (some ⟨b_, 2, none⟩))] (by kernel_rfl) (by kernel_rfl) ?_
              refine qreg_run [] 16 [(0, [], Value.slice l_.ptr l_.len l_.cap), (3, [], Value.int .i64 t7), (4, [], Value.pointer (some ⟨b_, 0, none⟩)), (5, [], Value.slice l_.ptr l_.len l_.cap), (6, [], Value.int .i64 ((l_.len : Nat) : Int)), (7, [], Value.int .i64 t7), (26, [], Value.bool false), (27, [], Value.pointer (some ⟨b_, 2, none⟩))] (by kernel_rfl) (by kernel_rfl) ?_
              obtain ⟨v28, hc, h⟩ := h
              refine qreg_load1 (t := 4) (a := (Go.Operand.tmp 27)) (b := b_) (o := 2) (ty := 4) (dst := some 28) (by kernel_rfl) (by kernel_rfl) (by kernel_rfl) hc ?_
              refine qreg_run [.sure, .plain] 19 [(0, [], Value.slice l_.ptr l_.len l_.cap), (3, [], Value.int .i64 t7), (4, [], Value.pointer (some ⟨b_, 0, none⟩)), (5, [], Value.slice l_.ptr l_.len l_.cap), (6, [], Value.int .i64 ((l_.len : Nat) : Int)), (7, [], Value.int .i64 t7), (26, [], Value.bool false), (29, [], Value.bool v28), (30, [(29, true)], Value.pointer (some ⟨b_, 1, none⟩))] (by kernel_rfl) (by kernel_rfl) ?_
              refine qreg_split 29 v28 (by kernel_rfl) (fun hb => ?_) (fun hb => ?_)
              · replace h := h.1 hb
                refine qreg_run [] 19 [(0, [], Value.slice l_.ptr l_.len l_.cap), (3, [], Value.int .i64 t7), (4, [], Value.pointer (some ⟨b_, 0, none⟩)), (5, [], Value.slice l_.ptr l_.len l_.cap), (6, [], Value.int .i64 ((l_.len : Nat) : Int)), (7, [], Value.int .i64 t7), (26, [], Value.bool false), (29, [], Value.bool true), (30, [], Value.pointer (some ⟨b_, 1, none⟩))] (by kernel_rfl) (by kernel_rfl) ?_
                refine qreg_run [] 19 [(0, [], Value.slice l_.ptr l_.len l_.cap), (3, [], Value.int .i64 t7), (4, [], Value.pointer (some ⟨b_, 0, none⟩)), (5, [], Value.slice l_.ptr l_.len l_.cap), (6, [], Value.int .i64 ((l_.len : Nat) : Int)), (7, [], Value.int .i64 t7), (26, [], Value.bool false), (29, [], Value.bool true), (30, [], Value.pointer (some ⟨b_, 1, none⟩))] (by kernel_rfl) (by kernel_rfl) ?_
                obtain ⟨v31, hc, h⟩ := h
                refine qreg_load1 (t := 9) (a := (Go.Operand.tmp 30)) (b := b_) (o := 1) (ty := 9) (dst := some 31) (by kernel_rfl) (by kernel_rfl) (by kernel_rfl) hc ?_
                refine qreg_run [.sure, .sure, .plain, .plain, .plain, .plain, .plain, .plain, .plain, .plain] 30 [(0, [], Value.slice l_.ptr l_.len l_.cap), (4, [], Value.pointer (some ⟨b_, 0, none⟩)), (5, [], Value.slice l_.ptr l_.len l_.cap), (6, [], Value.int .i64 ((l_.len : Nat) : Int)), (7, [], Value.int .i64 t7), (35, [], Value.bool (!(v31.toList == ByteArray.empty.toList))), (38, [(35, false)], Value.bool (decide (t7 > 0))), (39, [(38, true), (35, false)], Value.slice l_.ptr l_.len l_.cap), (41, [(38, true), (35, false)], Value.int .i64 (IntKind.i64.wrap (t7 - 1)))] (by kernel_rfl) (by kernel_rfl) ?_
                refine qreg_split 35 (!(v31.toList == ByteArray.empty.toList)) (by kernel_rfl) (fun hb => ?_) (fun hb => ?_)
                · replace h := h.1 hb
                  refine qreg_run [] 30 [(0, [], Value.slice l_.ptr l_.len l_.cap), (4, [], Value.pointer (some ⟨b_, 0, none⟩)), (5, [], Value.slice l_.ptr l_.len l_.cap), (6, [], Value.int .i64 ((l_.len : Nat) : Int)), (7, [], Value.int .i64 t7), (35, [], Value.bool true), (38, [], undef), (39, [], undef), (41, [], undef)] (by kernel_rfl) (by kernel_rfl) ?_
                  refine qreg_run [.skip, .skip, .skip, .skip, .skip, .skip, .skip, .plain] 38 [(0, [], Value.slice l_.ptr l_.len l_.cap), (5, [], Value.slice l_.ptr l_.len l_.cap), (6, [], Value.int .i64 ((l_.len : Nat) : Int)), (7, [], Value.int .i64 t7), (49, [], Value.bool true)] (by kernel_rfl) (by kernel_rfl) ?_
                  refine qreg_end [(0, Value.slice l_.ptr l_.len l_.cap), (5, Value.slice l_.ptr l_.len l_.cap), (6, Value.int .i64 ((l_.len : Nat) : Int)), (7, Value.int .i64 t7), (49, Value.bool true)] (by kernel_rfl) (by kernel_rfl) (fun w8 hw => ?_)
                  replace h := h w8 hw
                  clear hw
                  exact ⟨[(0, Value.slice l_.ptr l_.len l_.cap), (5, Value.slice l_.ptr l_.len l_.cap), (6, Value.int .i64 ((l_.len : Nat) : Int)), (7, Value.int .i64 t7), (49, Value.bool true)], Sub.mk (by kernel_rfl), true, rfl, h⟩
                · replace h := h.2 hb
                  refine qreg_run [] 30 [(0, [], Value.slice l_.ptr l_.len l_.cap), (4, [], Value.pointer (some ⟨b_, 0, none⟩)), (5, [], Value.slice l_.ptr l_.len l_.cap), (6, [], Value.int .i64 ((l_.len : Nat) : Int)), (7, [], Value.int .i64 t7), (35, [], Value.bool false), (38, [], Value.bool (decide (t7 > 0))), (39, [(38, true)], Value.slice l_.ptr l_.len l_.cap), (41, [(38, true)], Value.int .i64 (IntKind.i64.wrap (t7 - 1)))] (by kernel_rfl) (by kernel_rfl) ?_
                  refine qreg_run [] 30 [(0, [], Value.slice l_.ptr l_.len l_.cap), (4, [], Value.pointer (some ⟨b_, 0, none⟩)), (5, [], Value.slice l_.ptr l_.len l_.cap), (6, [], Value.int .i64 ((l_.len : Nat) : Int)), (7, [], Value.int .i64 t7), (35, [], Value.bool false), (38, [], Value.bool (decide (t7 > 0))), (39, [(38, true)], Value.slice l_.ptr l_.len l_.cap), (41, [(38, true)], Value.int .i64 (IntKind.i64.wrap (t7 - 1)))] (by kernel_rfl) (by kernel_rfl) ?_
                  refine qreg_split 38 (decide (t7 > 0)) (by kernel_rfl) (fun hb => ?_) (fun hb => ?_)
                  · replace h := h.1 hb
                    refine qreg_run [] 30 [(0, [], Value.slice l_.ptr l_.len l_.cap), (4, [], Value.pointer (some ⟨b_, 0, none⟩)), (5, [], Value.slice l_.ptr l_.len l_.cap), (6, [], Value.int .i64 ((l_.len : Nat) : Int)), (7, [], Value.int .i64 t7), (35, [], Value.bool false), (38, [], Value.bool true), (39, [], Value.slice l_.ptr l_.len l_.cap), (41, [], Value.int .i64 (IntKind.i64.wrap (t7 - 1)))] (by kernel_rfl) (by kernel_rfl) ?_
                    refine qreg_run [] 30 [(0, [], Value.slice l_.ptr l_.len l_.cap), (4, [], Value.pointer (some ⟨b_, 0, none⟩)), (5, [], Value.slice l_.ptr l_.len l_.cap), (6, [], Value.int .i64 ((l_.len : Nat) : Int)), (7, [], Value.int .i64 t7), (35, [], Value.bool false), (38, [], Value.bool true), (39, [], Value.slice l_.ptr l_.len l_.cap), (41, [], Value.int .i64 (IntKind.i64.wrap (t7 - 1)))] (by kernel_rfl) (by kernel_rfl) ?_
                    obtain ⟨hp_22, h⟩ := h
                    refine qreg_conv [(0, [], Value.slice l_.ptr l_.len l_.cap), (4, [], Value.pointer (some ⟨b_, 0, none⟩)), (5, [], Value.slice l_.ptr l_.len l_.cap), (6, [], Value.int .i64 ((l_.len : Nat) : Int)), (7, [], Value.int .i64 t7), (35, [], Value.bool false), (38, [], Value.bool true), (39, [], Value.slice (some ⟨(pblk l_.ptr), (poff l_.ptr), none⟩) l_.len l_.cap), (41, [], Value.int .i64 (IntKind.i64.wrap (t7 - 1)))] (congrArg (fun pp => ([(0, [], Value.slice l_.ptr l_.len l_.cap), (4, [], Value.pointer (some ⟨b_, 0, none⟩)), (5, [], Value.slice l_.ptr l_.len l_.cap), (6, [], Value.int .i64 ((l_.len : Nat) : Int)), (7, [], Value.int .i64 t7), (35, [], Value.bool false), (38, [], Value.bool true), (39, [], Value.slice pp l_.len l_.cap), (41, [], Value.int .i64 (IntKind.i64.wrap (t7 - 1)))] : GEnv)) hp_22) ?_
                    obtain ⟨h0, h1, h⟩ := h
                    refine qreg_indexS (t := 22) (e := 27) (x := (Go.Operand.tmp 39)) (ix := (Go.Operand.tmp 41)) (b := (pblk l_.ptr)) (o := (poff l_.ptr)) (l := l_.len) (c := l_.cap) (k := .i64) (j := (IntKind.i64.wrap (t7 - 1))) (ty := 0) (dst := some 42) (sz := 3) (by kernel_rfl) (by kernel_rfl) (by kernel_rfl) (by kernel_rfl) (by kernel_rfl) h0 h1 ?_
                    refine qreg_run [.sure] 32 [(0, [], Value.slice l_.ptr l_.len l_.cap), (4, [], Value.pointer (some ⟨b_, 0, none⟩)), (5, [], Value.slice l_.ptr l_.len l_.cap), (6, [], Value.int .i64 ((l_.len : Nat) : Int)), (7, [], Value.int .i64 t7), (35, [], Value.bool false), (38, [], Value.bool true), (43, [], Value.pointer (some ⟨(pblk l_.ptr), (poff l_.ptr) + (IntKind.i64.wrap (t7 - 1)).toNat * 3, none⟩))] (by kernel_rfl) (by kernel_rfl) ?_
                    obtain ⟨v44, hc, h⟩ := h
                    refine qreg_load1 (t := 3) (a := (Go.Operand.tmp 43)) (b := (pblk l_.ptr)) (o := ((poff l_.ptr) + (IntKind.i64.wrap (t7 - 1)).toNat * 3)) (ty := 3) (dst := some 44) (by kernel_rfl) (by kernel_rfl) (by kernel_rfl) hc ?_
                    refine qreg_run [.sure] 34 [(0, [], Value.slice l_.ptr l_.len l_.cap), (5, [], Value.slice l_.ptr l_.len l_.cap), (6, [], Value.int .i64 ((l_.len : Nat) : Int)), (7, [], Value.int .i64 t7), (35, [], Value.bool false), (38, [], Value.bool true), (44, [], Value.int .i64 v44), (45, [], Value.pointer (some ⟨b_, 0, none⟩))] (by kernel_rfl) (by kernel_rfl) ?_
                    obtain ⟨v46, hc, h⟩ := h
                    refine qreg_load1 (t := 3) (a := (Go.Operand.tmp 45)) (b := b_) (o := 0) (ty := 3) (dst := some 46) (by kernel_rfl) (by kernel_rfl) (by kernel_rfl) hc ?_
                    refine qreg_run [.sure, .sure, .plain] 38 [(0, [], Value.slice l_.ptr l_.len l_.cap), (5, [], Value.slice l_.ptr l_.len l_.cap), (6, [], Value.int .i64 ((l_.len : Nat) : Int)), (7, [], Value.int .i64 t7), (49, [], Value.bool (decide (v44 ≥ v46)))] (by kernel_rfl) (by kernel_rfl) ?_
                    refine qreg_end [(0, Value.slice l_.ptr l_.len l_.cap), (5, Value.slice l_.ptr l_.len l_.cap), (6, Value.int .i64 ((l_.len : Nat) : Int)), (7, Value.int .i64 t7), (49, Value.bool (decide (v44 ≥ v46)))] (by kernel_rfl) (by kernel_rfl) (fun w9 hw => ?_)
                    replace h := h w9 hw
                    clear hw
                    exact ⟨[(0, Value.slice l_.ptr l_.len l_.cap), (5, Value.slice l_.ptr l_.len l_.cap), (6, Value.int .i64 ((l_.len : Nat) : Int)), (7, Value.int .i64 t7), (49, Value.bool (decide (v44 ≥ v46)))], Sub.mk (by kernel_rfl), (decide (v44 ≥ v46)), rfl, h⟩
                  · replace h := h.2 hb
                    refine qreg_run [] 30 [(0, [], Value.slice l_.ptr l_.len l_.cap), (4, [], Value.pointer (some ⟨b_, 0, none⟩)), (5, [], Value.slice l_.ptr l_.len l_.cap), (6, [], Value.int .i64 ((l_.len : Nat) : Int)), (7, [], Value.int .i64 t7), (35, [], Value.bool false), (38, [], Value.bool false), (39, [], undef), (41, [], undef)] (by kernel_rfl) (by kernel_rfl) ?_
                    refine qreg_run [.skip, .skip, .skip, .skip, .skip, .skip, .sure, .plain] 38 [(0, [], Value.slice l_.ptr l_.len l_.cap), (5, [], Value.slice l_.ptr l_.len l_.cap), (6, [], Value.int .i64 ((l_.len : Nat) : Int)), (7, [], Value.int .i64 t7), (49, [], Value.bool false)] (by kernel_rfl) (by kernel_rfl) ?_
                    refine qreg_end [(0, Value.slice l_.ptr l_.len l_.cap), (5, Value.slice l_.ptr l_.len l_.cap), (6, Value.int .i64 ((l_.len : Nat) : Int)), (7, Value.int .i64 t7), (49, Value.bool false)] (by kernel_rfl) (by kernel_rfl) (fun w10 hw => ?_)
                    replace h := h w10 hw
                    clear hw
                    exact ⟨[(0, Value.slice l_.ptr l_.len l_.cap), (5, Value.slice l_.ptr l_.len l_.cap), (6, Value.int .i64 ((l_.len : Nat) : Int)), (7, Value.int .i64 t7), (49, Value.bool false)], Sub.mk (by kernel_rfl), false, rfl, h⟩
              · replace h := h.2 hb
                refine qreg_run [] 19 [(0, [], Value.slice l_.ptr l_.len l_.cap), (3, [], Value.int .i64 t7), (4, [], Value.pointer (some ⟨b_, 0, none⟩)), (5, [], Value.slice l_.ptr l_.len l_.cap), (6, [], Value.int .i64 ((l_.len : Nat) : Int)), (7, [], Value.int .i64 t7), (26, [], Value.bool false), (29, [], Value.bool false), (30, [], undef)] (by kernel_rfl) (by kernel_rfl) ?_
                refine qreg_run [.skip, .skip, .sure, .plain, .plain, .sure, .sure, .sure, .plain, .plain, .plain] 30 [(0, [], Value.slice l_.ptr l_.len l_.cap), (4, [], Value.pointer (some ⟨b_, 0, none⟩)), (5, [], Value.slice l_.ptr l_.len l_.cap), (6, [], Value.int .i64 ((l_.len : Nat) : Int)), (7, [], Value.int .i64 t7), (35, [], Value.bool false), (38, [], Value.bool (decide (t7 > 0))), (39, [(38, true)], Value.slice l_.ptr l_.len l_.cap), (41, [(38, true)], Value.int .i64 (IntKind.i64.wrap (t7 - 1)))] (by kernel_rfl) (by kernel_rfl) ?_
                refine qreg_split 38 (decide (t7 > 0)) (by kernel_rfl) (fun hb => ?_) (fun hb => ?_)
                · replace h := h.1 hb
                  refine qreg_run [] 30 [(0, [], Value.slice l_.ptr l_.len l_.cap), (4, [], Value.pointer (some ⟨b_, 0, none⟩)), (5, [], Value.slice l_.ptr l_.len l_.cap), (6, [], Value.int .i64 ((l_.len : Nat) : Int)), (7, [], Value.int .i64 t7), (35, [], Value.bool false), (38, [], Value.bool true), (39, [], Value.slice l_.ptr l_.len l_.cap), (41, [], Value.int .i64 (IntKind.i64.wrap (t7 - 1)))] (by kernel_rfl) (by kernel_rfl) ?_
                  refine qreg_run [] 30 [(0, [], Value.slice l_.ptr l_.len l_.cap), (4, [], Value.pointer (some ⟨b_, 0, none⟩)), (5, [], Value.slice l_.ptr l_.len l_.cap), (6, [], Value.int .i64 ((l_.len : Nat) : Int)), (7, [], Value.int .i64 t7), (35, [], Value.bool false), (38, [], Value.bool true), (39, [], Value.slice l_.ptr l_.len l_.cap), (41, [], Value.int .i64 (IntKind.i64.wrap (t7 - 1)))] (by kernel_rfl) (by kernel_rfl) ?_
                  obtain ⟨hp_23, h⟩ := h
                  refine qreg_conv [(0, [], Value.slice l_.ptr l_.len l_.cap), (4, [], Value.pointer (some ⟨b_, 0, none⟩)), (5, [], Value.slice l_.ptr l_.len l_.cap), (6, [], Value.int .i64 ((l_.len : Nat) : Int)), (7, [], Value.int .i64 t7), (35, [], Value.bool false), (38, [], Value.bool true), (39, [], Value.slice (some ⟨(pblk l_.ptr), (poff l_.ptr), none⟩) l_.len l_.cap), (41, [], Value.int .i64 (IntKind.i64.wrap (t7 - 1)))] (congrArg (fun pp => ([(0, [], Value.slice l_.ptr l_.len l_.cap), (4, [], Value.pointer (some ⟨b_, 0, none⟩)), (5, [], Value.slice l_.ptr l_.len l_.cap), (6, [], Value.int .i64 ((l_.len : Nat) : Int)), (7, [], Value.int .i64 t7), (35, [], Value.bool false), (38, [], Value.bool true), (39, [], Value.slice pp l_.len l_.cap), (41, [], Value.int .i64 (IntKind.i64.wrap (t7 - 1)))] : GEnv)) hp_23) ?_
                  obtain ⟨h0, h1, h⟩ := h
                  refine qreg_indexS (t := 22) (e := 27) (x := (Go.Operand.tmp 39)) (ix := (Go.Operand.tmp 41)) (b := (pblk l_.ptr)) (o := (poff l_.ptr)) (l := l_.len) (c := l_.cap) (k := .i64) (j := (IntKind.i64.wrap (t7 - 1))) (ty := 0) (dst := some 42) (sz := 3) (by kernel_rfl) (by kernel_rfl) (by kernel_rfl) (by kernel_rfl) (by kernel_rfl) h0 h1 ?_
                  refine qreg_run [.sure] 32 [(0, [], Value.slice l_.ptr l_.len l_.cap), (4, [], Value.pointer (some ⟨b_, 0, none⟩)), (5, [], Value.slice l_.ptr l_.len l_.cap), (6, [], Value.int .i64 ((l_.len : Nat) : Int)), (7, [], Value.int .i64 t7), (35, [], Value.bool false), (38, [], Value.bool true), (43, [], Value.pointer (some ⟨(pblk l_.ptr), (poff l_.ptr) + (IntKind.i64.wrap (t7 - 1)).toNat * 3, none⟩))] (by kernel_rfl) (by kernel_rfl) ?_
                  obtain ⟨v441, hc, h⟩ := h
                  refine qreg_load1 (t := 3) (a := (Go.Operand.tmp 43)) (b := (pblk l_.ptr)) (o := ((poff l_.ptr) + (IntKind.i64.wrap (t7 - 1)).toNat * 3)) (ty := 3) (dst := some 44) (by kernel_rfl) (by kernel_rfl) (by kernel_rfl) hc ?_
                  refine qreg_run [.sure] 34 [(0, [], Value.slice l_.ptr l_.len l_.cap), (5, [], Value.slice l_.ptr l_.len l_.cap), (6, [], Value.int .i64 ((l_.len : Nat) : Int)), (7, [], Value.int .i64 t7), (35, [], Value.bool false), (38, [], Value.bool true), (44, [], Value.int .i64 v441), (45, [], Value.pointer (some ⟨b_, 0, none⟩))] (by kernel_rfl) (by kernel_rfl) ?_
                  obtain ⟨v461, hc, h⟩ := h
                  refine qreg_load1 (t := 3) (a := (Go.Operand.tmp 45)) (b := b_) (o := 0) (ty := 3) (dst := some 46) (by kernel_rfl) (by kernel_rfl) (by kernel_rfl) hc ?_
                  refine qreg_run [.sure, .sure, .plain] 38 [(0, [], Value.slice l_.ptr l_.len l_.cap), (5, [], Value.slice l_.ptr l_.len l_.cap), (6, [], Value.int .i64 ((l_.len : Nat) : Int)), (7, [], Value.int .i64 t7), (49, [], Value.bool (decide (v441 ≥ v461)))] (by kernel_rfl) (by kernel_rfl) ?_
                  refine qreg_end [(0, Value.slice l_.ptr l_.len l_.cap), (5, Value.slice l_.ptr l_.len l_.cap), (6, Value.int .i64 ((l_.len : Nat) : Int)), (7, Value.int .i64 t7), (49, Value.bool (decide (v441 ≥ v461)))] (by kernel_rfl) (by kernel_rfl) (fun w11 hw => ?_)
                  replace h := h w11 hw
                  clear hw
                  exact ⟨[(0, Value.slice l_.ptr l_.len l_.cap), (5, Value.slice l_.ptr l_.len l_.cap), (6, Value.int .i64 ((l_.len : Nat) : Int)), (7, Value.int .i64 t7), (49, Value.bool (decide (v441 ≥ v461)))], Sub.mk (by kernel_rfl), (decide (v441 ≥ v461)), rfl, h⟩
                · replace h := h.2 hb
                  refine qreg_run [] 30 [(0, [], Value.slice l_.ptr l_.len l_.cap), (4, [], Value.pointer (some ⟨b_, 0, none⟩)), (5, [], Value.slice l_.ptr l_.len l_.cap), (6, [], Value.int .i64 ((l_.len : Nat) : Int)), (7, [], Value.int .i64 t7), (35, [], Value.bool false), (38, [], Value.bool false), (39, [], undef), (41, [], undef)] (by kernel_rfl) (by kernel_rfl) ?_
                  refine qreg_run [.skip, .skip, .skip, .skip, .skip, .skip, .sure, .plain] 38 [(0, [], Value.slice l_.ptr l_.len l_.cap), (5, [], Value.slice l_.ptr l_.len l_.cap), (6, [], Value.int .i64 ((l_.len : Nat) : Int)), (7, [], Value.int .i64 t7), (49, [], Value.bool false)] (by kernel_rfl) (by kernel_rfl) ?_
                  refine qreg_end [(0, Value.slice l_.ptr l_.len l_.cap), (5, Value.slice l_.ptr l_.len l_.cap), (6, Value.int .i64 ((l_.len : Nat) : Int)), (7, Value.int .i64 t7), (49, Value.bool false)] (by kernel_rfl) (by kernel_rfl) (fun w12 hw => ?_)
                  replace h := h w12 hw
                  clear hw
                  exact ⟨[(0, Value.slice l_.ptr l_.len l_.cap), (5, Value.slice l_.ptr l_.len l_.cap), (6, Value.int .i64 ((l_.len : Nat) : Int)), (7, Value.int .i64 t7), (49, Value.bool false)], Sub.mk (by kernel_rfl), false, rfl, h⟩
      · rintro _ w4 ⟨t49, rfl, h⟩
        unfold F_chain_Check_k1 at h
        refine wpE_cond (o := (Operand.tmp 49)) (b := t49) (x := c_chain_Check_25) (y := c_chain_Check_29) (by kernel_rfl) (by kernel_rfl) (fun hb => ?_) (fun hb => ?_)
        · replace h := h.1 hb
          refine wpE_seq (x := c_chain_Check_26) (y := c_chain_Check_28) (by kernel_rfl) ?_
          refine wpE_region (id := 5) (ops := r_chain_Check_26) (by kernel_rfl) ?_
          refine reg_run [.plain] 1 [(2, [], Value.int .i64 1)] (by kernel_rfl) (by kernel_rfl) ?_
          refine reg_end [(2, Value.int .i64 1)] (by kernel_rfl) (by kernel_rfl) ?_
          change WpE _ _ c_chain_Check_28 _ _ _
          refine wpE_ret (by kernel_rfl) ?_
          repeat (first | refine seqQ_ret ?_ | refine blockQ_ret ?_ | refine loopQ_ret ?_ | refine cutQ_ret ?_)
          exact retS (rs := [(Go.ResultVar.tmp 2)]) (v := Value.int .i64 1) (by kernel_rfl) (⟨by kernel_rfl, trivial⟩) ⟨1, rfl, h⟩
        · replace h := h.2 hb
          refine wpE_skip (by kernel_rfl) ?_
          change WpE _ _ c_chain_Check_30 _ _ _
          refine wpE_region (id := 6) (ops := r_chain_Check_30) (by kernel_rfl) ?_
          refine reg_run [.plain, .plain] 2 [(0, [], Value.slice l_.ptr l_.len l_.cap), (5, [], Value.slice l_.ptr l_.len l_.cap), (6, [], Value.int .i64 ((l_.len : Nat) : Int)), (7, [], Value.int .i64 (IntKind.i64.wrap (t7 + 1)))] (by kernel_rfl) (by kernel_rfl) ?_
          refine reg_end [(0, Value.slice l_.ptr l_.len l_.cap), (5, Value.slice l_.ptr l_.len l_.cap), (6, Value.int .i64 ((l_.len : Nat) : Int)), (7, Value.int .i64 (IntKind.i64.wrap (t7 + 1)))] (by kernel_rfl) (by kernel_rfl) ?_
          have hb_ := again__h _ _ h
          exact ⟨_, hb_.2, [(0, Value.slice l_.ptr l_.len l_.cap), (5, Value.slice l_.ptr l_.len l_.cap), (6, Value.int .i64 ((l_.len : Nat) : Int)), (7, Value.int .i64 (IntKind.i64.wrap (t7 + 1)))], Sub.mk (by kernel_rfl), (IntKind.i64.wrap (t7 + 1)), rfl, hb_.1, rfl⟩
    · replace h := h.2 hb
      refine wpE_exit (id := 0) (by kernel_rfl) ?_
      change WpE _ _ c_chain_Check_32 _ _ _
      refine wpE_seq (x := c_chain_Check_33) (y := c_chain_Check_35) (by kernel_rfl) ?_
      refine wpE_region (id := 7) (ops := r_chain_Check_33) (by kernel_rfl) ?_
      refine reg_run [.plain] 1 [(2, [], Value.int .i64 0)] (by kernel_rfl) (by kernel_rfl) ?_
      refine reg_end [(2, Value.int .i64 0)] (by kernel_rfl) (by kernel_rfl) ?_
      change WpE _ _ c_chain_Check_35 _ _ _
      refine wpE_ret (by kernel_rfl) ?_
      repeat (first | refine seqQ_ret ?_ | refine blockQ_ret ?_ | refine loopQ_ret ?_ | refine cutQ_ret ?_)
      exact retS (rs := [(Go.ResultVar.tmp 2)]) (v := Value.int .i64 0) (by kernel_rfl) (⟨by kernel_rfl, trivial⟩) ⟨0, rfl, h⟩
  · rintro e w' ⟨v, rfl, r0, rfl, h⟩; exact ⟨r0, rfl, h⟩

/-! ### (towpath/chain.list).upto (function 26) -/
noncomputable def c_chain_list_upto_0 : Code := (Tryd.f26.body).getD Code.skip
noncomputable def c_chain_list_upto_1 : Code := Code.l c_chain_list_upto_0
noncomputable def r_chain_list_upto_1 : Array Oper := Code.ops c_chain_list_upto_1
noncomputable def c_chain_list_upto_3 : Code := Code.r c_chain_list_upto_0
noncomputable def c_chain_list_upto_4 : Code := Code.l c_chain_list_upto_3
noncomputable def r_chain_list_upto_4 : Array Oper := Code.ops c_chain_list_upto_4
noncomputable def c_chain_list_upto_6 : Code := Code.r c_chain_list_upto_3

set_option maxRecDepth 100000 in
set_option maxHeartbeats 4000000 in
theorem S_chain_list_upto {l_ : Slc} {at_ : Int} {w : World} {R : Int → World → Prop} (h : F_chain_list_upto l_ at_ R w) : C_chain_list_upto l_ at_ w R := by
  unfold F_chain_list_upto at h
  unfold C_chain_list_upto
  refine Calls.mono (calls_of_wpE (args := [Value.slice l_.ptr l_.len l_.cap, Value.int .i64 at_]) (R := fun v w' => ∃ (r0 : Int), v = Value.int .i64 r0 ∧ R r0 w') Tryd.func26 (c := c_chain_list_upto_0) (by kernel_rfl) 12 (by kernel_rfl) (by kernel_rfl) [(0, Value.slice l_.ptr l_.len l_.cap), (1, Value.int .i64 at_)] (by kernel_rfl) ?_) ?_
  · refine wpE_seq (x := c_chain_list_upto_1) (y := c_chain_list_upto_3) (by kernel_rfl) ?_
    refine wpE_region (id := 0) (ops := r_chain_list_upto_1) (by kernel_rfl) ?_
    refine reg_run [.plain] 1 [(0, [], Value.slice l_.ptr l_.len l_.cap), (1, [], Value.int .i64 at_)] (by kernel_rfl) (by kernel_rfl) ?_
    refine reg_end [(0, Value.slice l_.ptr l_.len l_.cap), (1, Value.int .i64 at_)] (by kernel_rfl) (by kernel_rfl) ?_
    change WpE _ _ c_chain_list_upto_3 _ _ _
    refine wpE_seq (x := c_chain_list_upto_4) (y := c_chain_list_upto_6) (by kernel_rfl) ?_
    refine wpE_region (id := 1) (ops := r_chain_list_upto_4) (by kernel_rfl) ?_
    refine reg_run [.plain, .plain, .plain, .plain, .plain, .plain] 6 [(6, [], Value.int .i64 ((l_.len : Nat) : Int)), (10, [], Value.func (.func 68) #[Value.agg #[Value.slice l_.ptr l_.len l_.cap, Value.int .i64 at_]] #[])] (by kernel_rfl) (by kernel_rfl) ?_
    refine reg_enter (op := (Go.Op.call (Go.Call.mk (Go.Callee.value (Go.Operand.func 67)) #[(Go.Operand.tmp 6), (Go.Operand.tmp 10)] #[3, 69]))) (ty := 3) (dst := some 11) 67 #[Value.int .i64 ((l_.len : Nat) : Int), Value.func (.func 68) #[Value.agg #[Value.slice l_.ptr l_.len l_.cap, Value.int .i64 at_]] #[]] (by kernel_rfl) (fun ww => by kernel_rfl) (Calls.mono h ?_)
    rintro _ w1 ⟨v11, rfl, h⟩
    refine ⟨_, rfl, ?_⟩
    refine reg_run [.plain] 8 [(4, [], Value.int .i64 v11)] (by kernel_rfl) (by kernel_rfl) ?_
    refine reg_end [(4, Value.int .i64 v11)] (by kernel_rfl) (by kernel_rfl) ?_
    change WpE _ _ c_chain_list_upto_6 _ _ _
    refine wpE_ret (by kernel_rfl) ?_
    repeat (first | refine seqQ_ret ?_ | refine blockQ_ret ?_ | refine loopQ_ret ?_ | refine cutQ_ret ?_)
    exact retS (rs := [(Go.ResultVar.tmp 4)]) (v := Value.int .i64 v11) (by kernel_rfl) (⟨by kernel_rfl, trivial⟩) ⟨v11, rfl, h⟩
  · rintro e w' ⟨v, rfl, r0, rfl, h⟩; exact ⟨r0, rfl, h⟩

/-! ### (towpath/chain.mark).above (function 68) -/
noncomputable def c_chain_mark_above_0 : Code := (Tryd.f68.body).getD Code.skip
noncomputable def c_chain_mark_above_1 : Code := Code.l c_chain_mark_above_0
noncomputable def r_chain_mark_above_1 : Array Oper := Code.ops c_chain_mark_above_1
noncomputable def c_chain_mark_above_3 : Code := Code.r c_chain_mark_above_0
noncomputable def c_chain_mark_above_4 : Code := Code.l c_chain_mark_above_3
noncomputable def r_chain_mark_above_4 : Array Oper := Code.ops c_chain_mark_above_4
noncomputable def c_chain_mark_above_6 : Code := Code.r c_chain_mark_above_3

set_option maxRecDepth 100000 in
set_option maxHeartbeats 4000000 in
theorem S_chain_mark_above {m_ : T_chain_mark} {i : Int} {w : World} {R : Bool → World → Prop} (h : F_chain_mark_above m_ i R w) : C_chain_mark_above m_ i w R := by
  unfold F_chain_mark_above at h
  unfold C_chain_mark_above
  refine Calls.mono (calls_of_wpE (args := [Value.agg #[Value.slice m_.l.ptr m_.l.len m_.l.cap, Value.int .i64 m_.at_], Value.int .i64 i]) (R := fun v w' => ∃ (r0 : Bool), v = Value.bool r0 ∧ R r0 w') Tryd.func68 (c := c_chain_mark_above_0) (by kernel_rfl) 14 (by kernel_rfl) (by kernel_rfl) [(0, Value.agg #[Value.slice m_.l.ptr m_.l.len m_.l.cap, Value.int .i64 m_.at_]), (1, Value.int .i64 i)] (by kernel_rfl) ?_) ?_
  · refine wpE_seq (x := c_chain_mark_above_1) (y := c_chain_mark_above_3) (by kernel_rfl) ?_
    refine wpE_region (id := 0) (ops := r_chain_mark_above_1) (by kernel_rfl) ?_
    refine reg_run [] 0 [(0, [], Value.agg #[Value.slice m_.l.ptr m_.l.len m_.l.cap, Value.int .i64 m_.at_]), (1, [], Value.int .i64 i)] (by kernel_rfl) (by kernel_rfl) ?_
    refine reg_new (op := (Go.Op.box 71 (Go.Operand.tmp 0))) (ty := 0) (dst := some 2) (fun bb => Value.pointer (some ⟨bb, 0, none⟩)) (Obj.cells ([Value.slice m_.l.ptr m_.l.len m_.l.cap, Value.int .i64 m_.at_]).toArray ty_chain_mark (0, 0)) (by kernel_rfl) (by kernel_rfl) (fun b_ w1 hb hw => ?_)
    replace h := h b_ w1 hb hw
    clear hb hw
    refine reg_run [.plain] 2 [(1, [], Value.int .i64 i), (2, [], Value.pointer (some ⟨b_, 0, none⟩))] (by kernel_rfl) (by kernel_rfl) ?_
    refine reg_end [(1, Value.int .i64 i), (2, Value.pointer (some ⟨b_, 0, none⟩))] (by kernel_rfl) (by kernel_rfl) ?_
    change WpE _ _ c_chain_mark_above_3 _ _ _
    refine wpE_seq (x := c_chain_mark_above_4) (y := c_chain_mark_above_6) (by kernel_rfl) ?_
    refine wpE_drawregion (id := 1) (ops := r_chain_mark_above_4) (by kernel_rfl) (by kernel_rfl) (by kernel_rfl) ?_
    refine qreg_run [.plain] 1 [(1, [], Value.int .i64 i), (2, [], Value.pointer (some ⟨b_, 0, none⟩)), (5, [], Value.pointer (some ⟨b_, 0, none⟩))] (by kernel_rfl) (by kernel_rfl) ?_
    obtain ⟨v6, hc, h⟩ := h
    refine qreg_load1 (t := 61) (a := (Go.Operand.tmp 5)) (b := b_) (o := 0) (ty := 61) (dst := some 6) (by kernel_rfl) (by kernel_rfl) (by kernel_rfl) hc ?_
    refine qreg_run [.plain] 3 [(2, [], Value.pointer (some ⟨b_, 0, none⟩)), (6, [], Value.slice v6.ptr v6.len v6.cap), (7, [], Value.int .i64 i)] (by kernel_rfl) (by kernel_rfl) ?_
    obtain ⟨hp_0, h⟩ := h
    refine qreg_conv [(2, [], Value.pointer (some ⟨b_, 0, none⟩)), (6, [], Value.slice (some ⟨(pblk v6.ptr), (poff v6.ptr), none⟩) v6.len v6.cap), (7, [], Value.int .i64 i)] (congrArg (fun pp => ([(2, [], Value.pointer (some ⟨b_, 0, none⟩)), (6, [], Value.slice pp v6.len v6.cap), (7, [], Value.int .i64 i)] : GEnv)) hp_0) ?_
    obtain ⟨h0, h1, h⟩ := h
    refine qreg_indexS (t := 61) (e := 27) (x := (Go.Operand.tmp 6)) (ix := (Go.Operand.tmp 7)) (b := (pblk v6.ptr)) (o := (poff v6.ptr)) (l := v6.len) (c := v6.cap) (k := .i64) (j := i) (ty := 0) (dst := some 8) (sz := 3) (by kernel_rfl) (by kernel_rfl) (by kernel_rfl) (by kernel_rfl) (by kernel_rfl) h0 h1 ?_
    refine qreg_run [.plain] 5 [(2, [], Value.pointer (some ⟨b_, 0, none⟩)), (9, [], Value.pointer (some ⟨(pblk v6.ptr), (poff v6.ptr) + i.toNat * 3, none⟩))] (by kernel_rfl) (by kernel_rfl) ?_
    obtain ⟨v10, hc, h⟩ := h
    refine qreg_load1 (t := 3) (a := (Go.Operand.tmp 9)) (b := (pblk v6.ptr)) (o := ((poff v6.ptr) + i.toNat * 3)) (ty := 3) (dst := some 10) (by kernel_rfl) (by kernel_rfl) (by kernel_rfl) hc ?_
    refine qreg_run [.plain] 7 [(10, [], Value.int .i64 v10), (11, [], Value.pointer (some ⟨b_, 1, none⟩))] (by kernel_rfl) (by kernel_rfl) ?_
    obtain ⟨v12, hc, h⟩ := h
    refine qreg_load1 (t := 3) (a := (Go.Operand.tmp 11)) (b := b_) (o := 1) (ty := 3) (dst := some 12) (by kernel_rfl) (by kernel_rfl) (by kernel_rfl) hc ?_
    refine qreg_run [.plain, .plain] 10 [(4, [], Value.bool (decide (v10 > v12)))] (by kernel_rfl) (by kernel_rfl) ?_
    refine qreg_end [(4, Value.bool (decide (v10 > v12)))] (by kernel_rfl) (by kernel_rfl) (fun w2 hw => ?_)
    replace h := h w2 hw
    clear hw
    change WpE _ _ c_chain_mark_above_6 _ _ _
    refine wpE_ret (by kernel_rfl) ?_
    repeat (first | refine seqQ_ret ?_ | refine blockQ_ret ?_ | refine loopQ_ret ?_ | refine cutQ_ret ?_)
    exact retS (rs := [(Go.ResultVar.tmp 4)]) (v := Value.bool (decide (v10 > v12))) (by kernel_rfl) (⟨by kernel_rfl, trivial⟩) ⟨(decide (v10 > v12)), rfl, h⟩
  · rintro e w' ⟨v, rfl, r0, rfl, h⟩; exact ⟨r0, rfl, h⟩
end Go.Proofs.YtcgfmkpddhhmgaaDoor
