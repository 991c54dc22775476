/- WRITTEN BY PROGRAM (dec.py): for each Go function the clean formula F, the call's contract C, and the proof S that F gives C. -/
import Derived.Test.YtcgfmkpddhhmgaaDoorRows
import Derived.Test.YtcgfmkpddhhmgaaDoorGF
namespace Go.Proofs.YtcgfmkpddhhmgaaDoor
open Go
set_option linter.unusedVariables false

/-! ### towpath/towpathref08.At (function 10) -/
noncomputable def c_towpathref08_At_0 : Code := (Tryd.f10.body).getD Code.skip
noncomputable def c_towpathref08_At_1 : Code := Code.l c_towpathref08_At_0
noncomputable def r_towpathref08_At_1 : Array Oper := Code.ops c_towpathref08_At_1
noncomputable def c_towpathref08_At_3 : Code := Code.r c_towpathref08_At_0
noncomputable def c_towpathref08_At_4 : Code := Code.l c_towpathref08_At_3
noncomputable def c_towpathref08_At_5 : Code := Code.l c_towpathref08_At_4
noncomputable def r_towpathref08_At_5 : Array Oper := Code.ops c_towpathref08_At_5
noncomputable def c_towpathref08_At_7 : Code := Code.r c_towpathref08_At_4
noncomputable def c_towpathref08_At_8 : Code := Code.l c_towpathref08_At_7
noncomputable def c_towpathref08_At_9 : Code := Code.l c_towpathref08_At_8
noncomputable def r_towpathref08_At_9 : Array Oper := Code.ops c_towpathref08_At_9
noncomputable def c_towpathref08_At_11 : Code := Code.r c_towpathref08_At_8
noncomputable def c_towpathref08_At_12 : Code := Code.r c_towpathref08_At_7
noncomputable def c_towpathref08_At_13 : Code := Code.r c_towpathref08_At_3
noncomputable def c_towpathref08_At_14 : Code := Code.l c_towpathref08_At_13
noncomputable def r_towpathref08_At_14 : Array Oper := Code.ops c_towpathref08_At_14
noncomputable def c_towpathref08_At_16 : Code := Code.r c_towpathref08_At_13
noncomputable def c_towpathref08_At_17 : Code := Code.l c_towpathref08_At_16
noncomputable def c_towpathref08_At_18 : Code := Code.l c_towpathref08_At_17
noncomputable def r_towpathref08_At_18 : Array Oper := Code.ops c_towpathref08_At_18
noncomputable def c_towpathref08_At_20 : Code := Code.r c_towpathref08_At_17
noncomputable def c_towpathref08_At_21 : Code := Code.l c_towpathref08_At_20
noncomputable def c_towpathref08_At_22 : Code := Code.l c_towpathref08_At_21
noncomputable def r_towpathref08_At_22 : Array Oper := Code.ops c_towpathref08_At_22
noncomputable def c_towpathref08_At_24 : Code := Code.r c_towpathref08_At_21
noncomputable def c_towpathref08_At_25 : Code := Code.r c_towpathref08_At_20
noncomputable def c_towpathref08_At_26 : Code := Code.r c_towpathref08_At_16
noncomputable def c_towpathref08_At_27 : Code := Code.l c_towpathref08_At_26
noncomputable def r_towpathref08_At_27 : Array Oper := Code.ops c_towpathref08_At_27
noncomputable def c_towpathref08_At_29 : Code := Code.r c_towpathref08_At_26

set_option maxRecDepth 100000 in
set_option maxHeartbeats 4000000 in
theorem S_towpathref08_At {l_ : Slc} {mark : Int} {w : World} {R : T_api_Version → Bool → Int → World → Prop} (h : F_towpathref08_At l_ mark R w) : C_towpathref08_At l_ mark w R := by
  unfold F_towpathref08_At at h
  unfold C_towpathref08_At
  refine Calls.mono (calls_of_wpE (args := [Value.slice l_.ptr l_.len l_.cap, Value.int .i64 mark]) (R := fun v w' => ∃ (r0 : T_api_Version) (r1 : Bool) (r2 : Int), v = Value.tuple #[Value.agg #[Value.int .i64 r0.Number, Value.string r0.Val, Value.bool r0.Drop], Value.bool r1, Value.int .i64 r2] ∧ R r0 r1 r2 w') Tryd.func10 (c := c_towpathref08_At_0) (by kernel_rfl) 22 (by kernel_rfl) (by kernel_rfl) [(0, Value.slice l_.ptr l_.len l_.cap), (1, Value.int .i64 mark)] (by kernel_rfl) ?_) ?_
  · refine wpE_seq (x := c_towpathref08_At_1) (y := c_towpathref08_At_3) (by kernel_rfl) ?_
    refine wpE_region (id := 0) (ops := r_towpathref08_At_1) (by kernel_rfl) ?_
    refine reg_run [] 0 [(0, [], Value.slice l_.ptr l_.len l_.cap), (1, [], Value.int .i64 mark)] (by kernel_rfl) (by kernel_rfl) ?_
    refine reg_new (op := (Go.Op.alloc 27)) (ty := 0) (dst := some 4) (fun bb => Value.pointer (some ⟨bb, 0, none⟩)) (Obj.cells ([Value.int .i64 0, Value.string ByteArray.empty, Value.bool false]).toArray ty_api_Version (0, 0)) (by kernel_rfl) (by kernel_rfl) (fun b_ w1 hb hw => ?_)
    replace h := h b_ w1 hb hw
    clear hb hw
    refine reg_run [.plain, .plain] 3 [(0, [], Value.slice l_.ptr l_.len l_.cap), (1, [], Value.int .i64 mark), (4, [], Value.pointer (some ⟨b_, 0, none⟩))] (by kernel_rfl) (by kernel_rfl) ?_
    refine reg_end [(0, Value.slice l_.ptr l_.len l_.cap), (1, Value.int .i64 mark), (4, Value.pointer (some ⟨b_, 0, none⟩))] (by kernel_rfl) (by kernel_rfl) ?_
    change WpE _ _ c_towpathref08_At_3 _ _ _
    refine wpE_seq (x := c_towpathref08_At_4) (y := c_towpathref08_At_13) (by kernel_rfl) ?_
    refine wpE_seq (x := c_towpathref08_At_5) (y := c_towpathref08_At_7) (by kernel_rfl) ?_
    refine wpE_region (id := 1) (ops := r_towpathref08_At_5) (by kernel_rfl) ?_
    refine reg_run [.plain] 1 [(0, [], Value.slice l_.ptr l_.len l_.cap), (1, [], Value.int .i64 mark), (4, [], Value.pointer (some ⟨b_, 0, none⟩)), (8, [], Value.slice l_.ptr l_.len l_.cap)] (by kernel_rfl) (by kernel_rfl) ?_
    refine reg_enter (op := (Go.Op.call (Go.Call.mk (Go.Callee.value (Go.Operand.func 25)) #[(Go.Operand.tmp 8)] #[22]))) (ty := 28) (dst := some 9) 25 #[Value.slice l_.ptr l_.len l_.cap] (by kernel_rfl) (fun ww => by kernel_rfl) (Calls.mono h ?_)
    rintro _ w2 ⟨v9, rfl, h⟩
    refine ⟨_, rfl, ?_⟩
    refine reg_run [.plain] 3 [(0, [], Value.slice l_.ptr l_.len l_.cap), (1, [], Value.int .i64 mark), (4, [], Value.pointer (some ⟨b_, 0, none⟩)), (10, [], Value.bool (v9 != 0))] (by kernel_rfl) (by kernel_rfl) ?_
    refine reg_end [(0, Value.slice l_.ptr l_.len l_.cap), (1, Value.int .i64 mark), (4, Value.pointer (some ⟨b_, 0, none⟩)), (10, Value.bool (v9 != 0))] (by kernel_rfl) (by kernel_rfl) ?_
    change WpE _ _ c_towpathref08_At_7 _ _ _
    refine wpE_cond (o := (Operand.tmp 10)) (b := (v9 != 0)) (x := c_towpathref08_At_8) (y := c_towpathref08_At_12) (by kernel_rfl) (by kernel_rfl) (fun hb => ?_) (fun hb => ?_)
    · replace h := h.1 hb
      refine wpE_seq (x := c_towpathref08_At_9) (y := c_towpathref08_At_11) (by kernel_rfl) ?_
      refine wpE_region (id := 2) (ops := r_towpathref08_At_9) (by kernel_rfl) ?_
      refine reg_run [.plain] 1 [(4, [], Value.pointer (some ⟨b_, 0, none⟩)), (11, [], Value.agg #[Value.int .i64 0, Value.string ByteArray.empty, Value.bool false])] (by kernel_rfl) (by kernel_rfl) ?_
      obtain ⟨hc, h⟩ := h
      refine reg_store (t := 27) (a := (Go.Operand.tmp 4)) (x := (Go.Operand.tmp 11)) (b := b_) (o := 0) (ty := 0) (dst := none) [Value.int .i64 0, Value.string ByteArray.empty, Value.bool false] (by kernel_rfl) (by kernel_rfl) (by kernel_rfl) (k := 3) (by kernel_rfl) (by kernel_rfl) (by kernel_rfl) hc (fun w3 hw => ?_)
      replace h := h w3 hw
      clear hw
      refine reg_run [.plain, .plain] 4 [(4, [], Value.pointer (some ⟨b_, 0, none⟩)), (5, [], Value.bool false), (6, [], Value.int .i64 1)] (by kernel_rfl) (by kernel_rfl) ?_
      refine reg_end [(4, Value.pointer (some ⟨b_, 0, none⟩)), (5, Value.bool false), (6, Value.int .i64 1)] (by kernel_rfl) (by kernel_rfl) ?_
      change WpE _ _ c_towpathref08_At_11 _ _ _
      refine wpE_ret (by kernel_rfl) ?_
      obtain ⟨res, hc_res, h⟩ := h
      repeat (first | refine seqQ_ret ?_ | refine blockQ_ret ?_ | refine loopQ_ret ?_ | refine cutQ_ret ?_)
      exact retT (rs := [(Go.ResultVar.cell 4 27), (Go.ResultVar.tmp 5), (Go.ResultVar.tmp 6)]) (vs := [Value.agg #[Value.int .i64 res.Number, Value.string res.Val, Value.bool res.Drop], Value.bool false, Value.int .i64 1]) (by kernel_rfl) (⟨b_, 0, [Value.int .i64 res.Number, Value.string res.Val, Value.bool res.Drop], by kernel_rfl, hc_res, (sizeP_of (k := 3) (by kernel_rfl) (by kernel_rfl)), .inl ⟨by kernel_rfl, rfl⟩, ⟨by kernel_rfl, ⟨by kernel_rfl, trivial⟩⟩⟩) (by kernel_rfl) ⟨res, false, 1, rfl, h⟩
    · replace h := h.2 hb
      refine wpE_skip (by kernel_rfl) ?_
      change WpE _ _ c_towpathref08_At_13 _ _ _
      refine wpE_seq (x := c_towpathref08_At_14) (y := c_towpathref08_At_16) (by kernel_rfl) ?_
      refine wpE_region (id := 3) (ops := r_towpathref08_At_14) (by kernel_rfl) ?_
      refine reg_run [.plain, .plain] 2 [(0, [], Value.slice l_.ptr l_.len l_.cap), (4, [], Value.pointer (some ⟨b_, 0, none⟩)), (12, [], Value.slice l_.ptr l_.len l_.cap), (13, [], Value.int .i64 mark)] (by kernel_rfl) (by kernel_rfl) ?_
      refine reg_enter (op := (Go.Op.call (Go.Call.mk (Go.Callee.value (Go.Operand.func 27)) #[(Go.Operand.tmp 12), (Go.Operand.tmp 13)] #[22, 3]))) (ty := 3) (dst := some 14) 27 #[Value.slice l_.ptr l_.len l_.cap, Value.int .i64 mark] (by kernel_rfl) (fun ww => by kernel_rfl) (Calls.mono h ?_)
      rintro _ w4 ⟨v14, rfl, h⟩
      refine ⟨_, rfl, ?_⟩
      refine reg_run [.plain] 4 [(0, [], Value.slice l_.ptr l_.len l_.cap), (4, [], Value.pointer (some ⟨b_, 0, none⟩)), (7, [], Value.int .i64 v14)] (by kernel_rfl) (by kernel_rfl) ?_
      refine reg_end [(0, Value.slice l_.ptr l_.len l_.cap), (4, Value.pointer (some ⟨b_, 0, none⟩)), (7, Value.int .i64 v14)] (by kernel_rfl) (by kernel_rfl) ?_
      change WpE _ _ c_towpathref08_At_16 _ _ _
      refine wpE_seq (x := c_towpathref08_At_17) (y := c_towpathref08_At_26) (by kernel_rfl) ?_
      refine wpE_seq (x := c_towpathref08_At_18) (y := c_towpathref08_At_20) (by kernel_rfl) ?_
      refine wpE_region (id := 4) (ops := r_towpathref08_At_18) (by kernel_rfl) ?_
      refine reg_run [.plain, .plain] 2 [(0, [], Value.slice l_.ptr l_.len l_.cap), (4, [], Value.pointer (some ⟨b_, 0, none⟩)), (7, [], Value.int .i64 v14), (16, [], Value.bool (decide (v14 < 0)))] (by kernel_rfl) (by kernel_rfl) ?_
      refine reg_end [(0, Value.slice l_.ptr l_.len l_.cap), (4, Value.pointer (some ⟨b_, 0, none⟩)), (7, Value.int .i64 v14), (16, Value.bool (decide (v14 < 0)))] (by kernel_rfl) (by kernel_rfl) ?_
      change WpE _ _ c_towpathref08_At_20 _ _ _
      refine wpE_cond (o := (Operand.tmp 16)) (b := (decide (v14 < 0))) (x := c_towpathref08_At_21) (y := c_towpathref08_At_25) (by kernel_rfl) (by kernel_rfl) (fun hb => ?_) (fun hb => ?_)
      · replace h := h.1 hb
        refine wpE_seq (x := c_towpathref08_At_22) (y := c_towpathref08_At_24) (by kernel_rfl) ?_
        refine wpE_region (id := 5) (ops := r_towpathref08_At_22) (by kernel_rfl) ?_
        refine reg_run [.plain] 1 [(4, [], Value.pointer (some ⟨b_, 0, none⟩)), (17, [], Value.agg #[Value.int .i64 0, Value.string ByteArray.empty, Value.bool false])] (by kernel_rfl) (by kernel_rfl) ?_
        obtain ⟨hc, h⟩ := h
        refine reg_store (t := 27) (a := (Go.Operand.tmp 4)) (x := (Go.Operand.tmp 17)) (b := b_) (o := 0) (ty := 0) (dst := none) [Value.int .i64 0, Value.string ByteArray.empty, Value.bool false] (by kernel_rfl) (by kernel_rfl) (by kernel_rfl) (k := 3) (by kernel_rfl) (by kernel_rfl) (by kernel_rfl) hc (fun w5 hw => ?_)
        replace h := h w5 hw
        clear hw
        refine reg_run [.plain, .plain] 4 [(4, [], Value.pointer (some ⟨b_, 0, none⟩)), (5, [], Value.bool false), (6, [], Value.int .i64 0)] (by kernel_rfl) (by kernel_rfl) ?_
        refine reg_end [(4, Value.pointer (some ⟨b_, 0, none⟩)), (5, Value.bool false), (6, Value.int .i64 0)] (by kernel_rfl) (by kernel_rfl) ?_
        change WpE _ _ c_towpathref08_At_24 _ _ _
        refine wpE_ret (by kernel_rfl) ?_
        obtain ⟨res1, hc_res1, h⟩ := h
        repeat (first | refine seqQ_ret ?_ | refine blockQ_ret ?_ | refine loopQ_ret ?_ | refine cutQ_ret ?_)
        exact retT (rs := [(Go.ResultVar.cell 4 27), (Go.ResultVar.tmp 5), (Go.ResultVar.tmp 6)]) (vs := [Value.agg #[Value.int .i64 res1.Number, Value.string res1.Val, Value.bool res1.Drop], Value.bool false, Value.int .i64 0]) (by kernel_rfl) (⟨b_, 0, [Value.int .i64 res1.Number, Value.string res1.Val, Value.bool res1.Drop], by kernel_rfl, hc_res1, (sizeP_of (k := 3) (by kernel_rfl) (by kernel_rfl)), .inl ⟨by kernel_rfl, rfl⟩, ⟨by kernel_rfl, ⟨by kernel_rfl, trivial⟩⟩⟩) (by kernel_rfl) ⟨res1, false, 0, rfl, h⟩
      · replace h := h.2 hb
        refine wpE_skip (by kernel_rfl) ?_
        change WpE _ _ c_towpathref08_At_26 _ _ _
        refine wpE_seq (x := c_towpathref08_At_27) (y := c_towpathref08_At_29) (by kernel_rfl) ?_
        refine wpE_region (id := 6) (ops := r_towpathref08_At_27) (by kernel_rfl) ?_
        refine reg_run [.plain, .plain] 2 [(4, [], Value.pointer (some ⟨b_, 0, none⟩)), (18, [], Value.slice l_.ptr l_.len l_.cap), (19, [], Value.int .i64 v14)] (by kernel_rfl) (by kernel_rfl) ?_
        obtain ⟨hp_0, h⟩ := h
        refine reg_conv [(4, [], Value.pointer (some ⟨b_, 0, none⟩)), (18, [], Value.slice (some ⟨(pblk l_.ptr), (poff l_.ptr), none⟩) l_.len l_.cap), (19, [], Value.int .i64 v14)] (congrArg (fun pp => ([(4, [], Value.pointer (some ⟨b_, 0, none⟩)), (18, [], Value.slice pp l_.len l_.cap), (19, [], Value.int .i64 v14)] : GEnv)) hp_0) ?_
        obtain ⟨h0, h1, h⟩ := h
        refine reg_indexS (t := 22) (e := 27) (x := (Go.Operand.tmp 18)) (ix := (Go.Operand.tmp 19)) (b := (pblk l_.ptr)) (o := (poff l_.ptr)) (l := l_.len) (c := l_.cap) (k := .i64) (j := v14) (ty := 0) (dst := some 20) (sz := 3) (by kernel_rfl) (by kernel_rfl) (by kernel_rfl) (by kernel_rfl) (by kernel_rfl) h0 h1 ?_
        refine reg_run [] 3 [(4, [], Value.pointer (some ⟨b_, 0, none⟩)), (20, [], Value.pointer (some ⟨(pblk l_.ptr), (poff l_.ptr) + v14.toNat * 3, none⟩))] (by kernel_rfl) (by kernel_rfl) ?_
        obtain ⟨v21, hc, h⟩ := h
        refine reg_loadN (t := 27) (a := (Go.Operand.tmp 20)) (b := (pblk l_.ptr)) (o := ((poff l_.ptr) + v14.toNat * 3)) (ty := 27) (dst := some 21) [Value.int .i64 v21.Number, Value.string v21.Val, Value.bool v21.Drop] (by kernel_rfl) (by kernel_rfl) (by kernel_rfl) (k := 3) (by kernel_rfl) (by kernel_rfl) hc ?_
        refine reg_run [] 4 [(4, [], Value.pointer (some ⟨b_, 0, none⟩)), (21, [], Value.agg #[Value.int .i64 v21.Number, Value.string v21.Val, Value.bool v21.Drop])] (by kernel_rfl) (by kernel_rfl) ?_
        obtain ⟨hc, h⟩ := h
        refine reg_store (t := 27) (a := (Go.Operand.tmp 4)) (x := (Go.Operand.tmp 21)) (b := b_) (o := 0) (ty := 0) (dst := none) [Value.int .i64 v21.Number, Value.string v21.Val, Value.bool v21.Drop] (by kernel_rfl) (by kernel_rfl) (by kernel_rfl) (k := 3) (by kernel_rfl) (by kernel_rfl) (by kernel_rfl) hc (fun w6 hw => ?_)
        replace h := h w6 hw
        clear hw
        refine reg_run [.plain, .plain] 7 [(4, [], Value.pointer (some ⟨b_, 0, none⟩)), (5, [], Value.bool true), (6, [], Value.int .i64 0)] (by kernel_rfl) (by kernel_rfl) ?_
        refine reg_end [(4, Value.pointer (some ⟨b_, 0, none⟩)), (5, Value.bool true), (6, Value.int .i64 0)] (by kernel_rfl) (by kernel_rfl) ?_
        change WpE _ _ c_towpathref08_At_29 _ _ _
        refine wpE_ret (by kernel_rfl) ?_
        obtain ⟨res2, hc_res2, h⟩ := h
        repeat (first | refine seqQ_ret ?_ | refine blockQ_ret ?_ | refine loopQ_ret ?_ | refine cutQ_ret ?_)
        exact retT (rs := [(Go.ResultVar.cell 4 27), (Go.ResultVar.tmp 5), (Go.ResultVar.tmp 6)]) (vs := [Value.agg #[Value.int .i64 res2.Number, Value.string res2.Val, Value.bool res2.Drop], Value.bool true, Value.int .i64 0]) (by kernel_rfl) (⟨b_, 0, [Value.int .i64 res2.Number, Value.string res2.Val, Value.bool res2.Drop], by kernel_rfl, hc_res2, (sizeP_of (k := 3) (by kernel_rfl) (by kernel_rfl)), .inl ⟨by kernel_rfl, rfl⟩, ⟨by kernel_rfl, ⟨by kernel_rfl, trivial⟩⟩⟩) (by kernel_rfl) ⟨res2, true, 0, rfl, h⟩
  · rintro e w' ⟨v, rfl, r0, r1, r2, rfl, h⟩; exact ⟨r0, r1, r2, rfl, h⟩

/-! ### towpath/towpathref08.Collect (function 12) -/
noncomputable def c_towpathref08_Collect_0 : Code := (Tryd.f12.body).getD Code.skip
noncomputable def c_towpathref08_Collect_1 : Code := Code.l c_towpathref08_Collect_0
noncomputable def r_towpathref08_Collect_1 : Array Oper := Code.ops c_towpathref08_Collect_1
noncomputable def c_towpathref08_Collect_3 : Code := Code.r c_towpathref08_Collect_0
noncomputable def c_towpathref08_Collect_4 : Code := Code.l c_towpathref08_Collect_3
noncomputable def c_towpathref08_Collect_5 : Code := Code.l c_towpathref08_Collect_4
noncomputable def r_towpathref08_Collect_5 : Array Oper := Code.ops c_towpathref08_Collect_5
noncomputable def c_towpathref08_Collect_7 : Code := Code.r c_towpathref08_Collect_4
noncomputable def c_towpathref08_Collect_8 : Code := Code.l c_towpathref08_Collect_7
noncomputable def c_towpathref08_Collect_9 : Code := Code.l c_towpathref08_Collect_8
noncomputable def r_towpathref08_Collect_9 : Array Oper := Code.ops c_towpathref08_Collect_9
noncomputable def c_towpathref08_Collect_11 : Code := Code.r c_towpathref08_Collect_8
noncomputable def c_towpathref08_Collect_12 : Code := Code.r c_towpathref08_Collect_7
noncomputable def c_towpathref08_Collect_13 : Code := Code.r c_towpathref08_Collect_3
noncomputable def c_towpathref08_Collect_14 : Code := Code.l c_towpathref08_Collect_13
noncomputable def r_towpathref08_Collect_14 : Array Oper := Code.ops c_towpathref08_Collect_14
noncomputable def c_towpathref08_Collect_16 : Code := Code.r c_towpathref08_Collect_13
noncomputable def c_towpathref08_Collect_17 : Code := Code.l c_towpathref08_Collect_16
noncomputable def c_towpathref08_Collect_18 : Code := Code.l c_towpathref08_Collect_17
noncomputable def r_towpathref08_Collect_18 : Array Oper := Code.ops c_towpathref08_Collect_18
noncomputable def c_towpathref08_Collect_20 : Code := Code.r c_towpathref08_Collect_17
noncomputable def c_towpathref08_Collect_21 : Code := Code.l c_towpathref08_Collect_20
noncomputable def c_towpathref08_Collect_22 : Code := Code.l c_towpathref08_Collect_21
noncomputable def r_towpathref08_Collect_22 : Array Oper := Code.ops c_towpathref08_Collect_22
noncomputable def c_towpathref08_Collect_24 : Code := Code.r c_towpathref08_Collect_21
noncomputable def c_towpathref08_Collect_25 : Code := Code.r c_towpathref08_Collect_20
noncomputable def c_towpathref08_Collect_26 : Code := Code.r c_towpathref08_Collect_16
noncomputable def c_towpathref08_Collect_27 : Code := Code.l c_towpathref08_Collect_26
noncomputable def r_towpathref08_Collect_27 : Array Oper := Code.ops c_towpathref08_Collect_27
noncomputable def c_towpathref08_Collect_29 : Code := Code.r c_towpathref08_Collect_26

set_option maxRecDepth 100000 in
set_option maxHeartbeats 4000000 in
theorem S_towpathref08_Collect {l_ : Slc} {least : Int} {w : World} {R : Slc → Int → Int → World → Prop} (h : F_towpathref08_Collect l_ least R w) : C_towpathref08_Collect l_ least w R := by
  unfold F_towpathref08_Collect at h
  unfold C_towpathref08_Collect
  refine Calls.mono (calls_of_wpE (args := [Value.slice l_.ptr l_.len l_.cap, Value.int .i64 least]) (R := fun v w' => ∃ (r0 : Slc) (r1 : Int) (r2 : Int), v = Value.tuple #[Value.slice r0.ptr r0.len r0.cap, Value.int .i64 r1, Value.int .i64 r2] ∧ R r0 r1 r2 w') Tryd.func12 (c := c_towpathref08_Collect_0) (by kernel_rfl) 21 (by kernel_rfl) (by kernel_rfl) [(0, Value.slice l_.ptr l_.len l_.cap), (1, Value.int .i64 least)] (by kernel_rfl) ?_) ?_
  · refine wpE_seq (x := c_towpathref08_Collect_1) (y := c_towpathref08_Collect_3) (by kernel_rfl) ?_
    refine wpE_region (id := 0) (ops := r_towpathref08_Collect_1) (by kernel_rfl) ?_
    refine reg_run [.plain, .plain, .plain] 3 [(0, [], Value.slice l_.ptr l_.len l_.cap), (1, [], Value.int .i64 least)] (by kernel_rfl) (by kernel_rfl) ?_
    refine reg_end [(0, Value.slice l_.ptr l_.len l_.cap), (1, Value.int .i64 least)] (by kernel_rfl) (by kernel_rfl) ?_
    change WpE _ _ c_towpathref08_Collect_3 _ _ _
    refine wpE_seq (x := c_towpathref08_Collect_4) (y := c_towpathref08_Collect_13) (by kernel_rfl) ?_
    refine wpE_seq (x := c_towpathref08_Collect_5) (y := c_towpathref08_Collect_7) (by kernel_rfl) ?_
    refine wpE_region (id := 1) (ops := r_towpathref08_Collect_5) (by kernel_rfl) ?_
    refine reg_run [.plain] 1 [(0, [], Value.slice l_.ptr l_.len l_.cap), (1, [], Value.int .i64 least), (8, [], Value.slice l_.ptr l_.len l_.cap)] (by kernel_rfl) (by kernel_rfl) ?_
    refine reg_enter (op := (Go.Op.call (Go.Call.mk (Go.Callee.value (Go.Operand.func 25)) #[(Go.Operand.tmp 8)] #[22]))) (ty := 28) (dst := some 9) 25 #[Value.slice l_.ptr l_.len l_.cap] (by kernel_rfl) (fun ww => by kernel_rfl) (Calls.mono h ?_)
    rintro _ w1 ⟨v9, rfl, h⟩
    refine ⟨_, rfl, ?_⟩
    refine reg_run [.plain] 3 [(0, [], Value.slice l_.ptr l_.len l_.cap), (1, [], Value.int .i64 least), (10, [], Value.bool (v9 != 0))] (by kernel_rfl) (by kernel_rfl) ?_
    refine reg_end [(0, Value.slice l_.ptr l_.len l_.cap), (1, Value.int .i64 least), (10, Value.bool (v9 != 0))] (by kernel_rfl) (by kernel_rfl) ?_
    change WpE _ _ c_towpathref08_Collect_7 _ _ _
    refine wpE_cond (o := (Operand.tmp 10)) (b := (v9 != 0)) (x := c_towpathref08_Collect_8) (y := c_towpathref08_Collect_12) (by kernel_rfl) (by kernel_rfl) (fun hb => ?_) (fun hb => ?_)
    · replace h := h.1 hb
      refine wpE_seq (x := c_towpathref08_Collect_9) (y := c_towpathref08_Collect_11) (by kernel_rfl) ?_
      refine wpE_region (id := 2) (ops := r_towpathref08_Collect_9) (by kernel_rfl) ?_
      refine reg_run [.plain, .plain, .plain] 3 [(4, [], Value.slice none 0 0), (5, [], Value.int .i64 0), (6, [], Value.int .i64 1)] (by kernel_rfl) (by kernel_rfl) ?_
      refine reg_end [(4, Value.slice none 0 0), (5, Value.int .i64 0), (6, Value.int .i64 1)] (by kernel_rfl) (by kernel_rfl) ?_
      change WpE _ _ c_towpathref08_Collect_11 _ _ _
      refine wpE_ret (by kernel_rfl) ?_
      repeat (first | refine seqQ_ret ?_ | refine blockQ_ret ?_ | refine loopQ_ret ?_ | refine cutQ_ret ?_)
      exact retT (rs := [(Go.ResultVar.tmp 4), (Go.ResultVar.tmp 5), (Go.ResultVar.tmp 6)]) (vs := [Value.slice none 0 0, Value.int .i64 0, Value.int .i64 1]) (by kernel_rfl) (⟨by kernel_rfl, ⟨by kernel_rfl, ⟨by kernel_rfl, trivial⟩⟩⟩) (by kernel_rfl) ⟨(Slc.mk none 0 0), 0, 1, rfl, h⟩
    · replace h := h.2 hb
      refine wpE_skip (by kernel_rfl) ?_
      change WpE _ _ c_towpathref08_Collect_13 _ _ _
      refine wpE_seq (x := c_towpathref08_Collect_14) (y := c_towpathref08_Collect_16) (by kernel_rfl) ?_
      refine wpE_region (id := 3) (ops := r_towpathref08_Collect_14) (by kernel_rfl) ?_
      refine reg_run [.plain, .plain] 2 [(0, [], Value.slice l_.ptr l_.len l_.cap), (11, [], Value.slice l_.ptr l_.len l_.cap), (12, [], Value.int .i64 least)] (by kernel_rfl) (by kernel_rfl) ?_
      refine reg_enter (op := (Go.Op.call (Go.Call.mk (Go.Callee.value (Go.Operand.func 27)) #[(Go.Operand.tmp 11), (Go.Operand.tmp 12)] #[22, 3]))) (ty := 3) (dst := some 13) 27 #[Value.slice l_.ptr l_.len l_.cap, Value.int .i64 least] (by kernel_rfl) (fun ww => by kernel_rfl) (Calls.mono h ?_)
      rintro _ w2 ⟨v13, rfl, h⟩
      refine ⟨_, rfl, ?_⟩
      refine reg_run [.plain] 4 [(0, [], Value.slice l_.ptr l_.len l_.cap), (7, [], Value.int .i64 v13)] (by kernel_rfl) (by kernel_rfl) ?_
      refine reg_end [(0, Value.slice l_.ptr l_.len l_.cap), (7, Value.int .i64 v13)] (by kernel_rfl) (by kernel_rfl) ?_
      change WpE _ _ c_towpathref08_Collect_16 _ _ _
      refine wpE_seq (x := c_towpathref08_Collect_17) (y := c_towpathref08_Collect_26) (by kernel_rfl) ?_
      refine wpE_seq (x := c_towpathref08_Collect_18) (y := c_towpathref08_Collect_20) (by kernel_rfl) ?_
      refine wpE_region (id := 4) (ops := r_towpathref08_Collect_18) (by kernel_rfl) ?_
      refine reg_run [.plain, .plain] 2 [(0, [], Value.slice l_.ptr l_.len l_.cap), (7, [], Value.int .i64 v13), (15, [], Value.bool (decide (v13 < 0)))] (by kernel_rfl) (by kernel_rfl) ?_
      refine reg_end [(0, Value.slice l_.ptr l_.len l_.cap), (7, Value.int .i64 v13), (15, Value.bool (decide (v13 < 0)))] (by kernel_rfl) (by kernel_rfl) ?_
      change WpE _ _ c_towpathref08_Collect_20 _ _ _
      refine wpE_cond (o := (Operand.tmp 15)) (b := (decide (v13 < 0))) (x := c_towpathref08_Collect_21) (y := c_towpathref08_Collect_25) (by kernel_rfl) (by kernel_rfl) (fun hb => ?_) (fun hb => ?_)
      · replace h := h.1 hb
        refine wpE_seq (x := c_towpathref08_Collect_22) (y := c_towpathref08_Collect_24) (by kernel_rfl) ?_
        refine wpE_region (id := 5) (ops := r_towpathref08_Collect_22) (by kernel_rfl) ?_
        refine reg_run [.plain, .plain, .plain, .plain] 4 [(4, [], Value.slice l_.ptr l_.len l_.cap), (5, [], Value.int .i64 0), (6, [], Value.int .i64 0)] (by kernel_rfl) (by kernel_rfl) ?_
        refine reg_end [(4, Value.slice l_.ptr l_.len l_.cap), (5, Value.int .i64 0), (6, Value.int .i64 0)] (by kernel_rfl) (by kernel_rfl) ?_
        change WpE _ _ c_towpathref08_Collect_24 _ _ _
        refine wpE_ret (by kernel_rfl) ?_
        repeat (first | refine seqQ_ret ?_ | refine blockQ_ret ?_ | refine loopQ_ret ?_ | refine cutQ_ret ?_)
        exact retT (rs := [(Go.ResultVar.tmp 4), (Go.ResultVar.tmp 5), (Go.ResultVar.tmp 6)]) (vs := [Value.slice l_.ptr l_.len l_.cap, Value.int .i64 0, Value.int .i64 0]) (by kernel_rfl) (⟨by kernel_rfl, ⟨by kernel_rfl, ⟨by kernel_rfl, trivial⟩⟩⟩) (by kernel_rfl) ⟨l_, 0, 0, rfl, h⟩
      · replace h := h.2 hb
        refine wpE_skip (by kernel_rfl) ?_
        change WpE _ _ c_towpathref08_Collect_26 _ _ _
        refine wpE_seq (x := c_towpathref08_Collect_27) (y := c_towpathref08_Collect_29) (by kernel_rfl) ?_
        refine wpE_region (id := 6) (ops := r_towpathref08_Collect_27) (by kernel_rfl) ?_
        refine reg_run [.plain, .plain] 2 [(7, [], Value.int .i64 v13), (17, [], Value.slice l_.ptr l_.len l_.cap), (18, [], Value.int .i64 v13)] (by kernel_rfl) (by kernel_rfl) ?_
        obtain ⟨hc, h⟩ := h
        refine reg_slice (t := 22) (e := 27) (x := (Go.Operand.tmp 17)) (lo := (Go.Operand.tmp 18)) (s := l_) (sz := 3) (k := .i64) (a := v13) (ty := 22) (dst := some 19) (by kernel_rfl) (by kernel_rfl) (by kernel_rfl) (by kernel_rfl) (by kernel_rfl) hc (fun s hs => ?_)
        replace h := h s hs
        clear hs
        refine reg_run [.plain, .plain, .plain, .plain] 7 [(4, [], Value.slice s.ptr s.len s.cap), (5, [], Value.int .i64 v13), (6, [], Value.int .i64 0)] (by kernel_rfl) (by kernel_rfl) ?_
        refine reg_end [(4, Value.slice s.ptr s.len s.cap), (5, Value.int .i64 v13), (6, Value.int .i64 0)] (by kernel_rfl) (by kernel_rfl) ?_
        change WpE _ _ c_towpathref08_Collect_29 _ _ _
        refine wpE_ret (by kernel_rfl) ?_
        repeat (first | refine seqQ_ret ?_ | refine blockQ_ret ?_ | refine loopQ_ret ?_ | refine cutQ_ret ?_)
        exact retT (rs := [(Go.ResultVar.tmp 4), (Go.ResultVar.tmp 5), (Go.ResultVar.tmp 6)]) (vs := [Value.slice s.ptr s.len s.cap, Value.int .i64 v13, Value.int .i64 0]) (by kernel_rfl) (⟨by kernel_rfl, ⟨by kernel_rfl, ⟨by kernel_rfl, trivial⟩⟩⟩) (by kernel_rfl) ⟨s, v13, 0, rfl, h⟩
  · rintro e w' ⟨v, rfl, r0, r1, r2, rfl, h⟩; exact ⟨r0, r1, r2, rfl, h⟩

/-! ### towpath/towpathref08.Check (function 25) -/
noncomputable def c_towpathref08_Check_0 : Code := (Tryd.f25.body).getD Code.skip
noncomputable def c_towpathref08_Check_1 : Code := Code.l c_towpathref08_Check_0
noncomputable def r_towpathref08_Check_1 : Array Oper := Code.ops c_towpathref08_Check_1
noncomputable def c_towpathref08_Check_3 : Code := Code.r c_towpathref08_Check_0
noncomputable def c_towpathref08_Check_4 : Code := Code.l c_towpathref08_Check_3
noncomputable def c_towpathref08_Check_5 : Code := Code.l c_towpathref08_Check_4
noncomputable def r_towpathref08_Check_5 : Array Oper := Code.ops c_towpathref08_Check_5
noncomputable def c_towpathref08_Check_7 : Code := Code.r c_towpathref08_Check_4
noncomputable def c_towpathref08_Check_8 : Code := Code.l c_towpathref08_Check_7
noncomputable def c_towpathref08_Check_9 : Code := Code.l c_towpathref08_Check_8
noncomputable def c_towpathref08_Check_10 : Code := Code.l c_towpathref08_Check_9
noncomputable def c_towpathref08_Check_11 : Code := Code.l c_towpathref08_Check_10
noncomputable def r_towpathref08_Check_11 : Array Oper := Code.ops c_towpathref08_Check_11
noncomputable def c_towpathref08_Check_13 : Code := Code.r c_towpathref08_Check_10
noncomputable def c_towpathref08_Check_14 : Code := Code.l c_towpathref08_Check_13
noncomputable def c_towpathref08_Check_15 : Code := Code.r c_towpathref08_Check_13
noncomputable def c_towpathref08_Check_16 : Code := Code.r c_towpathref08_Check_9
noncomputable def c_towpathref08_Check_17 : Code := Code.l c_towpathref08_Check_16
noncomputable def c_towpathref08_Check_18 : Code := Code.l c_towpathref08_Check_17
noncomputable def c_towpathref08_Check_19 : Code := Code.l c_towpathref08_Check_18
noncomputable def r_towpathref08_Check_19 : Array Oper := Code.ops c_towpathref08_Check_19
noncomputable def c_towpathref08_Check_21 : Code := Code.r c_towpathref08_Check_18
noncomputable def c_towpathref08_Check_22 : Code := Code.l c_towpathref08_Check_21
noncomputable def c_towpathref08_Check_23 : Code := Code.l c_towpathref08_Check_22
noncomputable def r_towpathref08_Check_23 : Array Oper := Code.ops c_towpathref08_Check_23
noncomputable def c_towpathref08_Check_25 : Code := Code.r c_towpathref08_Check_22
noncomputable def c_towpathref08_Check_26 : Code := Code.r c_towpathref08_Check_21
noncomputable def c_towpathref08_Check_27 : Code := Code.r c_towpathref08_Check_16
noncomputable def r_towpathref08_Check_27 : Array Oper := Code.ops c_towpathref08_Check_27
noncomputable def c_towpathref08_Check_29 : Code := Code.r c_towpathref08_Check_3
noncomputable def c_towpathref08_Check_30 : Code := Code.l c_towpathref08_Check_29
noncomputable def r_towpathref08_Check_30 : Array Oper := Code.ops c_towpathref08_Check_30
noncomputable def c_towpathref08_Check_32 : Code := Code.r c_towpathref08_Check_29
def o_towpathref08_Check_19 : List Nat := [0, 1, 2, 3, 4, 5, 6, 7, 8, 9, 10, 11, 12, 13, 14, 15, 16, 17, 18, 19, 20, 21, 22, 23]

set_option maxRecDepth 100000 in
set_option maxHeartbeats 4000000 in
theorem S_towpathref08_Check {l_ : Slc} {w : World} {R : Int → World → Prop} (h : F_towpathref08_Check l_ R w) : C_towpathref08_Check l_ w R := by
  unfold F_towpathref08_Check at h
  unfold C_towpathref08_Check
  refine Calls.mono (calls_of_wpE (args := [Value.slice l_.ptr l_.len l_.cap]) (R := fun v w' => ∃ (r0 : Int), v = Value.int .i64 r0 ∧ R r0 w') Tryd.func25 (c := c_towpathref08_Check_0) (by kernel_rfl) 34 (by kernel_rfl) (by kernel_rfl) [(0, Value.slice l_.ptr l_.len l_.cap)] (by kernel_rfl) ?_) ?_
  · refine wpE_seq (x := c_towpathref08_Check_1) (y := c_towpathref08_Check_3) (by kernel_rfl) ?_
    refine wpE_region (id := 0) (ops := r_towpathref08_Check_1) (by kernel_rfl) ?_
    refine reg_run [.plain] 1 [(0, [], Value.slice l_.ptr l_.len l_.cap)] (by kernel_rfl) (by kernel_rfl) ?_
    refine reg_end [(0, Value.slice l_.ptr l_.len l_.cap)] (by kernel_rfl) (by kernel_rfl) ?_
    change WpE _ _ c_towpathref08_Check_3 _ _ _
    refine wpE_seq (x := c_towpathref08_Check_4) (y := c_towpathref08_Check_29) (by kernel_rfl) ?_
    refine wpE_seq (x := c_towpathref08_Check_5) (y := c_towpathref08_Check_7) (by kernel_rfl) ?_
    refine wpE_region (id := 1) (ops := r_towpathref08_Check_5) (by kernel_rfl) ?_
    refine reg_run [.plain] 1 [(0, [], Value.slice l_.ptr l_.len l_.cap), (3, [], Value.int .i64 0)] (by kernel_rfl) (by kernel_rfl) ?_
    refine reg_end [(0, Value.slice l_.ptr l_.len l_.cap), (3, Value.int .i64 0)] (by kernel_rfl) (by kernel_rfl) ?_
    change WpE _ _ c_towpathref08_Check_7 _ _ _
    refine wpE_block (id := 0) (x := c_towpathref08_Check_8) (by kernel_rfl) ?_
    obtain ⟨I, μ, h0, hr⟩ := h
    refine wpE_loop (x := c_towpathref08_Check_9) (by kernel_rfl) (fun m l w => ∃ (i : Int), l = [(0, Value.slice l_.ptr l_.len l_.cap), (3, Value.int .i64 i)] ∧ I i w ∧ μ i w = m) (l' := [(0, Value.slice l_.ptr l_.len l_.cap), (3, Value.int .i64 0)]) (Sub.mk (by kernel_rfl)) ⟨0, rfl, h0, rfl⟩ ?_
    rintro _ _ w1 ⟨i, rfl, hI, rfl⟩
    obtain ⟨again_, again__h, h⟩ : ∃ again_ : Int → World → Prop, (∀ i' w', again_ i' w' → I i' w' ∧ μ i' w' < μ i w1) ∧ F_towpathref08_Check_L0 l_ R again_ i w1 := ⟨_, fun _ _ h => h, hr i w1 hI⟩
    clear h0 hI
    unfold F_towpathref08_Check_L0 at h
    refine wpE_seq (x := c_towpathref08_Check_10) (y := c_towpathref08_Check_16) (by kernel_rfl) ?_
    refine wpE_seq (x := c_towpathref08_Check_11) (y := c_towpathref08_Check_13) (by kernel_rfl) ?_
    refine wpE_region (id := 2) (ops := r_towpathref08_Check_11) (by kernel_rfl) ?_
    refine reg_run [.plain, .plain, .plain, .plain] 4 [(0, [], Value.slice l_.ptr l_.len l_.cap), (3, [], Value.int .i64 i), (7, [], Value.bool (decide (i < ((l_.len : Nat) : Int))))] (by kernel_rfl) (by kernel_rfl) ?_
    refine reg_end [(0, Value.slice l_.ptr l_.len l_.cap), (3, Value.int .i64 i), (7, Value.bool (decide (i < ((l_.len : Nat) : Int))))] (by kernel_rfl) (by kernel_rfl) ?_
    change WpE _ _ c_towpathref08_Check_13 _ _ _
    refine wpE_cond (o := (Operand.tmp 7)) (b := (decide (i < ((l_.len : Nat) : Int)))) (x := c_towpathref08_Check_14) (y := c_towpathref08_Check_15) (by kernel_rfl) (by kernel_rfl) (fun hb => ?_) (fun hb => ?_)
    · replace h := h.1 hb
      refine wpE_skip (by kernel_rfl) ?_
      change WpE _ _ c_towpathref08_Check_16 _ _ _
      refine wpE_seq (x := c_towpathref08_Check_17) (y := c_towpathref08_Check_27) (by kernel_rfl) ?_
      refine wpE_block (id := 1) (x := c_towpathref08_Check_18) (by kernel_rfl) ?_
      refine wpE_seq_cut (x := c_towpathref08_Check_19) (y := c_towpathref08_Check_21) (by kernel_rfl) (fun l w => ∃ (t33 : Bool), l = [(0, Value.slice l_.ptr l_.len l_.cap), (3, Value.int .i64 i), (33, Value.bool t33)] ∧ F_towpathref08_Check_k1 R i again_ t33 w) ?_ ?_
      · refine wpE_mixregion (id := 4) (ops := r_towpathref08_Check_19) o_towpathref08_Check_19 (by kernel_rfl) (by kernel_rfl) (by kernel_rfl) (by kernel_rfl) (fun w3 hw => ?_)
        replace h := h w3 hw
        clear hw
        refine mreg_run [.plain, .plain] 2 [(0, [], Value.slice l_.ptr l_.len l_.cap), (3, [], Value.int .i64 i), (10, [], Value.slice l_.ptr l_.len l_.cap), (11, [], Value.int .i64 i)] (by kernel_rfl) (by kernel_rfl) ?_
        obtain ⟨hp_21, h⟩ := h
        refine mreg_conv [(0, [], Value.slice l_.ptr l_.len l_.cap), (3, [], Value.int .i64 i), (10, [], Value.slice (some ⟨(pblk l_.ptr), (poff l_.ptr), none⟩) l_.len l_.cap), (11, [], Value.int .i64 i)] (congrArg (fun pp => ([(0, [], Value.slice l_.ptr l_.len l_.cap), (3, [], Value.int .i64 i), (10, [], Value.slice pp l_.len l_.cap), (11, [], Value.int .i64 i)] : GEnv)) hp_21) ?_
        obtain ⟨h0, h1, h⟩ := h
        refine mreg_indexS (i := 2) (by kernel_rfl) (t := 22) (e := 27) (x := (Go.Operand.tmp 10)) (ix := (Go.Operand.tmp 11)) (b := (pblk l_.ptr)) (o := (poff l_.ptr)) (l := l_.len) (c := l_.cap) (k := .i64) (j := i) (ty := 0) (dst := some 12) (sz := 3) (by kernel_rfl) (by kernel_rfl) (by kernel_rfl) (by kernel_rfl) (by kernel_rfl) h0 h1 ?_
        refine mreg_run [] 3 [(0, [], Value.slice l_.ptr l_.len l_.cap), (3, [], Value.int .i64 i), (12, [], Value.pointer (some ⟨(pblk l_.ptr), (poff l_.ptr) + i.toNat * 3, none⟩))] (by kernel_rfl) (by kernel_rfl) ?_
        obtain ⟨v13, hc, h⟩ := h
        refine mreg_loadN (i := 3) (by kernel_rfl) (t := 27) (a := (Go.Operand.tmp 12)) (b := (pblk l_.ptr)) (o := ((poff l_.ptr) + i.toNat * 3)) (ty := 27) (dst := some 13) [Value.int .i64 v13.Number, Value.string v13.Val, Value.bool v13.Drop] (by kernel_rfl) (by kernel_rfl) (by kernel_rfl) (k := 3) (by kernel_rfl) (by kernel_rfl) hc ?_
        refine mreg_run [] 4 [(0, [], Value.slice l_.ptr l_.len l_.cap), (3, [], Value.int .i64 i), (13, [], Value.agg #[Value.int .i64 v13.Number, Value.string v13.Val, Value.bool v13.Drop])] (by kernel_rfl) (by kernel_rfl) ?_
        refine mreg_enter (op := (Go.Op.call (Go.Call.mk (Go.Callee.value (Go.Operand.func 66)) #[(Go.Operand.tmp 13)] #[27]))) (ty := 4) (dst := some 14) 4 [3, 2, 0, 1] [] 66 #[Value.agg #[Value.int .i64 v13.Number, Value.string v13.Val, Value.bool v13.Drop]] (by kernel_rfl) (by kernel_rfl) (by kernel_rfl) (by kernel_rfl) (by kernel_rfl) (fun ww => by kernel_rfl) (Calls.mono h ?_)
        rintro _ w4 ⟨v14, rfl, h⟩
        refine ⟨_, rfl, trivial, ?_⟩
        refine mreg_run [.plain, .plain, .plain, .plain, .plain, .plain, .plain, .plain] 13 [(0, [], Value.slice l_.ptr l_.len l_.cap), (3, [], Value.int .i64 i), (16, [], Value.bool (!v14)), (19, [(16, false)], Value.bool (decide (i > 0))), (20, [(19, true), (16, false)], Value.slice l_.ptr l_.len l_.cap), (22, [(19, true), (16, false)], Value.int .i64 (IntKind.i64.wrap (i - 1)))] (by kernel_rfl) (by kernel_rfl) ?_
        refine mreg_split 16 (!v14) (by kernel_rfl) (fun hb => ?_) (fun hb => ?_)
        · replace h := h.1 hb
          refine mreg_run [] 13 [(0, [], Value.slice l_.ptr l_.len l_.cap), (3, [], Value.int .i64 i), (16, [], Value.bool true), (19, [], undef), (20, [], undef), (22, [], undef)] (by kernel_rfl) (by kernel_rfl) ?_
          refine mreg_run [.skip, .skip, .skip, .skip, .skip, .skip, .skip, .skip, .skip, .skip, .plain] 24 [(0, [], Value.slice l_.ptr l_.len l_.cap), (3, [], Value.int .i64 i), (33, [], Value.bool true)] (by kernel_rfl) (by kernel_rfl) ?_
          refine mreg_end [(0, Value.slice l_.ptr l_.len l_.cap), (3, Value.int .i64 i), (33, Value.bool true)] (by kernel_rfl) (by kernel_rfl) (by kernel_rfl) ?_
          exact ⟨[(0, Value.slice l_.ptr l_.len l_.cap), (3, Value.int .i64 i), (33, Value.bool true)], Sub.mk (by kernel_rfl), true, rfl, h⟩
        · replace h := h.2 hb
          refine mreg_run [] 13 [(0, [], Value.slice l_.ptr l_.len l_.cap), (3, [], Value.int .i64 i), (16, [], Value.bool false), (19, [], Value.bool (decide (i > 0))), (20, [(19, true)], Value.slice l_.ptr l_.len l_.cap), (22, [(19, true)], Value.int .i64 (IntKind.i64.wrap (i - 1)))] (by kernel_rfl) (by kernel_rfl) ?_
          refine mreg_run [] 13 [(0, [], Value.slice l_.ptr l_.len l_.cap), (3, [], Value.int .i64 i), (16, [], Value.bool false), (19, [], Value.bool (decide (i > 0))), (20, [(19, true)], Value.slice l_.ptr l_.len l_.cap), (22, [(19, true)], Value.int .i64 (IntKind.i64.wrap (i - 1)))] (by kernel_rfl) (by kernel_rfl) ?_
          refine mreg_split 19 (decide (i > 0)) (by kernel_rfl) (fun hb => ?_) (fun hb => ?_)
          · replace h := h.1 hb
            refine mreg_run [] 13 [(0, [], Value.slice l_.ptr l_.len l_.cap), (3, [], Value.int .i64 i), (16, [], Value.bool false), (19, [], Value.bool true), (20, [], Value.slice l_.ptr l_.len l_.cap), (22, [], Value.int .i64 (IntKind.i64.wrap (i - 1)))] (by kernel_rfl) (by kernel_rfl) ?_
            refine mreg_run [] 13 [(0, [], Value.slice l_.ptr l_.len l_.cap), (3, [], Value.int .i64 i), (16, [], Value.bool false), (19, [], Value.bool true), (20, [], Value.slice l_.ptr l_.len l_.cap), (22, [], Value.int .i64 (IntKind.i64.wrap (i - 1)))] (by kernel_rfl) (by kernel_rfl) ?_
            obtain ⟨hp_22, h⟩ := h
            refine mreg_conv [(0, [], Value.slice l_.ptr l_.len l_.cap), (3, [], Value.int .i64 i), (16, [], Value.bool false), (19, [], Value.bool true), (20, [], Value.slice (some ⟨(pblk l_.ptr), (poff l_.ptr), none⟩) l_.len l_.cap), (22, [], Value.int .i64 (IntKind.i64.wrap (i - 1)))] (congrArg (fun pp => ([(0, [], Value.slice l_.ptr l_.len l_.cap), (3, [], Value.int .i64 i), (16, [], Value.bool false), (19, [], Value.bool true), (20, [], Value.slice pp l_.len l_.cap), (22, [], Value.int .i64 (IntKind.i64.wrap (i - 1)))] : GEnv)) hp_22) ?_
            obtain ⟨h0, h1, h⟩ := h
            refine mreg_indexS (i := 13) (by kernel_rfl) (t := 22) (e := 27) (x := (Go.Operand.tmp 20)) (ix := (Go.Operand.tmp 22)) (b := (pblk l_.ptr)) (o := (poff l_.ptr)) (l := l_.len) (c := l_.cap) (k := .i64) (j := (IntKind.i64.wrap (i - 1))) (ty := 0) (dst := some 23) (sz := 3) (by kernel_rfl) (by kernel_rfl) (by kernel_rfl) (by kernel_rfl) (by kernel_rfl) h0 h1 ?_
            refine mreg_run [.sure] 15 [(0, [], Value.slice l_.ptr l_.len l_.cap), (3, [], Value.int .i64 i), (16, [], Value.bool false), (19, [], Value.bool true), (24, [], Value.pointer (some ⟨(pblk l_.ptr), (poff l_.ptr) + (IntKind.i64.wrap (i - 1)).toNat * 3, none⟩))] (by kernel_rfl) (by kernel_rfl) ?_
            obtain ⟨v25, hc, h⟩ := h
            refine mreg_load1 (i := 15) (by kernel_rfl) (t := 3) (a := (Go.Operand.tmp 24)) (b := (pblk l_.ptr)) (o := ((poff l_.ptr) + (IntKind.i64.wrap (i - 1)).toNat * 3)) (ty := 3) (dst := some 25) (by kernel_rfl) (by kernel_rfl) (by kernel_rfl) hc ?_
            refine mreg_run [.sure, .sure] 18 [(0, [], Value.slice l_.ptr l_.len l_.cap), (3, [], Value.int .i64 i), (16, [], Value.bool false), (19, [], Value.bool true), (25, [], Value.int .i64 v25), (26, [], Value.slice l_.ptr l_.len l_.cap), (27, [], Value.int .i64 i)] (by kernel_rfl) (by kernel_rfl) ?_
            obtain ⟨hp_23, h⟩ := h
            refine mreg_conv [(0, [], Value.slice l_.ptr l_.len l_.cap), (3, [], Value.int .i64 i), (16, [], Value.bool false), (19, [], Value.bool true), (25, [], Value.int .i64 v25), (26, [], Value.slice (some ⟨(pblk l_.ptr), (poff l_.ptr), none⟩) l_.len l_.cap), (27, [], Value.int .i64 i)] (congrArg (fun pp => ([(0, [], Value.slice l_.ptr l_.len l_.cap), (3, [], Value.int .i64 i), (16, [], Value.bool false), (19, [], Value.bool true), (25, [], Value.int .i64 v25), (26, [], Value.slice pp l_.len l_.cap), (27, [], Value.int .i64 i)] : GEnv)) hp_23) ?_
            obtain ⟨h0, h1, h⟩ := h
            refine mreg_indexS (i := 18) (by kernel_rfl) (t := 22) (e := 27) (x := (Go.Operand.tmp 26)) (ix := (Go.Operand.tmp 27)) (b := (pblk l_.ptr)) (o := (poff l_.ptr)) (l := l_.len) (c := l_.cap) (k := .i64) (j := i) (ty := 0) (dst := some 28) (sz := 3) (by kernel_rfl) (by kernel_rfl) (by kernel_rfl) (by kernel_rfl) (by kernel_rfl) h0 h1 ?_
            refine mreg_run [.sure] 20 [(0, [], Value.slice l_.ptr l_.len l_.cap), (3, [], Value.int .i64 i), (16, [], Value.bool false), (19, [], Value.bool true), (25, [], Value.int .i64 v25), (29, [], Value.pointer (some ⟨(pblk l_.ptr), (poff l_.ptr) + i.toNat * 3, none⟩))] (by kernel_rfl) (by kernel_rfl) ?_
            obtain ⟨v30, hc, h⟩ := h
            refine mreg_load1 (i := 20) (by kernel_rfl) (t := 3) (a := (Go.Operand.tmp 29)) (b := (pblk l_.ptr)) (o := ((poff l_.ptr) + i.toNat * 3)) (ty := 3) (dst := some 30) (by kernel_rfl) (by kernel_rfl) (by kernel_rfl) hc ?_
            refine mreg_run [.sure, .sure, .plain] 24 [(0, [], Value.slice l_.ptr l_.len l_.cap), (3, [], Value.int .i64 i), (33, [], Value.bool (decide (v25 ≥ v30)))] (by kernel_rfl) (by kernel_rfl) ?_
            refine mreg_end [(0, Value.slice l_.ptr l_.len l_.cap), (3, Value.int .i64 i), (33, Value.bool (decide (v25 ≥ v30)))] (by kernel_rfl) (by kernel_rfl) (by kernel_rfl) ?_
            exact ⟨[(0, Value.slice l_.ptr l_.len l_.cap), (3, Value.int .i64 i), (33, Value.bool (decide (v25 ≥ v30)))], Sub.mk (by kernel_rfl), (decide (v25 ≥ v30)), rfl, h⟩
          · replace h := h.2 hb
            refine mreg_run [] 13 [(0, [], Value.slice l_.ptr l_.len l_.cap), (3, [], Value.int .i64 i), (16, [], Value.bool false), (19, [], Value.bool false), (20, [], undef), (22, [], undef)] (by kernel_rfl) (by kernel_rfl) ?_
            refine mreg_run [.skip, .skip, .skip, .skip, .skip, .skip, .skip, .skip, .skip, .sure, .plain] 24 [(0, [], Value.slice l_.ptr l_.len l_.cap), (3, [], Value.int .i64 i), (33, [], Value.bool false)] (by kernel_rfl) (by kernel_rfl) ?_
            refine mreg_end [(0, Value.slice l_.ptr l_.len l_.cap), (3, Value.int .i64 i), (33, Value.bool false)] (by kernel_rfl) (by kernel_rfl) (by kernel_rfl) ?_
            exact ⟨[(0, Value.slice l_.ptr l_.len l_.cap), (3, Value.int .i64 i), (33, Value.bool false)], Sub.mk (by kernel_rfl), false, rfl, h⟩
      · rintro _ w2 ⟨t33, rfl, h⟩
        unfold F_towpathref08_Check_k1 at h
        refine wpE_cond (o := (Operand.tmp 33)) (b := t33) (x := c_towpathref08_Check_22) (y := c_towpathref08_Check_26) (by kernel_rfl) (by kernel_rfl) (fun hb => ?_) (fun hb => ?_)
        · replace h := h.1 hb
          refine wpE_seq (x := c_towpathref08_Check_23) (y := c_towpathref08_Check_25) (by kernel_rfl) ?_
          refine wpE_region (id := 5) (ops := r_towpathref08_Check_23) (by kernel_rfl) ?_
          refine reg_run [.plain] 1 [(2, [], Value.int .i64 1)] (by kernel_rfl) (by kernel_rfl) ?_
          refine reg_end [(2, Value.int .i64 1)] (by kernel_rfl) (by kernel_rfl) ?_
          change WpE _ _ c_towpathref08_Check_25 _ _ _
          refine wpE_ret (by kernel_rfl) ?_
          repeat (first | refine seqQ_ret ?_ | refine blockQ_ret ?_ | refine loopQ_ret ?_ | refine cutQ_ret ?_)
          exact retS (rs := [(Go.ResultVar.tmp 2)]) (v := Value.int .i64 1) (by kernel_rfl) (⟨by kernel_rfl, trivial⟩) ⟨1, rfl, h⟩
        · replace h := h.2 hb
          refine wpE_skip (by kernel_rfl) ?_
          change WpE _ _ c_towpathref08_Check_27 _ _ _
          refine wpE_region (id := 3) (ops := r_towpathref08_Check_27) (by kernel_rfl) ?_
          refine reg_run [.plain, .plain, .plain] 3 [(0, [], Value.slice l_.ptr l_.len l_.cap), (3, [], Value.int .i64 (IntKind.i64.wrap (i + 1)))] (by kernel_rfl) (by kernel_rfl) ?_
          refine reg_end [(0, Value.slice l_.ptr l_.len l_.cap), (3, Value.int .i64 (IntKind.i64.wrap (i + 1)))] (by kernel_rfl) (by kernel_rfl) ?_
          have hb_ := again__h _ _ h
          exact ⟨_, hb_.2, [(0, Value.slice l_.ptr l_.len l_.cap), (3, Value.int .i64 (IntKind.i64.wrap (i + 1)))], Sub.mk (by kernel_rfl), (IntKind.i64.wrap (i + 1)), rfl, hb_.1, rfl⟩
    · replace h := h.2 hb
      refine wpE_exit (id := 0) (by kernel_rfl) ?_
      change WpE _ _ c_towpathref08_Check_29 _ _ _
      refine wpE_seq (x := c_towpathref08_Check_30) (y := c_towpathref08_Check_32) (by kernel_rfl) ?_
      refine wpE_region (id := 6) (ops := r_towpathref08_Check_30) (by kernel_rfl) ?_
      refine reg_run [.plain] 1 [(2, [], Value.int .i64 0)] (by kernel_rfl) (by kernel_rfl) ?_
      refine reg_end [(2, Value.int .i64 0)] (by kernel_rfl) (by kernel_rfl) ?_
      change WpE _ _ c_towpathref08_Check_32 _ _ _
      refine wpE_ret (by kernel_rfl) ?_
      repeat (first | refine seqQ_ret ?_ | refine blockQ_ret ?_ | refine loopQ_ret ?_ | refine cutQ_ret ?_)
      exact retS (rs := [(Go.ResultVar.tmp 2)]) (v := Value.int .i64 0) (by kernel_rfl) (⟨by kernel_rfl, trivial⟩) ⟨0, rfl, h⟩
  · rintro e w' ⟨v, rfl, r0, rfl, h⟩; exact ⟨r0, rfl, h⟩

/-! ### towpath/towpathref08.newest (function 27) -/
noncomputable def c_towpathref08_newest_0 : Code := (Tryd.f27.body).getD Code.skip
noncomputable def c_towpathref08_newest_1 : Code := Code.l c_towpathref08_newest_0
noncomputable def r_towpathref08_newest_1 : Array Oper := Code.ops c_towpathref08_newest_1
noncomputable def c_towpathref08_newest_3 : Code := Code.r c_towpathref08_newest_0
noncomputable def c_towpathref08_newest_4 : Code := Code.l c_towpathref08_newest_3
noncomputable def r_towpathref08_newest_4 : Array Oper := Code.ops c_towpathref08_newest_4
noncomputable def c_towpathref08_newest_6 : Code := Code.r c_towpathref08_newest_3
noncomputable def c_towpathref08_newest_7 : Code := Code.l c_towpathref08_newest_6
noncomputable def c_towpathref08_newest_8 : Code := Code.l c_towpathref08_newest_7
noncomputable def r_towpathref08_newest_8 : Array Oper := Code.ops c_towpathref08_newest_8
noncomputable def c_towpathref08_newest_10 : Code := Code.r c_towpathref08_newest_7
noncomputable def c_towpathref08_newest_11 : Code := Code.l c_towpathref08_newest_10
noncomputable def c_towpathref08_newest_12 : Code := Code.l c_towpathref08_newest_11
noncomputable def c_towpathref08_newest_13 : Code := Code.l c_towpathref08_newest_12
noncomputable def c_towpathref08_newest_14 : Code := Code.l c_towpathref08_newest_13
noncomputable def r_towpathref08_newest_14 : Array Oper := Code.ops c_towpathref08_newest_14
noncomputable def c_towpathref08_newest_16 : Code := Code.r c_towpathref08_newest_13
noncomputable def c_towpathref08_newest_17 : Code := Code.l c_towpathref08_newest_16
noncomputable def c_towpathref08_newest_18 : Code := Code.r c_towpathref08_newest_16
noncomputable def c_towpathref08_newest_19 : Code := Code.r c_towpathref08_newest_12
noncomputable def c_towpathref08_newest_20 : Code := Code.l c_towpathref08_newest_19
noncomputable def c_towpathref08_newest_21 : Code := Code.l c_towpathref08_newest_20
noncomputable def c_towpathref08_newest_22 : Code := Code.l c_towpathref08_newest_21
noncomputable def r_towpathref08_newest_22 : Array Oper := Code.ops c_towpathref08_newest_22
noncomputable def c_towpathref08_newest_24 : Code := Code.r c_towpathref08_newest_21
noncomputable def c_towpathref08_newest_25 : Code := Code.l c_towpathref08_newest_24
noncomputable def r_towpathref08_newest_25 : Array Oper := Code.ops c_towpathref08_newest_25
noncomputable def c_towpathref08_newest_27 : Code := Code.r c_towpathref08_newest_24
noncomputable def c_towpathref08_newest_28 : Code := Code.r c_towpathref08_newest_19
noncomputable def r_towpathref08_newest_28 : Array Oper := Code.ops c_towpathref08_newest_28
noncomputable def c_towpathref08_newest_30 : Code := Code.r c_towpathref08_newest_6
noncomputable def c_towpathref08_newest_31 : Code := Code.l c_towpathref08_newest_30
noncomputable def r_towpathref08_newest_31 : Array Oper := Code.ops c_towpathref08_newest_31
noncomputable def c_towpathref08_newest_33 : Code := Code.r c_towpathref08_newest_30

set_option maxRecDepth 100000 in
set_option maxHeartbeats 4000000 in
theorem S_towpathref08_newest {l_ : Slc} {mark : Int} {w : World} {R : Int → World → Prop} (h : F_towpathref08_newest l_ mark R w) : C_towpathref08_newest l_ mark w R := by
  unfold F_towpathref08_newest at h
  unfold C_towpathref08_newest
  refine Calls.mono (calls_of_wpE (args := [Value.slice l_.ptr l_.len l_.cap, Value.int .i64 mark]) (R := fun v w' => ∃ (r0 : Int), v = Value.int .i64 r0 ∧ R r0 w') Tryd.func27 (c := c_towpathref08_newest_0) (by kernel_rfl) 22 (by kernel_rfl) (by kernel_rfl) [(0, Value.slice l_.ptr l_.len l_.cap), (1, Value.int .i64 mark)] (by kernel_rfl) ?_) ?_
  · refine wpE_seq (x := c_towpathref08_newest_1) (y := c_towpathref08_newest_3) (by kernel_rfl) ?_
    refine wpE_region (id := 0) (ops := r_towpathref08_newest_1) (by kernel_rfl) ?_
    refine reg_run [.plain] 1 [(0, [], Value.slice l_.ptr l_.len l_.cap), (1, [], Value.int .i64 mark)] (by kernel_rfl) (by kernel_rfl) ?_
    refine reg_end [(0, Value.slice l_.ptr l_.len l_.cap), (1, Value.int .i64 mark)] (by kernel_rfl) (by kernel_rfl) ?_
    change WpE _ _ c_towpathref08_newest_3 _ _ _
    refine wpE_seq (x := c_towpathref08_newest_4) (y := c_towpathref08_newest_6) (by kernel_rfl) ?_
    refine wpE_region (id := 1) (ops := r_towpathref08_newest_4) (by kernel_rfl) ?_
    refine reg_run [.plain] 1 [(0, [], Value.slice l_.ptr l_.len l_.cap), (1, [], Value.int .i64 mark), (5, [], Value.int .i64 (-1))] (by kernel_rfl) (by kernel_rfl) ?_
    refine reg_end [(0, Value.slice l_.ptr l_.len l_.cap), (1, Value.int .i64 mark), (5, Value.int .i64 (-1))] (by kernel_rfl) (by kernel_rfl) ?_
    change WpE _ _ c_towpathref08_newest_6 _ _ _
    refine wpE_seq (x := c_towpathref08_newest_7) (y := c_towpathref08_newest_30) (by kernel_rfl) ?_
    refine wpE_seq (x := c_towpathref08_newest_8) (y := c_towpathref08_newest_10) (by kernel_rfl) ?_
    refine wpE_region (id := 2) (ops := r_towpathref08_newest_8) (by kernel_rfl) ?_
    refine reg_run [.plain] 1 [(0, [], Value.slice l_.ptr l_.len l_.cap), (1, [], Value.int .i64 mark), (5, [], Value.int .i64 (-1)), (6, [], Value.int .i64 0)] (by kernel_rfl) (by kernel_rfl) ?_
    refine reg_end [(0, Value.slice l_.ptr l_.len l_.cap), (1, Value.int .i64 mark), (5, Value.int .i64 (-1)), (6, Value.int .i64 0)] (by kernel_rfl) (by kernel_rfl) ?_
    change WpE _ _ c_towpathref08_newest_10 _ _ _
    refine wpE_block (id := 0) (x := c_towpathref08_newest_11) (by kernel_rfl) ?_
    obtain ⟨I, μ, h0, hr⟩ := h
    refine wpE_loop (x := c_towpathref08_newest_12) (by kernel_rfl) (fun m l w => ∃ (k : Int) (i : Int), l = [(0, Value.slice l_.ptr l_.len l_.cap), (1, Value.int .i64 mark), (5, Value.int .i64 k), (6, Value.int .i64 i)] ∧ I k i w ∧ μ k i w = m) (l' := [(0, Value.slice l_.ptr l_.len l_.cap), (1, Value.int .i64 mark), (5, Value.int .i64 (-1)), (6, Value.int .i64 0)]) (Sub.mk (by kernel_rfl)) ⟨(-1), 0, rfl, h0, rfl⟩ ?_
    rintro _ _ w1 ⟨k, i, rfl, hI, rfl⟩
    obtain ⟨again_, again__h, h⟩ : ∃ again_ : Int → Int → World → Prop, (∀ k' i' w', again_ k' i' w' → I k' i' w' ∧ μ k' i' w' < μ k i w1) ∧ F_towpathref08_newest_L0 l_ mark R again_ k i w1 := ⟨_, fun _ _ _ h => h, hr k i w1 hI⟩
    clear h0 hI
    unfold F_towpathref08_newest_L0 at h
    refine wpE_seq (x := c_towpathref08_newest_13) (y := c_towpathref08_newest_19) (by kernel_rfl) ?_
    refine wpE_seq (x := c_towpathref08_newest_14) (y := c_towpathref08_newest_16) (by kernel_rfl) ?_
    refine wpE_region (id := 3) (ops := r_towpathref08_newest_14) (by kernel_rfl) ?_
    refine reg_run [.plain, .plain, .plain, .plain] 4 [(0, [], Value.slice l_.ptr l_.len l_.cap), (1, [], Value.int .i64 mark), (5, [], Value.int .i64 k), (6, [], Value.int .i64 i), (10, [], Value.bool (decide (i < ((l_.len : Nat) : Int))))] (by kernel_rfl) (by kernel_rfl) ?_
    refine reg_end [(0, Value.slice l_.ptr l_.len l_.cap), (1, Value.int .i64 mark), (5, Value.int .i64 k), (6, Value.int .i64 i), (10, Value.bool (decide (i < ((l_.len : Nat) : Int))))] (by kernel_rfl) (by kernel_rfl) ?_
    change WpE _ _ c_towpathref08_newest_16 _ _ _
    refine wpE_cond (o := (Operand.tmp 10)) (b := (decide (i < ((l_.len : Nat) : Int)))) (x := c_towpathref08_newest_17) (y := c_towpathref08_newest_18) (by kernel_rfl) (by kernel_rfl) (fun hb => ?_) (fun hb => ?_)
    · replace h := h.1 hb
      refine wpE_skip (by kernel_rfl) ?_
      change WpE _ _ c_towpathref08_newest_19 _ _ _
      refine wpE_seq_cut (x := c_towpathref08_newest_20) (y := c_towpathref08_newest_28) (by kernel_rfl) (fun l w => ∃ (k1 : Int), l = [(0, Value.slice l_.ptr l_.len l_.cap), (1, Value.int .i64 mark), (5, Value.int .i64 k1), (6, Value.int .i64 i)] ∧ F_towpathref08_newest_k1 i again_ k1 w) ?_ ?_
      · refine wpE_block (id := 1) (x := c_towpathref08_newest_21) (by kernel_rfl) ?_
        refine wpE_seq (x := c_towpathref08_newest_22) (y := c_towpathref08_newest_24) (by kernel_rfl) ?_
        refine wpE_region (id := 5) (ops := r_towpathref08_newest_22) (by kernel_rfl) ?_
        refine reg_run [.plain, .plain] 2 [(0, [], Value.slice l_.ptr l_.len l_.cap), (1, [], Value.int .i64 mark), (5, [], Value.int .i64 k), (6, [], Value.int .i64 i), (13, [], Value.slice l_.ptr l_.len l_.cap), (14, [], Value.int .i64 i)] (by kernel_rfl) (by kernel_rfl) ?_
        obtain ⟨hp_7, h⟩ := h
        refine reg_conv [(0, [], Value.slice l_.ptr l_.len l_.cap), (1, [], Value.int .i64 mark), (5, [], Value.int .i64 k), (6, [], Value.int .i64 i), (13, [], Value.slice (some ⟨(pblk l_.ptr), (poff l_.ptr), none⟩) l_.len l_.cap), (14, [], Value.int .i64 i)] (congrArg (fun pp => ([(0, [], Value.slice l_.ptr l_.len l_.cap), (1, [], Value.int .i64 mark), (5, [], Value.int .i64 k), (6, [], Value.int .i64 i), (13, [], Value.slice pp l_.len l_.cap), (14, [], Value.int .i64 i)] : GEnv)) hp_7) ?_
        obtain ⟨h0, h1, h⟩ := h
        refine reg_indexS (t := 22) (e := 27) (x := (Go.Operand.tmp 13)) (ix := (Go.Operand.tmp 14)) (b := (pblk l_.ptr)) (o := (poff l_.ptr)) (l := l_.len) (c := l_.cap) (k := .i64) (j := i) (ty := 0) (dst := some 15) (sz := 3) (by kernel_rfl) (by kernel_rfl) (by kernel_rfl) (by kernel_rfl) (by kernel_rfl) h0 h1 ?_
        refine reg_run [.plain] 4 [(0, [], Value.slice l_.ptr l_.len l_.cap), (1, [], Value.int .i64 mark), (5, [], Value.int .i64 k), (6, [], Value.int .i64 i), (16, [], Value.pointer (some ⟨(pblk l_.ptr), (poff l_.ptr) + i.toNat * 3, none⟩))] (by kernel_rfl) (by kernel_rfl) ?_
        obtain ⟨v17, hc, h⟩ := h
        refine reg_load1 (t := 3) (a := (Go.Operand.tmp 16)) (b := (pblk l_.ptr)) (o := ((poff l_.ptr) + i.toNat * 3)) (ty := 3) (dst := some 17) (by kernel_rfl) (by kernel_rfl) (by kernel_rfl) hc ?_
        refine reg_run [.plain, .plain] 7 [(0, [], Value.slice l_.ptr l_.len l_.cap), (1, [], Value.int .i64 mark), (5, [], Value.int .i64 k), (6, [], Value.int .i64 i), (19, [], Value.bool (decide (v17 ≤ mark)))] (by kernel_rfl) (by kernel_rfl) ?_
        refine reg_end [(0, Value.slice l_.ptr l_.len l_.cap), (1, Value.int .i64 mark), (5, Value.int .i64 k), (6, Value.int .i64 i), (19, Value.bool (decide (v17 ≤ mark)))] (by kernel_rfl) (by kernel_rfl) ?_
        change WpE _ _ c_towpathref08_newest_24 _ _ _
        refine wpE_cond (o := (Operand.tmp 19)) (b := (decide (v17 ≤ mark))) (x := c_towpathref08_newest_25) (y := c_towpathref08_newest_27) (by kernel_rfl) (by kernel_rfl) (fun hb => ?_) (fun hb => ?_)
        · replace h := h.1 hb
          refine wpE_region (id := 6) (ops := r_towpathref08_newest_25) (by kernel_rfl) ?_
          refine reg_run [.plain, .plain] 2 [(0, [], Value.slice l_.ptr l_.len l_.cap), (1, [], Value.int .i64 mark), (5, [], Value.int .i64 i), (6, [], Value.int .i64 i)] (by kernel_rfl) (by kernel_rfl) ?_
          refine reg_end [(0, Value.slice l_.ptr l_.len l_.cap), (1, Value.int .i64 mark), (5, Value.int .i64 i), (6, Value.int .i64 i)] (by kernel_rfl) (by kernel_rfl) ?_
          exact ⟨[(0, Value.slice l_.ptr l_.len l_.cap), (1, Value.int .i64 mark), (5, Value.int .i64 i), (6, Value.int .i64 i)], Sub.mk (by kernel_rfl), i, rfl, h⟩
        · replace h := h.2 hb
          refine wpE_skip (by kernel_rfl) ?_
          exact ⟨[(0, Value.slice l_.ptr l_.len l_.cap), (1, Value.int .i64 mark), (5, Value.int .i64 k), (6, Value.int .i64 i)], Sub.mk (by kernel_rfl), k, rfl, h⟩
      · rintro _ w2 ⟨k1, rfl, h⟩
        unfold F_towpathref08_newest_k1 at h
        refine wpE_region (id := 4) (ops := r_towpathref08_newest_28) (by kernel_rfl) ?_
        refine reg_run [.plain, .plain, .plain] 3 [(0, [], Value.slice l_.ptr l_.len l_.cap), (1, [], Value.int .i64 mark), (5, [], Value.int .i64 k1), (6, [], Value.int .i64 (IntKind.i64.wrap (i + 1)))] (by kernel_rfl) (by kernel_rfl) ?_
        refine reg_end [(0, Value.slice l_.ptr l_.len l_.cap), (1, Value.int .i64 mark), (5, Value.int .i64 k1), (6, Value.int .i64 (IntKind.i64.wrap (i + 1)))] (by kernel_rfl) (by kernel_rfl) ?_
        have hb_ := again__h _ _ _ h
        exact ⟨_, hb_.2, [(0, Value.slice l_.ptr l_.len l_.cap), (1, Value.int .i64 mark), (5, Value.int .i64 k1), (6, Value.int .i64 (IntKind.i64.wrap (i + 1)))], Sub.mk (by kernel_rfl), k1, (IntKind.i64.wrap (i + 1)), rfl, hb_.1, rfl⟩
    · replace h := h.2 hb
      refine wpE_exit (id := 0) (by kernel_rfl) ?_
      change WpE _ _ c_towpathref08_newest_30 _ _ _
      refine wpE_seq (x := c_towpathref08_newest_31) (y := c_towpathref08_newest_33) (by kernel_rfl) ?_
      refine wpE_region (id := 7) (ops := r_towpathref08_newest_31) (by kernel_rfl) ?_
      refine reg_run [.plain, .plain] 2 [(4, [], Value.int .i64 k)] (by kernel_rfl) (by kernel_rfl) ?_
      refine reg_end [(4, Value.int .i64 k)] (by kernel_rfl) (by kernel_rfl) ?_
      change WpE _ _ c_towpathref08_newest_33 _ _ _
      refine wpE_ret (by kernel_rfl) ?_
      repeat (first | refine seqQ_ret ?_ | refine blockQ_ret ?_ | refine loopQ_ret ?_ | refine cutQ_ret ?_)
      exact retS (rs := [(Go.ResultVar.tmp 4)]) (v := Value.int .i64 k) (by kernel_rfl) (⟨by kernel_rfl, trivial⟩) ⟨k, rfl, h⟩
  · rintro e w' ⟨v, rfl, r0, rfl, h⟩; exact ⟨r0, rfl, h⟩

/-! ### towpath/towpathref08.May (function 66) -/
noncomputable def c_towpathref08_May_0 : Code := (Tryd.f66.body).getD Code.skip
noncomputable def c_towpathref08_May_1 : Code := Code.l c_towpathref08_May_0
noncomputable def r_towpathref08_May_1 : Array Oper := Code.ops c_towpathref08_May_1
noncomputable def c_towpathref08_May_3 : Code := Code.r c_towpathref08_May_0
noncomputable def c_towpathref08_May_4 : Code := Code.l c_towpathref08_May_3
noncomputable def r_towpathref08_May_4 : Array Oper := Code.ops c_towpathref08_May_4
noncomputable def c_towpathref08_May_6 : Code := Code.r c_towpathref08_May_3

set_option maxRecDepth 100000 in
set_option maxHeartbeats 4000000 in
theorem S_towpathref08_May {v : T_api_Version} {w : World} {R : Bool → World → Prop} (h : F_towpathref08_May v R w) : C_towpathref08_May v w R := by
  unfold F_towpathref08_May at h
  unfold C_towpathref08_May
  refine Calls.mono (calls_of_wpE (args := [Value.agg #[Value.int .i64 v.Number, Value.string v.Val, Value.bool v.Drop]]) (R := fun v w' => ∃ (r0 : Bool), v = Value.bool r0 ∧ R r0 w') Tryd.func66 (c := c_towpathref08_May_0) (by kernel_rfl) 28 (by kernel_rfl) (by kernel_rfl) [(0, Value.agg #[Value.int .i64 v.Number, Value.string v.Val, Value.bool v.Drop])] (by kernel_rfl) ?_) ?_
  · refine wpE_seq (x := c_towpathref08_May_1) (y := c_towpathref08_May_3) (by kernel_rfl) ?_
    refine wpE_region (id := 0) (ops := r_towpathref08_May_1) (by kernel_rfl) ?_
    refine reg_run [] 0 [(0, [], Value.agg #[Value.int .i64 v.Number, Value.string v.Val, Value.bool v.Drop])] (by kernel_rfl) (by kernel_rfl) ?_
    refine reg_new (op := (Go.Op.box 27 (Go.Operand.tmp 0))) (ty := 0) (dst := some 1) (fun bb => Value.pointer (some ⟨bb, 0, none⟩)) (Obj.cells ([Value.int .i64 v.Number, Value.string v.Val, Value.bool v.Drop]).toArray ty_api_Version (0, 0)) (by kernel_rfl) (by kernel_rfl) (fun b_ w1 hb hw => ?_)
    replace h := h b_ w1 hb hw
    clear hb hw
    refine reg_run [.plain] 2 [(1, [], Value.pointer (some ⟨b_, 0, none⟩))] (by kernel_rfl) (by kernel_rfl) ?_
    refine reg_end [(1, Value.pointer (some ⟨b_, 0, none⟩))] (by kernel_rfl) (by kernel_rfl) ?_
    change WpE _ _ c_towpathref08_May_3 _ _ _
    refine wpE_seq (x := c_towpathref08_May_4) (y := c_towpathref08_May_6) (by kernel_rfl) ?_
    refine wpE_region (id := 1) (ops := r_towpathref08_May_4) (by kernel_rfl) ?_
    refine reg_run [.plain] 1 [(1, [], Value.pointer (some ⟨b_, 0, none⟩)), (3, [], Value.pointer (some ⟨b_, 0, none⟩))] (by kernel_rfl) (by kernel_rfl) ?_
    obtain ⟨v4, hc, h⟩ := h
    refine reg_load1 (t := 3) (a := (Go.Operand.tmp 3)) (b := b_) (o := 0) (ty := 3) (dst := some 4) (by kernel_rfl) (by kernel_rfl) (by kernel_rfl) hc ?_
    refine reg_run [.plain, .plain, .plain] 5 [(1, [], Value.pointer (some ⟨b_, 0, none⟩)), (6, [], Value.bool (decide (v4 ≥ 1))), (7, [(6, true)], Value.pointer (some ⟨b_, 0, none⟩))] (by kernel_rfl) (by kernel_rfl) ?_
    refine reg_split 6 (decide (v4 ≥ 1)) (by kernel_rfl) (fun hb => ?_) (fun hb => ?_)
    · replace h := h.1 hb
      refine reg_run [] 5 [(1, [], Value.pointer (some ⟨b_, 0, none⟩)), (6, [], Value.bool true), (7, [], Value.pointer (some ⟨b_, 0, none⟩))] (by kernel_rfl) (by kernel_rfl) ?_
      refine reg_run [] 5 [(1, [], Value.pointer (some ⟨b_, 0, none⟩)), (6, [], Value.bool true), (7, [], Value.pointer (some ⟨b_, 0, none⟩))] (by kernel_rfl) (by kernel_rfl) ?_
      obtain ⟨v8, hc, h⟩ := h
      refine reg_load1 (t := 3) (a := (Go.Operand.tmp 7)) (b := b_) (o := 0) (ty := 3) (dst := some 8) (by kernel_rfl) (by kernel_rfl) (by kernel_rfl) hc ?_
      refine reg_run [.sure, .plain, .plain, .plain] 10 [(1, [], Value.pointer (some ⟨b_, 0, none⟩)), (11, [], Value.bool (decide (v8 ≤ 65536))), (12, [(11, true)], Value.pointer (some ⟨b_, 1, none⟩))] (by kernel_rfl) (by kernel_rfl) ?_
      refine reg_split 11 (decide (v8 ≤ 65536)) (by kernel_rfl) (fun hb => ?_) (fun hb => ?_)
      · replace h := h.1 hb
        refine reg_run [] 10 [(1, [], Value.pointer (some ⟨b_, 0, none⟩)), (11, [], Value.bool true), (12, [], Value.pointer (some ⟨b_, 1, none⟩))] (by kernel_rfl) (by kernel_rfl) ?_
        refine reg_run [] 10 [(1, [], Value.pointer (some ⟨b_, 0, none⟩)), (11, [], Value.bool true), (12, [], Value.pointer (some ⟨b_, 1, none⟩))] (by kernel_rfl) (by kernel_rfl) ?_
        obtain ⟨v13, hc, h⟩ := h
        refine reg_load1 (t := 9) (a := (Go.Operand.tmp 12)) (b := b_) (o := 1) (ty := 9) (dst := some 13) (by kernel_rfl) (by kernel_rfl) (by kernel_rfl) hc ?_
        refine reg_run [.sure, .sure, .plain, .plain, .plain] 16 [(1, [], Value.pointer (some ⟨b_, 0, none⟩)), (17, [], Value.bool (decide (((v13.size : Nat) : Int) ≤ 1024))), (18, [(17, true)], Value.pointer (some ⟨b_, 2, none⟩))] (by kernel_rfl) (by kernel_rfl) ?_
        refine reg_split 17 (decide (((v13.size : Nat) : Int) ≤ 1024)) (by kernel_rfl) (fun hb => ?_) (fun hb => ?_)
        · replace h := h.1 hb
          refine reg_run [] 16 [(1, [], Value.pointer (some ⟨b_, 0, none⟩)), (17, [], Value.bool true), (18, [], Value.pointer (some ⟨b_, 2, none⟩))] (by kernel_rfl) (by kernel_rfl) ?_
          refine reg_run [] 16 [(1, [], Value.pointer (some ⟨b_, 0, none⟩)), (17, [], Value.bool true), (18, [], Value.pointer (some ⟨b_, 2, none⟩))] (by kernel_rfl) (by kernel_rfl) ?_
          obtain ⟨v19, hc, h⟩ := h
          refine reg_load1 (t := 4) (a := (Go.Operand.tmp 18)) (b := b_) (o := 2) (ty := 4) (dst := some 19) (by kernel_rfl) (by kernel_rfl) (by kernel_rfl) hc ?_
          refine reg_run [.sure, .sure, .plain] 20 [(17, [], Value.bool true), (21, [], Value.bool (!v19)), (22, [(21, false)], Value.pointer (some ⟨b_, 1, none⟩))] (by kernel_rfl) (by kernel_rfl) ?_
          refine reg_split 21 (!v19) (by kernel_rfl) (fun hb => ?_) (fun hb => ?_)
          · replace h := h.1 hb
            refine reg_run [] 20 [(17, [], Value.bool true), (21, [], Value.bool true), (22, [], undef)] (by kernel_rfl) (by kernel_rfl) ?_
            refine reg_run [.skip, .skip, .skip, .sure, .plain, .plain] 26 [(2, [], Value.bool true)] (by kernel_rfl) (by kernel_rfl) ?_
            refine reg_end [(2, Value.bool true)] (by kernel_rfl) (by kernel_rfl) ?_
            change WpE _ _ c_towpathref08_May_6 _ _ _
            refine wpE_ret (by kernel_rfl) ?_
            repeat (first | refine seqQ_ret ?_ | refine blockQ_ret ?_ | refine loopQ_ret ?_ | refine cutQ_ret ?_)
            exact retS (rs := [(Go.ResultVar.tmp 2)]) (v := Value.bool true) (by kernel_rfl) (⟨by kernel_rfl, trivial⟩) ⟨true, rfl, h⟩
          · replace h := h.2 hb
            refine reg_run [] 20 [(17, [], Value.bool true), (21, [], Value.bool false), (22, [], Value.pointer (some ⟨b_, 1, none⟩))] (by kernel_rfl) (by kernel_rfl) ?_
            refine reg_run [] 20 [(17, [], Value.bool true), (21, [], Value.bool false), (22, [], Value.pointer (some ⟨b_, 1, none⟩))] (by kernel_rfl) (by kernel_rfl) ?_
            obtain ⟨v23, hc, h⟩ := h
            refine reg_load1 (t := 9) (a := (Go.Operand.tmp 22)) (b := b_) (o := 1) (ty := 9) (dst := some 23) (by kernel_rfl) (by kernel_rfl) (by kernel_rfl) hc ?_
            refine reg_run [.sure, .sure, .sure, .plain, .plain] 26 [(2, [], Value.bool (((v23.size : Nat) : Int) == 0))] (by kernel_rfl) (by kernel_rfl) ?_
            refine reg_end [(2, Value.bool (((v23.size : Nat) : Int) == 0))] (by kernel_rfl) (by kernel_rfl) ?_
            change WpE _ _ c_towpathref08_May_6 _ _ _
            refine wpE_ret (by kernel_rfl) ?_
            repeat (first | refine seqQ_ret ?_ | refine blockQ_ret ?_ | refine loopQ_ret ?_ | refine cutQ_ret ?_)
            exact retS (rs := [(Go.ResultVar.tmp 2)]) (v := Value.bool (((v23.size : Nat) : Int) == 0)) (by kernel_rfl) (⟨by kernel_rfl, trivial⟩) ⟨(((v23.size : Nat) : Int) == 0), rfl, h⟩
        · replace h := h.2 hb
          refine reg_run [] 16 [(1, [], Value.pointer (some ⟨b_, 0, none⟩)), (17, [], Value.bool false), (18, [], undef)] (by kernel_rfl) (by kernel_rfl) ?_
          refine reg_run [.skip, .skip, .skip, .skip, .skip, .skip, .skip, .skip, .plain, .plain] 26 [(2, [], Value.bool false)] (by kernel_rfl) (by kernel_rfl) ?_
          refine reg_end [(2, Value.bool false)] (by kernel_rfl) (by kernel_rfl) ?_
          change WpE _ _ c_towpathref08_May_6 _ _ _
          refine wpE_ret (by kernel_rfl) ?_
          repeat (first | refine seqQ_ret ?_ | refine blockQ_ret ?_ | refine loopQ_ret ?_ | refine cutQ_ret ?_)
          exact retS (rs := [(Go.ResultVar.tmp 2)]) (v := Value.bool false) (by kernel_rfl) (⟨by kernel_rfl, trivial⟩) ⟨false, rfl, h⟩
      · replace h := h.2 hb
        refine reg_run [] 10 [(1, [], Value.pointer (some ⟨b_, 0, none⟩)), (11, [], Value.bool false), (12, [], undef)] (by kernel_rfl) (by kernel_rfl) ?_
        refine reg_run [.skip, .skip, .skip, .plain, .plain, .skip, .skip, .skip, .skip, .skip, .skip, .skip, .skip, .skip, .plain, .plain] 26 [(2, [], Value.bool false)] (by kernel_rfl) (by kernel_rfl) ?_
        refine reg_end [(2, Value.bool false)] (by kernel_rfl) (by kernel_rfl) ?_
        change WpE _ _ c_towpathref08_May_6 _ _ _
        refine wpE_ret (by kernel_rfl) ?_
        repeat (first | refine seqQ_ret ?_ | refine blockQ_ret ?_ | refine loopQ_ret ?_ | refine cutQ_ret ?_)
        exact retS (rs := [(Go.ResultVar.tmp 2)]) (v := Value.bool false) (by kernel_rfl) (⟨by kernel_rfl, trivial⟩) ⟨false, rfl, h⟩
    · replace h := h.2 hb
      refine reg_run [] 5 [(1, [], Value.pointer (some ⟨b_, 0, none⟩)), (6, [], Value.bool false), (7, [], undef)] (by kernel_rfl) (by kernel_rfl) ?_
      refine reg_run [.skip, .skip, .plain, .plain, .skip, .skip, .skip, .skip, .plain, .plain, .skip, .skip, .skip, .skip, .skip, .skip, .skip, .skip, .skip, .plain, .plain] 26 [(2, [], Value.bool false)] (by kernel_rfl) (by kernel_rfl) ?_
      refine reg_end [(2, Value.bool false)] (by kernel_rfl) (by kernel_rfl) ?_
      change WpE _ _ c_towpathref08_May_6 _ _ _
      refine wpE_ret (by kernel_rfl) ?_
      repeat (first | refine seqQ_ret ?_ | refine blockQ_ret ?_ | refine loopQ_ret ?_ | refine cutQ_ret ?_)
      exact retS (rs := [(Go.ResultVar.tmp 2)]) (v := Value.bool false) (by kernel_rfl) (⟨by kernel_rfl, trivial⟩) ⟨false, rfl, h⟩
  · rintro e w' ⟨v, rfl, r0, rfl, h⟩; exact ⟨r0, rfl, h⟩
end Go.Proofs.YtcgfmkpddhhmgaaDoor
