/- WRITTEN BY PROGRAM (dec.py): for each Go function the clean formula F, the call's contract C, and the proof S that F gives C. -/
import Derived.Test.YtcgfmkpddhhmgaaDoorRows
import Derived.Test.YtcgfmkpddhhmgaaDoorGF
namespace Go.Proofs.YtcgfmkpddhhmgaaDoor
open Go
set_option linter.unusedVariables false

/-! ### towpath/towpathref08.Put (function 23) -/
noncomputable def c_towpathref08_Put_0 : Code := (Tryd.f23.body).getD Code.skip
noncomputable def c_towpathref08_Put_1 : Code := Code.l c_towpathref08_Put_0
noncomputable def r_towpathref08_Put_1 : Array Oper := Code.ops c_towpathref08_Put_1
noncomputable def c_towpathref08_Put_3 : Code := Code.r c_towpathref08_Put_0
noncomputable def c_towpathref08_Put_4 : Code := Code.l c_towpathref08_Put_3
noncomputable def c_towpathref08_Put_5 : Code := Code.l c_towpathref08_Put_4
noncomputable def r_towpathref08_Put_5 : Array Oper := Code.ops c_towpathref08_Put_5
noncomputable def c_towpathref08_Put_7 : Code := Code.r c_towpathref08_Put_4
noncomputable def c_towpathref08_Put_8 : Code := Code.l c_towpathref08_Put_7
noncomputable def c_towpathref08_Put_9 : Code := Code.l c_towpathref08_Put_8
noncomputable def r_towpathref08_Put_9 : Array Oper := Code.ops c_towpathref08_Put_9
noncomputable def c_towpathref08_Put_11 : Code := Code.r c_towpathref08_Put_8
noncomputable def c_towpathref08_Put_12 : Code := Code.r c_towpathref08_Put_7
noncomputable def c_towpathref08_Put_13 : Code := Code.r c_towpathref08_Put_3
noncomputable def c_towpathref08_Put_14 : Code := Code.l c_towpathref08_Put_13
noncomputable def r_towpathref08_Put_14 : Array Oper := Code.ops c_towpathref08_Put_14
noncomputable def c_towpathref08_Put_16 : Code := Code.r c_towpathref08_Put_13
noncomputable def c_towpathref08_Put_17 : Code := Code.l c_towpathref08_Put_16
noncomputable def r_towpathref08_Put_17 : Array Oper := Code.ops c_towpathref08_Put_17
noncomputable def c_towpathref08_Put_19 : Code := Code.r c_towpathref08_Put_16
noncomputable def c_towpathref08_Put_20 : Code := Code.l c_towpathref08_Put_19
noncomputable def c_towpathref08_Put_21 : Code := Code.l c_towpathref08_Put_20
noncomputable def r_towpathref08_Put_21 : Array Oper := Code.ops c_towpathref08_Put_21
noncomputable def c_towpathref08_Put_23 : Code := Code.r c_towpathref08_Put_20
noncomputable def c_towpathref08_Put_24 : Code := Code.l c_towpathref08_Put_23
noncomputable def c_towpathref08_Put_25 : Code := Code.l c_towpathref08_Put_24
noncomputable def c_towpathref08_Put_26 : Code := Code.l c_towpathref08_Put_25
noncomputable def c_towpathref08_Put_27 : Code := Code.l c_towpathref08_Put_26
noncomputable def r_towpathref08_Put_27 : Array Oper := Code.ops c_towpathref08_Put_27
noncomputable def c_towpathref08_Put_29 : Code := Code.r c_towpathref08_Put_26
noncomputable def c_towpathref08_Put_30 : Code := Code.l c_towpathref08_Put_29
noncomputable def c_towpathref08_Put_31 : Code := Code.r c_towpathref08_Put_29
noncomputable def c_towpathref08_Put_32 : Code := Code.r c_towpathref08_Put_25
noncomputable def c_towpathref08_Put_33 : Code := Code.l c_towpathref08_Put_32
noncomputable def c_towpathref08_Put_34 : Code := Code.l c_towpathref08_Put_33
noncomputable def c_towpathref08_Put_35 : Code := Code.l c_towpathref08_Put_34
noncomputable def c_towpathref08_Put_36 : Code := Code.l c_towpathref08_Put_35
noncomputable def r_towpathref08_Put_36 : Array Oper := Code.ops c_towpathref08_Put_36
noncomputable def c_towpathref08_Put_38 : Code := Code.r c_towpathref08_Put_35
noncomputable def c_towpathref08_Put_39 : Code := Code.l c_towpathref08_Put_38
noncomputable def c_towpathref08_Put_40 : Code := Code.l c_towpathref08_Put_39
noncomputable def r_towpathref08_Put_40 : Array Oper := Code.ops c_towpathref08_Put_40
noncomputable def c_towpathref08_Put_42 : Code := Code.r c_towpathref08_Put_39
noncomputable def c_towpathref08_Put_43 : Code := Code.r c_towpathref08_Put_38
noncomputable def c_towpathref08_Put_44 : Code := Code.r c_towpathref08_Put_34
noncomputable def c_towpathref08_Put_45 : Code := Code.l c_towpathref08_Put_44
noncomputable def c_towpathref08_Put_46 : Code := Code.l c_towpathref08_Put_45
noncomputable def r_towpathref08_Put_46 : Array Oper := Code.ops c_towpathref08_Put_46
noncomputable def c_towpathref08_Put_48 : Code := Code.r c_towpathref08_Put_45
noncomputable def c_towpathref08_Put_49 : Code := Code.l c_towpathref08_Put_48
noncomputable def c_towpathref08_Put_50 : Code := Code.l c_towpathref08_Put_49
noncomputable def r_towpathref08_Put_50 : Array Oper := Code.ops c_towpathref08_Put_50
noncomputable def c_towpathref08_Put_52 : Code := Code.r c_towpathref08_Put_49
noncomputable def r_towpathref08_Put_52 : Array Oper := Code.ops c_towpathref08_Put_52
noncomputable def c_towpathref08_Put_54 : Code := Code.r c_towpathref08_Put_48
noncomputable def c_towpathref08_Put_55 : Code := Code.r c_towpathref08_Put_44
noncomputable def r_towpathref08_Put_55 : Array Oper := Code.ops c_towpathref08_Put_55
noncomputable def c_towpathref08_Put_57 : Code := Code.r c_towpathref08_Put_32
noncomputable def r_towpathref08_Put_57 : Array Oper := Code.ops c_towpathref08_Put_57
noncomputable def c_towpathref08_Put_59 : Code := Code.r c_towpathref08_Put_19
noncomputable def c_towpathref08_Put_60 : Code := Code.l c_towpathref08_Put_59
noncomputable def c_towpathref08_Put_61 : Code := Code.l c_towpathref08_Put_60
noncomputable def r_towpathref08_Put_61 : Array Oper := Code.ops c_towpathref08_Put_61
noncomputable def c_towpathref08_Put_63 : Code := Code.r c_towpathref08_Put_60
noncomputable def c_towpathref08_Put_64 : Code := Code.l c_towpathref08_Put_63
noncomputable def r_towpathref08_Put_64 : Array Oper := Code.ops c_towpathref08_Put_64
noncomputable def c_towpathref08_Put_66 : Code := Code.r c_towpathref08_Put_63
noncomputable def c_towpathref08_Put_67 : Code := Code.r c_towpathref08_Put_59
noncomputable def c_towpathref08_Put_68 : Code := Code.l c_towpathref08_Put_67
noncomputable def r_towpathref08_Put_68 : Array Oper := Code.ops c_towpathref08_Put_68
noncomputable def c_towpathref08_Put_70 : Code := Code.r c_towpathref08_Put_67

set_option maxRecDepth 100000 in
set_option maxHeartbeats 4000000 in
theorem S_towpathref08_Put {l_ : Slc} {v : T_api_Version} {w : World} {R : Slc → Bool → Int → World → Prop} (h : F_towpathref08_Put l_ v R w) : C_towpathref08_Put l_ v w R := by
  unfold F_towpathref08_Put at h
  unfold C_towpathref08_Put
  refine Calls.mono (calls_of_wpE (args := [Value.slice l_.ptr l_.len l_.cap, Value.agg #[Value.int .i64 v.Number, Value.string v.Val, Value.bool v.Drop]]) (R := fun v w' => ∃ (r0 : Slc) (r1 : Bool) (r2 : Int), v = Value.tuple #[Value.slice r0.ptr r0.len r0.cap, Value.bool r1, Value.int .i64 r2] ∧ R r0 r1 r2 w') Tryd.func23 (c := c_towpathref08_Put_0) (by kernel_rfl) 63 (by kernel_rfl) (by kernel_rfl) [(0, Value.slice l_.ptr l_.len l_.cap), (1, Value.agg #[Value.int .i64 v.Number, Value.string v.Val, Value.bool v.Drop])] (by kernel_rfl) ?_) ?_
  · refine wpE_seq (x := c_towpathref08_Put_1) (y := c_towpathref08_Put_3) (by kernel_rfl) ?_
    refine wpE_region (id := 0) (ops := r_towpathref08_Put_1) (by kernel_rfl) ?_
    refine reg_run [] 0 [(0, [], Value.slice l_.ptr l_.len l_.cap), (1, [], Value.agg #[Value.int .i64 v.Number, Value.string v.Val, Value.bool v.Drop])] (by kernel_rfl) (by kernel_rfl) ?_
    refine reg_new (op := (Go.Op.box 27 (Go.Operand.tmp 1))) (ty := 0) (dst := some 3) (fun bb => Value.pointer (some ⟨bb, 0, none⟩)) (Obj.cells ([Value.int .i64 v.Number, Value.string v.Val, Value.bool v.Drop]).toArray ty_api_Version (0, 0)) (by kernel_rfl) (by kernel_rfl) (fun b_ w1 hb hw => ?_)
    replace h := h b_ w1 hb hw
    clear hb hw
    refine reg_run [.plain, .plain, .plain] 4 [(0, [], Value.slice l_.ptr l_.len l_.cap), (3, [], Value.pointer (some ⟨b_, 0, none⟩))] (by kernel_rfl) (by kernel_rfl) ?_
    refine reg_end [(0, Value.slice l_.ptr l_.len l_.cap), (3, Value.pointer (some ⟨b_, 0, none⟩))] (by kernel_rfl) (by kernel_rfl) ?_
    change WpE _ _ c_towpathref08_Put_3 _ _ _
    refine wpE_seq (x := c_towpathref08_Put_4) (y := c_towpathref08_Put_13) (by kernel_rfl) ?_
    refine wpE_seq_cut (x := c_towpathref08_Put_5) (y := c_towpathref08_Put_7) (by kernel_rfl) (fun l w => ∃ (t17 : Bool), l = [(0, Value.slice l_.ptr l_.len l_.cap), (3, Value.pointer (some ⟨b_, 0, none⟩)), (17, Value.bool t17)] ∧ F_towpathref08_Put_k0 l_ R b_ t17 w) ?_ ?_
    · refine wpE_region (id := 1) (ops := r_towpathref08_Put_5) (by kernel_rfl) ?_
      refine reg_run [.plain] 1 [(0, [], Value.slice l_.ptr l_.len l_.cap), (3, [], Value.pointer (some ⟨b_, 0, none⟩)), (10, [], Value.slice l_.ptr l_.len l_.cap)] (by kernel_rfl) (by kernel_rfl) ?_
      refine reg_enter (op := (Go.Op.call (Go.Call.mk (Go.Callee.value (Go.Operand.func 25)) #[(Go.Operand.tmp 10)] #[22]))) (ty := 28) (dst := some 11) 25 #[Value.slice l_.ptr l_.len l_.cap] (by kernel_rfl) (fun ww => by kernel_rfl) (Calls.mono h ?_)
      rintro _ w16 ⟨v11, rfl, h⟩
      refine ⟨_, rfl, ?_⟩
      refine reg_run [.plain, .plain] 4 [(0, [], Value.slice l_.ptr l_.len l_.cap), (3, [], Value.pointer (some ⟨b_, 0, none⟩)), (13, [], Value.bool (v11 != 0))] (by kernel_rfl) (by kernel_rfl) ?_
      refine reg_split 13 (v11 != 0) (by kernel_rfl) (fun hb => ?_) (fun hb => ?_)
      · replace h := h.1 hb
        refine reg_run [] 4 [(0, [], Value.slice l_.ptr l_.len l_.cap), (3, [], Value.pointer (some ⟨b_, 0, none⟩)), (13, [], Value.bool true)] (by kernel_rfl) (by kernel_rfl) ?_
        refine reg_run [.skip, .skip, .skip, .plain] 8 [(0, [], Value.slice l_.ptr l_.len l_.cap), (3, [], Value.pointer (some ⟨b_, 0, none⟩)), (17, [], Value.bool true)] (by kernel_rfl) (by kernel_rfl) ?_
        refine reg_end [(0, Value.slice l_.ptr l_.len l_.cap), (3, Value.pointer (some ⟨b_, 0, none⟩)), (17, Value.bool true)] (by kernel_rfl) (by kernel_rfl) ?_
        exact ⟨[(0, Value.slice l_.ptr l_.len l_.cap), (3, Value.pointer (some ⟨b_, 0, none⟩)), (17, Value.bool true)], Sub.mk (by kernel_rfl), true, rfl, h⟩
      · replace h := h.2 hb
        refine reg_run [] 4 [(0, [], Value.slice l_.ptr l_.len l_.cap), (3, [], Value.pointer (some ⟨b_, 0, none⟩)), (13, [], Value.bool false)] (by kernel_rfl) (by kernel_rfl) ?_
        refine reg_run [] 4 [(0, [], Value.slice l_.ptr l_.len l_.cap), (3, [], Value.pointer (some ⟨b_, 0, none⟩)), (13, [], Value.bool false)] (by kernel_rfl) (by kernel_rfl) ?_
        obtain ⟨v14, hc, h⟩ := h
        refine reg_loadN (t := 27) (a := (Go.Operand.tmp 3)) (b := b_) (o := 0) (ty := 27) (dst := some 14) [Value.int .i64 v14.Number, Value.string v14.Val, Value.bool v14.Drop] (by kernel_rfl) (by kernel_rfl) (by kernel_rfl) (k := 3) (by kernel_rfl) (by kernel_rfl) hc ?_
        refine reg_run [] 5 [(0, [], Value.slice l_.ptr l_.len l_.cap), (3, [], Value.pointer (some ⟨b_, 0, none⟩)), (13, [], Value.bool false), (14, [], Value.agg #[Value.int .i64 v14.Number, Value.string v14.Val, Value.bool v14.Drop])] (by kernel_rfl) (by kernel_rfl) ?_
        refine reg_enter (op := (Go.Op.call (Go.Call.mk (Go.Callee.value (Go.Operand.func 66)) #[(Go.Operand.tmp 14)] #[27]))) (ty := 4) (dst := some 15) 66 #[Value.agg #[Value.int .i64 v14.Number, Value.string v14.Val, Value.bool v14.Drop]] (by kernel_rfl) (fun ww => by kernel_rfl) (Calls.mono h ?_)
        rintro _ w17 ⟨v15, rfl, h⟩
        refine ⟨_, rfl, ?_⟩
        refine reg_run [.sure, .plain] 8 [(0, [], Value.slice l_.ptr l_.len l_.cap), (3, [], Value.pointer (some ⟨b_, 0, none⟩)), (17, [], Value.bool (!v15))] (by kernel_rfl) (by kernel_rfl) ?_
        refine reg_end [(0, Value.slice l_.ptr l_.len l_.cap), (3, Value.pointer (some ⟨b_, 0, none⟩)), (17, Value.bool (!v15))] (by kernel_rfl) (by kernel_rfl) ?_
        exact ⟨[(0, Value.slice l_.ptr l_.len l_.cap), (3, Value.pointer (some ⟨b_, 0, none⟩)), (17, Value.bool (!v15))], Sub.mk (by kernel_rfl), (!v15), rfl, h⟩
    · rintro _ w2 ⟨t17, rfl, h⟩
      unfold F_towpathref08_Put_k0 at h
      refine wpE_cond (o := (Operand.tmp 17)) (b := t17) (x := c_towpathref08_Put_8) (y := c_towpathref08_Put_12) (by kernel_rfl) (by kernel_rfl) (fun hb => ?_) (fun hb => ?_)
      · replace h := h.1 hb
        refine wpE_seq (x := c_towpathref08_Put_9) (y := c_towpathref08_Put_11) (by kernel_rfl) ?_
        refine wpE_region (id := 2) (ops := r_towpathref08_Put_9) (by kernel_rfl) ?_
        refine reg_run [.plain, .plain, .plain] 3 [(4, [], Value.slice none 0 0), (5, [], Value.bool false), (6, [], Value.int .i64 1)] (by kernel_rfl) (by kernel_rfl) ?_
        refine reg_end [(4, Value.slice none 0 0), (5, Value.bool false), (6, Value.int .i64 1)] (by kernel_rfl) (by kernel_rfl) ?_
        change WpE _ _ c_towpathref08_Put_11 _ _ _
        refine wpE_ret (by kernel_rfl) ?_
        repeat (first | refine seqQ_ret ?_ | refine blockQ_ret ?_ | refine loopQ_ret ?_ | refine cutQ_ret ?_)
        exact retT (rs := [(Go.ResultVar.tmp 4), (Go.ResultVar.tmp 5), (Go.ResultVar.tmp 6)]) (vs := [Value.slice none 0 0, Value.bool false, Value.int .i64 1]) (by kernel_rfl) (⟨by kernel_rfl, ⟨by kernel_rfl, ⟨by kernel_rfl, trivial⟩⟩⟩) (by kernel_rfl) ⟨(Slc.mk none 0 0), false, 1, rfl, h⟩
      · replace h := h.2 hb
        refine wpE_skip (by kernel_rfl) ?_
        change WpE _ _ c_towpathref08_Put_13 _ _ _
        refine wpE_seq (x := c_towpathref08_Put_14) (y := c_towpathref08_Put_16) (by kernel_rfl) ?_
        refine wpE_region (id := 3) (ops := r_towpathref08_Put_14) (by kernel_rfl) ?_
        refine reg_run [.plain] 1 [(0, [], Value.slice l_.ptr l_.len l_.cap), (3, [], Value.pointer (some ⟨b_, 0, none⟩)), (7, [], Value.slice none 0 0)] (by kernel_rfl) (by kernel_rfl) ?_
        refine reg_end [(0, Value.slice l_.ptr l_.len l_.cap), (3, Value.pointer (some ⟨b_, 0, none⟩)), (7, Value.slice none 0 0)] (by kernel_rfl) (by kernel_rfl) ?_
        change WpE _ _ c_towpathref08_Put_16 _ _ _
        refine wpE_seq (x := c_towpathref08_Put_17) (y := c_towpathref08_Put_19) (by kernel_rfl) ?_
        refine wpE_region (id := 4) (ops := r_towpathref08_Put_17) (by kernel_rfl) ?_
        refine reg_run [.plain] 1 [(0, [], Value.slice l_.ptr l_.len l_.cap), (3, [], Value.pointer (some ⟨b_, 0, none⟩)), (7, [], Value.slice none 0 0), (8, [], Value.bool false)] (by kernel_rfl) (by kernel_rfl) ?_
        refine reg_end [(0, Value.slice l_.ptr l_.len l_.cap), (3, Value.pointer (some ⟨b_, 0, none⟩)), (7, Value.slice none 0 0), (8, Value.bool false)] (by kernel_rfl) (by kernel_rfl) ?_
        change WpE _ _ c_towpathref08_Put_19 _ _ _
        refine wpE_seq (x := c_towpathref08_Put_20) (y := c_towpathref08_Put_59) (by kernel_rfl) ?_
        refine wpE_seq (x := c_towpathref08_Put_21) (y := c_towpathref08_Put_23) (by kernel_rfl) ?_
        refine wpE_region (id := 5) (ops := r_towpathref08_Put_21) (by kernel_rfl) ?_
        refine reg_run [.plain] 1 [(0, [], Value.slice l_.ptr l_.len l_.cap), (3, [], Value.pointer (some ⟨b_, 0, none⟩)), (7, [], Value.slice none 0 0), (8, [], Value.bool false), (9, [], Value.int .i64 0)] (by kernel_rfl) (by kernel_rfl) ?_
        refine reg_end [(0, Value.slice l_.ptr l_.len l_.cap), (3, Value.pointer (some ⟨b_, 0, none⟩)), (7, Value.slice none 0 0), (8, Value.bool false), (9, Value.int .i64 0)] (by kernel_rfl) (by kernel_rfl) ?_
        change WpE _ _ c_towpathref08_Put_23 _ _ _
        refine wpE_block (id := 0) (x := c_towpathref08_Put_24) (by kernel_rfl) ?_
        obtain ⟨I, μ, h0, hr⟩ := h
        refine wpE_loop (x := c_towpathref08_Put_25) (by kernel_rfl) (fun m l w => ∃ (out : Slc) (put : Bool) (i : Int), l = [(0, Value.slice l_.ptr l_.len l_.cap), (3, Value.pointer (some ⟨b_, 0, none⟩)), (7, Value.slice out.ptr out.len out.cap), (8, Value.bool put), (9, Value.int .i64 i)] ∧ I out put i w ∧ μ out put i w = m) (l' := [(0, Value.slice l_.ptr l_.len l_.cap), (3, Value.pointer (some ⟨b_, 0, none⟩)), (7, Value.slice none 0 0), (8, Value.bool false), (9, Value.int .i64 0)]) (Sub.mk (by kernel_rfl)) ⟨(Slc.mk none 0 0), false, 0, rfl, h0, rfl⟩ ?_
        rintro _ _ w3 ⟨out, put, i, rfl, hI, rfl⟩
        obtain ⟨again_, again__h, h⟩ : ∃ again_ : Slc → Bool → Int → World → Prop, (∀ out' put' i' w', again_ out' put' i' w' → I out' put' i' w' ∧ μ out' put' i' w' < μ out put i w3) ∧ F_towpathref08_Put_L1 l_ R b_ again_ out put i w3 := ⟨_, fun _ _ _ _ h => h, hr out put i w3 hI⟩
        clear h0 hI
        unfold F_towpathref08_Put_L1 at h
        refine wpE_seq (x := c_towpathref08_Put_26) (y := c_towpathref08_Put_32) (by kernel_rfl) ?_
        refine wpE_seq (x := c_towpathref08_Put_27) (y := c_towpathref08_Put_29) (by kernel_rfl) ?_
        refine wpE_region (id := 6) (ops := r_towpathref08_Put_27) (by kernel_rfl) ?_
        refine reg_run [.plain, .plain, .plain, .plain] 4 [(0, [], Value.slice l_.ptr l_.len l_.cap), (3, [], Value.pointer (some ⟨b_, 0, none⟩)), (7, [], Value.slice out.ptr out.len out.cap), (8, [], Value.bool put), (9, [], Value.int .i64 i), (21, [], Value.bool (decide (i < ((l_.len : Nat) : Int))))] (by kernel_rfl) (by kernel_rfl) ?_
        refine reg_end [(0, Value.slice l_.ptr l_.len l_.cap), (3, Value.pointer (some ⟨b_, 0, none⟩)), (7, Value.slice out.ptr out.len out.cap), (8, Value.bool put), (9, Value.int .i64 i), (21, Value.bool (decide (i < ((l_.len : Nat) : Int))))] (by kernel_rfl) (by kernel_rfl) ?_
        change WpE _ _ c_towpathref08_Put_29 _ _ _
        refine wpE_cond (o := (Operand.tmp 21)) (b := (decide (i < ((l_.len : Nat) : Int)))) (x := c_towpathref08_Put_30) (y := c_towpathref08_Put_31) (by kernel_rfl) (by kernel_rfl) (fun hb => ?_) (fun hb => ?_)
        · replace h := h.1 hb
          refine wpE_skip (by kernel_rfl) ?_
          change WpE _ _ c_towpathref08_Put_32 _ _ _
          refine wpE_seq (x := c_towpathref08_Put_33) (y := c_towpathref08_Put_57) (by kernel_rfl) ?_
          refine wpE_block (id := 1) (x := c_towpathref08_Put_34) (by kernel_rfl) ?_
          refine wpE_seq (x := c_towpathref08_Put_35) (y := c_towpathref08_Put_44) (by kernel_rfl) ?_
          refine wpE_seq (x := c_towpathref08_Put_36) (y := c_towpathref08_Put_38) (by kernel_rfl) ?_
          refine wpE_drawregion (id := 8) (ops := r_towpathref08_Put_36) (by kernel_rfl) (by kernel_rfl) (by kernel_rfl) ?_
          refine qreg_run [.plain, .plain] 2 [(0, [], Value.slice l_.ptr l_.len l_.cap), (3, [], Value.pointer (some ⟨b_, 0, none⟩)), (7, [], Value.slice out.ptr out.len out.cap), (8, [], Value.bool put), (9, [], Value.int .i64 i), (24, [], Value.slice l_.ptr l_.len l_.cap), (25, [], Value.int .i64 i)] (by kernel_rfl) (by kernel_rfl) ?_
          obtain ⟨hp_30, h⟩ := h
          refine qreg_conv [(0, [], Value.slice l_.ptr l_.len l_.cap), (3, [], Value.pointer (some ⟨b_, 0, none⟩)), (7, [], Value.slice out.ptr out.len out.cap), (8, [], Value.bool put), (9, [], Value.int .i64 i), (24, [], Value.slice (some ⟨(pblk l_.ptr), (poff l_.ptr), none⟩) l_.len l_.cap), (25, [], Value.int .i64 i)] (congrArg (fun pp => ([(0, [], Value.slice l_.ptr l_.len l_.cap), (3, [], Value.pointer (some ⟨b_, 0, none⟩)), (7, [], Value.slice out.ptr out.len out.cap), (8, [], Value.bool put), (9, [], Value.int .i64 i), (24, [], Value.slice pp l_.len l_.cap), (25, [], Value.int .i64 i)] : GEnv)) hp_30) ?_
          obtain ⟨h0, h1, h⟩ := h
          refine qreg_indexS (t := 22) (e := 27) (x := (Go.Operand.tmp 24)) (ix := (Go.Operand.tmp 25)) (b := (pblk l_.ptr)) (o := (poff l_.ptr)) (l := l_.len) (c := l_.cap) (k := .i64) (j := i) (ty := 0) (dst := some 26) (sz := 3) (by kernel_rfl) (by kernel_rfl) (by kernel_rfl) (by kernel_rfl) (by kernel_rfl) h0 h1 ?_
          refine qreg_run [.plain] 4 [(0, [], Value.slice l_.ptr l_.len l_.cap), (3, [], Value.pointer (some ⟨b_, 0, none⟩)), (7, [], Value.slice out.ptr out.len out.cap), (8, [], Value.bool put), (9, [], Value.int .i64 i), (27, [], Value.pointer (some ⟨(pblk l_.ptr), (poff l_.ptr) + i.toNat * 3, none⟩))] (by kernel_rfl) (by kernel_rfl) ?_
          obtain ⟨v28, hc, h⟩ := h
          refine qreg_load1 (t := 3) (a := (Go.Operand.tmp 27)) (b := (pblk l_.ptr)) (o := ((poff l_.ptr) + i.toNat * 3)) (ty := 3) (dst := some 28) (by kernel_rfl) (by kernel_rfl) (by kernel_rfl) hc ?_
          refine qreg_run [.plain] 6 [(0, [], Value.slice l_.ptr l_.len l_.cap), (3, [], Value.pointer (some ⟨b_, 0, none⟩)), (7, [], Value.slice out.ptr out.len out.cap), (8, [], Value.bool put), (9, [], Value.int .i64 i), (28, [], Value.int .i64 v28), (29, [], Value.pointer (some ⟨b_, 0, none⟩))] (by kernel_rfl) (by kernel_rfl) ?_
          obtain ⟨v30, hc, h⟩ := h
          refine qreg_load1 (t := 3) (a := (Go.Operand.tmp 29)) (b := b_) (o := 0) (ty := 3) (dst := some 30) (by kernel_rfl) (by kernel_rfl) (by kernel_rfl) hc ?_
          refine qreg_run [.plain] 8 [(0, [], Value.slice l_.ptr l_.len l_.cap), (3, [], Value.pointer (some ⟨b_, 0, none⟩)), (7, [], Value.slice out.ptr out.len out.cap), (8, [], Value.bool put), (9, [], Value.int .i64 i), (31, [], Value.bool (v28 == v30))] (by kernel_rfl) (by kernel_rfl) ?_
          refine qreg_end [(0, Value.slice l_.ptr l_.len l_.cap), (3, Value.pointer (some ⟨b_, 0, none⟩)), (7, Value.slice out.ptr out.len out.cap), (8, Value.bool put), (9, Value.int .i64 i), (31, Value.bool (v28 == v30))] (by kernel_rfl) (by kernel_rfl) (fun w4 hw => ?_)
          replace h := h w4 hw
          clear hw
          change WpE _ _ c_towpathref08_Put_38 _ _ _
          refine wpE_cond (o := (Operand.tmp 31)) (b := (v28 == v30)) (x := c_towpathref08_Put_39) (y := c_towpathref08_Put_43) (by kernel_rfl) (by kernel_rfl) (fun hb => ?_) (fun hb => ?_)
          · replace h := h.1 hb
            refine wpE_seq (x := c_towpathref08_Put_40) (y := c_towpathref08_Put_42) (by kernel_rfl) ?_
            refine wpE_region (id := 9) (ops := r_towpathref08_Put_40) (by kernel_rfl) ?_
            refine reg_run [.plain, .plain, .plain, .plain] 4 [(4, [], Value.slice l_.ptr l_.len l_.cap), (5, [], Value.bool false), (6, [], Value.int .i64 0)] (by kernel_rfl) (by kernel_rfl) ?_
            refine reg_end [(4, Value.slice l_.ptr l_.len l_.cap), (5, Value.bool false), (6, Value.int .i64 0)] (by kernel_rfl) (by kernel_rfl) ?_
            change WpE _ _ c_towpathref08_Put_42 _ _ _
            refine wpE_ret (by kernel_rfl) ?_
            repeat (first | refine seqQ_ret ?_ | refine blockQ_ret ?_ | refine loopQ_ret ?_ | refine cutQ_ret ?_)
            exact retT (rs := [(Go.ResultVar.tmp 4), (Go.ResultVar.tmp 5), (Go.ResultVar.tmp 6)]) (vs := [Value.slice l_.ptr l_.len l_.cap, Value.bool false, Value.int .i64 0]) (by kernel_rfl) (⟨by kernel_rfl, ⟨by kernel_rfl, ⟨by kernel_rfl, trivial⟩⟩⟩) (by kernel_rfl) ⟨l_, false, 0, rfl, h⟩
          · replace h := h.2 hb
            refine wpE_skip (by kernel_rfl) ?_
            change WpE _ _ c_towpathref08_Put_44 _ _ _
            refine wpE_seq_cut (x := c_towpathref08_Put_45) (y := c_towpathref08_Put_55) (by kernel_rfl) (fun l w => ∃ (out1 : Slc) (put1 : Bool), l = [(0, Value.slice l_.ptr l_.len l_.cap), (3, Value.pointer (some ⟨b_, 0, none⟩)), (7, Value.slice out1.ptr out1.len out1.cap), (8, Value.bool put1), (9, Value.int .i64 i)] ∧ F_towpathref08_Put_k2 l_ i again_ out1 put1 w) ?_ ?_
            · refine wpE_seq_cut (x := c_towpathref08_Put_46) (y := c_towpathref08_Put_48) (by kernel_rfl) (fun l w => ∃ (t44 : Bool), l = [(0, Value.slice l_.ptr l_.len l_.cap), (3, Value.pointer (some ⟨b_, 0, none⟩)), (7, Value.slice out.ptr out.len out.cap), (8, Value.bool put), (9, Value.int .i64 i), (44, Value.bool t44)] ∧ F_towpathref08_Put_k3 l_ b_ out put i again_ t44 w) ?_ ?_
              · refine wpE_drawregion (id := 10) (ops := r_towpathref08_Put_46) (by kernel_rfl) (by kernel_rfl) (by kernel_rfl) ?_
                refine qreg_run [.plain, .plain, .plain, .plain, .plain] 5 [(0, [], Value.slice l_.ptr l_.len l_.cap), (3, [], Value.pointer (some ⟨b_, 0, none⟩)), (7, [], Value.slice out.ptr out.len out.cap), (8, [], Value.bool put), (9, [], Value.int .i64 i), (35, [], Value.bool (!put)), (36, [(35, true)], Value.slice l_.ptr l_.len l_.cap), (37, [(35, true)], Value.int .i64 i)] (by kernel_rfl) (by kernel_rfl) ?_
                refine qreg_split 35 (!put) (by kernel_rfl) (fun hb => ?_) (fun hb => ?_)
                · replace h := h.1 hb
                  refine qreg_run [] 5 [(0, [], Value.slice l_.ptr l_.len l_.cap), (3, [], Value.pointer (some ⟨b_, 0, none⟩)), (7, [], Value.slice out.ptr out.len out.cap), (8, [], Value.bool put), (9, [], Value.int .i64 i), (35, [], Value.bool true), (36, [], Value.slice l_.ptr l_.len l_.cap), (37, [], Value.int .i64 i)] (by kernel_rfl) (by kernel_rfl) ?_
                  refine qreg_run [] 5 [(0, [], Value.slice l_.ptr l_.len l_.cap), (3, [], Value.pointer (some ⟨b_, 0, none⟩)), (7, [], Value.slice out.ptr out.len out.cap), (8, [], Value.bool put), (9, [], Value.int .i64 i), (35, [], Value.bool true), (36, [], Value.slice l_.ptr l_.len l_.cap), (37, [], Value.int .i64 i)] (by kernel_rfl) (by kernel_rfl) ?_
                  obtain ⟨hp_35, h⟩ := h
                  refine qreg_conv [(0, [], Value.slice l_.ptr l_.len l_.cap), (3, [], Value.pointer (some ⟨b_, 0, none⟩)), (7, [], Value.slice out.ptr out.len out.cap), (8, [], Value.bool put), (9, [], Value.int .i64 i), (35, [], Value.bool true), (36, [], Value.slice (some ⟨(pblk l_.ptr), (poff l_.ptr), none⟩) l_.len l_.cap), (37, [], Value.int .i64 i)] (congrArg (fun pp => ([(0, [], Value.slice l_.ptr l_.len l_.cap), (3, [], Value.pointer (some ⟨b_, 0, none⟩)), (7, [], Value.slice out.ptr out.len out.cap), (8, [], Value.bool put), (9, [], Value.int .i64 i), (35, [], Value.bool true), (36, [], Value.slice pp l_.len l_.cap), (37, [], Value.int .i64 i)] : GEnv)) hp_35) ?_
                  obtain ⟨h0, h1, h⟩ := h
                  refine qreg_indexS (t := 22) (e := 27) (x := (Go.Operand.tmp 36)) (ix := (Go.Operand.tmp 37)) (b := (pblk l_.ptr)) (o := (poff l_.ptr)) (l := l_.len) (c := l_.cap) (k := .i64) (j := i) (ty := 0) (dst := some 38) (sz := 3) (by kernel_rfl) (by kernel_rfl) (by kernel_rfl) (by kernel_rfl) (by kernel_rfl) h0 h1 ?_
                  refine qreg_run [.sure] 7 [(0, [], Value.slice l_.ptr l_.len l_.cap), (3, [], Value.pointer (some ⟨b_, 0, none⟩)), (7, [], Value.slice out.ptr out.len out.cap), (8, [], Value.bool put), (9, [], Value.int .i64 i), (35, [], Value.bool true), (39, [], Value.pointer (some ⟨(pblk l_.ptr), (poff l_.ptr) + i.toNat * 3, none⟩))] (by kernel_rfl) (by kernel_rfl) ?_
                  obtain ⟨v40, hc, h⟩ := h
                  refine qreg_load1 (t := 3) (a := (Go.Operand.tmp 39)) (b := (pblk l_.ptr)) (o := ((poff l_.ptr) + i.toNat * 3)) (ty := 3) (dst := some 40) (by kernel_rfl) (by kernel_rfl) (by kernel_rfl) hc ?_
                  refine qreg_run [.sure] 9 [(0, [], Value.slice l_.ptr l_.len l_.cap), (3, [], Value.pointer (some ⟨b_, 0, none⟩)), (7, [], Value.slice out.ptr out.len out.cap), (8, [], Value.bool put), (9, [], Value.int .i64 i), (35, [], Value.bool true), (40, [], Value.int .i64 v40), (41, [], Value.pointer (some ⟨b_, 0, none⟩))] (by kernel_rfl) (by kernel_rfl) ?_
                  obtain ⟨v42, hc, h⟩ := h
                  refine qreg_load1 (t := 3) (a := (Go.Operand.tmp 41)) (b := b_) (o := 0) (ty := 3) (dst := some 42) (by kernel_rfl) (by kernel_rfl) (by kernel_rfl) hc ?_
                  refine qreg_run [.sure, .plain] 12 [(0, [], Value.slice l_.ptr l_.len l_.cap), (3, [], Value.pointer (some ⟨b_, 0, none⟩)), (7, [], Value.slice out.ptr out.len out.cap), (8, [], Value.bool put), (9, [], Value.int .i64 i), (44, [], Value.bool (decide (v40 > v42)))] (by kernel_rfl) (by kernel_rfl) ?_
                  refine qreg_end [(0, Value.slice l_.ptr l_.len l_.cap), (3, Value.pointer (some ⟨b_, 0, none⟩)), (7, Value.slice out.ptr out.len out.cap), (8, Value.bool put), (9, Value.int .i64 i), (44, Value.bool (decide (v40 > v42)))] (by kernel_rfl) (by kernel_rfl) (fun w11 hw => ?_)
                  replace h := h w11 hw
                  clear hw
                  exact ⟨[(0, Value.slice l_.ptr l_.len l_.cap), (3, Value.pointer (some ⟨b_, 0, none⟩)), (7, Value.slice out.ptr out.len out.cap), (8, Value.bool put), (9, Value.int .i64 i), (44, Value.bool (decide (v40 > v42)))], Sub.mk (by kernel_rfl), (decide (v40 > v42)), rfl, h⟩
                · replace h := h.2 hb
                  refine qreg_run [] 5 [(0, [], Value.slice l_.ptr l_.len l_.cap), (3, [], Value.pointer (some ⟨b_, 0, none⟩)), (7, [], Value.slice out.ptr out.len out.cap), (8, [], Value.bool put), (9, [], Value.int .i64 i), (35, [], Value.bool false), (36, [], undef), (37, [], undef)] (by kernel_rfl) (by kernel_rfl) ?_
                  refine qreg_run [.skip, .skip, .skip, .skip, .skip, .skip, .plain] 12 [(0, [], Value.slice l_.ptr l_.len l_.cap), (3, [], Value.pointer (some ⟨b_, 0, none⟩)), (7, [], Value.slice out.ptr out.len out.cap), (8, [], Value.bool put), (9, [], Value.int .i64 i), (44, [], Value.bool false)] (by kernel_rfl) (by kernel_rfl) ?_
                  refine qreg_end [(0, Value.slice l_.ptr l_.len l_.cap), (3, Value.pointer (some ⟨b_, 0, none⟩)), (7, Value.slice out.ptr out.len out.cap), (8, Value.bool put), (9, Value.int .i64 i), (44, Value.bool false)] (by kernel_rfl) (by kernel_rfl) (fun w12 hw => ?_)
                  replace h := h w12 hw
                  clear hw
                  exact ⟨[(0, Value.slice l_.ptr l_.len l_.cap), (3, Value.pointer (some ⟨b_, 0, none⟩)), (7, Value.slice out.ptr out.len out.cap), (8, Value.bool put), (9, Value.int .i64 i), (44, Value.bool false)], Sub.mk (by kernel_rfl), false, rfl, h⟩
              · rintro _ w8 ⟨t44, rfl, h⟩
                unfold F_towpathref08_Put_k3 at h
                refine wpE_cond (o := (Operand.tmp 44)) (b := t44) (x := c_towpathref08_Put_49) (y := c_towpathref08_Put_54) (by kernel_rfl) (by kernel_rfl) (fun hb => ?_) (fun hb => ?_)
                · replace h := h.1 hb
                  refine wpE_seq (x := c_towpathref08_Put_50) (y := c_towpathref08_Put_52) (by kernel_rfl) ?_
                  refine wpE_region (id := 11) (ops := r_towpathref08_Put_50) (by kernel_rfl) ?_
                  refine reg_run [.plain] 1 [(0, [], Value.slice l_.ptr l_.len l_.cap), (3, [], Value.pointer (some ⟨b_, 0, none⟩)), (7, [], Value.slice out.ptr out.len out.cap), (9, [], Value.int .i64 i), (45, [], Value.slice out.ptr out.len out.cap)] (by kernel_rfl) (by kernel_rfl) ?_
                  obtain ⟨v46, hc, h⟩ := h
                  refine reg_loadN (t := 27) (a := (Go.Operand.tmp 3)) (b := b_) (o := 0) (ty := 27) (dst := some 46) [Value.int .i64 v46.Number, Value.string v46.Val, Value.bool v46.Drop] (by kernel_rfl) (by kernel_rfl) (by kernel_rfl) (k := 3) (by kernel_rfl) (by kernel_rfl) hc ?_
                  refine reg_run [] 2 [(0, [], Value.slice l_.ptr l_.len l_.cap), (3, [], Value.pointer (some ⟨b_, 0, none⟩)), (7, [], Value.slice out.ptr out.len out.cap), (9, [], Value.int .i64 i), (45, [], Value.slice out.ptr out.len out.cap), (46, [], Value.agg #[Value.int .i64 v46.Number, Value.string v46.Val, Value.bool v46.Drop])] (by kernel_rfl) (by kernel_rfl) ?_
                  refine reg_new (op := (Go.Op.buildSlice 22 1 #[(0, (Go.Operand.tmp 46))])) (ty := 22) (dst := some 47) (fun bb => Value.slice (some ⟨bb, 0, none⟩) 1 1) (Obj.cells ([Value.int .i64 v46.Number, Value.string v46.Val, Value.bool v46.Drop]).toArray ty_api_Version (0, 0)) (by kernel_rfl) (by kernel_rfl) (fun b_2 w9 hb hw => ?_)
                  replace h := h b_2 w9 hb hw
                  clear hb hw
                  refine reg_run [] 3 [(0, [], Value.slice l_.ptr l_.len l_.cap), (3, [], Value.pointer (some ⟨b_, 0, none⟩)), (7, [], Value.slice out.ptr out.len out.cap), (9, [], Value.int .i64 i), (45, [], Value.slice out.ptr out.len out.cap), (47, [], Value.slice (some ⟨b_2, 0, none⟩) 1 1)] (by kernel_rfl) (by kernel_rfl) ?_
                  obtain ⟨src, hs, h⟩ := h
                  refine reg_append (t := 22) (tx := 22) (e := 27) (a := (Go.Operand.tmp 45)) (xo := (Go.Operand.tmp 47)) (s := out) (x := (Slc.mk (some ⟨b_2, 0, none⟩) 1 1)) (sz := 3) (by_ := 32) (zs := [Value.int .i64 0, Value.string ByteArray.empty, Value.bool false]) (ty := 22) (dst := some 48)  src (by kernel_rfl) (by kernel_rfl) (by kernel_rfl) (by kernel_rfl) (by kernel_rfl) (by kernel_rfl) (by kernel_rfl) (by kernel_rfl) (by kernel_rfl) hs (AppendW.mono h (fun out3 w10 h => ?_))
                  refine reg_run [.plain] 5 [(0, [], Value.slice l_.ptr l_.len l_.cap), (3, [], Value.pointer (some ⟨b_, 0, none⟩)), (7, [], Value.slice out3.ptr out3.len out3.cap), (9, [], Value.int .i64 i)] (by kernel_rfl) (by kernel_rfl) ?_
                  refine reg_end [(0, Value.slice l_.ptr l_.len l_.cap), (3, Value.pointer (some ⟨b_, 0, none⟩)), (7, Value.slice out3.ptr out3.len out3.cap), (9, Value.int .i64 i)] (by kernel_rfl) (by kernel_rfl) ?_
                  change WpE _ _ c_towpathref08_Put_52 _ _ _
                  refine wpE_region (id := 12) (ops := r_towpathref08_Put_52) (by kernel_rfl) ?_
                  refine reg_run [.plain] 1 [(0, [], Value.slice l_.ptr l_.len l_.cap), (3, [], Value.pointer (some ⟨b_, 0, none⟩)), (7, [], Value.slice out3.ptr out3.len out3.cap), (8, [], Value.bool true), (9, [], Value.int .i64 i)] (by kernel_rfl) (by kernel_rfl) ?_
                  refine reg_end [(0, Value.slice l_.ptr l_.len l_.cap), (3, Value.pointer (some ⟨b_, 0, none⟩)), (7, Value.slice out3.ptr out3.len out3.cap), (8, Value.bool true), (9, Value.int .i64 i)] (by kernel_rfl) (by kernel_rfl) ?_
                  exact ⟨[(0, Value.slice l_.ptr l_.len l_.cap), (3, Value.pointer (some ⟨b_, 0, none⟩)), (7, Value.slice out3.ptr out3.len out3.cap), (8, Value.bool true), (9, Value.int .i64 i)], Sub.mk (by kernel_rfl), out3, true, rfl, h⟩
                · replace h := h.2 hb
                  refine wpE_skip (by kernel_rfl) ?_
                  exact ⟨[(0, Value.slice l_.ptr l_.len l_.cap), (3, Value.pointer (some ⟨b_, 0, none⟩)), (7, Value.slice out.ptr out.len out.cap), (8, Value.bool put), (9, Value.int .i64 i)], Sub.mk (by kernel_rfl), out, put, rfl, h⟩
            · rintro _ w5 ⟨out1, put1, rfl, h⟩
              unfold F_towpathref08_Put_k2 at h
              refine wpE_region (id := 13) (ops := r_towpathref08_Put_55) (by kernel_rfl) ?_
              refine reg_run [.plain, .plain, .plain] 3 [(0, [], Value.slice l_.ptr l_.len l_.cap), (3, [], Value.pointer (some ⟨b_, 0, none⟩)), (7, [], Value.slice out1.ptr out1.len out1.cap), (8, [], Value.bool put1), (9, [], Value.int .i64 i), (49, [], Value.slice out1.ptr out1.len out1.cap), (50, [], Value.slice l_.ptr l_.len l_.cap), (51, [], Value.int .i64 i)] (by kernel_rfl) (by kernel_rfl) ?_
              obtain ⟨hp_33, h⟩ := h
              refine reg_conv [(0, [], Value.slice l_.ptr l_.len l_.cap), (3, [], Value.pointer (some ⟨b_, 0, none⟩)), (7, [], Value.slice out1.ptr out1.len out1.cap), (8, [], Value.bool put1), (9, [], Value.int .i64 i), (49, [], Value.slice out1.ptr out1.len out1.cap), (50, [], Value.slice (some ⟨(pblk l_.ptr), (poff l_.ptr), none⟩) l_.len l_.cap), (51, [], Value.int .i64 i)] (congrArg (fun pp => ([(0, [], Value.slice l_.ptr l_.len l_.cap), (3, [], Value.pointer (some ⟨b_, 0, none⟩)), (7, [], Value.slice out1.ptr out1.len out1.cap), (8, [], Value.bool put1), (9, [], Value.int .i64 i), (49, [], Value.slice out1.ptr out1.len out1.cap), (50, [], Value.slice pp l_.len l_.cap), (51, [], Value.int .i64 i)] : GEnv)) hp_33) ?_
              obtain ⟨h0, h1, h⟩ := h
              refine reg_indexS (t := 22) (e := 27) (x := (Go.Operand.tmp 50)) (ix := (Go.Operand.tmp 51)) (b := (pblk l_.ptr)) (o := (poff l_.ptr)) (l := l_.len) (c := l_.cap) (k := .i64) (j := i) (ty := 0) (dst := some 52) (sz := 3) (by kernel_rfl) (by kernel_rfl) (by kernel_rfl) (by kernel_rfl) (by kernel_rfl) h0 h1 ?_
              refine reg_run [] 4 [(0, [], Value.slice l_.ptr l_.len l_.cap), (3, [], Value.pointer (some ⟨b_, 0, none⟩)), (7, [], Value.slice out1.ptr out1.len out1.cap), (8, [], Value.bool put1), (9, [], Value.int .i64 i), (49, [], Value.slice out1.ptr out1.len out1.cap), (52, [], Value.pointer (some ⟨(pblk l_.ptr), (poff l_.ptr) + i.toNat * 3, none⟩))] (by kernel_rfl) (by kernel_rfl) ?_
              obtain ⟨v53, hc, h⟩ := h
              refine reg_loadN (t := 27) (a := (Go.Operand.tmp 52)) (b := (pblk l_.ptr)) (o := ((poff l_.ptr) + i.toNat * 3)) (ty := 27) (dst := some 53) [Value.int .i64 v53.Number, Value.string v53.Val, Value.bool v53.Drop] (by kernel_rfl) (by kernel_rfl) (by kernel_rfl) (k := 3) (by kernel_rfl) (by kernel_rfl) hc ?_
              refine reg_run [] 5 [(0, [], Value.slice l_.ptr l_.len l_.cap), (3, [], Value.pointer (some ⟨b_, 0, none⟩)), (7, [], Value.slice out1.ptr out1.len out1.cap), (8, [], Value.bool put1), (9, [], Value.int .i64 i), (49, [], Value.slice out1.ptr out1.len out1.cap), (53, [], Value.agg #[Value.int .i64 v53.Number, Value.string v53.Val, Value.bool v53.Drop])] (by kernel_rfl) (by kernel_rfl) ?_
              refine reg_new (op := (Go.Op.buildSlice 22 1 #[(0, (Go.Operand.tmp 53))])) (ty := 22) (dst := some 54) (fun bb => Value.slice (some ⟨bb, 0, none⟩) 1 1) (Obj.cells ([Value.int .i64 v53.Number, Value.string v53.Val, Value.bool v53.Drop]).toArray ty_api_Version (0, 0)) (by kernel_rfl) (by kernel_rfl) (fun b_1 w6 hb hw => ?_)
              replace h := h b_1 w6 hb hw
              clear hb hw
              refine reg_run [] 6 [(0, [], Value.slice l_.ptr l_.len l_.cap), (3, [], Value.pointer (some ⟨b_, 0, none⟩)), (7, [], Value.slice out1.ptr out1.len out1.cap), (8, [], Value.bool put1), (9, [], Value.int .i64 i), (49, [], Value.slice out1.ptr out1.len out1.cap), (54, [], Value.slice (some ⟨b_1, 0, none⟩) 1 1)] (by kernel_rfl) (by kernel_rfl) ?_
              obtain ⟨src, hs, h⟩ := h
              refine reg_append (t := 22) (tx := 22) (e := 27) (a := (Go.Operand.tmp 49)) (xo := (Go.Operand.tmp 54)) (s := out1) (x := (Slc.mk (some ⟨b_1, 0, none⟩) 1 1)) (sz := 3) (by_ := 32) (zs := [Value.int .i64 0, Value.string ByteArray.empty, Value.bool false]) (ty := 22) (dst := some 55)  src (by kernel_rfl) (by kernel_rfl) (by kernel_rfl) (by kernel_rfl) (by kernel_rfl) (by kernel_rfl) (by kernel_rfl) (by kernel_rfl) (by kernel_rfl) hs (AppendW.mono h (fun out2 w7 h => ?_))
              refine reg_run [.plain] 8 [(0, [], Value.slice l_.ptr l_.len l_.cap), (3, [], Value.pointer (some ⟨b_, 0, none⟩)), (7, [], Value.slice out2.ptr out2.len out2.cap), (8, [], Value.bool put1), (9, [], Value.int .i64 i)] (by kernel_rfl) (by kernel_rfl) ?_
              refine reg_end [(0, Value.slice l_.ptr l_.len l_.cap), (3, Value.pointer (some ⟨b_, 0, none⟩)), (7, Value.slice out2.ptr out2.len out2.cap), (8, Value.bool put1), (9, Value.int .i64 i)] (by kernel_rfl) (by kernel_rfl) ?_
              change WpE _ _ c_towpathref08_Put_57 _ _ _
              refine wpE_region (id := 7) (ops := r_towpathref08_Put_57) (by kernel_rfl) ?_
              refine reg_run [.plain, .plain, .plain] 3 [(0, [], Value.slice l_.ptr l_.len l_.cap), (3, [], Value.pointer (some ⟨b_, 0, none⟩)), (7, [], Value.slice out2.ptr out2.len out2.cap), (8, [], Value.bool put1), (9, [], Value.int .i64 (IntKind.i64.wrap (i + 1)))] (by kernel_rfl) (by kernel_rfl) ?_
              refine reg_end [(0, Value.slice l_.ptr l_.len l_.cap), (3, Value.pointer (some ⟨b_, 0, none⟩)), (7, Value.slice out2.ptr out2.len out2.cap), (8, Value.bool put1), (9, Value.int .i64 (IntKind.i64.wrap (i + 1)))] (by kernel_rfl) (by kernel_rfl) ?_
              have hb_ := again__h _ _ _ _ h
              exact ⟨_, hb_.2, [(0, Value.slice l_.ptr l_.len l_.cap), (3, Value.pointer (some ⟨b_, 0, none⟩)), (7, Value.slice out2.ptr out2.len out2.cap), (8, Value.bool put1), (9, Value.int .i64 (IntKind.i64.wrap (i + 1)))], Sub.mk (by kernel_rfl), out2, put1, (IntKind.i64.wrap (i + 1)), rfl, hb_.1, rfl⟩
        · replace h := h.2 hb
          refine wpE_exit (id := 0) (by kernel_rfl) ?_
          change WpE _ _ c_towpathref08_Put_59 _ _ _
          refine wpE_seq_cut (x := c_towpathref08_Put_60) (y := c_towpathref08_Put_67) (by kernel_rfl) (fun l w => ∃ (out4 : Slc), l = [(7, Value.slice out4.ptr out4.len out4.cap)] ∧ F_towpathref08_Put_k4 R out4 w) ?_ ?_
          · refine wpE_seq (x := c_towpathref08_Put_61) (y := c_towpathref08_Put_63) (by kernel_rfl) ?_
            refine wpE_region (id := 14) (ops := r_towpathref08_Put_61) (by kernel_rfl) ?_
            refine reg_run [.plain, .plain] 2 [(3, [], Value.pointer (some ⟨b_, 0, none⟩)), (7, [], Value.slice out.ptr out.len out.cap), (57, [], Value.bool (!put))] (by kernel_rfl) (by kernel_rfl) ?_
            refine reg_end [(3, Value.pointer (some ⟨b_, 0, none⟩)), (7, Value.slice out.ptr out.len out.cap), (57, Value.bool (!put))] (by kernel_rfl) (by kernel_rfl) ?_
            change WpE _ _ c_towpathref08_Put_63 _ _ _
            refine wpE_cond (o := (Operand.tmp 57)) (b := (!put)) (x := c_towpathref08_Put_64) (y := c_towpathref08_Put_66) (by kernel_rfl) (by kernel_rfl) (fun hb => ?_) (fun hb => ?_)
            · replace h := h.1 hb
              refine wpE_region (id := 15) (ops := r_towpathref08_Put_64) (by kernel_rfl) ?_
              refine reg_run [.plain] 1 [(3, [], Value.pointer (some ⟨b_, 0, none⟩)), (7, [], Value.slice out.ptr out.len out.cap), (58, [], Value.slice out.ptr out.len out.cap)] (by kernel_rfl) (by kernel_rfl) ?_
              obtain ⟨v59, hc, h⟩ := h
              refine reg_loadN (t := 27) (a := (Go.Operand.tmp 3)) (b := b_) (o := 0) (ty := 27) (dst := some 59) [Value.int .i64 v59.Number, Value.string v59.Val, Value.bool v59.Drop] (by kernel_rfl) (by kernel_rfl) (by kernel_rfl) (k := 3) (by kernel_rfl) (by kernel_rfl) hc ?_
              refine reg_run [] 2 [(7, [], Value.slice out.ptr out.len out.cap), (58, [], Value.slice out.ptr out.len out.cap), (59, [], Value.agg #[Value.int .i64 v59.Number, Value.string v59.Val, Value.bool v59.Drop])] (by kernel_rfl) (by kernel_rfl) ?_
              refine reg_new (op := (Go.Op.buildSlice 22 1 #[(0, (Go.Operand.tmp 59))])) (ty := 22) (dst := some 60) (fun bb => Value.slice (some ⟨bb, 0, none⟩) 1 1) (Obj.cells ([Value.int .i64 v59.Number, Value.string v59.Val, Value.bool v59.Drop]).toArray ty_api_Version (0, 0)) (by kernel_rfl) (by kernel_rfl) (fun b_3 w14 hb hw => ?_)
              replace h := h b_3 w14 hb hw
              clear hb hw
              refine reg_run [] 3 [(7, [], Value.slice out.ptr out.len out.cap), (58, [], Value.slice out.ptr out.len out.cap), (60, [], Value.slice (some ⟨b_3, 0, none⟩) 1 1)] (by kernel_rfl) (by kernel_rfl) ?_
              obtain ⟨src, hs, h⟩ := h
              refine reg_append (t := 22) (tx := 22) (e := 27) (a := (Go.Operand.tmp 58)) (xo := (Go.Operand.tmp 60)) (s := out) (x := (Slc.mk (some ⟨b_3, 0, none⟩) 1 1)) (sz := 3) (by_ := 32) (zs := [Value.int .i64 0, Value.string ByteArray.empty, Value.bool false]) (ty := 22) (dst := some 61)  src (by kernel_rfl) (by kernel_rfl) (by kernel_rfl) (by kernel_rfl) (by kernel_rfl) (by kernel_rfl) (by kernel_rfl) (by kernel_rfl) (by kernel_rfl) hs (AppendW.mono h (fun out5 w15 h => ?_))
              refine reg_run [.plain] 5 [(7, [], Value.slice out5.ptr out5.len out5.cap)] (by kernel_rfl) (by kernel_rfl) ?_
              refine reg_end [(7, Value.slice out5.ptr out5.len out5.cap)] (by kernel_rfl) (by kernel_rfl) ?_
              exact ⟨[(7, Value.slice out5.ptr out5.len out5.cap)], Sub.mk (by kernel_rfl), out5, rfl, h⟩
            · replace h := h.2 hb
              refine wpE_skip (by kernel_rfl) ?_
              exact ⟨[(7, Value.slice out.ptr out.len out.cap)], Sub.mk (by kernel_rfl), out, rfl, h⟩
          · rintro _ w13 ⟨out4, rfl, h⟩
            unfold F_towpathref08_Put_k4 at h
            refine wpE_seq (x := c_towpathref08_Put_68) (y := c_towpathref08_Put_70) (by kernel_rfl) ?_
            refine wpE_region (id := 16) (ops := r_towpathref08_Put_68) (by kernel_rfl) ?_
            refine reg_run [.plain, .plain, .plain, .plain] 4 [(4, [], Value.slice out4.ptr out4.len out4.cap), (5, [], Value.bool true), (6, [], Value.int .i64 0)] (by kernel_rfl) (by kernel_rfl) ?_
            refine reg_end [(4, Value.slice out4.ptr out4.len out4.cap), (5, Value.bool true), (6, Value.int .i64 0)] (by kernel_rfl) (by kernel_rfl) ?_
            change WpE _ _ c_towpathref08_Put_70 _ _ _
            refine wpE_ret (by kernel_rfl) ?_
            repeat (first | refine seqQ_ret ?_ | refine blockQ_ret ?_ | refine loopQ_ret ?_ | refine cutQ_ret ?_)
            exact retT (rs := [(Go.ResultVar.tmp 4), (Go.ResultVar.tmp 5), (Go.ResultVar.tmp 6)]) (vs := [Value.slice out4.ptr out4.len out4.cap, Value.bool true, Value.int .i64 0]) (by kernel_rfl) (⟨by kernel_rfl, ⟨by kernel_rfl, ⟨by kernel_rfl, trivial⟩⟩⟩) (by kernel_rfl) ⟨out4, true, 0, rfl, h⟩
  · rintro e w' ⟨v, rfl, r0, r1, r2, rfl, h⟩; exact ⟨r0, r1, r2, rfl, h⟩

/-! ### towpath/towpathref08.Check (function 25) -/
noncomputable def c_towpathref08_Check_0 : Code := (Tryd.f25.body).getD Code.skip
noncomputable def c_towpathref08_Check_1 : Code := Code.l c_towpathref08_Check_0
noncomputable def r_towpathref08_Check_1 : Array Oper := Code.ops c_towpathref08_Check_1
noncomputable def c_towpathref08_Check_3 : Code := Code.r c_towpathref08_Check_0
noncomputable def c_towpathref08_Check_4 : Code := Code.l c_towpathref08_Check_3
noncomputable def c_towpathref08_Check_5 : Code := Code.l c_towpathref08_Check_4
noncomputable def r_towpathref08_Check_5 : Array Oper := Code.ops c_towpathref08_Check_5
noncomputable def c_towpathref08_Check_7 : Code := Code.r c_towpathref08_Check_4
noncomputable def c_towpathref08_Check_8 : Code := Code.l c_towpathref08_Check_7
noncomputable def c_towpathref08_Check_9 : Code := Code.l c_towpathref08_Check_8
noncomputable def c_towpathref08_Check_10 : Code := Code.l c_towpathref08_Check_9
noncomputable def c_towpathref08_Check_11 : Code := Code.l c_towpathref08_Check_10
noncomputable def r_towpathref08_Check_11 : Array Oper := Code.ops c_towpathref08_Check_11
noncomputable def c_towpathref08_Check_13 : Code := Code.r c_towpathref08_Check_10
noncomputable def c_towpathref08_Check_14 : Code := Code.l c_towpathref08_Check_13
noncomputable def c_towpathref08_Check_15 : Code := Code.r c_towpathref08_Check_13
noncomputable def c_towpathref08_Check_16 : Code := Code.r c_towpathref08_Check_9
noncomputable def c_towpathref08_Check_17 : Code := Code.l c_towpathref08_Check_16
noncomputable def c_towpathref08_Check_18 : Code := Code.l c_towpathref08_Check_17
noncomputable def c_towpathref08_Check_19 : Code := Code.l c_towpathref08_Check_18
noncomputable def r_towpathref08_Check_19 : Array Oper := Code.ops c_towpathref08_Check_19
noncomputable def c_towpathref08_Check_21 : Code := Code.r c_towpathref08_Check_18
noncomputable def c_towpathref08_Check_22 : Code := Code.l c_towpathref08_Check_21
noncomputable def c_towpathref08_Check_23 : Code := Code.l c_towpathref08_Check_22
noncomputable def r_towpathref08_Check_23 : Array Oper := Code.ops c_towpathref08_Check_23
noncomputable def c_towpathref08_Check_25 : Code := Code.r c_towpathref08_Check_22
noncomputable def c_towpathref08_Check_26 : Code := Code.r c_towpathref08_Check_21
noncomputable def c_towpathref08_Check_27 : Code := Code.r c_towpathref08_Check_16
noncomputable def r_towpathref08_Check_27 : Array Oper := Code.ops c_towpathref08_Check_27
noncomputable def c_towpathref08_Check_29 : Code := Code.r c_towpathref08_Check_3
noncomputable def c_towpathref08_Check_30 : Code := Code.l c_towpathref08_Check_29
noncomputable def r_towpathref08_Check_30 : Array Oper := Code.ops c_towpathref08_Check_30
noncomputable def c_towpathref08_Check_32 : Code := Code.r c_towpathref08_Check_29
def o_towpathref08_Check_19 : List Nat := [0, 1, 2, 3, 4, 5, 6, 7, 8, 9, 10, 11, 12, 13, 14, 15, 16, 17, 18, 19, 20, 21, 22, 23]

set_option maxRecDepth 100000 in
set_option maxHeartbeats 4000000 in
theorem S_towpathref08_Check {l_ : Slc} {w : World} {R : Int → World → Prop} (h : F_towpathref08_Check l_ R w) : C_towpathref08_Check l_ w R := by
  unfold F_towpathref08_Check at h
  unfold C_towpathref08_Check
  refine Calls.mono (calls_of_wpE (args := [Value.slice l_.ptr l_.len l_.cap]) (R := fun v w' => ∃ (r0 : Int), v = Value.int .i64 r0 ∧ R r0 w') Tryd.func25 (c := c_towpathref08_Check_0) (by kernel_rfl) 34 (by kernel_rfl) (by kernel_rfl) [(0, Value.slice l_.ptr l_.len l_.cap)] (by kernel_rfl) ?_) ?_
  · refine wpE_seq (x := c_towpathref08_Check_1) (y := c_towpathref08_Check_3) (by kernel_rfl) ?_
    refine wpE_region (id := 0) (ops := r_towpathref08_Check_1) (by kernel_rfl) ?_
    refine reg_run [.plain] 1 [(0, [], Value.slice l_.ptr l_.len l_.cap)] (by kernel_rfl) (by kernel_rfl) ?_
    refine reg_end [(0, Value.slice l_.ptr l_.len l_.cap)] (by kernel_rfl) (by kernel_rfl) ?_
    change WpE _ _ c_towpathref08_Check_3 _ _ _
    refine wpE_seq (x := c_towpathref08_Check_4) (y := c_towpathref08_Check_29) (by kernel_rfl) ?_
    refine wpE_seq (x := c_towpathref08_Check_5) (y := c_towpathref08_Check_7) (by kernel_rfl) ?_
    refine wpE_region (id := 1) (ops := r_towpathref08_Check_5) (by kernel_rfl) ?_
    refine reg_run [.plain] 1 [(0, [], Value.slice l_.ptr l_.len l_.cap), (3, [], Value.int .i64 0)] (by kernel_rfl) (by kernel_rfl) ?_
    refine reg_end [(0, Value.slice l_.ptr l_.len l_.cap), (3, Value.int .i64 0)] (by kernel_rfl) (by kernel_rfl) ?_
    change WpE _ _ c_towpathref08_Check_7 _ _ _
    refine wpE_block (id := 0) (x := c_towpathref08_Check_8) (by kernel_rfl) ?_
    obtain ⟨I, μ, h0, hr⟩ := h
    refine wpE_loop (x := c_towpathref08_Check_9) (by kernel_rfl) (fun m l w => ∃ (i : Int), l = [(0, Value.slice l_.ptr l_.len l_.cap), (3, Value.int .i64 i)] ∧ I i w ∧ μ i w = m) (l' := [(0, Value.slice l_.ptr l_.len l_.cap), (3, Value.int .i64 0)]) (Sub.mk (by kernel_rfl)) ⟨0, rfl, h0, rfl⟩ ?_
    rintro _ _ w1 ⟨i, rfl, hI, rfl⟩
    obtain ⟨again_, again__h, h⟩ : ∃ again_ : Int → World → Prop, (∀ i' w', again_ i' w' → I i' w' ∧ μ i' w' < μ i w1) ∧ F_towpathref08_Check_L0 l_ R again_ i w1 := ⟨_, fun _ _ h => h, hr i w1 hI⟩
    clear h0 hI
    unfold F_towpathref08_Check_L0 at h
    refine wpE_seq (x := c_towpathref08_Check_10) (y := c_towpathref08_Check_16) (by kernel_rfl) ?_
    refine wpE_seq (x := c_towpathref08_Check_11) (y := c_towpathref08_Check_13) (by kernel_rfl) ?_
    refine wpE_region (id := 2) (ops := r_towpathref08_Check_11) (by kernel_rfl) ?_
    refine reg_run [.plain, .plain, .plain, .plain] 4 [(0, [], Value.slice l_.ptr l_.len l_.cap), (3, [], Value.int .i64 i), (7, [], Value.bool (decide (i < ((l_.len : Nat) : Int))))] (by kernel_rfl) (by kernel_rfl) ?_
    refine reg_end [(0, Value.slice l_.ptr l_.len l_.cap), (3, Value.int .i64 i), (7, Value.bool (decide (i < ((l_.len : Nat) : Int))))] (by kernel_rfl) (by kernel_rfl) ?_
    change WpE _ _ c_towpathref08_Check_13 _ _ _
    refine wpE_cond (o := (Operand.tmp 7)) (b := (decide (i < ((l_.len : Nat) : Int)))) (x := c_towpathref08_Check_14) (y := c_towpathref08_Check_15) (by kernel_rfl) (by kernel_rfl) (fun hb => ?_) (fun hb => ?_)
    · replace h := h.1 hb
      refine wpE_skip (by kernel_rfl) ?_
      change WpE _ _ c_towpathref08_Check_16 _ _ _
      refine wpE_seq (x := c_towpathref08_Check_17) (y := c_towpathref08_Check_27) (by kernel_rfl) ?_
      refine wpE_block (id := 1) (x := c_towpathref08_Check_18) (by kernel_rfl) ?_
      refine wpE_seq_cut (x := c_towpathref08_Check_19) (y := c_towpathref08_Check_21) (by kernel_rfl) (fun l w => ∃ (t33 : Bool), l = [(0, Value.slice l_.ptr l_.len l_.cap), (3, Value.int .i64 i), (33, Value.bool t33)] ∧ F_towpathref08_Check_k1 R i again_ t33 w) ?_ ?_
      · refine wpE_mixregion (id := 4) (ops := r_towpathref08_Check_19) o_towpathref08_Check_19 (by kernel_rfl) (by kernel_rfl) (by kernel_rfl) (by kernel_rfl) (fun w3 hw => ?_)
        replace h := h w3 hw
        clear hw
        refine mreg_run [.plain, .plain] 2 [(0, [], Value.slice l_.ptr l_.len l_.cap), (3, [], Value.int .i64 i), (10, [], Value.slice l_.ptr l_.len l_.cap), (11, [], Value.int .i64 i)] (by kernel_rfl) (by kernel_rfl) ?_
        obtain ⟨hp_21, h⟩ := h
        refine mreg_conv [(0, [], Value.slice l_.ptr l_.len l_.cap), (3, [], Value.int .i64 i), (10, [], Value.slice (some ⟨(pblk l_.ptr), (poff l_.ptr), none⟩) l_.len l_.cap), (11, [], Value.int .i64 i)] (congrArg (fun pp => ([(0, [], Value.slice l_.ptr l_.len l_.cap), (3, [], Value.int .i64 i), (10, [], Value.slice pp l_.len l_.cap), (11, [], Value.int .i64 i)] : GEnv)) hp_21) ?_
        obtain ⟨h0, h1, h⟩ := h
        refine mreg_indexS (i := 2) (by kernel_rfl) (t := 22) (e := 27) (x := (Go.Operand.tmp 10)) (ix := (Go.Operand.tmp 11)) (b := (pblk l_.ptr)) (o := (poff l_.ptr)) (l := l_.len) (c := l_.cap) (k := .i64) (j := i) (ty := 0) (dst := some 12) (sz := 3) (by kernel_rfl) (by kernel_rfl) (by kernel_rfl) (by kernel_rfl) (by kernel_rfl) h0 h1 ?_
        refine mreg_run [] 3 [(0, [], Value.slice l_.ptr l_.len l_.cap), (3, [], Value.int .i64 i), (12, [], Value.pointer (some ⟨(pblk l_.ptr), (poff l_.ptr) + i.toNat * 3, none⟩))] (by kernel_rfl) (by kernel_rfl) ?_
        obtain ⟨v13, hc, h⟩ := h
        refine mreg_loadN (i := 3) (by kernel_rfl) (t := 27) (a := (Go.Operand.tmp 12)) (b := (pblk l_.ptr)) (o := ((poff l_.ptr) + i.toNat * 3)) (ty := 27) (dst := some 13) [Value.int .i64 v13.Number, Value.string v13.Val, Value.bool v13.Drop] (by kernel_rfl) (by kernel_rfl) (by kernel_rfl) (k := 3) (by kernel_rfl) (by kernel_rfl) hc ?_
        refine mreg_run [] 4 [(0, [], Value.slice l_.ptr l_.len l_.cap), (3, [], Value.int .i64 i), (13, [], Value.agg #[Value.int .i64 v13.Number, Value.string v13.Val, Value.bool v13.Drop])] (by kernel_rfl) (by kernel_rfl) ?_
        refine mreg_enter (op := (Go.Op.call (Go.Call.mk (Go.Callee.value (Go.Operand.func 66)) #[(Go.Operand.tmp 13)] #[27]))) (ty := 4) (dst := some 14) 4 [3, 2, 0, 1] [] 66 #[Value.agg #[Value.int .i64 v13.Number, Value.string v13.Val, Value.bool v13.Drop]] (by kernel_rfl) (by kernel_rfl) (by kernel_rfl) (by kernel_rfl) (by kernel_rfl) (fun ww => by kernel_rfl) (Calls.mono h ?_)
        rintro _ w4 ⟨v14, rfl, h⟩
        refine ⟨_, rfl, trivial, ?_⟩
        refine mreg_run [.plain, .plain, .plain, .plain, .plain, .plain, .plain, .plain] 13 [(0, [], Value.slice l_.ptr l_.len l_.cap), (3, [], Value.int .i64 i), (16, [], Value.bool (!v14)), (19, [(16, false)], Value.bool (decide (i > 0))), (20, [(19, true), (16, false)], Value.slice l_.ptr l_.len l_.cap), (22, [(19, true), (16, false)], Value.int .i64 (IntKind.i64.wrap (i - 1)))] (by kernel_rfl) (by kernel_rfl) ?_
        refine mreg_split 16 (!v14) (by kernel_rfl) (fun hb => ?_) (fun hb => ?_)
        · replace h := h.1 hb
          refine mreg_run [] 13 [(0, [], Value.slice l_.ptr l_.len l_.cap), (3, [], Value.int .i64 i), (16, [], Value.bool true), (19, [], undef), (20, [], undef), (22, [], undef)] (by kernel_rfl) (by kernel_rfl) ?_
          refine mreg_run [.skip, .skip, .skip, .skip, .skip, .skip, .skip, .skip, .skip, .skip, .plain] 24 [(0, [], Value.slice l_.ptr l_.len l_.cap), (3, [], Value.int .i64 i), (33, [], Value.bool true)] (by kernel_rfl) (by kernel_rfl) ?_
          refine mreg_end [(0, Value.slice l_.ptr l_.len l_.cap), (3, Value.int .i64 i), (33, Value.bool true)] (by kernel_rfl) (by kernel_rfl) (by kernel_rfl) ?_
          exact ⟨[(0, Value.slice l_.ptr l_.len l_.cap), (3, Value.int .i64 i), (33, Value.bool true)], Sub.mk (by kernel_rfl), true, rfl, h⟩
        · replace h := h.2 hb
          refine mreg_run [] 13 [(0, [], Value.slice l_.ptr l_.len l_.cap), (3, [], Value.int .i64 i), (16, [], Value.bool false), (19, [], Value.bool (decide (i > 0))), (20, [(19, true)], Value.slice l_.ptr l_.len l_.cap), (22, [(19, true)], Value.int .i64 (IntKind.i64.wrap (i - 1)))] (by kernel_rfl) (by kernel_rfl) ?_
          refine mreg_run [] 13 [(0, [], Value.slice l_.ptr l_.len l_.cap), (3, [], Value.int .i64 i), (16, [], Value.bool false), (19, [], Value.bool (decide (i > 0))), (20, [(19, true)], Value.slice l_.ptr l_.len l_.cap), (22, [(19, true)], Value.int .i64 (IntKind.i64.wrap (i - 1)))] (by kernel_rfl) (by kernel_rfl) ?_
          refine mreg_split 19 (decide (i > 0)) (by kernel_rfl) (fun hb => ?_) (fun hb => ?_)
          · replace h := h.1 hb
            refine mreg_run [] 13 [(0, [], Value.slice l_.ptr l_.len l_.cap), (3, [], Value.int .i64 i), (16, [], Value.bool false), (19, [], Value.bool true), (20, [], Value.slice l_.ptr l_.len l_.cap), (22, [], Value.int .i64 (IntKind.i64.wrap (i - 1)))] (by kernel_rfl) (by kernel_rfl) ?_
            refine mreg_run [] 13 [(0, [], Value.slice l_.ptr l_.len l_.cap), (3, [], Value.int .i64 i), (16, [], Value.bool false), (19, [], Value.bool true), (20, [], Value.slice l_.ptr l_.len l_.cap), (22, [], Value.int .i64 (IntKind.i64.wrap (i - 1)))] (by kernel_rfl) (by kernel_rfl) ?_
            obtain ⟨hp_22, h⟩ := h
            refine mreg_conv [(0, [], Value.slice l_.ptr l_.len l_.cap), (3, [], Value.int .i64 i), (16, [], Value.bool false), (19, [], Value.bool true), (20, [], Value.slice (some ⟨(pblk l_.ptr), (poff l_.ptr), none⟩) l_.len l_.cap), (22, [], Value.int .i64 (IntKind.i64.wrap (i - 1)))] (congrArg (fun pp => ([(0, [], Value.slice l_.ptr l_.len l_.cap), (3, [], Value.int .i64 i), (16, [], Value.bool false), (19, [], Value.bool true), (20, [], Value.slice pp l_.len l_.cap), (22, [], Value.int .i64 (IntKind.i64.wrap (i - 1)))] : GEnv)) hp_22) ?_
            obtain ⟨h0, h1, h⟩ := h
            refine mreg_indexS (i := 13) (by kernel_rfl) (t := 22) (e := 27) (x := (Go.Operand.tmp 20)) (ix := (Go.Operand.tmp 22)) (b := (pblk l_.ptr)) (o := (poff l_.ptr)) (l := l_.len) (c := l_.cap) (k := .i64) (j := (IntKind.i64.wrap (i - 1))) (ty := 0) (dst := some 23) (sz := 3) (by kernel_rfl) (by kernel_rfl) (by kernel_rfl) (by kernel_rfl) (by kernel_rfl) h0 h1 ?_
            refine mreg_run [.sure] 15 [(0, [], Value.slice l_.ptr l_.len l_.cap), (3, [], Value.int .i64 i), (16, [], Value.bool false), (19, [], Value.bool true), (24, [], Value.pointer (some ⟨(pblk l_.ptr), (poff l_.ptr) + (IntKind.i64.wrap (i - 1)).toNat * 3, none⟩))] (by kernel_rfl) (by kernel_rfl) ?_
            obtain ⟨v25, hc, h⟩ := h
            refine mreg_load1 (i := 15) (by kernel_rfl) (t := 3) (a := (Go.Operand.tmp 24)) (b := (pblk l_.ptr)) (o := ((poff l_.ptr) + (IntKind.i64.wrap (i - 1)).toNat * 3)) (ty := 3) (dst := some 25) (by kernel_rfl) (by kernel_rfl) (by kernel_rfl) hc ?_
            refine mreg_run [.sure, .sure] 18 [(0, [], Value.slice l_.ptr l_.len l_.cap), (3, [], Value.int .i64 i), (16, [], Value.bool false), (19, [], Value.bool true), (25, [], Value.int .i64 v25), (26, [], Value.slice l_.ptr l_.len l_.cap), (27, [], Value.int .i64 i)] (by kernel_rfl) (by kernel_rfl) ?_
            obtain ⟨hp_23, h⟩ := h
            refine mreg_conv [(0, [], Value.slice l_.ptr l_.len l_.cap), (3, [], Value.int .i64 i), (16, [], Value.bool false), (19, [], Value.bool true), (25, [], Value.int .i64 v25), (26, [], Value.slice (some ⟨(pblk l_.ptr), (poff l_.ptr), none⟩) l_.len l_.cap), (27, [], Value.int .i64 i)] (congrArg (fun pp => ([(0, [], Value.slice l_.ptr l_.len l_.cap), (3, [], Value.int .i64 i), (16, [], Value.bool false), (19, [], Value.bool true), (25, [], Value.int .i64 v25), (26, [], Value.slice pp l_.len l_.cap), (27, [], Value.int .i64 i)] : GEnv)) hp_23) ?_
            obtain ⟨h0, h1, h⟩ := h
            refine mreg_indexS (i := 18) (by kernel_rfl) (t := 22) (e := 27) (x := (Go.Operand.tmp 26)) (ix := (Go.Operand.tmp 27)) (b := (pblk l_.ptr)) (o := (poff l_.ptr)) (l := l_.len) (c := l_.cap) (k := .i64) (j := i) (ty := 0) (dst := some 28) (sz := 3) (by kernel_rfl) (by kernel_rfl) (by kernel_rfl) (by kernel_rfl) (by kernel_rfl) h0 h1 ?_
            refine mreg_run [.sure] 20 [(0, [], Value.slice l_.ptr l_.len l_.cap), (3, [], Value.int .i64 i), (16, [], Value.bool false), (19, [], Value.bool true), (25, [], Value.int .i64 v25), (29, [], Value.pointer (some ⟨(pblk l_.ptr), (poff l_.ptr) + i.toNat * 3, none⟩))] (by kernel_rfl) (by kernel_rfl) ?_
            obtain ⟨v30, hc, h⟩ := h
            refine mreg_load1 (i := 20) (by kernel_rfl) (t := 3) (a := (Go.Operand.tmp 29)) (b := (pblk l_.ptr)) (o := ((poff l_.ptr) + i.toNat * 3)) (ty := 3) (dst := some 30) (by kernel_rfl) (by kernel_rfl) (by kernel_rfl) hc ?_
            refine mreg_run [.sure, .sure, .plain] 24 [(0, [], Value.slice l_.ptr l_.len l_.cap), (3, [], Value.int .i64 i), (33, [], Value.bool (decide (v25 ≥ v30)))] (by kernel_rfl) (by kernel_rfl) ?_
            refine mreg_end [(0, Value.slice l_.ptr l_.len l_.cap), (3, Value.int .i64 i), (33, Value.bool (decide (v25 ≥ v30)))] (by kernel_rfl) (by kernel_rfl) (by kernel_rfl) ?_
            exact ⟨[(0, Value.slice l_.ptr l_.len l_.cap), (3, Value.int .i64 i), (33, Value.bool (decide (v25 ≥ v30)))], Sub.mk (by kernel_rfl), (decide (v25 ≥ v30)), rfl, h⟩
          · replace h := h.2 hb
            refine mreg_run [] 13 [(0, [], Value.slice l_.ptr l_.len l_.cap), (3, [], Value.int .i64 i), (16, [], Value.bool false), (19, [], Value.bool false), (20, [], undef), (22, [], undef)] (by kernel_rfl) (by kernel_rfl) ?_
            refine mreg_run [.skip, .skip, .skip, .skip, .skip, .skip, .skip, .skip, .skip, .sure, .plain] 24 [(0, [], Value.slice l_.ptr l_.len l_.cap), (3, [], Value.int .i64 i), (33, [], Value.bool false)] (by kernel_rfl) (by kernel_rfl) ?_
            refine mreg_end [(0, Value.slice l_.ptr l_.len l_.cap), (3, Value.int .i64 i), (33, Value.bool false)] (by kernel_rfl) (by kernel_rfl) (by kernel_rfl) ?_
            exact ⟨[(0, Value.slice l_.ptr l_.len l_.cap), (3, Value.int .i64 i), (33, Value.bool false)], Sub.mk (by kernel_rfl), false, rfl, h⟩
      · rintro _ w2 ⟨t33, rfl, h⟩
        unfold F_towpathref08_Check_k1 at h
        refine wpE_cond (o := (Operand.tmp 33)) (b := t33) (x := c_towpathref08_Check_22) (y := c_towpathref08_Check_26) (by kernel_rfl) (by kernel_rfl) (fun hb => ?_) (fun hb => ?_)
        · replace h := h.1 hb
          refine wpE_seq (x := c_towpathref08_Check_23) (y := c_towpathref08_Check_25) (by kernel_rfl) ?_
          refine wpE_region (id := 5) (ops := r_towpathref08_Check_23) (by kernel_rfl) ?_
          refine reg_run [.plain] 1 [(2, [], Value.int .i64 1)] (by kernel_rfl) (by kernel_rfl) ?_
          refine reg_end [(2, Value.int .i64 1)] (by kernel_rfl) (by kernel_rfl) ?_
          change WpE _ _ c_towpathref08_Check_25 _ _ _
          refine wpE_ret (by kernel_rfl) ?_
          repeat (first | refine seqQ_ret ?_ | refine blockQ_ret ?_ | refine loopQ_ret ?_ | refine cutQ_ret ?_)
          exact retS (rs := [(Go.ResultVar.tmp 2)]) (v := Value.int .i64 1) (by kernel_rfl) (⟨by kernel_rfl, trivial⟩) ⟨1, rfl, h⟩
        · replace h := h.2 hb
          refine wpE_skip (by kernel_rfl) ?_
          change WpE _ _ c_towpathref08_Check_27 _ _ _
          refine wpE_region (id := 3) (ops := r_towpathref08_Check_27) (by kernel_rfl) ?_
          refine reg_run [.plain, .plain, .plain] 3 [(0, [], Value.slice l_.ptr l_.len l_.cap), (3, [], Value.int .i64 (IntKind.i64.wrap (i + 1)))] (by kernel_rfl) (by kernel_rfl) ?_
          refine reg_end [(0, Value.slice l_.ptr l_.len l_.cap), (3, Value.int .i64 (IntKind.i64.wrap (i + 1)))] (by kernel_rfl) (by kernel_rfl) ?_
          have hb_ := again__h _ _ h
          exact ⟨_, hb_.2, [(0, Value.slice l_.ptr l_.len l_.cap), (3, Value.int .i64 (IntKind.i64.wrap (i + 1)))], Sub.mk (by kernel_rfl), (IntKind.i64.wrap (i + 1)), rfl, hb_.1, rfl⟩
    · replace h := h.2 hb
      refine wpE_exit (id := 0) (by kernel_rfl) ?_
      change WpE _ _ c_towpathref08_Check_29 _ _ _
      refine wpE_seq (x := c_towpathref08_Check_30) (y := c_towpathref08_Check_32) (by kernel_rfl) ?_
      refine wpE_region (id := 6) (ops := r_towpathref08_Check_30) (by kernel_rfl) ?_
      refine reg_run [.plain] 1 [(2, [], Value.int .i64 0)] (by kernel_rfl) (by kernel_rfl) ?_
      refine reg_end [(2, Value.int .i64 0)] (by kernel_rfl) (by kernel_rfl) ?_
      change WpE _ _ c_towpathref08_Check_32 _ _ _
      refine wpE_ret (by kernel_rfl) ?_
      repeat (first | refine seqQ_ret ?_ | refine blockQ_ret ?_ | refine loopQ_ret ?_ | refine cutQ_ret ?_)
      exact retS (rs := [(Go.ResultVar.tmp 2)]) (v := Value.int .i64 0) (by kernel_rfl) (⟨by kernel_rfl, trivial⟩) ⟨0, rfl, h⟩
  · rintro e w' ⟨v, rfl, r0, rfl, h⟩; exact ⟨r0, rfl, h⟩

/-! ### towpath/towpathref08.May (function 66) -/
noncomputable def c_towpathref08_May_0 : Code := (Tryd.f66.body).getD Code.skip
noncomputable def c_towpathref08_May_1 : Code := Code.l c_towpathref08_May_0
noncomputable def r_towpathref08_May_1 : Array Oper := Code.ops c_towpathref08_May_1
noncomputable def c_towpathref08_May_3 : Code := Code.r c_towpathref08_May_0
noncomputable def c_towpathref08_May_4 : Code := Code.l c_towpathref08_May_3
noncomputable def r_towpathref08_May_4 : Array Oper := Code.ops c_towpathref08_May_4
noncomputable def c_towpathref08_May_6 : Code := Code.r c_towpathref08_May_3

set_option maxRecDepth 100000 in
set_option maxHeartbeats 4000000 in
theorem S_towpathref08_May {v : T_api_Version} {w : World} {R : Bool → World → Prop} (h : F_towpathref08_May v R w) : C_towpathref08_May v w R := by
  unfold F_towpathref08_May at h
  unfold C_towpathref08_May
  refine Calls.mono (calls_of_wpE (args := [Value.agg #[Value.int .i64 v.Number, Value.string v.Val, Value.bool v.Drop]]) (R := fun v w' => ∃ (r0 : Bool), v = Value.bool r0 ∧ R r0 w') Tryd.func66 (c := c_towpathref08_May_0) (by kernel_rfl) 28 (by kernel_rfl) (by kernel_rfl) [(0, Value.agg #[Value.int .i64 v.Number, Value.string v.Val, Value.bool v.Drop])] (by kernel_rfl) ?_) ?_
  · refine wpE_seq (x := c_towpathref08_May_1) (y := c_towpathref08_May_3) (by kernel_rfl) ?_
    refine wpE_region (id := 0) (ops := r_towpathref08_May_1) (by kernel_rfl) ?_
    refine reg_run [] 0 [(0, [], Value.agg #[Value.int .i64 v.Number, Value.string v.Val, Value.bool v.Drop])] (by kernel_rfl) (by kernel_rfl) ?_
    refine reg_new (op := (Go.Op.box 27 (Go.Operand.tmp 0))) (ty := 0) (dst := some 1) (fun bb => Value.pointer (some ⟨bb, 0, none⟩)) (Obj.cells ([Value.int .i64 v.Number, Value.string v.Val, Value.bool v.Drop]).toArray ty_api_Version (0, 0)) (by kernel_rfl) (by kernel_rfl) (fun b_ w1 hb hw => ?_)
    replace h := h b_ w1 hb hw
    clear hb hw
    refine reg_run [.plain] 2 [(1, [], Value.pointer (some ⟨b_, 0, none⟩))] (by kernel_rfl) (by kernel_rfl) ?_
    refine reg_end [(1, Value.pointer (some ⟨b_, 0, none⟩))] (by kernel_rfl) (by kernel_rfl) ?_
    change WpE _ _ c_towpathref08_May_3 _ _ _
    refine wpE_seq (x := c_towpathref08_May_4) (y := c_towpathref08_May_6) (by kernel_rfl) ?_
    refine wpE_region (id := 1) (ops := r_towpathref08_May_4) (by kernel_rfl) ?_
    refine reg_run [.plain] 1 [(1, [], Value.pointer (some ⟨b_, 0, none⟩)), (3, [], Value.pointer (some ⟨b_, 0, none⟩))] (by kernel_rfl) (by kernel_rfl) ?_
    obtain ⟨v4, hc, h⟩ := h
    refine reg_load1 (t := 3) (a := (Go.Operand.tmp 3)) (b := b_) (o := 0) (ty := 3) (dst := some 4) (by kernel_rfl) (by kernel_rfl) (by kernel_rfl) hc ?_
    refine reg_run [.plain, .plain, .plain] 5 [(1, [], Value.pointer (some ⟨b_, 0, none⟩)), (6, [], Value.bool (decide (v4 ≥ 1))), (7, [(6, true)], Value.pointer (some ⟨b_, 0, none⟩))] (by kernel_rfl) (by kernel_rfl) ?_
    refine reg_split 6 (decide (v4 ≥ 1)) (by kernel_rfl) (fun hb => ?_) (fun hb => ?_)
    · replace h := h.1 hb
      refine reg_run [] 5 [(1, [], Value.pointer (some ⟨b_, 0, none⟩)), (6, [], Value.bool true), (7, [], Value.pointer (some ⟨b_, 0, none⟩))] (by kernel_rfl) (by kernel_rfl) ?_
      refine reg_run [] 5 [(1, [], Value.pointer (some ⟨b_, 0, none⟩)), (6, [], Value.bool true), (7, [], Value.pointer (some ⟨b_, 0, none⟩))] (by kernel_rfl) (by kernel_rfl) ?_
      obtain ⟨v8, hc, h⟩ := h
      refine reg_load1 (t := 3) (a := (Go.Operand.tmp 7)) (b := b_) (o := 0) (ty := 3) (dst := some 8) (by kernel_rfl) (by kernel_rfl) (by kernel_rfl) hc ?_
      refine reg_run [.sure, .plain, .plain, .plain] 10 [(1, [], Value.pointer (some ⟨b_, 0, none⟩)), (11, [], Value.bool (decide (v8 ≤ 65536))), (12, [(11, true)], Value.pointer (some ⟨b_, 1, none⟩))] (by kernel_rfl) (by kernel_rfl) ?_
      refine reg_split 11 (decide (v8 ≤ 65536)) (by kernel_rfl) (fun hb => ?_) (fun hb => ?_)
      · replace h := h.1 hb
        refine reg_run [] 10 [(1, [], Value.pointer (some ⟨b_, 0, none⟩)), (11, [], Value.bool true), (12, [], Value.pointer (some ⟨b_, 1, none⟩))] (by kernel_rfl) (by kernel_rfl) ?_
        refine reg_run [] 10 [(1, [], Value.pointer (some ⟨b_, 0, none⟩)), (11, [], Value.bool true), (12, [], Value.pointer (some ⟨b_, 1, none⟩))] (by kernel_rfl) (by kernel_rfl) ?_
        obtain ⟨v13, hc, h⟩ := h
        refine reg_load1 (t := 9) (a := (Go.Operand.tmp 12)) (b := b_) (o := 1) (ty := 9) (dst := some 13) (by kernel_rfl) (by kernel_rfl) (by kernel_rfl) hc ?_
        refine reg_run [.sure, .sure, .plain, .plain, .plain] 16 [(1, [], Value.pointer (some ⟨b_, 0, none⟩)), (17, [], Value.bool (decide (((v13.size : Nat) : Int) ≤ 1024))), (18, [(17, true)], Value.pointer (some ⟨b_, 2, none⟩))] (by kernel_rfl) (by kernel_rfl) ?_
        refine reg_split 17 (decide (((v13.size : Nat) : Int) ≤ 1024)) (by kernel_rfl) (fun hb => ?_) (fun hb => ?_)
        · replace h := h.1 hb
          refine reg_run [] 16 [(1, [], Value.pointer (some ⟨b_, 0, none⟩)), (17, [], Value.bool true), (18, [], Value.pointer (some ⟨b_, 2, none⟩))] (by kernel_rfl) (by kernel_rfl) ?_
          refine reg_run [] 16 [(1, [], Value.pointer (some ⟨b_, 0, none⟩)), (17, [], Value.bool true), (18, [], Value.pointer (some ⟨b_, 2, none⟩))] (by kernel_rfl) (by kernel_rfl) ?_
          obtain ⟨v19, hc, h⟩ := h
          refine reg_load1 (t := 4) (a := (Go.Operand.tmp 18)) (b := b_) (o := 2) (ty := 4) (dst := some 19) (by kernel_rfl) (by kernel_rfl) (by kernel_rfl) hc ?_
          refine reg_run [.sure, .sure, .plain] 20 [(17, [], Value.bool true), (21, [], Value.bool (!v19)), (22, [(21, false)], Value.pointer (some ⟨b_, 1, none⟩))] (by kernel_rfl) (by kernel_rfl) ?_
          refine reg_split 21 (!v19) (by kernel_rfl) (fun hb => ?_) (fun hb => ?_)
          · replace h := h.1 hb
            refine reg_run [] 20 [(17, [], Value.bool true), (21, [], Value.bool true), (22, [], undef)] (by kernel_rfl) (by kernel_rfl) ?_
            refine reg_run [.skip, .skip, .skip, .sure, .plain, .plain] 26 [(2, [], Value.bool true)] (by kernel_rfl) (by kernel_rfl) ?_
            refine reg_end [(2, Value.bool true)] (by kernel_rfl) (by kernel_rfl) ?_
            change WpE _ _ c_towpathref08_May_6 _ _ _
            refine wpE_ret (by kernel_rfl) ?_
            repeat (first | refine seqQ_ret ?_ | refine blockQ_ret ?_ | refine loopQ_ret ?_ | refine cutQ_ret ?_)
            exact retS (rs := [(Go.ResultVar.tmp 2)]) (v := Value.bool true) (by kernel_rfl) (⟨by kernel_rfl, trivial⟩) ⟨true, rfl, h⟩
          · replace h := h.2 hb
            refine reg_run [] 20 [(17, [], Value.bool true), (21, [], Value.bool false), (22, [], Value.pointer (some ⟨b_, 1, none⟩))] (by kernel_rfl) (by kernel_rfl) ?_
            refine reg_run [] 20 [(17, [], Value.bool true), (21, [], Value.bool false), (22, [], Value.pointer (some ⟨b_, 1, none⟩))] (by kernel_rfl) (by kernel_rfl) ?_
            obtain ⟨v23, hc, h⟩ := h
            refine reg_load1 (t := 9) (a := (Go.Operand.tmp 22)) (b := b_) (o := 1) (ty := 9) (dst := some 23) (by kernel_rfl) (by kernel_rfl) (by kernel_rfl) hc ?_
            refine reg_run [.sure, .sure, .sure, .plain, .plain] 26 [(2, [], Value.bool (((v23.size : Nat) : Int) == 0))] (by kernel_rfl) (by kernel_rfl) ?_
            refine reg_end [(2, Value.bool (((v23.size : Nat) : Int) == 0))] (by kernel_rfl) (by kernel_rfl) ?_
            change WpE _ _ c_towpathref08_May_6 _ _ _
            refine wpE_ret (by kernel_rfl) ?_
            repeat (first | refine seqQ_ret ?_ | refine blockQ_ret ?_ | refine loopQ_ret ?_ | refine cutQ_ret ?_)
            exact retS (rs := [(Go.ResultVar.tmp 2)]) (v := Value.bool (((v23.size : Nat) : Int) == 0)) (by kernel_rfl) (⟨by kernel_rfl, trivial⟩) ⟨(((v23.size : Nat) : Int) == 0), rfl, h⟩
        · replace h := h.2 hb
          refine reg_run [] 16 [(1, [], Value.pointer (some ⟨b_, 0, none⟩)), (17, [], Value.bool false), (18, [], undef)] (by kernel_rfl) (by kernel_rfl) ?_
          refine reg_run [.skip, .skip, .skip, .skip, .skip, .skip, .skip, .skip, .plain, .plain] 26 [(2, [], Value.bool false)] (by kernel_rfl) (by kernel_rfl) ?_
          refine reg_end [(2, Value.bool false)] (by kernel_rfl) (by kernel_rfl) ?_
          change WpE _ _ c_towpathref08_May_6 _ _ _
          refine wpE_ret (by kernel_rfl) ?_
          repeat (first | refine seqQ_ret ?_ | refine blockQ_ret ?_ | refine loopQ_ret ?_ | refine cutQ_ret ?_)
          exact retS (rs := [(Go.ResultVar.tmp 2)]) (v := Value.bool false) (by kernel_rfl) (⟨by kernel_rfl, trivial⟩) ⟨false, rfl, h⟩
      · replace h := h.2 hb
        refine reg_run [] 10 [(1, [], Value.pointer (some ⟨b_, 0, none⟩)), (11, [], Value.bool false), (12, [], undef)] (by kernel_rfl) (by kernel_rfl) ?_
        refine reg_run [.skip, .skip, .skip, .plain, .plain, .skip, .skip, .skip, .skip, .skip, .skip, .skip, .skip, .skip, .plain, .plain] 26 [(2, [], Value.bool false)] (by kernel_rfl) (by kernel_rfl) ?_
        refine reg_end [(2, Value.bool false)] (by kernel_rfl) (by kernel_rfl) ?_
        change WpE _ _ c_towpathref08_May_6 _ _ _
        refine wpE_ret (by kernel_rfl) ?_
        repeat (first | refine seqQ_ret ?_ | refine blockQ_ret ?_ | refine loopQ_ret ?_ | refine cutQ_ret ?_)
        exact retS (rs := [(Go.ResultVar.tmp 2)]) (v := Value.bool false) (by kernel_rfl) (⟨by kernel_rfl, trivial⟩) ⟨false, rfl, h⟩
    · replace h := h.2 hb
      refine reg_run [] 5 [(1, [], Value.pointer (some ⟨b_, 0, none⟩)), (6, [], Value.bool false), (7, [], undef)] (by kernel_rfl) (by kernel_rfl) ?_
      refine reg_run [.skip, .skip, .plain, .plain, .skip, .skip, .skip, .skip, .plain, .plain, .skip, .skip, .skip, .skip, .skip, .skip, .skip, .skip, .skip, .plain, .plain] 26 [(2, [], Value.bool false)] (by kernel_rfl) (by kernel_rfl) ?_
      refine reg_end [(2, Value.bool false)] (by kernel_rfl) (by kernel_rfl) ?_
      change WpE _ _ c_towpathref08_May_6 _ _ _
      refine wpE_ret (by kernel_rfl) ?_
      repeat (first | refine seqQ_ret ?_ | refine blockQ_ret ?_ | refine loopQ_ret ?_ | refine cutQ_ret ?_)
      exact retS (rs := [(Go.ResultVar.tmp 2)]) (v := Value.bool false) (by kernel_rfl) (⟨by kernel_rfl, trivial⟩) ⟨false, rfl, h⟩
  · rintro e w' ⟨v, rfl, r0, rfl, h⟩; exact ⟨r0, rfl, h⟩
end Go.Proofs.YtcgfmkpddhhmgaaDoor
