/- WRITTEN BY PROGRAM (dec.py): for each Go function the clean formula F, the call's contract C, and the proof S that F gives C. -/
import Derived.Test.YtfmkemmgakdddaaRows
import Derived.Test.YtfmkemmgakdddaaGF
namespace Go.Proofs.Ytfmkemmgakdddaa
open Go
set_option linter.unusedVariables false

/-! ### towpath/towpathref07.Counting (function 85) -/
noncomputable def c_towpathref07_Counting_0 : Code := (Try.f85.body).getD Code.skip
noncomputable def c_towpathref07_Counting_1 : Code := Code.l c_towpathref07_Counting_0
noncomputable def r_towpathref07_Counting_1 : Array Oper := Code.ops c_towpathref07_Counting_1
noncomputable def c_towpathref07_Counting_3 : Code := Code.r c_towpathref07_Counting_0
noncomputable def c_towpathref07_Counting_4 : Code := Code.l c_towpathref07_Counting_3
noncomputable def r_towpathref07_Counting_4 : Array Oper := Code.ops c_towpathref07_Counting_4
noncomputable def c_towpathref07_Counting_6 : Code := Code.r c_towpathref07_Counting_3
noncomputable def c_towpathref07_Counting_7 : Code := Code.l c_towpathref07_Counting_6
noncomputable def c_towpathref07_Counting_8 : Code := Code.l c_towpathref07_Counting_7
noncomputable def r_towpathref07_Counting_8 : Array Oper := Code.ops c_towpathref07_Counting_8
noncomputable def c_towpathref07_Counting_10 : Code := Code.r c_towpathref07_Counting_7
noncomputable def c_towpathref07_Counting_11 : Code := Code.l c_towpathref07_Counting_10
noncomputable def c_towpathref07_Counting_12 : Code := Code.l c_towpathref07_Counting_11
noncomputable def c_towpathref07_Counting_13 : Code := Code.l c_towpathref07_Counting_12
noncomputable def c_towpathref07_Counting_14 : Code := Code.l c_towpathref07_Counting_13
noncomputable def r_towpathref07_Counting_14 : Array Oper := Code.ops c_towpathref07_Counting_14
noncomputable def c_towpathref07_Counting_16 : Code := Code.r c_towpathref07_Counting_13
noncomputable def c_towpathref07_Counting_17 : Code := Code.l c_towpathref07_Counting_16
noncomputable def c_towpathref07_Counting_18 : Code := Code.r c_towpathref07_Counting_16
noncomputable def c_towpathref07_Counting_19 : Code := Code.r c_towpathref07_Counting_12
noncomputable def c_towpathref07_Counting_20 : Code := Code.l c_towpathref07_Counting_19
noncomputable def c_towpathref07_Counting_21 : Code := Code.l c_towpathref07_Counting_20
noncomputable def c_towpathref07_Counting_22 : Code := Code.l c_towpathref07_Counting_21
noncomputable def r_towpathref07_Counting_22 : Array Oper := Code.ops c_towpathref07_Counting_22
noncomputable def c_towpathref07_Counting_24 : Code := Code.r c_towpathref07_Counting_21
noncomputable def c_towpathref07_Counting_25 : Code := Code.l c_towpathref07_Counting_24
noncomputable def c_towpathref07_Counting_26 : Code := Code.l c_towpathref07_Counting_25
noncomputable def r_towpathref07_Counting_26 : Array Oper := Code.ops c_towpathref07_Counting_26
noncomputable def c_towpathref07_Counting_28 : Code := Code.r c_towpathref07_Counting_25
noncomputable def c_towpathref07_Counting_29 : Code := Code.l c_towpathref07_Counting_28
noncomputable def c_towpathref07_Counting_30 : Code := Code.l c_towpathref07_Counting_29
noncomputable def c_towpathref07_Counting_31 : Code := Code.l c_towpathref07_Counting_30
noncomputable def c_towpathref07_Counting_32 : Code := Code.l c_towpathref07_Counting_31
noncomputable def r_towpathref07_Counting_32 : Array Oper := Code.ops c_towpathref07_Counting_32
noncomputable def c_towpathref07_Counting_34 : Code := Code.r c_towpathref07_Counting_31
noncomputable def c_towpathref07_Counting_35 : Code := Code.l c_towpathref07_Counting_34
noncomputable def c_towpathref07_Counting_36 : Code := Code.r c_towpathref07_Counting_34
noncomputable def c_towpathref07_Counting_37 : Code := Code.r c_towpathref07_Counting_30
noncomputable def c_towpathref07_Counting_38 : Code := Code.l c_towpathref07_Counting_37
noncomputable def c_towpathref07_Counting_39 : Code := Code.l c_towpathref07_Counting_38
noncomputable def r_towpathref07_Counting_39 : Array Oper := Code.ops c_towpathref07_Counting_39
noncomputable def c_towpathref07_Counting_41 : Code := Code.r c_towpathref07_Counting_37
noncomputable def r_towpathref07_Counting_41 : Array Oper := Code.ops c_towpathref07_Counting_41
noncomputable def c_towpathref07_Counting_43 : Code := Code.r c_towpathref07_Counting_24
noncomputable def c_towpathref07_Counting_44 : Code := Code.l c_towpathref07_Counting_43
noncomputable def r_towpathref07_Counting_44 : Array Oper := Code.ops c_towpathref07_Counting_44
noncomputable def c_towpathref07_Counting_46 : Code := Code.r c_towpathref07_Counting_43
noncomputable def c_towpathref07_Counting_47 : Code := Code.l c_towpathref07_Counting_46
noncomputable def r_towpathref07_Counting_47 : Array Oper := Code.ops c_towpathref07_Counting_47
noncomputable def c_towpathref07_Counting_49 : Code := Code.r c_towpathref07_Counting_46
noncomputable def c_towpathref07_Counting_50 : Code := Code.r c_towpathref07_Counting_19
noncomputable def r_towpathref07_Counting_50 : Array Oper := Code.ops c_towpathref07_Counting_50
noncomputable def c_towpathref07_Counting_52 : Code := Code.r c_towpathref07_Counting_6
noncomputable def c_towpathref07_Counting_53 : Code := Code.l c_towpathref07_Counting_52
noncomputable def r_towpathref07_Counting_53 : Array Oper := Code.ops c_towpathref07_Counting_53
noncomputable def c_towpathref07_Counting_55 : Code := Code.r c_towpathref07_Counting_52

set_option maxRecDepth 100000 in
set_option maxHeartbeats 4000000 in
theorem S_towpathref07_Counting {t_ : T_api_Txn} {w : World} {R : Slc → World → Prop} (h : F_towpathref07_Counting t_ R w) : C_towpathref07_Counting t_ w R := by
  unfold F_towpathref07_Counting at h
  unfold C_towpathref07_Counting
  refine Calls.mono (calls_of_wpE (args := [Value.agg #[Value.int .i64 t_.Number, Value.slice t_.Writes.ptr t_.Writes.len t_.Writes.cap]]) (R := fun v w' => ∃ (r0 : Slc), v = Value.slice r0.ptr r0.len r0.cap ∧ R r0 w') Try.func85 (c := c_towpathref07_Counting_0) (by kernel_rfl) 49 (by kernel_rfl) (by kernel_rfl) [(0, Value.agg #[Value.int .i64 t_.Number, Value.slice t_.Writes.ptr t_.Writes.len t_.Writes.cap])] (by kernel_rfl) ?_) ?_
  · refine wpE_seq (x := c_towpathref07_Counting_1) (y := c_towpathref07_Counting_3) (by kernel_rfl) ?_
    refine wpE_region (id := 0) (ops := r_towpathref07_Counting_1) (by kernel_rfl) ?_
    refine reg_run [] 0 [(0, [], Value.agg #[Value.int .i64 t_.Number, Value.slice t_.Writes.ptr t_.Writes.len t_.Writes.cap])] (by kernel_rfl) (by kernel_rfl) ?_
    refine reg_new (op := (Go.Op.box 27 (Go.Operand.tmp 0))) (ty := 0) (dst := some 1) (fun bb => Value.pointer (some ⟨bb, 0, none⟩)) (Obj.cells ([Value.int .i64 t_.Number, Value.slice t_.Writes.ptr t_.Writes.len t_.Writes.cap]).toArray ty_api_Txn (0, 0)) (by kernel_rfl) (by kernel_rfl) (fun b_ w1 hb hw => ?_)
    replace h := h b_ w1 hb hw
    clear hb hw
    refine reg_run [.plain] 2 [(1, [], Value.pointer (some ⟨b_, 0, none⟩))] (by kernel_rfl) (by kernel_rfl) ?_
    refine reg_end [(1, Value.pointer (some ⟨b_, 0, none⟩))] (by kernel_rfl) (by kernel_rfl) ?_
    change WpE _ _ c_towpathref07_Counting_3 _ _ _
    refine wpE_seq (x := c_towpathref07_Counting_4) (y := c_towpathref07_Counting_6) (by kernel_rfl) ?_
    refine wpE_region (id := 1) (ops := r_towpathref07_Counting_4) (by kernel_rfl) ?_
    refine reg_run [.plain] 1 [(1, [], Value.pointer (some ⟨b_, 0, none⟩)), (3, [], Value.slice none 0 0)] (by kernel_rfl) (by kernel_rfl) ?_
    refine reg_end [(1, Value.pointer (some ⟨b_, 0, none⟩)), (3, Value.slice none 0 0)] (by kernel_rfl) (by kernel_rfl) ?_
    change WpE _ _ c_towpathref07_Counting_6 _ _ _
    refine wpE_seq (x := c_towpathref07_Counting_7) (y := c_towpathref07_Counting_52) (by kernel_rfl) ?_
    refine wpE_seq (x := c_towpathref07_Counting_8) (y := c_towpathref07_Counting_10) (by kernel_rfl) ?_
    refine wpE_region (id := 2) (ops := r_towpathref07_Counting_8) (by kernel_rfl) ?_
    refine reg_run [.plain] 1 [(1, [], Value.pointer (some ⟨b_, 0, none⟩)), (3, [], Value.slice none 0 0), (4, [], Value.int .i64 0)] (by kernel_rfl) (by kernel_rfl) ?_
    refine reg_end [(1, Value.pointer (some ⟨b_, 0, none⟩)), (3, Value.slice none 0 0), (4, Value.int .i64 0)] (by kernel_rfl) (by kernel_rfl) ?_
    change WpE _ _ c_towpathref07_Counting_10 _ _ _
    refine wpE_block (id := 0) (x := c_towpathref07_Counting_11) (by kernel_rfl) ?_
    obtain ⟨I, μ, h0, hr⟩ := h
    refine wpE_loop (x := c_towpathref07_Counting_12) (by kernel_rfl) (fun m l w => ∃ (out : Slc) (i : Int), l = [(1, Value.pointer (some ⟨b_, 0, none⟩)), (3, Value.slice out.ptr out.len out.cap), (4, Value.int .i64 i)] ∧ I out i w ∧ μ out i w = m) (l' := [(1, Value.pointer (some ⟨b_, 0, none⟩)), (3, Value.slice none 0 0), (4, Value.int .i64 0)]) (Sub.mk (by kernel_rfl)) ⟨(Slc.mk none 0 0), 0, rfl, h0, rfl⟩ ?_
    rintro _ _ w2 ⟨out, i, rfl, hI, rfl⟩
    obtain ⟨again_, again__h, h⟩ : ∃ again_ : Slc → Int → World → Prop, (∀ out' i' w', again_ out' i' w' → I out' i' w' ∧ μ out' i' w' < μ out i w2) ∧ F_towpathref07_Counting_L0 R b_ again_ out i w2 := ⟨_, fun _ _ _ h => h, hr out i w2 hI⟩
    clear h0 hI
    unfold F_towpathref07_Counting_L0 at h
    refine wpE_seq (x := c_towpathref07_Counting_13) (y := c_towpathref07_Counting_19) (by kernel_rfl) ?_
    refine wpE_seq (x := c_towpathref07_Counting_14) (y := c_towpathref07_Counting_16) (by kernel_rfl) ?_
    refine wpE_region (id := 3) (ops := r_towpathref07_Counting_14) (by kernel_rfl) ?_
    refine reg_run [.plain, .plain] 2 [(1, [], Value.pointer (some ⟨b_, 0, none⟩)), (3, [], Value.slice out.ptr out.len out.cap), (4, [], Value.int .i64 i), (7, [], Value.int .i64 i), (8, [], Value.pointer (some ⟨b_, 1, none⟩))] (by kernel_rfl) (by kernel_rfl) ?_
    obtain ⟨v9, hc, h⟩ := h
    refine reg_load1 (t := 25) (a := (Go.Operand.tmp 8)) (b := b_) (o := 1) (ty := 25) (dst := some 9) (by kernel_rfl) (by kernel_rfl) (by kernel_rfl) hc ?_
    refine reg_run [.plain, .plain] 5 [(1, [], Value.pointer (some ⟨b_, 0, none⟩)), (3, [], Value.slice out.ptr out.len out.cap), (4, [], Value.int .i64 i), (11, [], Value.bool (decide (i < ((v9.len : Nat) : Int))))] (by kernel_rfl) (by kernel_rfl) ?_
    refine reg_end [(1, Value.pointer (some ⟨b_, 0, none⟩)), (3, Value.slice out.ptr out.len out.cap), (4, Value.int .i64 i), (11, Value.bool (decide (i < ((v9.len : Nat) : Int))))] (by kernel_rfl) (by kernel_rfl) ?_
    change WpE _ _ c_towpathref07_Counting_16 _ _ _
    refine wpE_cond (o := (Operand.tmp 11)) (b := (decide (i < ((v9.len : Nat) : Int)))) (x := c_towpathref07_Counting_17) (y := c_towpathref07_Counting_18) (by kernel_rfl) (by kernel_rfl) (fun hb => ?_) (fun hb => ?_)
    · replace h := h.1 hb
      refine wpE_skip (by kernel_rfl) ?_
      change WpE _ _ c_towpathref07_Counting_19 _ _ _
      refine wpE_seq_cut (x := c_towpathref07_Counting_20) (y := c_towpathref07_Counting_50) (by kernel_rfl) (fun l w => ∃ (out1 : Slc), l = [(1, Value.pointer (some ⟨b_, 0, none⟩)), (3, Value.slice out1.ptr out1.len out1.cap), (4, Value.int .i64 i)] ∧ F_towpathref07_Counting_k1 i again_ out1 w) ?_ ?_
      · refine wpE_block (id := 1) (x := c_towpathref07_Counting_21) (by kernel_rfl) ?_
        refine wpE_seq (x := c_towpathref07_Counting_22) (y := c_towpathref07_Counting_24) (by kernel_rfl) ?_
        refine wpE_region (id := 5) (ops := r_towpathref07_Counting_22) (by kernel_rfl) ?_
        refine reg_run [.plain] 1 [(1, [], Value.pointer (some ⟨b_, 0, none⟩)), (3, [], Value.slice out.ptr out.len out.cap), (4, [], Value.int .i64 i), (5, [], Value.bool true)] (by kernel_rfl) (by kernel_rfl) ?_
        refine reg_end [(1, Value.pointer (some ⟨b_, 0, none⟩)), (3, Value.slice out.ptr out.len out.cap), (4, Value.int .i64 i), (5, Value.bool true)] (by kernel_rfl) (by kernel_rfl) ?_
        change WpE _ _ c_towpathref07_Counting_24 _ _ _
        refine wpE_seq (x := c_towpathref07_Counting_25) (y := c_towpathref07_Counting_43) (by kernel_rfl) ?_
        refine wpE_seq (x := c_towpathref07_Counting_26) (y := c_towpathref07_Counting_28) (by kernel_rfl) ?_
        refine wpE_region (id := 6) (ops := r_towpathref07_Counting_26) (by kernel_rfl) ?_
        refine reg_run [.plain, .plain, .plain] 3 [(1, [], Value.pointer (some ⟨b_, 0, none⟩)), (3, [], Value.slice out.ptr out.len out.cap), (4, [], Value.int .i64 i), (5, [], Value.bool true), (6, [], Value.int .i64 (IntKind.i64.wrap (i + 1)))] (by kernel_rfl) (by kernel_rfl) ?_
        refine reg_end [(1, Value.pointer (some ⟨b_, 0, none⟩)), (3, Value.slice out.ptr out.len out.cap), (4, Value.int .i64 i), (5, Value.bool true), (6, Value.int .i64 (IntKind.i64.wrap (i + 1)))] (by kernel_rfl) (by kernel_rfl) ?_
        change WpE _ _ c_towpathref07_Counting_28 _ _ _
        refine wpE_block (id := 2) (x := c_towpathref07_Counting_29) (by kernel_rfl) ?_
        obtain ⟨I, μ, h0, hr⟩ := h
        refine wpE_loop (x := c_towpathref07_Counting_30) (by kernel_rfl) (fun m l w => ∃ (last : Bool) (k : Int), l = [(1, Value.pointer (some ⟨b_, 0, none⟩)), (3, Value.slice out.ptr out.len out.cap), (4, Value.int .i64 i), (5, Value.bool last), (6, Value.int .i64 k)] ∧ I last k w ∧ μ last k w = m) (l' := [(1, Value.pointer (some ⟨b_, 0, none⟩)), (3, Value.slice out.ptr out.len out.cap), (4, Value.int .i64 i), (5, Value.bool true), (6, Value.int .i64 (IntKind.i64.wrap (i + 1)))]) (Sub.mk (by kernel_rfl)) ⟨true, (IntKind.i64.wrap (i + 1)), rfl, h0, rfl⟩ ?_
        rintro _ _ w4 ⟨last, k, rfl, hI, rfl⟩
        obtain ⟨again_1, again_1_h, h⟩ : ∃ again_1 : Bool → Int → World → Prop, (∀ last' k' w', again_1 last' k' w' → I last' k' w' ∧ μ last' k' w' < μ last k w4) ∧ F_towpathref07_Counting_L2 b_ out i again_ again_1 last k w4 := ⟨_, fun _ _ _ h => h, hr last k w4 hI⟩
        clear h0 hI
        unfold F_towpathref07_Counting_L2 at h
        refine wpE_seq (x := c_towpathref07_Counting_31) (y := c_towpathref07_Counting_37) (by kernel_rfl) ?_
        refine wpE_seq (x := c_towpathref07_Counting_32) (y := c_towpathref07_Counting_34) (by kernel_rfl) ?_
        refine wpE_region (id := 7) (ops := r_towpathref07_Counting_32) (by kernel_rfl) ?_
        refine reg_run [.plain, .plain] 2 [(1, [], Value.pointer (some ⟨b_, 0, none⟩)), (3, [], Value.slice out.ptr out.len out.cap), (4, [], Value.int .i64 i), (5, [], Value.bool last), (6, [], Value.int .i64 k), (16, [], Value.int .i64 k), (17, [], Value.pointer (some ⟨b_, 1, none⟩))] (by kernel_rfl) (by kernel_rfl) ?_
        obtain ⟨v18, hc, h⟩ := h
        refine reg_load1 (t := 25) (a := (Go.Operand.tmp 17)) (b := b_) (o := 1) (ty := 25) (dst := some 18) (by kernel_rfl) (by kernel_rfl) (by kernel_rfl) hc ?_
        refine reg_run [.plain, .plain] 5 [(1, [], Value.pointer (some ⟨b_, 0, none⟩)), (3, [], Value.slice out.ptr out.len out.cap), (4, [], Value.int .i64 i), (5, [], Value.bool last), (6, [], Value.int .i64 k), (20, [], Value.bool (decide (k < ((v18.len : Nat) : Int))))] (by kernel_rfl) (by kernel_rfl) ?_
        refine reg_end [(1, Value.pointer (some ⟨b_, 0, none⟩)), (3, Value.slice out.ptr out.len out.cap), (4, Value.int .i64 i), (5, Value.bool last), (6, Value.int .i64 k), (20, Value.bool (decide (k < ((v18.len : Nat) : Int))))] (by kernel_rfl) (by kernel_rfl) ?_
        change WpE _ _ c_towpathref07_Counting_34 _ _ _
        refine wpE_cond (o := (Operand.tmp 20)) (b := (decide (k < ((v18.len : Nat) : Int)))) (x := c_towpathref07_Counting_35) (y := c_towpathref07_Counting_36) (by kernel_rfl) (by kernel_rfl) (fun hb => ?_) (fun hb => ?_)
        · replace h := h.1 hb
          refine wpE_skip (by kernel_rfl) ?_
          change WpE _ _ c_towpathref07_Counting_37 _ _ _
          refine wpE_seq_cut (x := c_towpathref07_Counting_38) (y := c_towpathref07_Counting_41) (by kernel_rfl) (fun l w => ∃ (last1 : Bool), l = [(1, Value.pointer (some ⟨b_, 0, none⟩)), (3, Value.slice out.ptr out.len out.cap), (4, Value.int .i64 i), (5, Value.bool last1), (6, Value.int .i64 k)] ∧ F_towpathref07_Counting_k3 k again_1 last1 w) ?_ ?_
          · refine wpE_block (id := 3) (x := c_towpathref07_Counting_39) (by kernel_rfl) ?_
            refine wpE_drawregion (id := 9) (ops := r_towpathref07_Counting_39) (by kernel_rfl) (by kernel_rfl) (by kernel_rfl) ?_
            refine qreg_run [.plain, .plain, .plain] 3 [(1, [], Value.pointer (some ⟨b_, 0, none⟩)), (3, [], Value.slice out.ptr out.len out.cap), (4, [], Value.int .i64 i), (5, [], Value.bool last), (6, [], Value.int .i64 k), (24, [], Value.bool last), (25, [(24, true)], Value.pointer (some ⟨b_, 1, none⟩))] (by kernel_rfl) (by kernel_rfl) ?_
            refine qreg_split 24 last (by kernel_rfl) (fun hb => ?_) (fun hb => ?_)
            · replace h := h.1 hb
              refine qreg_run [] 3 [(1, [], Value.pointer (some ⟨b_, 0, none⟩)), (3, [], Value.slice out.ptr out.len out.cap), (4, [], Value.int .i64 i), (5, [], Value.bool last), (6, [], Value.int .i64 k), (24, [], Value.bool true), (25, [], Value.pointer (some ⟨b_, 1, none⟩))] (by kernel_rfl) (by kernel_rfl) ?_
              refine qreg_run [] 3 [(1, [], Value.pointer (some ⟨b_, 0, none⟩)), (3, [], Value.slice out.ptr out.len out.cap), (4, [], Value.int .i64 i), (5, [], Value.bool last), (6, [], Value.int .i64 k), (24, [], Value.bool true), (25, [], Value.pointer (some ⟨b_, 1, none⟩))] (by kernel_rfl) (by kernel_rfl) ?_
              obtain ⟨v26, hc, h⟩ := h
              refine qreg_load1 (t := 25) (a := (Go.Operand.tmp 25)) (b := b_) (o := 1) (ty := 25) (dst := some 26) (by kernel_rfl) (by kernel_rfl) (by kernel_rfl) hc ?_
              refine qreg_run [.sure] 5 [(1, [], Value.pointer (some ⟨b_, 0, none⟩)), (3, [], Value.slice out.ptr out.len out.cap), (4, [], Value.int .i64 i), (5, [], Value.bool last), (6, [], Value.int .i64 k), (24, [], Value.bool true), (26, [], Value.slice v26.ptr v26.len v26.cap), (27, [], Value.int .i64 k)] (by kernel_rfl) (by kernel_rfl) ?_
              obtain ⟨hp_33, h⟩ := h
              refine qreg_conv [(1, [], Value.pointer (some ⟨b_, 0, none⟩)), (3, [], Value.slice out.ptr out.len out.cap), (4, [], Value.int .i64 i), (5, [], Value.bool last), (6, [], Value.int .i64 k), (24, [], Value.bool true), (26, [], Value.slice (some ⟨(pblk v26.ptr), (poff v26.ptr), none⟩) v26.len v26.cap), (27, [], Value.int .i64 k)] (congrArg (fun pp => ([(1, [], Value.pointer (some ⟨b_, 0, none⟩)), (3, [], Value.slice out.ptr out.len out.cap), (4, [], Value.int .i64 i), (5, [], Value.bool last), (6, [], Value.int .i64 k), (24, [], Value.bool true), (26, [], Value.slice pp v26.len v26.cap), (27, [], Value.int .i64 k)] : GEnv)) hp_33) ?_
              obtain ⟨h0, h1, h⟩ := h
              refine qreg_indexS (t := 25) (e := 61) (x := (Go.Operand.tmp 26)) (ix := (Go.Operand.tmp 27)) (b := (pblk v26.ptr)) (o := (poff v26.ptr)) (l := v26.len) (c := v26.cap) (k := .i64) (j := k) (ty := 0) (dst := some 28) (sz := 3) (by kernel_rfl) (by kernel_rfl) (by kernel_rfl) (by kernel_rfl) (by kernel_rfl) h0 h1 ?_
              refine qreg_run [.sure] 7 [(1, [], Value.pointer (some ⟨b_, 0, none⟩)), (3, [], Value.slice out.ptr out.len out.cap), (4, [], Value.int .i64 i), (5, [], Value.bool last), (6, [], Value.int .i64 k), (24, [], Value.bool true), (29, [], Value.pointer (some ⟨(pblk v26.ptr), (poff v26.ptr) + k.toNat * 3, none⟩))] (by kernel_rfl) (by kernel_rfl) ?_
              obtain ⟨v30, hc, h⟩ := h
              refine qreg_load1 (t := 9) (a := (Go.Operand.tmp 29)) (b := (pblk v26.ptr)) (o := ((poff v26.ptr) + k.toNat * 3)) (ty := 9) (dst := some 30) (by kernel_rfl) (by kernel_rfl) (by kernel_rfl) hc ?_
              refine qreg_run [.sure] 9 [(1, [], Value.pointer (some ⟨b_, 0, none⟩)), (3, [], Value.slice out.ptr out.len out.cap), (4, [], Value.int .i64 i), (5, [], Value.bool last), (6, [], Value.int .i64 k), (24, [], Value.bool true), (30, [], Value.string v30), (31, [], Value.pointer (some ⟨b_, 1, none⟩))] (by kernel_rfl) (by kernel_rfl) ?_
              obtain ⟨v32, hc, h⟩ := h
              refine qreg_load1 (t := 25) (a := (Go.Operand.tmp 31)) (b := b_) (o := 1) (ty := 25) (dst := some 32) (by kernel_rfl) (by kernel_rfl) (by kernel_rfl) hc ?_
              refine qreg_run [.sure] 11 [(1, [], Value.pointer (some ⟨b_, 0, none⟩)), (3, [], Value.slice out.ptr out.len out.cap), (4, [], Value.int .i64 i), (5, [], Value.bool last), (6, [], Value.int .i64 k), (24, [], Value.bool true), (30, [], Value.string v30), (32, [], Value.slice v32.ptr v32.len v32.cap), (33, [], Value.int .i64 i)] (by kernel_rfl) (by kernel_rfl) ?_
              obtain ⟨hp_34, h⟩ := h
              refine qreg_conv [(1, [], Value.pointer (some ⟨b_, 0, none⟩)), (3, [], Value.slice out.ptr out.len out.cap), (4, [], Value.int .i64 i), (5, [], Value.bool last), (6, [], Value.int .i64 k), (24, [], Value.bool true), (30, [], Value.string v30), (32, [], Value.slice (some ⟨(pblk v32.ptr), (poff v32.ptr), none⟩) v32.len v32.cap), (33, [], Value.int .i64 i)] (congrArg (fun pp => ([(1, [], Value.pointer (some ⟨b_, 0, none⟩)), (3, [], Value.slice out.ptr out.len out.cap), (4, [], Value.int .i64 i), (5, [], Value.bool last), (6, [], Value.int .i64 k), (24, [], Value.bool true), (30, [], Value.string v30), (32, [], Value.slice pp v32.len v32.cap), (33, [], Value.int .i64 i)] : GEnv)) hp_34) ?_
              obtain ⟨h0, h1, h⟩ := h
              refine qreg_indexS (t := 25) (e := 61) (x := (Go.Operand.tmp 32)) (ix := (Go.Operand.tmp 33)) (b := (pblk v32.ptr)) (o := (poff v32.ptr)) (l := v32.len) (c := v32.cap) (k := .i64) (j := i) (ty := 0) (dst := some 34) (sz := 3) (by kernel_rfl) (by kernel_rfl) (by kernel_rfl) (by kernel_rfl) (by kernel_rfl) h0 h1 ?_
              refine qreg_run [.sure] 13 [(1, [], Value.pointer (some ⟨b_, 0, none⟩)), (3, [], Value.slice out.ptr out.len out.cap), (4, [], Value.int .i64 i), (5, [], Value.bool last), (6, [], Value.int .i64 k), (24, [], Value.bool true), (30, [], Value.string v30), (35, [], Value.pointer (some ⟨(pblk v32.ptr), (poff v32.ptr) + i.toNat * 3, none⟩))] (by kernel_rfl) (by kernel_rfl) ?_
              obtain ⟨v36, hc, h⟩ := h
              refine qreg_load1 (t := 9) (a := (Go.Operand.tmp 35)) (b := (pblk v32.ptr)) (o := ((poff v32.ptr) + i.toNat * 3)) (ty := 9) (dst := some 36) (by kernel_rfl) (by kernel_rfl) (by kernel_rfl) hc ?_
              refine qreg_run [.sure, .plain, .plain] 17 [(1, [], Value.pointer (some ⟨b_, 0, none⟩)), (3, [], Value.slice out.ptr out.len out.cap), (4, [], Value.int .i64 i), (5, [], Value.bool (!(v30.toList == v36.toList))), (6, [], Value.int .i64 k)] (by kernel_rfl) (by kernel_rfl) ?_
              refine qreg_end [(1, Value.pointer (some ⟨b_, 0, none⟩)), (3, Value.slice out.ptr out.len out.cap), (4, Value.int .i64 i), (5, Value.bool (!(v30.toList == v36.toList))), (6, Value.int .i64 k)] (by kernel_rfl) (by kernel_rfl) (fun w6 hw => ?_)
              replace h := h w6 hw
              clear hw
              exact ⟨[(1, Value.pointer (some ⟨b_, 0, none⟩)), (3, Value.slice out.ptr out.len out.cap), (4, Value.int .i64 i), (5, Value.bool (!(v30.toList == v36.toList))), (6, Value.int .i64 k)], Sub.mk (by kernel_rfl), (!(v30.toList == v36.toList)), rfl, h⟩
            · replace h := h.2 hb
              refine qreg_run [] 3 [(1, [], Value.pointer (some ⟨b_, 0, none⟩)), (3, [], Value.slice out.ptr out.len out.cap), (4, [], Value.int .i64 i), (5, [], Value.bool last), (6, [], Value.int .i64 k), (24, [], Value.bool false), (25, [], undef)] (by kernel_rfl) (by kernel_rfl) ?_
              refine qreg_run [.skip, .skip, .skip, .skip, .skip, .skip, .skip, .skip, .skip, .skip, .skip, .skip, .plain, .plain] 17 [(1, [], Value.pointer (some ⟨b_, 0, none⟩)), (3, [], Value.slice out.ptr out.len out.cap), (4, [], Value.int .i64 i), (5, [], Value.bool false), (6, [], Value.int .i64 k)] (by kernel_rfl) (by kernel_rfl) ?_
              refine qreg_end [(1, Value.pointer (some ⟨b_, 0, none⟩)), (3, Value.slice out.ptr out.len out.cap), (4, Value.int .i64 i), (5, Value.bool false), (6, Value.int .i64 k)] (by kernel_rfl) (by kernel_rfl) (fun w7 hw => ?_)
              replace h := h w7 hw
              clear hw
              exact ⟨[(1, Value.pointer (some ⟨b_, 0, none⟩)), (3, Value.slice out.ptr out.len out.cap), (4, Value.int .i64 i), (5, Value.bool false), (6, Value.int .i64 k)], Sub.mk (by kernel_rfl), false, rfl, h⟩
          · rintro _ w5 ⟨last1, rfl, h⟩
            unfold F_towpathref07_Counting_k3 at h
            refine wpE_region (id := 8) (ops := r_towpathref07_Counting_41) (by kernel_rfl) ?_
            refine reg_run [.plain, .plain, .plain] 3 [(1, [], Value.pointer (some ⟨b_, 0, none⟩)), (3, [], Value.slice out.ptr out.len out.cap), (4, [], Value.int .i64 i), (5, [], Value.bool last1), (6, [], Value.int .i64 (IntKind.i64.wrap (k + 1)))] (by kernel_rfl) (by kernel_rfl) ?_
            refine reg_end [(1, Value.pointer (some ⟨b_, 0, none⟩)), (3, Value.slice out.ptr out.len out.cap), (4, Value.int .i64 i), (5, Value.bool last1), (6, Value.int .i64 (IntKind.i64.wrap (k + 1)))] (by kernel_rfl) (by kernel_rfl) ?_
            have hb_ := again_1_h _ _ _ h
            exact ⟨_, hb_.2, [(1, Value.pointer (some ⟨b_, 0, none⟩)), (3, Value.slice out.ptr out.len out.cap), (4, Value.int .i64 i), (5, Value.bool last1), (6, Value.int .i64 (IntKind.i64.wrap (k + 1)))], Sub.mk (by kernel_rfl), last1, (IntKind.i64.wrap (k + 1)), rfl, hb_.1, rfl⟩
        · replace h := h.2 hb
          refine wpE_exit (id := 2) (by kernel_rfl) ?_
          change WpE _ _ c_towpathref07_Counting_43 _ _ _
          refine wpE_seq (x := c_towpathref07_Counting_44) (y := c_towpathref07_Counting_46) (by kernel_rfl) ?_
          refine wpE_region (id := 10) (ops := r_towpathref07_Counting_44) (by kernel_rfl) ?_
          refine reg_run [.plain] 1 [(1, [], Value.pointer (some ⟨b_, 0, none⟩)), (3, [], Value.slice out.ptr out.len out.cap), (4, [], Value.int .i64 i), (39, [], Value.bool last)] (by kernel_rfl) (by kernel_rfl) ?_
          refine reg_end [(1, Value.pointer (some ⟨b_, 0, none⟩)), (3, Value.slice out.ptr out.len out.cap), (4, Value.int .i64 i), (39, Value.bool last)] (by kernel_rfl) (by kernel_rfl) ?_
          change WpE _ _ c_towpathref07_Counting_46 _ _ _
          refine wpE_cond (o := (Operand.tmp 39)) (b := last) (x := c_towpathref07_Counting_47) (y := c_towpathref07_Counting_49) (by kernel_rfl) (by kernel_rfl) (fun hb => ?_) (fun hb => ?_)
          · replace h := h.1 hb
            refine wpE_region (id := 11) (ops := r_towpathref07_Counting_47) (by kernel_rfl) ?_
            refine reg_run [.plain, .plain] 2 [(1, [], Value.pointer (some ⟨b_, 0, none⟩)), (3, [], Value.slice out.ptr out.len out.cap), (4, [], Value.int .i64 i), (40, [], Value.slice out.ptr out.len out.cap), (41, [], Value.pointer (some ⟨b_, 1, none⟩))] (by kernel_rfl) (by kernel_rfl) ?_
            obtain ⟨v42, hc, h⟩ := h
            refine reg_load1 (t := 25) (a := (Go.Operand.tmp 41)) (b := b_) (o := 1) (ty := 25) (dst := some 42) (by kernel_rfl) (by kernel_rfl) (by kernel_rfl) hc ?_
            refine reg_run [.plain] 4 [(1, [], Value.pointer (some ⟨b_, 0, none⟩)), (3, [], Value.slice out.ptr out.len out.cap), (4, [], Value.int .i64 i), (40, [], Value.slice out.ptr out.len out.cap), (42, [], Value.slice v42.ptr v42.len v42.cap), (43, [], Value.int .i64 i)] (by kernel_rfl) (by kernel_rfl) ?_
            obtain ⟨hp_35, h⟩ := h
            refine reg_conv [(1, [], Value.pointer (some ⟨b_, 0, none⟩)), (3, [], Value.slice out.ptr out.len out.cap), (4, [], Value.int .i64 i), (40, [], Value.slice out.ptr out.len out.cap), (42, [], Value.slice (some ⟨(pblk v42.ptr), (poff v42.ptr), none⟩) v42.len v42.cap), (43, [], Value.int .i64 i)] (congrArg (fun pp => ([(1, [], Value.pointer (some ⟨b_, 0, none⟩)), (3, [], Value.slice out.ptr out.len out.cap), (4, [], Value.int .i64 i), (40, [], Value.slice out.ptr out.len out.cap), (42, [], Value.slice pp v42.len v42.cap), (43, [], Value.int .i64 i)] : GEnv)) hp_35) ?_
            obtain ⟨h0, h1, h⟩ := h
            refine reg_indexS (t := 25) (e := 61) (x := (Go.Operand.tmp 42)) (ix := (Go.Operand.tmp 43)) (b := (pblk v42.ptr)) (o := (poff v42.ptr)) (l := v42.len) (c := v42.cap) (k := .i64) (j := i) (ty := 0) (dst := some 44) (sz := 3) (by kernel_rfl) (by kernel_rfl) (by kernel_rfl) (by kernel_rfl) (by kernel_rfl) h0 h1 ?_
            refine reg_run [] 5 [(1, [], Value.pointer (some ⟨b_, 0, none⟩)), (3, [], Value.slice out.ptr out.len out.cap), (4, [], Value.int .i64 i), (40, [], Value.slice out.ptr out.len out.cap), (44, [], Value.pointer (some ⟨(pblk v42.ptr), (poff v42.ptr) + i.toNat * 3, none⟩))] (by kernel_rfl) (by kernel_rfl) ?_
            obtain ⟨v45, hc, h⟩ := h
            refine reg_loadN (t := 61) (a := (Go.Operand.tmp 44)) (b := (pblk v42.ptr)) (o := ((poff v42.ptr) + i.toNat * 3)) (ty := 61) (dst := some 45) [Value.string v45.Key, Value.string v45.Val, Value.bool v45.Drop] (by kernel_rfl) (by kernel_rfl) (by kernel_rfl) (k := 3) (by kernel_rfl) (by kernel_rfl) hc ?_
            refine reg_run [] 6 [(1, [], Value.pointer (some ⟨b_, 0, none⟩)), (3, [], Value.slice out.ptr out.len out.cap), (4, [], Value.int .i64 i), (40, [], Value.slice out.ptr out.len out.cap), (45, [], Value.agg #[Value.string v45.Key, Value.string v45.Val, Value.bool v45.Drop])] (by kernel_rfl) (by kernel_rfl) ?_
            refine reg_new (op := (Go.Op.buildSlice 25 1 #[(0, (Go.Operand.tmp 45))])) (ty := 25) (dst := some 46) (fun bb => Value.slice (some ⟨bb, 0, none⟩) 1 1) (Obj.cells ([Value.string v45.Key, Value.string v45.Val, Value.bool v45.Drop]).toArray ty_api_Write (0, 0)) (by kernel_rfl) (by kernel_rfl) (fun b_1 w8 hb hw => ?_)
            replace h := h b_1 w8 hb hw
            clear hb hw
            refine reg_run [] 7 [(1, [], Value.pointer (some ⟨b_, 0, none⟩)), (3, [], Value.slice out.ptr out.len out.cap), (4, [], Value.int .i64 i), (40, [], Value.slice out.ptr out.len out.cap), (46, [], Value.slice (some ⟨b_1, 0, none⟩) 1 1)] (by kernel_rfl) (by kernel_rfl) ?_
            obtain ⟨src, hs, h⟩ := h
            refine reg_append (t := 25) (tx := 25) (e := 61) (a := (Go.Operand.tmp 40)) (xo := (Go.Operand.tmp 46)) (s := out) (x := (Slc.mk (some ⟨b_1, 0, none⟩) 1 1)) (sz := 3) (by_ := 40) (zs := [Value.string ByteArray.empty, Value.string ByteArray.empty, Value.bool false]) (ty := 25) (dst := some 47)  src (by kernel_rfl) (by kernel_rfl) (by kernel_rfl) (by kernel_rfl) (by kernel_rfl) (by kernel_rfl) (by kernel_rfl) (by kernel_rfl) (by kernel_rfl) hs (AppendW.mono h (fun out2 w9 h => ?_))
            refine reg_run [.plain] 9 [(1, [], Value.pointer (some ⟨b_, 0, none⟩)), (3, [], Value.slice out2.ptr out2.len out2.cap), (4, [], Value.int .i64 i)] (by kernel_rfl) (by kernel_rfl) ?_
            refine reg_end [(1, Value.pointer (some ⟨b_, 0, none⟩)), (3, Value.slice out2.ptr out2.len out2.cap), (4, Value.int .i64 i)] (by kernel_rfl) (by kernel_rfl) ?_
            exact ⟨[(1, Value.pointer (some ⟨b_, 0, none⟩)), (3, Value.slice out2.ptr out2.len out2.cap), (4, Value.int .i64 i)], Sub.mk (by kernel_rfl), out2, rfl, h⟩
          · replace h := h.2 hb
            refine wpE_skip (by kernel_rfl) ?_
            exact ⟨[(1, Value.pointer (some ⟨b_, 0, none⟩)), (3, Value.slice out.ptr out.len out.cap), (4, Value.int .i64 i)], Sub.mk (by kernel_rfl), out, rfl, h⟩
      · rintro _ w3 ⟨out1, rfl, h⟩
        unfold F_towpathref07_Counting_k1 at h
        refine wpE_region (id := 4) (ops := r_towpathref07_Counting_50) (by kernel_rfl) ?_
        refine reg_run [.plain, .plain, .plain] 3 [(1, [], Value.pointer (some ⟨b_, 0, none⟩)), (3, [], Value.slice out1.ptr out1.len out1.cap), (4, [], Value.int .i64 (IntKind.i64.wrap (i + 1)))] (by kernel_rfl) (by kernel_rfl) ?_
        refine reg_end [(1, Value.pointer (some ⟨b_, 0, none⟩)), (3, Value.slice out1.ptr out1.len out1.cap), (4, Value.int .i64 (IntKind.i64.wrap (i + 1)))] (by kernel_rfl) (by kernel_rfl) ?_
        have hb_ := again__h _ _ _ h
        exact ⟨_, hb_.2, [(1, Value.pointer (some ⟨b_, 0, none⟩)), (3, Value.slice out1.ptr out1.len out1.cap), (4, Value.int .i64 (IntKind.i64.wrap (i + 1)))], Sub.mk (by kernel_rfl), out1, (IntKind.i64.wrap (i + 1)), rfl, hb_.1, rfl⟩
    · replace h := h.2 hb
      refine wpE_exit (id := 0) (by kernel_rfl) ?_
      change WpE _ _ c_towpathref07_Counting_52 _ _ _
      refine wpE_seq (x := c_towpathref07_Counting_53) (y := c_towpathref07_Counting_55) (by kernel_rfl) ?_
      refine wpE_region (id := 12) (ops := r_towpathref07_Counting_53) (by kernel_rfl) ?_
      refine reg_run [.plain, .plain] 2 [(2, [], Value.slice out.ptr out.len out.cap)] (by kernel_rfl) (by kernel_rfl) ?_
      refine reg_end [(2, Value.slice out.ptr out.len out.cap)] (by kernel_rfl) (by kernel_rfl) ?_
      change WpE _ _ c_towpathref07_Counting_55 _ _ _
      refine wpE_ret (by kernel_rfl) ?_
      repeat (first | refine seqQ_ret ?_ | refine blockQ_ret ?_ | refine loopQ_ret ?_ | refine cutQ_ret ?_)
      exact retS (rs := [(Go.ResultVar.tmp 2)]) (v := Value.slice out.ptr out.len out.cap) (by kernel_rfl) (⟨by kernel_rfl, trivial⟩) ⟨out, rfl, h⟩
  · rintro e w' ⟨v, rfl, r0, rfl, h⟩; exact ⟨r0, rfl, h⟩
end Go.Proofs.Ytfmkemmgakdddaa
