/- WRITTEN BY PROGRAM (dec.py): for each Go function the clean formula F, the call's contract C, and the proof S that F gives C. -/
import Derived.Test.YtfmkemmgakdddaaRows
import Derived.Test.YtfmkemmgakdddaaGF
namespace Go.Proofs.Ytfmkemmgakdddaa
open Go
set_option linter.unusedVariables false

/-! ### towpath/lane.counting (function 61) -/
noncomputable def c_lane_counting_0 : Code := (Try.f61.body).getD Code.skip
noncomputable def c_lane_counting_1 : Code := Code.l c_lane_counting_0
noncomputable def r_lane_counting_1 : Array Oper := Code.ops c_lane_counting_1
noncomputable def c_lane_counting_3 : Code := Code.r c_lane_counting_0
noncomputable def c_lane_counting_4 : Code := Code.l c_lane_counting_3
noncomputable def r_lane_counting_4 : Array Oper := Code.ops c_lane_counting_4
noncomputable def c_lane_counting_6 : Code := Code.r c_lane_counting_3
noncomputable def c_lane_counting_7 : Code := Code.l c_lane_counting_6
noncomputable def c_lane_counting_8 : Code := Code.l c_lane_counting_7
noncomputable def r_lane_counting_8 : Array Oper := Code.ops c_lane_counting_8
noncomputable def c_lane_counting_10 : Code := Code.r c_lane_counting_7
noncomputable def c_lane_counting_11 : Code := Code.l c_lane_counting_10
noncomputable def c_lane_counting_12 : Code := Code.l c_lane_counting_11
noncomputable def c_lane_counting_13 : Code := Code.l c_lane_counting_12
noncomputable def r_lane_counting_13 : Array Oper := Code.ops c_lane_counting_13
noncomputable def c_lane_counting_15 : Code := Code.r c_lane_counting_12
noncomputable def c_lane_counting_16 : Code := Code.l c_lane_counting_15
noncomputable def c_lane_counting_17 : Code := Code.l c_lane_counting_16
noncomputable def c_lane_counting_18 : Code := Code.r c_lane_counting_16
noncomputable def c_lane_counting_19 : Code := Code.r c_lane_counting_15
noncomputable def c_lane_counting_20 : Code := Code.l c_lane_counting_19
noncomputable def c_lane_counting_21 : Code := Code.l c_lane_counting_20
noncomputable def c_lane_counting_22 : Code := Code.l c_lane_counting_21
noncomputable def r_lane_counting_22 : Array Oper := Code.ops c_lane_counting_22
noncomputable def c_lane_counting_24 : Code := Code.r c_lane_counting_21
noncomputable def c_lane_counting_25 : Code := Code.l c_lane_counting_24
noncomputable def r_lane_counting_25 : Array Oper := Code.ops c_lane_counting_25
noncomputable def c_lane_counting_27 : Code := Code.r c_lane_counting_24
noncomputable def c_lane_counting_28 : Code := Code.l c_lane_counting_27
noncomputable def r_lane_counting_28 : Array Oper := Code.ops c_lane_counting_28
noncomputable def c_lane_counting_30 : Code := Code.r c_lane_counting_27
noncomputable def c_lane_counting_31 : Code := Code.r c_lane_counting_19
noncomputable def r_lane_counting_31 : Array Oper := Code.ops c_lane_counting_31
noncomputable def c_lane_counting_33 : Code := Code.r c_lane_counting_6
noncomputable def c_lane_counting_34 : Code := Code.l c_lane_counting_33
noncomputable def r_lane_counting_34 : Array Oper := Code.ops c_lane_counting_34
noncomputable def c_lane_counting_36 : Code := Code.r c_lane_counting_33

set_option maxRecDepth 100000 in
set_option maxHeartbeats 4000000 in
theorem S_lane_counting {t_ : T_api_Txn} {w : World} {R : Slc → World → Prop} (h : F_lane_counting t_ R w) : C_lane_counting t_ w R := by
  unfold F_lane_counting at h
  unfold C_lane_counting
  refine Calls.mono (calls_of_wpE (args := [Value.agg #[Value.int .i64 t_.Number, Value.slice t_.Writes.ptr t_.Writes.len t_.Writes.cap]]) (R := fun v w' => ∃ (r0 : Slc), v = Value.slice r0.ptr r0.len r0.cap ∧ R r0 w') Try.func61 (c := c_lane_counting_0) (by kernel_rfl) 28 (by kernel_rfl) (by kernel_rfl) [(0, Value.agg #[Value.int .i64 t_.Number, Value.slice t_.Writes.ptr t_.Writes.len t_.Writes.cap])] (by kernel_rfl) ?_) ?_
  · refine wpE_seq (x := c_lane_counting_1) (y := c_lane_counting_3) (by kernel_rfl) ?_
    refine wpE_region (id := 0) (ops := r_lane_counting_1) (by kernel_rfl) ?_
    refine reg_run [] 0 [(0, [], Value.agg #[Value.int .i64 t_.Number, Value.slice t_.Writes.ptr t_.Writes.len t_.Writes.cap])] (by kernel_rfl) (by kernel_rfl) ?_
    refine reg_new (op := (Go.Op.box 27 (Go.Operand.tmp 0))) (ty := 0) (dst := some 1) (fun bb => Value.pointer (some ⟨bb, 0, none⟩)) (Obj.cells ([Value.int .i64 t_.Number, Value.slice t_.Writes.ptr t_.Writes.len t_.Writes.cap]).toArray ty_api_Txn (0, 0)) (by kernel_rfl) (by kernel_rfl) (fun b_ w1 hb hw => ?_)
    replace h := h b_ w1 hb hw
    clear hb hw
    refine reg_run [.plain] 2 [(1, [], Value.pointer (some ⟨b_, 0, none⟩))] (by kernel_rfl) (by kernel_rfl) ?_
    refine reg_end [(1, Value.pointer (some ⟨b_, 0, none⟩))] (by kernel_rfl) (by kernel_rfl) ?_
    change WpE _ _ c_lane_counting_3 _ _ _
    refine wpE_seq (x := c_lane_counting_4) (y := c_lane_counting_6) (by kernel_rfl) ?_
    refine wpE_region (id := 1) (ops := r_lane_counting_4) (by kernel_rfl) ?_
    refine reg_run [.plain] 1 [(1, [], Value.pointer (some ⟨b_, 0, none⟩)), (3, [], Value.slice none 0 0)] (by kernel_rfl) (by kernel_rfl) ?_
    refine reg_end [(1, Value.pointer (some ⟨b_, 0, none⟩)), (3, Value.slice none 0 0)] (by kernel_rfl) (by kernel_rfl) ?_
    change WpE _ _ c_lane_counting_6 _ _ _
    refine wpE_seq (x := c_lane_counting_7) (y := c_lane_counting_33) (by kernel_rfl) ?_
    refine wpE_seq (x := c_lane_counting_8) (y := c_lane_counting_10) (by kernel_rfl) ?_
    refine wpE_region (id := 2) (ops := r_lane_counting_8) (by kernel_rfl) ?_
    refine reg_run [.plain] 1 [(1, [], Value.pointer (some ⟨b_, 0, none⟩)), (3, [], Value.slice none 0 0), (6, [], Value.pointer (some ⟨b_, 1, none⟩))] (by kernel_rfl) (by kernel_rfl) ?_
    obtain ⟨v7, hc, h⟩ := h
    refine reg_load1 (t := 25) (a := (Go.Operand.tmp 6)) (b := b_) (o := 1) (ty := 25) (dst := some 7) (by kernel_rfl) (by kernel_rfl) (by kernel_rfl) hc ?_
    refine reg_run [.plain, .plain] 4 [(1, [], Value.pointer (some ⟨b_, 0, none⟩)), (3, [], Value.slice none 0 0), (7, [], Value.slice v7.ptr v7.len v7.cap), (8, [], Value.int .i64 ((v7.len : Nat) : Int)), (9, [], Value.int .i64 0)] (by kernel_rfl) (by kernel_rfl) ?_
    refine reg_end [(1, Value.pointer (some ⟨b_, 0, none⟩)), (3, Value.slice none 0 0), (7, Value.slice v7.ptr v7.len v7.cap), (8, Value.int .i64 ((v7.len : Nat) : Int)), (9, Value.int .i64 0)] (by kernel_rfl) (by kernel_rfl) ?_
    change WpE _ _ c_lane_counting_10 _ _ _
    refine wpE_block (id := 0) (x := c_lane_counting_11) (by kernel_rfl) ?_
    obtain ⟨I, μ, h0, hr⟩ := h
    refine wpE_loop (x := c_lane_counting_12) (by kernel_rfl) (fun m l w => ∃ (out : Slc) (t9 : Int), l = [(1, Value.pointer (some ⟨b_, 0, none⟩)), (3, Value.slice out.ptr out.len out.cap), (7, Value.slice v7.ptr v7.len v7.cap), (8, Value.int .i64 ((v7.len : Nat) : Int)), (9, Value.int .i64 t9)] ∧ I out t9 w ∧ μ out t9 w = m) (l' := [(1, Value.pointer (some ⟨b_, 0, none⟩)), (3, Value.slice none 0 0), (7, Value.slice v7.ptr v7.len v7.cap), (8, Value.int .i64 ((v7.len : Nat) : Int)), (9, Value.int .i64 0)]) (Sub.mk (by kernel_rfl)) ⟨(Slc.mk none 0 0), 0, rfl, h0, rfl⟩ ?_
    rintro _ _ w2 ⟨out, t9, rfl, hI, rfl⟩
    obtain ⟨again_, again__h, h⟩ : ∃ again_ : Slc → Int → World → Prop, (∀ out' t9' w', again_ out' t9' w' → I out' t9' w' ∧ μ out' t9' w' < μ out t9 w2) ∧ F_lane_counting_L0 R b_ v7 again_ out t9 w2 := ⟨_, fun _ _ _ h => h, hr out t9 w2 hI⟩
    clear h0 hI
    unfold F_lane_counting_L0 at h
    refine wpE_seq (x := c_lane_counting_13) (y := c_lane_counting_15) (by kernel_rfl) ?_
    refine wpE_region (id := 3) (ops := r_lane_counting_13) (by kernel_rfl) ?_
    refine reg_run [.plain] 1 [(1, [], Value.pointer (some ⟨b_, 0, none⟩)), (3, [], Value.slice out.ptr out.len out.cap), (7, [], Value.slice v7.ptr v7.len v7.cap), (8, [], Value.int .i64 ((v7.len : Nat) : Int)), (9, [], Value.int .i64 t9), (10, [], Value.bool (decide (t9 < ((v7.len : Nat) : Int))))] (by kernel_rfl) (by kernel_rfl) ?_
    refine reg_end [(1, Value.pointer (some ⟨b_, 0, none⟩)), (3, Value.slice out.ptr out.len out.cap), (7, Value.slice v7.ptr v7.len v7.cap), (8, Value.int .i64 ((v7.len : Nat) : Int)), (9, Value.int .i64 t9), (10, Value.bool (decide (t9 < ((v7.len : Nat) : Int))))] (by kernel_rfl) (by kernel_rfl) ?_
    change WpE _ _ c_lane_counting_15 _ _ _
    refine wpE_seq (x := c_lane_counting_16) (y := c_lane_counting_19) (by kernel_rfl) ?_
    refine wpE_cond (o := (Operand.tmp 10)) (b := (decide (t9 < ((v7.len : Nat) : Int)))) (x := c_lane_counting_17) (y := c_lane_counting_18) (by kernel_rfl) (by kernel_rfl) (fun hb => ?_) (fun hb => ?_)
    · replace h := h.1 hb
      refine wpE_skip (by kernel_rfl) ?_
      change WpE _ _ c_lane_counting_19 _ _ _
      refine wpE_seq_cut (x := c_lane_counting_20) (y := c_lane_counting_31) (by kernel_rfl) (fun l w => ∃ (out1 : Slc), l = [(1, Value.pointer (some ⟨b_, 0, none⟩)), (3, Value.slice out1.ptr out1.len out1.cap), (7, Value.slice v7.ptr v7.len v7.cap), (8, Value.int .i64 ((v7.len : Nat) : Int)), (9, Value.int .i64 t9)] ∧ F_lane_counting_k1 t9 again_ out1 w) ?_ ?_
      · refine wpE_block (id := 1) (x := c_lane_counting_21) (by kernel_rfl) ?_
        refine wpE_seq (x := c_lane_counting_22) (y := c_lane_counting_24) (by kernel_rfl) ?_
        refine wpE_region (id := 4) (ops := r_lane_counting_22) (by kernel_rfl) ?_
        refine reg_run [.plain] 1 [(1, [], Value.pointer (some ⟨b_, 0, none⟩)), (3, [], Value.slice out.ptr out.len out.cap), (7, [], Value.slice v7.ptr v7.len v7.cap), (8, [], Value.int .i64 ((v7.len : Nat) : Int)), (9, [], Value.int .i64 t9), (11, [], Value.int .i64 t9)] (by kernel_rfl) (by kernel_rfl) ?_
        obtain ⟨hp_7, h⟩ := h
        refine reg_conv [(1, [], Value.pointer (some ⟨b_, 0, none⟩)), (3, [], Value.slice out.ptr out.len out.cap), (7, [], Value.slice (some ⟨(pblk v7.ptr), (poff v7.ptr), none⟩) v7.len v7.cap), (8, [], Value.int .i64 ((v7.len : Nat) : Int)), (9, [], Value.int .i64 t9), (11, [], Value.int .i64 t9)] (congrArg (fun pp => ([(1, [], Value.pointer (some ⟨b_, 0, none⟩)), (3, [], Value.slice out.ptr out.len out.cap), (7, [], Value.slice pp v7.len v7.cap), (8, [], Value.int .i64 ((v7.len : Nat) : Int)), (9, [], Value.int .i64 t9), (11, [], Value.int .i64 t9)] : GEnv)) hp_7) ?_
        obtain ⟨h0, h1, h⟩ := h
        refine reg_indexS (t := 25) (e := 61) (x := (Go.Operand.tmp 7)) (ix := (Go.Operand.tmp 9)) (b := (pblk v7.ptr)) (o := (poff v7.ptr)) (l := v7.len) (c := v7.cap) (k := .i64) (j := t9) (ty := 0) (dst := some 12) (sz := 3) (by kernel_rfl) (by kernel_rfl) (by kernel_rfl) (by kernel_rfl) (by kernel_rfl) h0 h1 ?_
        refine reg_run [] 2 [(1, [], Value.pointer (some ⟨b_, 0, none⟩)), (3, [], Value.slice out.ptr out.len out.cap), (7, [], Value.slice (some ⟨(pblk v7.ptr), (poff v7.ptr), none⟩) v7.len v7.cap), (8, [], Value.int .i64 ((v7.len : Nat) : Int)), (9, [], Value.int .i64 t9), (11, [], Value.int .i64 t9), (12, [], Value.pointer (some ⟨(pblk v7.ptr), (poff v7.ptr) + t9.toNat * 3, none⟩))] (by kernel_rfl) (by kernel_rfl) ?_
        obtain ⟨v13, hc, h⟩ := h
        refine reg_loadN (t := 61) (a := (Go.Operand.tmp 12)) (b := (pblk v7.ptr)) (o := ((poff v7.ptr) + t9.toNat * 3)) (ty := 61) (dst := some 13) [Value.string v13.Key, Value.string v13.Val, Value.bool v13.Drop] (by kernel_rfl) (by kernel_rfl) (by kernel_rfl) (k := 3) (by kernel_rfl) (by kernel_rfl) hc ?_
        refine reg_run [] 3 [(1, [], Value.pointer (some ⟨b_, 0, none⟩)), (3, [], Value.slice out.ptr out.len out.cap), (7, [], Value.slice (some ⟨(pblk v7.ptr), (poff v7.ptr), none⟩) v7.len v7.cap), (8, [], Value.int .i64 ((v7.len : Nat) : Int)), (9, [], Value.int .i64 t9), (11, [], Value.int .i64 t9), (13, [], Value.agg #[Value.string v13.Key, Value.string v13.Val, Value.bool v13.Drop])] (by kernel_rfl) (by kernel_rfl) ?_
        refine reg_new (op := (Go.Op.alloc 61)) (ty := 0) (dst := some 5) (fun bb => Value.pointer (some ⟨bb, 0, none⟩)) (Obj.cells ([Value.string ByteArray.empty, Value.string ByteArray.empty, Value.bool false]).toArray ty_api_Write (0, 0)) (by kernel_rfl) (by kernel_rfl) (fun b_1 w4 hb hw => ?_)
        replace h := h b_1 w4 hb hw
        clear hb hw
        refine reg_run [.plain] 5 [(1, [], Value.pointer (some ⟨b_, 0, none⟩)), (3, [], Value.slice out.ptr out.len out.cap), (4, [], Value.int .i64 t9), (5, [], Value.pointer (some ⟨b_1, 0, none⟩)), (7, [], Value.slice (some ⟨(pblk v7.ptr), (poff v7.ptr), none⟩) v7.len v7.cap), (8, [], Value.int .i64 ((v7.len : Nat) : Int)), (9, [], Value.int .i64 t9), (13, [], Value.agg #[Value.string v13.Key, Value.string v13.Val, Value.bool v13.Drop])] (by kernel_rfl) (by kernel_rfl) ?_
        obtain ⟨hc, h⟩ := h
        refine reg_store (t := 61) (a := (Go.Operand.tmp 5)) (x := (Go.Operand.tmp 13)) (b := b_1) (o := 0) (ty := 0) (dst := none) [Value.string v13.Key, Value.string v13.Val, Value.bool v13.Drop] (by kernel_rfl) (by kernel_rfl) (by kernel_rfl) (k := 3) (by kernel_rfl) (by kernel_rfl) (by kernel_rfl) hc (fun w5 hw => ?_)
        replace h := h w5 hw
        clear hw
        refine reg_run [] 6 [(1, [], Value.pointer (some ⟨b_, 0, none⟩)), (3, [], Value.slice out.ptr out.len out.cap), (4, [], Value.int .i64 t9), (5, [], Value.pointer (some ⟨b_1, 0, none⟩)), (7, [], Value.slice (some ⟨(pblk v7.ptr), (poff v7.ptr), none⟩) v7.len v7.cap), (8, [], Value.int .i64 ((v7.len : Nat) : Int)), (9, [], Value.int .i64 t9)] (by kernel_rfl) (by kernel_rfl) ?_
        refine reg_conv [(1, [], Value.pointer (some ⟨b_, 0, none⟩)), (3, [], Value.slice out.ptr out.len out.cap), (4, [], Value.int .i64 t9), (5, [], Value.pointer (some ⟨b_1, 0, none⟩)), (7, [], Value.slice v7.ptr v7.len v7.cap), (8, [], Value.int .i64 ((v7.len : Nat) : Int)), (9, [], Value.int .i64 t9)] (congrArg (fun pp => ([(1, [], Value.pointer (some ⟨b_, 0, none⟩)), (3, [], Value.slice out.ptr out.len out.cap), (4, [], Value.int .i64 t9), (5, [], Value.pointer (some ⟨b_1, 0, none⟩)), (7, [], Value.slice pp v7.len v7.cap), (8, [], Value.int .i64 ((v7.len : Nat) : Int)), (9, [], Value.int .i64 t9)] : GEnv)) hp_7.symm) ?_
        refine reg_end [(1, Value.pointer (some ⟨b_, 0, none⟩)), (3, Value.slice out.ptr out.len out.cap), (4, Value.int .i64 t9), (5, Value.pointer (some ⟨b_1, 0, none⟩)), (7, Value.slice v7.ptr v7.len v7.cap), (8, Value.int .i64 ((v7.len : Nat) : Int)), (9, Value.int .i64 t9)] (by kernel_rfl) (by kernel_rfl) ?_
        change WpE _ _ c_lane_counting_24 _ _ _
        refine wpE_seq (x := c_lane_counting_25) (y := c_lane_counting_27) (by kernel_rfl) ?_
        refine wpE_region (id := 5) (ops := r_lane_counting_25) (by kernel_rfl) ?_
        refine reg_run [.plain] 1 [(1, [], Value.pointer (some ⟨b_, 0, none⟩)), (3, [], Value.slice out.ptr out.len out.cap), (4, [], Value.int .i64 t9), (5, [], Value.pointer (some ⟨b_1, 0, none⟩)), (7, [], Value.slice v7.ptr v7.len v7.cap), (8, [], Value.int .i64 ((v7.len : Nat) : Int)), (9, [], Value.int .i64 t9), (14, [], Value.pointer (some ⟨b_, 1, none⟩))] (by kernel_rfl) (by kernel_rfl) ?_
        obtain ⟨v15, hc, h⟩ := h
        refine reg_load1 (t := 25) (a := (Go.Operand.tmp 14)) (b := b_) (o := 1) (ty := 25) (dst := some 15) (by kernel_rfl) (by kernel_rfl) (by kernel_rfl) hc ?_
        refine reg_run [.plain, .plain] 4 [(1, [], Value.pointer (some ⟨b_, 0, none⟩)), (3, [], Value.slice out.ptr out.len out.cap), (5, [], Value.pointer (some ⟨b_1, 0, none⟩)), (7, [], Value.slice v7.ptr v7.len v7.cap), (8, [], Value.int .i64 ((v7.len : Nat) : Int)), (9, [], Value.int .i64 t9), (15, [], Value.slice v15.ptr v15.len v15.cap), (17, [], Value.int .i64 (IntKind.i64.wrap (t9 + 1)))] (by kernel_rfl) (by kernel_rfl) ?_
        obtain ⟨hc, h⟩ := h
        refine reg_slice (t := 25) (e := 61) (x := (Go.Operand.tmp 15)) (lo := (Go.Operand.tmp 17)) (s := v15) (sz := 3) (k := .i64) (a := (IntKind.i64.wrap (t9 + 1))) (ty := 25) (dst := some 18) (by kernel_rfl) (by kernel_rfl) (by kernel_rfl) (by kernel_rfl) (by kernel_rfl) hc (fun s hs => ?_)
        replace h := h s hs
        clear hs
        refine reg_run [.plain] 6 [(1, [], Value.pointer (some ⟨b_, 0, none⟩)), (3, [], Value.slice out.ptr out.len out.cap), (5, [], Value.pointer (some ⟨b_1, 0, none⟩)), (7, [], Value.slice v7.ptr v7.len v7.cap), (8, [], Value.int .i64 ((v7.len : Nat) : Int)), (9, [], Value.int .i64 t9), (18, [], Value.slice s.ptr s.len s.cap), (19, [], Value.func (.func 88) #[] #[Value.pointer (some ⟨b_1, 0, none⟩)])] (by kernel_rfl) (by kernel_rfl) ?_
        refine reg_enter (op := (Go.Op.call (Go.Call.mk (Go.Callee.value (Go.Operand.func 63)) #[(Go.Operand.tmp 18), (Go.Operand.tmp 19)] #[25, 108]))) (ty := 4) (dst := some 20) 63 #[Value.slice s.ptr s.len s.cap, Value.func (.func 88) #[] #[Value.pointer (some ⟨b_1, 0, none⟩)]] (by kernel_rfl) (fun ww => by kernel_rfl) (Calls.mono h ?_)
        rintro _ w6 ⟨v20, rfl, h⟩
        refine ⟨_, rfl, ?_⟩
        refine reg_run [.plain] 8 [(1, [], Value.pointer (some ⟨b_, 0, none⟩)), (3, [], Value.slice out.ptr out.len out.cap), (5, [], Value.pointer (some ⟨b_1, 0, none⟩)), (7, [], Value.slice v7.ptr v7.len v7.cap), (8, [], Value.int .i64 ((v7.len : Nat) : Int)), (9, [], Value.int .i64 t9), (21, [], Value.bool (!v20))] (by kernel_rfl) (by kernel_rfl) ?_
        refine reg_end [(1, Value.pointer (some ⟨b_, 0, none⟩)), (3, Value.slice out.ptr out.len out.cap), (5, Value.pointer (some ⟨b_1, 0, none⟩)), (7, Value.slice v7.ptr v7.len v7.cap), (8, Value.int .i64 ((v7.len : Nat) : Int)), (9, Value.int .i64 t9), (21, Value.bool (!v20))] (by kernel_rfl) (by kernel_rfl) ?_
        change WpE _ _ c_lane_counting_27 _ _ _
        refine wpE_cond (o := (Operand.tmp 21)) (b := (!v20)) (x := c_lane_counting_28) (y := c_lane_counting_30) (by kernel_rfl) (by kernel_rfl) (fun hb => ?_) (fun hb => ?_)
        · replace h := h.1 hb
          refine wpE_region (id := 6) (ops := r_lane_counting_28) (by kernel_rfl) ?_
          refine reg_run [.plain] 1 [(1, [], Value.pointer (some ⟨b_, 0, none⟩)), (3, [], Value.slice out.ptr out.len out.cap), (5, [], Value.pointer (some ⟨b_1, 0, none⟩)), (7, [], Value.slice v7.ptr v7.len v7.cap), (8, [], Value.int .i64 ((v7.len : Nat) : Int)), (9, [], Value.int .i64 t9), (22, [], Value.slice out.ptr out.len out.cap)] (by kernel_rfl) (by kernel_rfl) ?_
          obtain ⟨v23, hc, h⟩ := h
          refine reg_loadN (t := 61) (a := (Go.Operand.tmp 5)) (b := b_1) (o := 0) (ty := 61) (dst := some 23) [Value.string v23.Key, Value.string v23.Val, Value.bool v23.Drop] (by kernel_rfl) (by kernel_rfl) (by kernel_rfl) (k := 3) (by kernel_rfl) (by kernel_rfl) hc ?_
          refine reg_run [] 2 [(1, [], Value.pointer (some ⟨b_, 0, none⟩)), (3, [], Value.slice out.ptr out.len out.cap), (7, [], Value.slice v7.ptr v7.len v7.cap), (8, [], Value.int .i64 ((v7.len : Nat) : Int)), (9, [], Value.int .i64 t9), (22, [], Value.slice out.ptr out.len out.cap), (23, [], Value.agg #[Value.string v23.Key, Value.string v23.Val, Value.bool v23.Drop])] (by kernel_rfl) (by kernel_rfl) ?_
          refine reg_new (op := (Go.Op.buildSlice 25 1 #[(0, (Go.Operand.tmp 23))])) (ty := 25) (dst := some 24) (fun bb => Value.slice (some ⟨bb, 0, none⟩) 1 1) (Obj.cells ([Value.string v23.Key, Value.string v23.Val, Value.bool v23.Drop]).toArray ty_api_Write (0, 0)) (by kernel_rfl) (by kernel_rfl) (fun b_2 w7 hb hw => ?_)
          replace h := h b_2 w7 hb hw
          clear hb hw
          refine reg_run [] 3 [(1, [], Value.pointer (some ⟨b_, 0, none⟩)), (3, [], Value.slice out.ptr out.len out.cap), (7, [], Value.slice v7.ptr v7.len v7.cap), (8, [], Value.int .i64 ((v7.len : Nat) : Int)), (9, [], Value.int .i64 t9), (22, [], Value.slice out.ptr out.len out.cap), (24, [], Value.slice (some ⟨b_2, 0, none⟩) 1 1)] (by kernel_rfl) (by kernel_rfl) ?_
          obtain ⟨src, hs, h⟩ := h
          refine reg_append (t := 25) (tx := 25) (e := 61) (a := (Go.Operand.tmp 22)) (xo := (Go.Operand.tmp 24)) (s := out) (x := (Slc.mk (some ⟨b_2, 0, none⟩) 1 1)) (sz := 3) (by_ := 40) (zs := [Value.string ByteArray.empty, Value.string ByteArray.empty, Value.bool false]) (ty := 25) (dst := some 25)  src (by kernel_rfl) (by kernel_rfl) (by kernel_rfl) (by kernel_rfl) (by kernel_rfl) (by kernel_rfl) (by kernel_rfl) (by kernel_rfl) (by kernel_rfl) hs (AppendW.mono h (fun out2 w8 h => ?_))
          refine reg_run [.plain] 5 [(1, [], Value.pointer (some ⟨b_, 0, none⟩)), (3, [], Value.slice out2.ptr out2.len out2.cap), (7, [], Value.slice v7.ptr v7.len v7.cap), (8, [], Value.int .i64 ((v7.len : Nat) : Int)), (9, [], Value.int .i64 t9)] (by kernel_rfl) (by kernel_rfl) ?_
          refine reg_end [(1, Value.pointer (some ⟨b_, 0, none⟩)), (3, Value.slice out2.ptr out2.len out2.cap), (7, Value.slice v7.ptr v7.len v7.cap), (8, Value.int .i64 ((v7.len : Nat) : Int)), (9, Value.int .i64 t9)] (by kernel_rfl) (by kernel_rfl) ?_
          exact ⟨[(1, Value.pointer (some ⟨b_, 0, none⟩)), (3, Value.slice out2.ptr out2.len out2.cap), (7, Value.slice v7.ptr v7.len v7.cap), (8, Value.int .i64 ((v7.len : Nat) : Int)), (9, Value.int .i64 t9)], Sub.mk (by kernel_rfl), out2, rfl, h⟩
        · replace h := h.2 hb
          refine wpE_skip (by kernel_rfl) ?_
          exact ⟨[(1, Value.pointer (some ⟨b_, 0, none⟩)), (3, Value.slice out.ptr out.len out.cap), (7, Value.slice v7.ptr v7.len v7.cap), (8, Value.int .i64 ((v7.len : Nat) : Int)), (9, Value.int .i64 t9)], Sub.mk (by kernel_rfl), out, rfl, h⟩
      · rintro _ w3 ⟨out1, rfl, h⟩
        unfold F_lane_counting_k1 at h
        refine wpE_region (id := 7) (ops := r_lane_counting_31) (by kernel_rfl) ?_
        refine reg_run [.plain, .plain] 2 [(1, [], Value.pointer (some ⟨b_, 0, none⟩)), (3, [], Value.slice out1.ptr out1.len out1.cap), (7, [], Value.slice v7.ptr v7.len v7.cap), (8, [], Value.int .i64 ((v7.len : Nat) : Int)), (9, [], Value.int .i64 (IntKind.i64.wrap (t9 + 1)))] (by kernel_rfl) (by kernel_rfl) ?_
        refine reg_end [(1, Value.pointer (some ⟨b_, 0, none⟩)), (3, Value.slice out1.ptr out1.len out1.cap), (7, Value.slice v7.ptr v7.len v7.cap), (8, Value.int .i64 ((v7.len : Nat) : Int)), (9, Value.int .i64 (IntKind.i64.wrap (t9 + 1)))] (by kernel_rfl) (by kernel_rfl) ?_
        have hb_ := again__h _ _ _ h
        exact ⟨_, hb_.2, [(1, Value.pointer (some ⟨b_, 0, none⟩)), (3, Value.slice out1.ptr out1.len out1.cap), (7, Value.slice v7.ptr v7.len v7.cap), (8, Value.int .i64 ((v7.len : Nat) : Int)), (9, Value.int .i64 (IntKind.i64.wrap (t9 + 1)))], Sub.mk (by kernel_rfl), out1, (IntKind.i64.wrap (t9 + 1)), rfl, hb_.1, rfl⟩
    · replace h := h.2 hb
      refine wpE_exit (id := 0) (by kernel_rfl) ?_
      change WpE _ _ c_lane_counting_33 _ _ _
      refine wpE_seq (x := c_lane_counting_34) (y := c_lane_counting_36) (by kernel_rfl) ?_
      refine wpE_region (id := 8) (ops := r_lane_counting_34) (by kernel_rfl) ?_
      refine reg_run [.plain, .plain] 2 [(2, [], Value.slice out.ptr out.len out.cap)] (by kernel_rfl) (by kernel_rfl) ?_
      refine reg_end [(2, Value.slice out.ptr out.len out.cap)] (by kernel_rfl) (by kernel_rfl) ?_
      change WpE _ _ c_lane_counting_36 _ _ _
      refine wpE_ret (by kernel_rfl) ?_
      repeat (first | refine seqQ_ret ?_ | refine blockQ_ret ?_ | refine loopQ_ret ?_ | refine cutQ_ret ?_)
      exact retS (rs := [(Go.ResultVar.tmp 2)]) (v := Value.slice out.ptr out.len out.cap) (by kernel_rfl) (⟨by kernel_rfl, trivial⟩) ⟨out, rfl, h⟩
  · rintro e w' ⟨v, rfl, r0, rfl, h⟩; exact ⟨r0, rfl, h⟩

/-! ### towpath/lane.counting$1 (function 88) -/
noncomputable def c_lane_counting_1_0 : Code := (Try.f88.body).getD Code.skip
noncomputable def c_lane_counting_1_1 : Code := Code.l c_lane_counting_1_0
noncomputable def r_lane_counting_1_1 : Array Oper := Code.ops c_lane_counting_1_1
noncomputable def c_lane_counting_1_3 : Code := Code.r c_lane_counting_1_0
noncomputable def c_lane_counting_1_4 : Code := Code.l c_lane_counting_1_3
noncomputable def r_lane_counting_1_4 : Array Oper := Code.ops c_lane_counting_1_4
noncomputable def c_lane_counting_1_6 : Code := Code.r c_lane_counting_1_3

set_option maxRecDepth 100000 in
set_option maxHeartbeats 4000000 in
theorem S_lane_counting_1 {x : T_api_Write} {t1 : Option Addr} {w : World} {R : Bool → World → Prop} (h : F_lane_counting_1 x t1 R w) : C_lane_counting_1 x t1 w R := by
  unfold F_lane_counting_1 at h
  unfold C_lane_counting_1
  refine Calls.mono (calls_of_wpE (args := [Value.agg #[Value.string x.Key, Value.string x.Val, Value.bool x.Drop], Value.pointer t1]) (R := fun v w' => ∃ (r0 : Bool), v = Value.bool r0 ∧ R r0 w') Try.func88 (c := c_lane_counting_1_0) (by kernel_rfl) 9 (by kernel_rfl) (by kernel_rfl) [(0, Value.agg #[Value.string x.Key, Value.string x.Val, Value.bool x.Drop]), (1, Value.pointer t1)] (by kernel_rfl) ?_) ?_
  · refine wpE_seq (x := c_lane_counting_1_1) (y := c_lane_counting_1_3) (by kernel_rfl) ?_
    refine wpE_region (id := 0) (ops := r_lane_counting_1_1) (by kernel_rfl) ?_
    refine reg_run [] 0 [(0, [], Value.agg #[Value.string x.Key, Value.string x.Val, Value.bool x.Drop]), (1, [], Value.pointer t1)] (by kernel_rfl) (by kernel_rfl) ?_
    refine reg_new (op := (Go.Op.box 61 (Go.Operand.tmp 0))) (ty := 0) (dst := some 2) (fun bb => Value.pointer (some ⟨bb, 0, none⟩)) (Obj.cells ([Value.string x.Key, Value.string x.Val, Value.bool x.Drop]).toArray ty_api_Write (0, 0)) (by kernel_rfl) (by kernel_rfl) (fun b_ w1 hb hw => ?_)
    replace h := h b_ w1 hb hw
    clear hb hw
    refine reg_run [.plain] 2 [(1, [], Value.pointer t1), (2, [], Value.pointer (some ⟨b_, 0, none⟩))] (by kernel_rfl) (by kernel_rfl) ?_
    refine reg_end [(1, Value.pointer t1), (2, Value.pointer (some ⟨b_, 0, none⟩))] (by kernel_rfl) (by kernel_rfl) ?_
    change WpE _ _ c_lane_counting_1_3 _ _ _
    refine wpE_seq (x := c_lane_counting_1_4) (y := c_lane_counting_1_6) (by kernel_rfl) ?_
    refine wpE_region (id := 1) (ops := r_lane_counting_1_4) (by kernel_rfl) ?_
    refine reg_run [.plain] 1 [(1, [], Value.pointer t1), (4, [], Value.pointer (some ⟨b_, 0, none⟩))] (by kernel_rfl) (by kernel_rfl) ?_
    obtain ⟨v5, hc, h⟩ := h
    refine reg_load1 (t := 9) (a := (Go.Operand.tmp 4)) (b := b_) (o := 0) (ty := 9) (dst := some 5) (by kernel_rfl) (by kernel_rfl) (by kernel_rfl) hc ?_
    refine reg_run [] 2 [(1, [], Value.pointer t1), (5, [], Value.string v5)] (by kernel_rfl) (by kernel_rfl) ?_
    obtain ⟨hp_0, h⟩ := h
    refine reg_conv [(1, [], Value.pointer (some ⟨(pblk t1), (poff t1), none⟩)), (5, [], Value.string v5)] (congrArg (fun pp => ([(1, [], Value.pointer pp), (5, [], Value.string v5)] : GEnv)) hp_0) ?_
    refine reg_run [.plain] 3 [(1, [], Value.pointer (some ⟨(pblk t1), (poff t1), none⟩)), (5, [], Value.string v5), (6, [], Value.pointer (some ⟨(pblk t1), (poff t1), none⟩))] (by kernel_rfl) (by kernel_rfl) ?_
    refine reg_run [] 3 [(5, [], Value.string v5), (6, [], Value.pointer (some ⟨(pblk t1), (poff t1), none⟩))] (by kernel_rfl) (by kernel_rfl) ?_
    obtain ⟨v7, hc, h⟩ := h
    refine reg_load1 (t := 9) (a := (Go.Operand.tmp 6)) (b := (pblk t1)) (o := (poff t1)) (ty := 9) (dst := some 7) (by kernel_rfl) (by kernel_rfl) (by kernel_rfl) hc ?_
    refine reg_run [.plain, .plain] 6 [(3, [], Value.bool (v5.toList == v7.toList))] (by kernel_rfl) (by kernel_rfl) ?_
    refine reg_end [(3, Value.bool (v5.toList == v7.toList))] (by kernel_rfl) (by kernel_rfl) ?_
    change WpE _ _ c_lane_counting_1_6 _ _ _
    refine wpE_ret (by kernel_rfl) ?_
    repeat (first | refine seqQ_ret ?_ | refine blockQ_ret ?_ | refine loopQ_ret ?_ | refine cutQ_ret ?_)
    exact retS (rs := [(Go.ResultVar.tmp 3)]) (v := Value.bool (v5.toList == v7.toList)) (by kernel_rfl) (⟨by kernel_rfl, trivial⟩) ⟨(v5.toList == v7.toList), rfl, h⟩
  · rintro e w' ⟨v, rfl, r0, rfl, h⟩; exact ⟨r0, rfl, h⟩

/-! ### (towpath/lane.none).next (function 114) -/
noncomputable def c_lane_none_next_0 : Code := (Try.f114.body).getD Code.skip
noncomputable def c_lane_none_next_1 : Code := Code.l c_lane_none_next_0
noncomputable def r_lane_none_next_1 : Array Oper := Code.ops c_lane_none_next_1
noncomputable def c_lane_none_next_3 : Code := Code.r c_lane_none_next_0
noncomputable def c_lane_none_next_4 : Code := Code.l c_lane_none_next_3
noncomputable def r_lane_none_next_4 : Array Oper := Code.ops c_lane_none_next_4
noncomputable def c_lane_none_next_6 : Code := Code.r c_lane_none_next_3

set_option maxRecDepth 100000 in
set_option maxHeartbeats 4000000 in
theorem S_lane_none_next {t0 : T_lane_none} {w : World} {R : T_api_Write → Bool → World → Prop} (h : F_lane_none_next t0 R w) : C_lane_none_next t0 w R := by
  unfold F_lane_none_next at h
  unfold C_lane_none_next
  refine Calls.mono (calls_of_wpE (args := [Value.agg #[]]) (R := fun v w' => ∃ (r0 : T_api_Write) (r1 : Bool), v = Value.tuple #[Value.agg #[Value.string r0.Key, Value.string r0.Val, Value.bool r0.Drop], Value.bool r1] ∧ R r0 r1 w') Try.func114 (c := c_lane_none_next_0) (by kernel_rfl) 5 (by kernel_rfl) (by kernel_rfl) [(0, Value.agg #[])] (by kernel_rfl) ?_) ?_
  · refine wpE_seq (x := c_lane_none_next_1) (y := c_lane_none_next_3) (by kernel_rfl) ?_
    refine wpE_region (id := 0) (ops := r_lane_none_next_1) (by kernel_rfl) ?_
    refine reg_run [] 0 [(0, [], Value.agg #[])] (by kernel_rfl) (by kernel_rfl) ?_
    refine reg_new (op := (Go.Op.box 96 (Go.Operand.tmp 0))) (ty := 0) (dst := some 1) (fun bb => Value.pointer (some ⟨bb, 0, none⟩)) (Obj.cells ([]).toArray ty_lane_none (0, 0)) (by kernel_rfl) (by kernel_rfl) (fun b_ w1 hb hw => ?_)
    replace h := h b_ w1 hb hw
    clear hb hw
    refine reg_run [] 1 [] (by kernel_rfl) (by kernel_rfl) ?_
    refine reg_new (op := (Go.Op.alloc 61)) (ty := 0) (dst := some 2) (fun bb => Value.pointer (some ⟨bb, 0, none⟩)) (Obj.cells ([Value.string ByteArray.empty, Value.string ByteArray.empty, Value.bool false]).toArray ty_api_Write (0, 0)) (by kernel_rfl) (by kernel_rfl) (fun b_1 w2 hb hw => ?_)
    replace h := h b_1 w2 hb hw
    clear hb hw
    refine reg_run [.plain] 3 [(2, [], Value.pointer (some ⟨b_1, 0, none⟩))] (by kernel_rfl) (by kernel_rfl) ?_
    refine reg_end [(2, Value.pointer (some ⟨b_1, 0, none⟩))] (by kernel_rfl) (by kernel_rfl) ?_
    change WpE _ _ c_lane_none_next_3 _ _ _
    refine wpE_seq (x := c_lane_none_next_4) (y := c_lane_none_next_6) (by kernel_rfl) ?_
    refine wpE_region (id := 1) (ops := r_lane_none_next_4) (by kernel_rfl) ?_
    refine reg_run [.plain] 1 [(2, [], Value.pointer (some ⟨b_1, 0, none⟩)), (4, [], Value.agg #[Value.string ByteArray.empty, Value.string ByteArray.empty, Value.bool false])] (by kernel_rfl) (by kernel_rfl) ?_
    obtain ⟨hc, h⟩ := h
    refine reg_store (t := 61) (a := (Go.Operand.tmp 2)) (x := (Go.Operand.tmp 4)) (b := b_1) (o := 0) (ty := 0) (dst := none) [Value.string ByteArray.empty, Value.string ByteArray.empty, Value.bool false] (by kernel_rfl) (by kernel_rfl) (by kernel_rfl) (k := 3) (by kernel_rfl) (by kernel_rfl) (by kernel_rfl) hc (fun w3 hw => ?_)
    replace h := h w3 hw
    clear hw
    refine reg_run [.plain] 3 [(2, [], Value.pointer (some ⟨b_1, 0, none⟩)), (3, [], Value.bool false)] (by kernel_rfl) (by kernel_rfl) ?_
    refine reg_end [(2, Value.pointer (some ⟨b_1, 0, none⟩)), (3, Value.bool false)] (by kernel_rfl) (by kernel_rfl) ?_
    change WpE _ _ c_lane_none_next_6 _ _ _
    refine wpE_ret (by kernel_rfl) ?_
    obtain ⟨res, hc_res, h⟩ := h
    repeat (first | refine seqQ_ret ?_ | refine blockQ_ret ?_ | refine loopQ_ret ?_ | refine cutQ_ret ?_)
    exact retT (rs := [(Go.ResultVar.cell 2 61), (Go.ResultVar.tmp 3)]) (vs := [Value.agg #[Value.string res.Key, Value.string res.Val, Value.bool res.Drop], Value.bool false]) (by kernel_rfl) (⟨b_1, 0, [Value.string res.Key, Value.string res.Val, Value.bool res.Drop], by kernel_rfl, hc_res, (sizeP_of (k := 3) (by kernel_rfl) (by kernel_rfl)), .inl ⟨by kernel_rfl, rfl⟩, ⟨by kernel_rfl, trivial⟩⟩) (by kernel_rfl) ⟨res, false, rfl, h⟩
  · rintro e w' ⟨v, rfl, r0, r1, rfl, h⟩; exact ⟨r0, r1, rfl, h⟩

/-! ### (*towpath/lane.busy).next (function 115) -/
noncomputable def c_lane_busy_next_0 : Code := (Try.f115.body).getD Code.skip
noncomputable def c_lane_busy_next_1 : Code := Code.l c_lane_busy_next_0
noncomputable def r_lane_busy_next_1 : Array Oper := Code.ops c_lane_busy_next_1
noncomputable def c_lane_busy_next_3 : Code := Code.r c_lane_busy_next_0
noncomputable def c_lane_busy_next_4 : Code := Code.l c_lane_busy_next_3
noncomputable def c_lane_busy_next_5 : Code := Code.l c_lane_busy_next_4
noncomputable def r_lane_busy_next_5 : Array Oper := Code.ops c_lane_busy_next_5
noncomputable def c_lane_busy_next_7 : Code := Code.r c_lane_busy_next_4
noncomputable def c_lane_busy_next_8 : Code := Code.l c_lane_busy_next_7
noncomputable def c_lane_busy_next_9 : Code := Code.l c_lane_busy_next_8
noncomputable def r_lane_busy_next_9 : Array Oper := Code.ops c_lane_busy_next_9
noncomputable def c_lane_busy_next_11 : Code := Code.r c_lane_busy_next_8
noncomputable def c_lane_busy_next_12 : Code := Code.r c_lane_busy_next_7
noncomputable def c_lane_busy_next_13 : Code := Code.r c_lane_busy_next_3
noncomputable def c_lane_busy_next_14 : Code := Code.l c_lane_busy_next_13
noncomputable def r_lane_busy_next_14 : Array Oper := Code.ops c_lane_busy_next_14
noncomputable def c_lane_busy_next_16 : Code := Code.r c_lane_busy_next_13

set_option maxRecDepth 100000 in
set_option maxHeartbeats 4000000 in
theorem S_lane_busy_next {b_ : Option Addr} {w : World} {R : T_api_Write → Bool → World → Prop} (h : F_lane_busy_next b_ R w) : C_lane_busy_next b_ w R := by
  unfold F_lane_busy_next at h
  unfold C_lane_busy_next
  refine Calls.mono (calls_of_wpE (args := [Value.pointer b_]) (R := fun v w' => ∃ (r0 : T_api_Write) (r1 : Bool), v = Value.tuple #[Value.agg #[Value.string r0.Key, Value.string r0.Val, Value.bool r0.Drop], Value.bool r1] ∧ R r0 r1 w') Try.func115 (c := c_lane_busy_next_0) (by kernel_rfl) 17 (by kernel_rfl) (by kernel_rfl) [(0, Value.pointer b_)] (by kernel_rfl) ?_) ?_
  · refine wpE_seq (x := c_lane_busy_next_1) (y := c_lane_busy_next_3) (by kernel_rfl) ?_
    refine wpE_region (id := 0) (ops := r_lane_busy_next_1) (by kernel_rfl) ?_
    refine reg_run [] 0 [(0, [], Value.pointer b_)] (by kernel_rfl) (by kernel_rfl) ?_
    refine reg_new (op := (Go.Op.alloc 61)) (ty := 0) (dst := some 2) (fun bb => Value.pointer (some ⟨bb, 0, none⟩)) (Obj.cells ([Value.string ByteArray.empty, Value.string ByteArray.empty, Value.bool false]).toArray ty_api_Write (0, 0)) (by kernel_rfl) (by kernel_rfl) (fun b_1 w1 hb hw => ?_)
    replace h := h b_1 w1 hb hw
    clear hb hw
    refine reg_run [.plain] 2 [(0, [], Value.pointer b_), (2, [], Value.pointer (some ⟨b_1, 0, none⟩))] (by kernel_rfl) (by kernel_rfl) ?_
    refine reg_end [(0, Value.pointer b_), (2, Value.pointer (some ⟨b_1, 0, none⟩))] (by kernel_rfl) (by kernel_rfl) ?_
    change WpE _ _ c_lane_busy_next_3 _ _ _
    refine wpE_seq (x := c_lane_busy_next_4) (y := c_lane_busy_next_13) (by kernel_rfl) ?_
    refine wpE_seq (x := c_lane_busy_next_5) (y := c_lane_busy_next_7) (by kernel_rfl) ?_
    refine wpE_region (id := 1) (ops := r_lane_busy_next_5) (by kernel_rfl) ?_
    refine reg_run [.plain] 1 [(0, [], Value.pointer b_), (2, [], Value.pointer (some ⟨b_1, 0, none⟩)), (4, [], Value.pointer b_)] (by kernel_rfl) (by kernel_rfl) ?_
    obtain ⟨hp_3, h⟩ := h
    refine reg_conv [(0, [], Value.pointer b_), (2, [], Value.pointer (some ⟨b_1, 0, none⟩)), (4, [], Value.pointer (some ⟨(pblk b_), (poff b_), none⟩))] (congrArg (fun pp => ([(0, [], Value.pointer b_), (2, [], Value.pointer (some ⟨b_1, 0, none⟩)), (4, [], Value.pointer pp)] : GEnv)) hp_3) ?_
    refine reg_run [.plain] 2 [(0, [], Value.pointer b_), (2, [], Value.pointer (some ⟨b_1, 0, none⟩)), (4, [], Value.pointer (some ⟨(pblk b_), (poff b_), none⟩)), (5, [], Value.pointer (some ⟨(pblk b_), (poff b_), none⟩))] (by kernel_rfl) (by kernel_rfl) ?_
    refine reg_run [.plain] 3 [(0, [], Value.pointer b_), (2, [], Value.pointer (some ⟨b_1, 0, none⟩)), (6, [], Value.pointer (some ⟨(pblk b_), (poff b_) + 1, none⟩))] (by kernel_rfl) (by kernel_rfl) ?_
    obtain ⟨v7, hc, h⟩ := h
    refine reg_load1 (t := 25) (a := (Go.Operand.tmp 6)) (b := (pblk b_)) (o := ((poff b_) + 1)) (ty := 25) (dst := some 7) (by kernel_rfl) (by kernel_rfl) (by kernel_rfl) hc ?_
    refine reg_run [.plain, .plain] 6 [(0, [], Value.pointer b_), (2, [], Value.pointer (some ⟨b_1, 0, none⟩)), (9, [], Value.bool (((v7.len : Nat) : Int) == 0))] (by kernel_rfl) (by kernel_rfl) ?_
    refine reg_end [(0, Value.pointer b_), (2, Value.pointer (some ⟨b_1, 0, none⟩)), (9, Value.bool (((v7.len : Nat) : Int) == 0))] (by kernel_rfl) (by kernel_rfl) ?_
    change WpE _ _ c_lane_busy_next_7 _ _ _
    refine wpE_cond (o := (Operand.tmp 9)) (b := (((v7.len : Nat) : Int) == 0)) (x := c_lane_busy_next_8) (y := c_lane_busy_next_12) (by kernel_rfl) (by kernel_rfl) (fun hb => ?_) (fun hb => ?_)
    · replace h := h.1 hb
      refine wpE_seq (x := c_lane_busy_next_9) (y := c_lane_busy_next_11) (by kernel_rfl) ?_
      refine wpE_region (id := 2) (ops := r_lane_busy_next_9) (by kernel_rfl) ?_
      refine reg_run [.plain] 1 [(2, [], Value.pointer (some ⟨b_1, 0, none⟩)), (10, [], Value.agg #[Value.string ByteArray.empty, Value.string ByteArray.empty, Value.bool false])] (by kernel_rfl) (by kernel_rfl) ?_
      obtain ⟨hc, h⟩ := h
      refine reg_store (t := 61) (a := (Go.Operand.tmp 2)) (x := (Go.Operand.tmp 10)) (b := b_1) (o := 0) (ty := 0) (dst := none) [Value.string ByteArray.empty, Value.string ByteArray.empty, Value.bool false] (by kernel_rfl) (by kernel_rfl) (by kernel_rfl) (k := 3) (by kernel_rfl) (by kernel_rfl) (by kernel_rfl) hc (fun w2 hw => ?_)
      replace h := h w2 hw
      clear hw
      refine reg_run [.plain] 3 [(2, [], Value.pointer (some ⟨b_1, 0, none⟩)), (3, [], Value.bool false)] (by kernel_rfl) (by kernel_rfl) ?_
      refine reg_end [(2, Value.pointer (some ⟨b_1, 0, none⟩)), (3, Value.bool false)] (by kernel_rfl) (by kernel_rfl) ?_
      change WpE _ _ c_lane_busy_next_11 _ _ _
      refine wpE_ret (by kernel_rfl) ?_
      obtain ⟨res, hc_res, h⟩ := h
      repeat (first | refine seqQ_ret ?_ | refine blockQ_ret ?_ | refine loopQ_ret ?_ | refine cutQ_ret ?_)
      exact retT (rs := [(Go.ResultVar.cell 2 61), (Go.ResultVar.tmp 3)]) (vs := [Value.agg #[Value.string res.Key, Value.string res.Val, Value.bool res.Drop], Value.bool false]) (by kernel_rfl) (⟨b_1, 0, [Value.string res.Key, Value.string res.Val, Value.bool res.Drop], by kernel_rfl, hc_res, (sizeP_of (k := 3) (by kernel_rfl) (by kernel_rfl)), .inl ⟨by kernel_rfl, rfl⟩, ⟨by kernel_rfl, trivial⟩⟩) (by kernel_rfl) ⟨res, false, rfl, h⟩
    · replace h := h.2 hb
      refine wpE_skip (by kernel_rfl) ?_
      change WpE _ _ c_lane_busy_next_13 _ _ _
      refine wpE_seq (x := c_lane_busy_next_14) (y := c_lane_busy_next_16) (by kernel_rfl) ?_
      refine wpE_region (id := 3) (ops := r_lane_busy_next_14) (by kernel_rfl) ?_
      refine reg_run [.plain] 1 [(2, [], Value.pointer (some ⟨b_1, 0, none⟩)), (11, [], Value.pointer b_)] (by kernel_rfl) (by kernel_rfl) ?_
      obtain ⟨hp_4, h⟩ := h
      refine reg_conv [(2, [], Value.pointer (some ⟨b_1, 0, none⟩)), (11, [], Value.pointer (some ⟨(pblk b_), (poff b_), none⟩))] (congrArg (fun pp => ([(2, [], Value.pointer (some ⟨b_1, 0, none⟩)), (11, [], Value.pointer pp)] : GEnv)) hp_4) ?_
      refine reg_run [.plain] 2 [(2, [], Value.pointer (some ⟨b_1, 0, none⟩)), (11, [], Value.pointer (some ⟨(pblk b_), (poff b_), none⟩)), (12, [], Value.pointer (some ⟨(pblk b_), (poff b_), none⟩))] (by kernel_rfl) (by kernel_rfl) ?_
      refine reg_run [.plain] 3 [(2, [], Value.pointer (some ⟨b_1, 0, none⟩)), (13, [], Value.pointer (some ⟨(pblk b_), (poff b_) + 1, none⟩))] (by kernel_rfl) (by kernel_rfl) ?_
      obtain ⟨v14, hc, h⟩ := h
      refine reg_load1 (t := 25) (a := (Go.Operand.tmp 13)) (b := (pblk b_)) (o := ((poff b_) + 1)) (ty := 25) (dst := some 14) (by kernel_rfl) (by kernel_rfl) (by kernel_rfl) hc ?_
      refine reg_run [] 4 [(2, [], Value.pointer (some ⟨b_1, 0, none⟩)), (14, [], Value.slice v14.ptr v14.len v14.cap)] (by kernel_rfl) (by kernel_rfl) ?_
      obtain ⟨hp_5, h⟩ := h
      refine reg_conv [(2, [], Value.pointer (some ⟨b_1, 0, none⟩)), (14, [], Value.slice (some ⟨(pblk v14.ptr), (poff v14.ptr), none⟩) v14.len v14.cap)] (congrArg (fun pp => ([(2, [], Value.pointer (some ⟨b_1, 0, none⟩)), (14, [], Value.slice pp v14.len v14.cap)] : GEnv)) hp_5) ?_
      obtain ⟨h0, h1, h⟩ := h
      refine reg_indexS (t := 25) (e := 61) (x := (Go.Operand.tmp 14)) (ix := (Go.Operand.const (Go.Value.int Go.IntKind.i64 0))) (b := (pblk v14.ptr)) (o := (poff v14.ptr)) (l := v14.len) (c := v14.cap) (k := .i64) (j := 0) (ty := 0) (dst := some 15) (sz := 3) (by kernel_rfl) (by kernel_rfl) (by kernel_rfl) (by kernel_rfl) (by kernel_rfl) h0 h1 ?_
      refine reg_run [] 5 [(2, [], Value.pointer (some ⟨b_1, 0, none⟩)), (15, [], Value.pointer (some ⟨(pblk v14.ptr), (poff v14.ptr), none⟩))] (by kernel_rfl) (by kernel_rfl) ?_
      obtain ⟨v16, hc, h⟩ := h
      refine reg_loadN (t := 61) (a := (Go.Operand.tmp 15)) (b := (pblk v14.ptr)) (o := (poff v14.ptr)) (ty := 61) (dst := some 16) [Value.string v16.Key, Value.string v16.Val, Value.bool v16.Drop] (by kernel_rfl) (by kernel_rfl) (by kernel_rfl) (k := 3) (by kernel_rfl) (by kernel_rfl) hc ?_
      refine reg_run [] 6 [(2, [], Value.pointer (some ⟨b_1, 0, none⟩)), (16, [], Value.agg #[Value.string v16.Key, Value.string v16.Val, Value.bool v16.Drop])] (by kernel_rfl) (by kernel_rfl) ?_
      obtain ⟨hc, h⟩ := h
      refine reg_store (t := 61) (a := (Go.Operand.tmp 2)) (x := (Go.Operand.tmp 16)) (b := b_1) (o := 0) (ty := 0) (dst := none) [Value.string v16.Key, Value.string v16.Val, Value.bool v16.Drop] (by kernel_rfl) (by kernel_rfl) (by kernel_rfl) (k := 3) (by kernel_rfl) (by kernel_rfl) (by kernel_rfl) hc (fun w3 hw => ?_)
      replace h := h w3 hw
      clear hw
      refine reg_run [.plain] 8 [(2, [], Value.pointer (some ⟨b_1, 0, none⟩)), (3, [], Value.bool true)] (by kernel_rfl) (by kernel_rfl) ?_
      refine reg_end [(2, Value.pointer (some ⟨b_1, 0, none⟩)), (3, Value.bool true)] (by kernel_rfl) (by kernel_rfl) ?_
      change WpE _ _ c_lane_busy_next_16 _ _ _
      refine wpE_ret (by kernel_rfl) ?_
      obtain ⟨res1, hc_res1, h⟩ := h
      repeat (first | refine seqQ_ret ?_ | refine blockQ_ret ?_ | refine loopQ_ret ?_ | refine cutQ_ret ?_)
      exact retT (rs := [(Go.ResultVar.cell 2 61), (Go.ResultVar.tmp 3)]) (vs := [Value.agg #[Value.string res1.Key, Value.string res1.Val, Value.bool res1.Drop], Value.bool true]) (by kernel_rfl) (⟨b_1, 0, [Value.string res1.Key, Value.string res1.Val, Value.bool res1.Drop], by kernel_rfl, hc_res1, (sizeP_of (k := 3) (by kernel_rfl) (by kernel_rfl)), .inl ⟨by kernel_rfl, rfl⟩, ⟨by kernel_rfl, trivial⟩⟩) (by kernel_rfl) ⟨res1, true, rfl, h⟩
  · rintro e w' ⟨v, rfl, r0, r1, rfl, h⟩; exact ⟨r0, r1, rfl, h⟩
end Go.Proofs.Ytfmkemmgakdddaa
