/- WRITTEN BY PROGRAM (dec.py): for each Go function the clean formula F, the call's contract C, and the proof S that F gives C. -/
import Derived.Test.YtfmkemmgakdddaaRows
import Derived.Test.YtfmkemmgakdddaaGF
namespace Go.Proofs.Ytfmkemmgakdddaa
open Go
set_option linter.unusedVariables false

/-! ### towpath/conf.Check (function 21) -/
noncomputable def c_conf_Check_0 : Code := (Try.f21.body).getD Code.skip
noncomputable def c_conf_Check_1 : Code := Code.l c_conf_Check_0
noncomputable def r_conf_Check_1 : Array Oper := Code.ops c_conf_Check_1
noncomputable def c_conf_Check_3 : Code := Code.r c_conf_Check_0
noncomputable def c_conf_Check_4 : Code := Code.l c_conf_Check_3
noncomputable def c_conf_Check_5 : Code := Code.l c_conf_Check_4
noncomputable def r_conf_Check_5 : Array Oper := Code.ops c_conf_Check_5
noncomputable def c_conf_Check_7 : Code := Code.r c_conf_Check_4
noncomputable def c_conf_Check_8 : Code := Code.l c_conf_Check_7
noncomputable def c_conf_Check_9 : Code := Code.l c_conf_Check_8
noncomputable def c_conf_Check_10 : Code := Code.l c_conf_Check_9
noncomputable def r_conf_Check_10 : Array Oper := Code.ops c_conf_Check_10
noncomputable def c_conf_Check_12 : Code := Code.r c_conf_Check_9
noncomputable def c_conf_Check_13 : Code := Code.l c_conf_Check_12
noncomputable def c_conf_Check_14 : Code := Code.l c_conf_Check_13
noncomputable def c_conf_Check_15 : Code := Code.r c_conf_Check_13
noncomputable def c_conf_Check_16 : Code := Code.r c_conf_Check_12
noncomputable def c_conf_Check_17 : Code := Code.l c_conf_Check_16
noncomputable def c_conf_Check_18 : Code := Code.l c_conf_Check_17
noncomputable def c_conf_Check_19 : Code := Code.l c_conf_Check_18
noncomputable def r_conf_Check_19 : Array Oper := Code.ops c_conf_Check_19
noncomputable def c_conf_Check_21 : Code := Code.r c_conf_Check_18
noncomputable def c_conf_Check_22 : Code := Code.l c_conf_Check_21
noncomputable def r_conf_Check_22 : Array Oper := Code.ops c_conf_Check_22
noncomputable def c_conf_Check_24 : Code := Code.r c_conf_Check_21
noncomputable def c_conf_Check_25 : Code := Code.l c_conf_Check_24
noncomputable def c_conf_Check_26 : Code := Code.l c_conf_Check_25
noncomputable def r_conf_Check_26 : Array Oper := Code.ops c_conf_Check_26
noncomputable def c_conf_Check_28 : Code := Code.r c_conf_Check_25
noncomputable def c_conf_Check_29 : Code := Code.r c_conf_Check_24
noncomputable def c_conf_Check_30 : Code := Code.r c_conf_Check_16
noncomputable def r_conf_Check_30 : Array Oper := Code.ops c_conf_Check_30
noncomputable def c_conf_Check_32 : Code := Code.r c_conf_Check_3
noncomputable def c_conf_Check_33 : Code := Code.l c_conf_Check_32
noncomputable def r_conf_Check_33 : Array Oper := Code.ops c_conf_Check_33
noncomputable def c_conf_Check_35 : Code := Code.r c_conf_Check_32

set_option maxRecDepth 100000 in
set_option maxHeartbeats 4000000 in
theorem S_conf_Check {c : T_api_Config} {w : World} {R : Int → World → Prop} (h : F_conf_Check c R w) : C_conf_Check c w R := by
  unfold F_conf_Check at h
  unfold C_conf_Check
  refine Calls.mono (calls_of_wpE (args := [Value.agg #[Value.int .i64 c.Lanes, Value.int .i64 c.Shards, Value.int .i64 c.Window, Value.int .i64 c.Queue]]) (R := fun v w' => ∃ (r0 : Int), v = Value.int .i64 r0 ∧ R r0 w') Try.func21 (c := c_conf_Check_0) (by kernel_rfl) 34 (by kernel_rfl) (by kernel_rfl) [(0, Value.agg #[Value.int .i64 c.Lanes, Value.int .i64 c.Shards, Value.int .i64 c.Window, Value.int .i64 c.Queue])] (by kernel_rfl) ?_) ?_
  · refine wpE_seq (x := c_conf_Check_1) (y := c_conf_Check_3) (by kernel_rfl) ?_
    refine wpE_region (id := 0) (ops := r_conf_Check_1) (by kernel_rfl) ?_
    refine reg_run [] 0 [(0, [], Value.agg #[Value.int .i64 c.Lanes, Value.int .i64 c.Shards, Value.int .i64 c.Window, Value.int .i64 c.Queue])] (by kernel_rfl) (by kernel_rfl) ?_
    refine reg_new (op := (Go.Op.box 35 (Go.Operand.tmp 0))) (ty := 0) (dst := some 1) (fun bb => Value.pointer (some ⟨bb, 0, none⟩)) (Obj.cells ([Value.int .i64 c.Lanes, Value.int .i64 c.Shards, Value.int .i64 c.Window, Value.int .i64 c.Queue]).toArray ty_api_Config (0, 0)) (by kernel_rfl) (by kernel_rfl) (fun b_ w1 hb hw => ?_)
    replace h := h b_ w1 hb hw
    clear hb hw
    refine reg_run [.plain] 2 [(1, [], Value.pointer (some ⟨b_, 0, none⟩))] (by kernel_rfl) (by kernel_rfl) ?_
    refine reg_end [(1, Value.pointer (some ⟨b_, 0, none⟩))] (by kernel_rfl) (by kernel_rfl) ?_
    change WpE _ _ c_conf_Check_3 _ _ _
    refine wpE_seq (x := c_conf_Check_4) (y := c_conf_Check_32) (by kernel_rfl) ?_
    refine wpE_seq (x := c_conf_Check_5) (y := c_conf_Check_7) (by kernel_rfl) ?_
    refine wpE_region (id := 1) (ops := r_conf_Check_5) (by kernel_rfl) ?_
    refine reg_run [.plain] 1 [(1, [], Value.pointer (some ⟨b_, 0, none⟩)), (5, [], Value.pointer (some ⟨b_, 0, none⟩))] (by kernel_rfl) (by kernel_rfl) ?_
    obtain ⟨v6, hc, h⟩ := h
    refine reg_load1 (t := 3) (a := (Go.Operand.tmp 5)) (b := b_) (o := 0) (ty := 3) (dst := some 6) (by kernel_rfl) (by kernel_rfl) (by kernel_rfl) hc ?_
    refine reg_run [.plain, .plain] 4 [(1, [], Value.pointer (some ⟨b_, 0, none⟩)), (7, [], Value.agg #[Value.int .i64 v6, Value.int .i64 16]), (8, [], Value.pointer (some ⟨b_, 1, none⟩))] (by kernel_rfl) (by kernel_rfl) ?_
    obtain ⟨v9, hc, h⟩ := h
    refine reg_load1 (t := 3) (a := (Go.Operand.tmp 8)) (b := b_) (o := 1) (ty := 3) (dst := some 9) (by kernel_rfl) (by kernel_rfl) (by kernel_rfl) hc ?_
    refine reg_run [.plain, .plain] 7 [(1, [], Value.pointer (some ⟨b_, 0, none⟩)), (7, [], Value.agg #[Value.int .i64 v6, Value.int .i64 16]), (10, [], Value.agg #[Value.int .i64 v9, Value.int .i64 16]), (11, [], Value.pointer (some ⟨b_, 2, none⟩))] (by kernel_rfl) (by kernel_rfl) ?_
    obtain ⟨v12, hc, h⟩ := h
    refine reg_load1 (t := 3) (a := (Go.Operand.tmp 11)) (b := b_) (o := 2) (ty := 3) (dst := some 12) (by kernel_rfl) (by kernel_rfl) (by kernel_rfl) hc ?_
    refine reg_run [.plain, .plain] 10 [(7, [], Value.agg #[Value.int .i64 v6, Value.int .i64 16]), (10, [], Value.agg #[Value.int .i64 v9, Value.int .i64 16]), (13, [], Value.agg #[Value.int .i64 v12, Value.int .i64 64]), (14, [], Value.pointer (some ⟨b_, 3, none⟩))] (by kernel_rfl) (by kernel_rfl) ?_
    obtain ⟨v15, hc, h⟩ := h
    refine reg_load1 (t := 3) (a := (Go.Operand.tmp 14)) (b := b_) (o := 3) (ty := 3) (dst := some 15) (by kernel_rfl) (by kernel_rfl) (by kernel_rfl) hc ?_
    refine reg_run [.plain] 12 [(7, [], Value.agg #[Value.int .i64 v6, Value.int .i64 16]), (10, [], Value.agg #[Value.int .i64 v9, Value.int .i64 16]), (13, [], Value.agg #[Value.int .i64 v12, Value.int .i64 64]), (16, [], Value.agg #[Value.int .i64 v15, Value.int .i64 16])] (by kernel_rfl) (by kernel_rfl) ?_
    refine reg_new (op := (Go.Op.buildSlice 101 4 #[(0, (Go.Operand.tmp 7)), (1, (Go.Operand.tmp 10)), (2, (Go.Operand.tmp 13)), (3, (Go.Operand.tmp 16))])) (ty := 101) (dst := some 17) (fun bb => Value.slice (some ⟨bb, 0, none⟩) 4 4) (Obj.cells ([Value.int .i64 v6, Value.int .i64 16, Value.int .i64 v9, Value.int .i64 16, Value.int .i64 v12, Value.int .i64 64, Value.int .i64 v15, Value.int .i64 16]).toArray ty_2_int (0, 0)) (by kernel_rfl) (by kernel_rfl) (fun b_1 w2 hb hw => ?_)
    replace h := h b_1 w2 hb hw
    clear hb hw
    refine reg_run [.plain, .plain] 15 [(17, [], Value.slice (some ⟨b_1, 0, none⟩) 4 4), (18, [], Value.int .i64 ((4 : Nat) : Int)), (19, [], Value.int .i64 0)] (by kernel_rfl) (by kernel_rfl) ?_
    refine reg_end [(17, Value.slice (some ⟨b_1, 0, none⟩) 4 4), (18, Value.int .i64 ((4 : Nat) : Int)), (19, Value.int .i64 0)] (by kernel_rfl) (by kernel_rfl) ?_
    change WpE _ _ c_conf_Check_7 _ _ _
    refine wpE_block (id := 0) (x := c_conf_Check_8) (by kernel_rfl) ?_
    obtain ⟨I, μ, h0, hr⟩ := h
    refine wpE_loop (x := c_conf_Check_9) (by kernel_rfl) (fun m l w => ∃ (t19 : Int), l = [(17, Value.slice (some ⟨b_1, 0, none⟩) 4 4), (18, Value.int .i64 ((4 : Nat) : Int)), (19, Value.int .i64 t19)] ∧ I t19 w ∧ μ t19 w = m) (l' := [(17, Value.slice (some ⟨b_1, 0, none⟩) 4 4), (18, Value.int .i64 ((4 : Nat) : Int)), (19, Value.int .i64 0)]) (Sub.mk (by kernel_rfl)) ⟨0, rfl, h0, rfl⟩ ?_
    rintro _ _ w3 ⟨t19, rfl, hI, rfl⟩
    obtain ⟨again_, again__h, h⟩ : ∃ again_ : Int → World → Prop, (∀ t19' w', again_ t19' w' → I t19' w' ∧ μ t19' w' < μ t19 w3) ∧ F_conf_Check_L0 R b_1 again_ t19 w3 := ⟨_, fun _ _ h => h, hr t19 w3 hI⟩
    clear h0 hI
    unfold F_conf_Check_L0 at h
    refine wpE_seq (x := c_conf_Check_10) (y := c_conf_Check_12) (by kernel_rfl) ?_
    refine wpE_region (id := 2) (ops := r_conf_Check_10) (by kernel_rfl) ?_
    refine reg_run [.plain] 1 [(17, [], Value.slice (some ⟨b_1, 0, none⟩) 4 4), (18, [], Value.int .i64 ((4 : Nat) : Int)), (19, [], Value.int .i64 t19), (20, [], Value.bool (decide (t19 < ((4 : Nat) : Int))))] (by kernel_rfl) (by kernel_rfl) ?_
    refine reg_end [(17, Value.slice (some ⟨b_1, 0, none⟩) 4 4), (18, Value.int .i64 ((4 : Nat) : Int)), (19, Value.int .i64 t19), (20, Value.bool (decide (t19 < ((4 : Nat) : Int))))] (by kernel_rfl) (by kernel_rfl) ?_
    change WpE _ _ c_conf_Check_12 _ _ _
    refine wpE_seq (x := c_conf_Check_13) (y := c_conf_Check_16) (by kernel_rfl) ?_
    refine wpE_cond (o := (Operand.tmp 20)) (b := (decide (t19 < ((4 : Nat) : Int)))) (x := c_conf_Check_14) (y := c_conf_Check_15) (by kernel_rfl) (by kernel_rfl) (fun hb => ?_) (fun hb => ?_)
    · replace h := h.1 hb
      refine wpE_skip (by kernel_rfl) ?_
      change WpE _ _ c_conf_Check_16 _ _ _
      refine wpE_seq (x := c_conf_Check_17) (y := c_conf_Check_30) (by kernel_rfl) ?_
      refine wpE_block (id := 1) (x := c_conf_Check_18) (by kernel_rfl) ?_
      refine wpE_seq (x := c_conf_Check_19) (y := c_conf_Check_21) (by kernel_rfl) ?_
      refine wpE_region (id := 3) (ops := r_conf_Check_19) (by kernel_rfl) ?_
      refine reg_run [] 0 [(17, [], Value.slice (some ⟨b_1, 0, none⟩) 4 4), (18, [], Value.int .i64 ((4 : Nat) : Int)), (19, [], Value.int .i64 t19)] (by kernel_rfl) (by kernel_rfl) ?_
      obtain ⟨h0, h1, h⟩ := h
      refine reg_indexS (t := 101) (e := 100) (x := (Go.Operand.tmp 17)) (ix := (Go.Operand.tmp 19)) (b := b_1) (o := 0) (l := 4) (c := 4) (k := .i64) (j := t19) (ty := 0) (dst := some 21) (sz := 2) (by kernel_rfl) (by kernel_rfl) (by kernel_rfl) (by kernel_rfl) (by kernel_rfl) h0 h1 ?_
      refine reg_run [] 1 [(17, [], Value.slice (some ⟨b_1, 0, none⟩) 4 4), (18, [], Value.int .i64 ((4 : Nat) : Int)), (19, [], Value.int .i64 t19), (21, [], Value.pointer (some ⟨b_1, 0 + t19.toNat * 2, none⟩))] (by kernel_rfl) (by kernel_rfl) ?_
      obtain ⟨v22, hc, h⟩ := h
      refine reg_loadN (t := 100) (a := (Go.Operand.tmp 21)) (b := b_1) (o := (0 + t19.toNat * 2)) (ty := 100) (dst := some 22) [Value.int .i64 v22.e0, Value.int .i64 v22.e1] (by kernel_rfl) (by kernel_rfl) (by kernel_rfl) (k := 2) (by kernel_rfl) (by kernel_rfl) hc ?_
      refine reg_run [] 2 [(17, [], Value.slice (some ⟨b_1, 0, none⟩) 4 4), (18, [], Value.int .i64 ((4 : Nat) : Int)), (19, [], Value.int .i64 t19), (22, [], Value.agg #[Value.int .i64 v22.e0, Value.int .i64 v22.e1])] (by kernel_rfl) (by kernel_rfl) ?_
      refine reg_new (op := (Go.Op.alloc 100)) (ty := 0) (dst := some 4) (fun bb => Value.pointer (some ⟨bb, 0, none⟩)) (Obj.cells ([Value.int .i64 0, Value.int .i64 0]).toArray ty_2_int (0, 0)) (by kernel_rfl) (by kernel_rfl) (fun b_2 w4 hb hw => ?_)
      replace h := h b_2 w4 hb hw
      clear hb hw
      refine reg_run [] 3 [(4, [], Value.pointer (some ⟨b_2, 0, none⟩)), (17, [], Value.slice (some ⟨b_1, 0, none⟩) 4 4), (18, [], Value.int .i64 ((4 : Nat) : Int)), (19, [], Value.int .i64 t19), (22, [], Value.agg #[Value.int .i64 v22.e0, Value.int .i64 v22.e1])] (by kernel_rfl) (by kernel_rfl) ?_
      obtain ⟨hc, h⟩ := h
      refine reg_store (t := 100) (a := (Go.Operand.tmp 4)) (x := (Go.Operand.tmp 22)) (b := b_2) (o := 0) (ty := 0) (dst := none) [Value.int .i64 v22.e0, Value.int .i64 v22.e1] (by kernel_rfl) (by kernel_rfl) (by kernel_rfl) (k := 2) (by kernel_rfl) (by kernel_rfl) (by kernel_rfl) hc (fun w5 hw => ?_)
      replace h := h w5 hw
      clear hw
      refine reg_end [(4, Value.pointer (some ⟨b_2, 0, none⟩)), (17, Value.slice (some ⟨b_1, 0, none⟩) 4 4), (18, Value.int .i64 ((4 : Nat) : Int)), (19, Value.int .i64 t19)] (by kernel_rfl) (by kernel_rfl) ?_
      change WpE _ _ c_conf_Check_21 _ _ _
      refine wpE_seq_cut (x := c_conf_Check_22) (y := c_conf_Check_24) (by kernel_rfl) (fun l w => ∃ (t32 : Bool), l = [(17, Value.slice (some ⟨b_1, 0, none⟩) 4 4), (18, Value.int .i64 ((4 : Nat) : Int)), (19, Value.int .i64 t19), (32, Value.bool t32)] ∧ F_conf_Check_k1 R t19 again_ t32 w) ?_ ?_
      · refine wpE_region (id := 4) (ops := r_conf_Check_22) (by kernel_rfl) ?_
        refine reg_run [] 0 [(4, [], Value.pointer (some ⟨b_2, 0, none⟩)), (17, [], Value.slice (some ⟨b_1, 0, none⟩) 4 4), (18, [], Value.int .i64 ((4 : Nat) : Int)), (19, [], Value.int .i64 t19)] (by kernel_rfl) (by kernel_rfl) ?_
        obtain ⟨h0, h1, h⟩ := h
        refine reg_indexA1 (t := 100) (e := 3) (x := (Go.Operand.tmp 4)) (ix := (Go.Operand.const (Go.Value.int Go.IntKind.i64 0))) (b := b_2) (o := 0) (len := 2) (k := .i64) (j := 0) (ty := 0) (dst := some 23) (by kernel_rfl) (by kernel_rfl) (by kernel_rfl) (by kernel_rfl) (by kernel_rfl) h0 h1 ?_
        refine reg_run [] 1 [(4, [], Value.pointer (some ⟨b_2, 0, none⟩)), (17, [], Value.slice (some ⟨b_1, 0, none⟩) 4 4), (18, [], Value.int .i64 ((4 : Nat) : Int)), (19, [], Value.int .i64 t19), (23, [], Value.pointer (some ⟨b_2, 0, none⟩))] (by kernel_rfl) (by kernel_rfl) ?_
        obtain ⟨v24, hc, h⟩ := h
        refine reg_load1 (t := 3) (a := (Go.Operand.tmp 23)) (b := b_2) (o := 0) (ty := 3) (dst := some 24) (by kernel_rfl) (by kernel_rfl) (by kernel_rfl) hc ?_
        refine reg_run [.plain, .plain] 4 [(4, [], Value.pointer (some ⟨b_2, 0, none⟩)), (17, [], Value.slice (some ⟨b_1, 0, none⟩) 4 4), (18, [], Value.int .i64 ((4 : Nat) : Int)), (19, [], Value.int .i64 t19), (26, [], Value.bool (decide (v24 < 1)))] (by kernel_rfl) (by kernel_rfl) ?_
        refine reg_split 26 (decide (v24 < 1)) (by kernel_rfl) (fun hb => ?_) (fun hb => ?_)
        · replace h := h.1 hb
          refine reg_run [] 4 [(4, [], Value.pointer (some ⟨b_2, 0, none⟩)), (17, [], Value.slice (some ⟨b_1, 0, none⟩) 4 4), (18, [], Value.int .i64 ((4 : Nat) : Int)), (19, [], Value.int .i64 t19), (26, [], Value.bool true)] (by kernel_rfl) (by kernel_rfl) ?_
          refine reg_run [.skip, .skip, .skip, .skip, .skip, .plain] 10 [(17, [], Value.slice (some ⟨b_1, 0, none⟩) 4 4), (18, [], Value.int .i64 ((4 : Nat) : Int)), (19, [], Value.int .i64 t19), (32, [], Value.bool true)] (by kernel_rfl) (by kernel_rfl) ?_
          refine reg_end [(17, Value.slice (some ⟨b_1, 0, none⟩) 4 4), (18, Value.int .i64 ((4 : Nat) : Int)), (19, Value.int .i64 t19), (32, Value.bool true)] (by kernel_rfl) (by kernel_rfl) ?_
          exact ⟨[(17, Value.slice (some ⟨b_1, 0, none⟩) 4 4), (18, Value.int .i64 ((4 : Nat) : Int)), (19, Value.int .i64 t19), (32, Value.bool true)], Sub.mk (by kernel_rfl), true, rfl, h⟩
        · replace h := h.2 hb
          refine reg_run [] 4 [(4, [], Value.pointer (some ⟨b_2, 0, none⟩)), (17, [], Value.slice (some ⟨b_1, 0, none⟩) 4 4), (18, [], Value.int .i64 ((4 : Nat) : Int)), (19, [], Value.int .i64 t19), (26, [], Value.bool false)] (by kernel_rfl) (by kernel_rfl) ?_
          refine reg_run [] 4 [(4, [], Value.pointer (some ⟨b_2, 0, none⟩)), (17, [], Value.slice (some ⟨b_1, 0, none⟩) 4 4), (18, [], Value.int .i64 ((4 : Nat) : Int)), (19, [], Value.int .i64 t19), (26, [], Value.bool false)] (by kernel_rfl) (by kernel_rfl) ?_
          obtain ⟨h0, h1, h⟩ := h
          refine reg_indexA1 (t := 100) (e := 3) (x := (Go.Operand.tmp 4)) (ix := (Go.Operand.const (Go.Value.int Go.IntKind.i64 0))) (b := b_2) (o := 0) (len := 2) (k := .i64) (j := 0) (ty := 0) (dst := some 27) (by kernel_rfl) (by kernel_rfl) (by kernel_rfl) (by kernel_rfl) (by kernel_rfl) h0 h1 ?_
          refine reg_run [] 5 [(4, [], Value.pointer (some ⟨b_2, 0, none⟩)), (17, [], Value.slice (some ⟨b_1, 0, none⟩) 4 4), (18, [], Value.int .i64 ((4 : Nat) : Int)), (19, [], Value.int .i64 t19), (26, [], Value.bool false), (27, [], Value.pointer (some ⟨b_2, 0, none⟩))] (by kernel_rfl) (by kernel_rfl) ?_
          obtain ⟨v28, hc, h⟩ := h
          refine reg_load1 (t := 3) (a := (Go.Operand.tmp 27)) (b := b_2) (o := 0) (ty := 3) (dst := some 28) (by kernel_rfl) (by kernel_rfl) (by kernel_rfl) hc ?_
          refine reg_run [] 6 [(4, [], Value.pointer (some ⟨b_2, 0, none⟩)), (17, [], Value.slice (some ⟨b_1, 0, none⟩) 4 4), (18, [], Value.int .i64 ((4 : Nat) : Int)), (19, [], Value.int .i64 t19), (26, [], Value.bool false), (28, [], Value.int .i64 v28)] (by kernel_rfl) (by kernel_rfl) ?_
          obtain ⟨h0, h1, h⟩ := h
          refine reg_indexA1 (t := 100) (e := 3) (x := (Go.Operand.tmp 4)) (ix := (Go.Operand.const (Go.Value.int Go.IntKind.i64 1))) (b := b_2) (o := 0) (len := 2) (k := .i64) (j := 1) (ty := 0) (dst := some 29) (by kernel_rfl) (by kernel_rfl) (by kernel_rfl) (by kernel_rfl) (by kernel_rfl) h0 h1 ?_
          refine reg_run [] 7 [(17, [], Value.slice (some ⟨b_1, 0, none⟩) 4 4), (18, [], Value.int .i64 ((4 : Nat) : Int)), (19, [], Value.int .i64 t19), (26, [], Value.bool false), (28, [], Value.int .i64 v28), (29, [], Value.pointer (some ⟨b_2, 1, none⟩))] (by kernel_rfl) (by kernel_rfl) ?_
          obtain ⟨v30, hc, h⟩ := h
          refine reg_load1 (t := 3) (a := (Go.Operand.tmp 29)) (b := b_2) (o := 1) (ty := 3) (dst := some 30) (by kernel_rfl) (by kernel_rfl) (by kernel_rfl) hc ?_
          refine reg_run [.sure, .plain] 10 [(17, [], Value.slice (some ⟨b_1, 0, none⟩) 4 4), (18, [], Value.int .i64 ((4 : Nat) : Int)), (19, [], Value.int .i64 t19), (32, [], Value.bool (decide (v28 > v30)))] (by kernel_rfl) (by kernel_rfl) ?_
          refine reg_end [(17, Value.slice (some ⟨b_1, 0, none⟩) 4 4), (18, Value.int .i64 ((4 : Nat) : Int)), (19, Value.int .i64 t19), (32, Value.bool (decide (v28 > v30)))] (by kernel_rfl) (by kernel_rfl) ?_
          exact ⟨[(17, Value.slice (some ⟨b_1, 0, none⟩) 4 4), (18, Value.int .i64 ((4 : Nat) : Int)), (19, Value.int .i64 t19), (32, Value.bool (decide (v28 > v30)))], Sub.mk (by kernel_rfl), (decide (v28 > v30)), rfl, h⟩
      · rintro _ w6 ⟨t32, rfl, h⟩
        unfold F_conf_Check_k1 at h
        refine wpE_cond (o := (Operand.tmp 32)) (b := t32) (x := c_conf_Check_25) (y := c_conf_Check_29) (by kernel_rfl) (by kernel_rfl) (fun hb => ?_) (fun hb => ?_)
        · replace h := h.1 hb
          refine wpE_seq (x := c_conf_Check_26) (y := c_conf_Check_28) (by kernel_rfl) ?_
          refine wpE_region (id := 5) (ops := r_conf_Check_26) (by kernel_rfl) ?_
          refine reg_run [.plain] 1 [(2, [], Value.int .i64 7)] (by kernel_rfl) (by kernel_rfl) ?_
          refine reg_end [(2, Value.int .i64 7)] (by kernel_rfl) (by kernel_rfl) ?_
          change WpE _ _ c_conf_Check_28 _ _ _
          refine wpE_ret (by kernel_rfl) ?_
          repeat (first | refine seqQ_ret ?_ | refine blockQ_ret ?_ | refine loopQ_ret ?_ | refine cutQ_ret ?_)
          exact retS (rs := [(Go.ResultVar.tmp 2)]) (v := Value.int .i64 7) (by kernel_rfl) (⟨by kernel_rfl, trivial⟩) ⟨7, rfl, h⟩
        · replace h := h.2 hb
          refine wpE_skip (by kernel_rfl) ?_
          change WpE _ _ c_conf_Check_30 _ _ _
          refine wpE_region (id := 6) (ops := r_conf_Check_30) (by kernel_rfl) ?_
          refine reg_run [.plain, .plain] 2 [(17, [], Value.slice (some ⟨b_1, 0, none⟩) 4 4), (18, [], Value.int .i64 ((4 : Nat) : Int)), (19, [], Value.int .i64 (IntKind.i64.wrap (t19 + 1)))] (by kernel_rfl) (by kernel_rfl) ?_
          refine reg_end [(17, Value.slice (some ⟨b_1, 0, none⟩) 4 4), (18, Value.int .i64 ((4 : Nat) : Int)), (19, Value.int .i64 (IntKind.i64.wrap (t19 + 1)))] (by kernel_rfl) (by kernel_rfl) ?_
          have hb_ := again__h _ _ h
          exact ⟨_, hb_.2, [(17, Value.slice (some ⟨b_1, 0, none⟩) 4 4), (18, Value.int .i64 ((4 : Nat) : Int)), (19, Value.int .i64 (IntKind.i64.wrap (t19 + 1)))], Sub.mk (by kernel_rfl), (IntKind.i64.wrap (t19 + 1)), rfl, hb_.1, rfl⟩
    · replace h := h.2 hb
      refine wpE_exit (id := 0) (by kernel_rfl) ?_
      change WpE _ _ c_conf_Check_32 _ _ _
      refine wpE_seq (x := c_conf_Check_33) (y := c_conf_Check_35) (by kernel_rfl) ?_
      refine wpE_region (id := 7) (ops := r_conf_Check_33) (by kernel_rfl) ?_
      refine reg_run [.plain] 1 [(2, [], Value.int .i64 0)] (by kernel_rfl) (by kernel_rfl) ?_
      refine reg_end [(2, Value.int .i64 0)] (by kernel_rfl) (by kernel_rfl) ?_
      change WpE _ _ c_conf_Check_35 _ _ _
      refine wpE_ret (by kernel_rfl) ?_
      repeat (first | refine seqQ_ret ?_ | refine blockQ_ret ?_ | refine loopQ_ret ?_ | refine cutQ_ret ?_)
      exact retS (rs := [(Go.ResultVar.tmp 2)]) (v := Value.int .i64 0) (by kernel_rfl) (⟨by kernel_rfl, trivial⟩) ⟨0, rfl, h⟩
  · rintro e w' ⟨v, rfl, r0, rfl, h⟩; exact ⟨r0, rfl, h⟩

/-! ### towpath/conf.Shard (function 27) -/
noncomputable def c_conf_Shard_0 : Code := (Try.f27.body).getD Code.skip
noncomputable def c_conf_Shard_1 : Code := Code.l c_conf_Shard_0
noncomputable def r_conf_Shard_1 : Array Oper := Code.ops c_conf_Shard_1
noncomputable def c_conf_Shard_3 : Code := Code.r c_conf_Shard_0
noncomputable def c_conf_Shard_4 : Code := Code.l c_conf_Shard_3
noncomputable def c_conf_Shard_5 : Code := Code.l c_conf_Shard_4
noncomputable def r_conf_Shard_5 : Array Oper := Code.ops c_conf_Shard_5
noncomputable def c_conf_Shard_7 : Code := Code.r c_conf_Shard_4
noncomputable def c_conf_Shard_8 : Code := Code.l c_conf_Shard_7
noncomputable def r_conf_Shard_8 : Array Oper := Code.ops c_conf_Shard_8
noncomputable def c_conf_Shard_10 : Code := Code.r c_conf_Shard_7
noncomputable def c_conf_Shard_11 : Code := Code.l c_conf_Shard_10
noncomputable def c_conf_Shard_12 : Code := Code.l c_conf_Shard_11
noncomputable def r_conf_Shard_12 : Array Oper := Code.ops c_conf_Shard_12
noncomputable def c_conf_Shard_14 : Code := Code.r c_conf_Shard_11
noncomputable def c_conf_Shard_15 : Code := Code.r c_conf_Shard_10
noncomputable def c_conf_Shard_16 : Code := Code.r c_conf_Shard_3
noncomputable def c_conf_Shard_17 : Code := Code.l c_conf_Shard_16
noncomputable def c_conf_Shard_18 : Code := Code.l c_conf_Shard_17
noncomputable def r_conf_Shard_18 : Array Oper := Code.ops c_conf_Shard_18
noncomputable def c_conf_Shard_20 : Code := Code.r c_conf_Shard_17
noncomputable def c_conf_Shard_21 : Code := Code.l c_conf_Shard_20
noncomputable def c_conf_Shard_22 : Code := Code.l c_conf_Shard_21
noncomputable def r_conf_Shard_22 : Array Oper := Code.ops c_conf_Shard_22
noncomputable def c_conf_Shard_24 : Code := Code.r c_conf_Shard_21
noncomputable def c_conf_Shard_25 : Code := Code.r c_conf_Shard_20
noncomputable def c_conf_Shard_26 : Code := Code.r c_conf_Shard_16
noncomputable def c_conf_Shard_27 : Code := Code.l c_conf_Shard_26
noncomputable def r_conf_Shard_27 : Array Oper := Code.ops c_conf_Shard_27
noncomputable def c_conf_Shard_29 : Code := Code.r c_conf_Shard_26

set_option maxRecDepth 100000 in
set_option maxHeartbeats 4000000 in
theorem S_conf_Shard {c : T_api_Config} {key : ByteArray} {w : World} {R : Int → Int → World → Prop} (h : F_conf_Shard c key R w) : C_conf_Shard c key w R := by
  unfold F_conf_Shard at h
  unfold C_conf_Shard
  refine Calls.mono (calls_of_wpE (args := [Value.agg #[Value.int .i64 c.Lanes, Value.int .i64 c.Shards, Value.int .i64 c.Window, Value.int .i64 c.Queue], Value.string key]) (R := fun v w' => ∃ (r0 : Int) (r1 : Int), v = Value.tuple #[Value.int .i64 r0, Value.int .i64 r1] ∧ R r0 r1 w') Try.func27 (c := c_conf_Shard_0) (by kernel_rfl) 26 (by kernel_rfl) (by kernel_rfl) [(0, Value.agg #[Value.int .i64 c.Lanes, Value.int .i64 c.Shards, Value.int .i64 c.Window, Value.int .i64 c.Queue]), (1, Value.string key)] (by kernel_rfl) ?_) ?_
  · refine wpE_seq (x := c_conf_Shard_1) (y := c_conf_Shard_3) (by kernel_rfl) ?_
    refine wpE_region (id := 0) (ops := r_conf_Shard_1) (by kernel_rfl) ?_
    refine reg_run [] 0 [(0, [], Value.agg #[Value.int .i64 c.Lanes, Value.int .i64 c.Shards, Value.int .i64 c.Window, Value.int .i64 c.Queue]), (1, [], Value.string key)] (by kernel_rfl) (by kernel_rfl) ?_
    refine reg_new (op := (Go.Op.box 35 (Go.Operand.tmp 0))) (ty := 0) (dst := some 2) (fun bb => Value.pointer (some ⟨bb, 0, none⟩)) (Obj.cells ([Value.int .i64 c.Lanes, Value.int .i64 c.Shards, Value.int .i64 c.Window, Value.int .i64 c.Queue]).toArray ty_api_Config (0, 0)) (by kernel_rfl) (by kernel_rfl) (fun b_ w1 hb hw => ?_)
    replace h := h b_ w1 hb hw
    clear hb hw
    refine reg_run [.plain, .plain] 3 [(1, [], Value.string key), (2, [], Value.pointer (some ⟨b_, 0, none⟩))] (by kernel_rfl) (by kernel_rfl) ?_
    refine reg_end [(1, Value.string key), (2, Value.pointer (some ⟨b_, 0, none⟩))] (by kernel_rfl) (by kernel_rfl) ?_
    change WpE _ _ c_conf_Shard_3 _ _ _
    refine wpE_seq (x := c_conf_Shard_4) (y := c_conf_Shard_16) (by kernel_rfl) ?_
    refine wpE_seq (x := c_conf_Shard_5) (y := c_conf_Shard_7) (by kernel_rfl) ?_
    refine wpE_region (id := 1) (ops := r_conf_Shard_5) (by kernel_rfl) ?_
    refine reg_run [] 0 [(1, [], Value.string key), (2, [], Value.pointer (some ⟨b_, 0, none⟩))] (by kernel_rfl) (by kernel_rfl) ?_
    obtain ⟨v7, hc, h⟩ := h
    refine reg_loadN (t := 35) (a := (Go.Operand.tmp 2)) (b := b_) (o := 0) (ty := 35) (dst := some 7) [Value.int .i64 v7.Lanes, Value.int .i64 v7.Shards, Value.int .i64 v7.Window, Value.int .i64 v7.Queue] (by kernel_rfl) (by kernel_rfl) (by kernel_rfl) (k := 4) (by kernel_rfl) (by kernel_rfl) hc ?_
    refine reg_run [] 1 [(1, [], Value.string key), (2, [], Value.pointer (some ⟨b_, 0, none⟩)), (7, [], Value.agg #[Value.int .i64 v7.Lanes, Value.int .i64 v7.Shards, Value.int .i64 v7.Window, Value.int .i64 v7.Queue])] (by kernel_rfl) (by kernel_rfl) ?_
    refine reg_enter (op := (Go.Op.call (Go.Call.mk (Go.Callee.value (Go.Operand.func 21)) #[(Go.Operand.tmp 7)] #[35]))) (ty := 28) (dst := some 8) 21 #[Value.agg #[Value.int .i64 v7.Lanes, Value.int .i64 v7.Shards, Value.int .i64 v7.Window, Value.int .i64 v7.Queue]] (by kernel_rfl) (fun ww => by kernel_rfl) (Calls.mono h ?_)
    rintro _ w2 ⟨v8, rfl, h⟩
    refine ⟨_, rfl, ?_⟩
    refine reg_run [.plain] 3 [(1, [], Value.string key), (2, [], Value.pointer (some ⟨b_, 0, none⟩)), (6, [], Value.int .i64 v8)] (by kernel_rfl) (by kernel_rfl) ?_
    refine reg_end [(1, Value.string key), (2, Value.pointer (some ⟨b_, 0, none⟩)), (6, Value.int .i64 v8)] (by kernel_rfl) (by kernel_rfl) ?_
    change WpE _ _ c_conf_Shard_7 _ _ _
    refine wpE_seq (x := c_conf_Shard_8) (y := c_conf_Shard_10) (by kernel_rfl) ?_
    refine wpE_region (id := 2) (ops := r_conf_Shard_8) (by kernel_rfl) ?_
    refine reg_run [.plain, .plain] 2 [(1, [], Value.string key), (2, [], Value.pointer (some ⟨b_, 0, none⟩)), (6, [], Value.int .i64 v8), (10, [], Value.bool (v8 != 0))] (by kernel_rfl) (by kernel_rfl) ?_
    refine reg_end [(1, Value.string key), (2, Value.pointer (some ⟨b_, 0, none⟩)), (6, Value.int .i64 v8), (10, Value.bool (v8 != 0))] (by kernel_rfl) (by kernel_rfl) ?_
    change WpE _ _ c_conf_Shard_10 _ _ _
    refine wpE_cond (o := (Operand.tmp 10)) (b := (v8 != 0)) (x := c_conf_Shard_11) (y := c_conf_Shard_15) (by kernel_rfl) (by kernel_rfl) (fun hb => ?_) (fun hb => ?_)
    · replace h := h.1 hb
      refine wpE_seq (x := c_conf_Shard_12) (y := c_conf_Shard_14) (by kernel_rfl) ?_
      refine wpE_region (id := 3) (ops := r_conf_Shard_12) (by kernel_rfl) ?_
      refine reg_run [.plain, .plain, .plain] 3 [(4, [], Value.int .i64 0), (5, [], Value.int .i64 v8)] (by kernel_rfl) (by kernel_rfl) ?_
      refine reg_end [(4, Value.int .i64 0), (5, Value.int .i64 v8)] (by kernel_rfl) (by kernel_rfl) ?_
      change WpE _ _ c_conf_Shard_14 _ _ _
      refine wpE_ret (by kernel_rfl) ?_
      repeat (first | refine seqQ_ret ?_ | refine blockQ_ret ?_ | refine loopQ_ret ?_ | refine cutQ_ret ?_)
      exact retT (rs := [(Go.ResultVar.tmp 4), (Go.ResultVar.tmp 5)]) (vs := [Value.int .i64 0, Value.int .i64 v8]) (by kernel_rfl) (⟨by kernel_rfl, ⟨by kernel_rfl, trivial⟩⟩) (by kernel_rfl) ⟨0, v8, rfl, h⟩
    · replace h := h.2 hb
      refine wpE_skip (by kernel_rfl) ?_
      change WpE _ _ c_conf_Shard_16 _ _ _
      refine wpE_seq (x := c_conf_Shard_17) (y := c_conf_Shard_26) (by kernel_rfl) ?_
      refine wpE_seq (x := c_conf_Shard_18) (y := c_conf_Shard_20) (by kernel_rfl) ?_
      refine wpE_region (id := 4) (ops := r_conf_Shard_18) (by kernel_rfl) ?_
      refine reg_run [.plain, .plain, .plain, .plain, .plain, .plain, .pick] 7 [(1, [], Value.string key), (2, [], Value.pointer (some ⟨b_, 0, none⟩)), (18, [], Value.bool ((key.toList == ByteArray.empty.toList) || (decide (((key.size : Nat) : Int) > 64))))] (by kernel_rfl) (by kernel_rfl) ?_
      refine reg_end [(1, Value.string key), (2, Value.pointer (some ⟨b_, 0, none⟩)), (18, Value.bool ((key.toList == ByteArray.empty.toList) || (decide (((key.size : Nat) : Int) > 64))))] (by kernel_rfl) (by kernel_rfl) ?_
      change WpE _ _ c_conf_Shard_20 _ _ _
      refine wpE_cond (o := (Operand.tmp 18)) (b := ((key.toList == ByteArray.empty.toList) || (decide (((key.size : Nat) : Int) > 64)))) (x := c_conf_Shard_21) (y := c_conf_Shard_25) (by kernel_rfl) (by kernel_rfl) (fun hb => ?_) (fun hb => ?_)
      · replace h := h.1 hb
        refine wpE_seq (x := c_conf_Shard_22) (y := c_conf_Shard_24) (by kernel_rfl) ?_
        refine wpE_region (id := 5) (ops := r_conf_Shard_22) (by kernel_rfl) ?_
        refine reg_run [.plain, .plain] 2 [(4, [], Value.int .i64 0), (5, [], Value.int .i64 1)] (by kernel_rfl) (by kernel_rfl) ?_
        refine reg_end [(4, Value.int .i64 0), (5, Value.int .i64 1)] (by kernel_rfl) (by kernel_rfl) ?_
        change WpE _ _ c_conf_Shard_24 _ _ _
        refine wpE_ret (by kernel_rfl) ?_
        repeat (first | refine seqQ_ret ?_ | refine blockQ_ret ?_ | refine loopQ_ret ?_ | refine cutQ_ret ?_)
        exact retT (rs := [(Go.ResultVar.tmp 4), (Go.ResultVar.tmp 5)]) (vs := [Value.int .i64 0, Value.int .i64 1]) (by kernel_rfl) (⟨by kernel_rfl, ⟨by kernel_rfl, trivial⟩⟩) (by kernel_rfl) ⟨0, 1, rfl, h⟩
      · replace h := h.2 hb
        refine wpE_skip (by kernel_rfl) ?_
        change WpE _ _ c_conf_Shard_26 _ _ _
        refine wpE_seq (x := c_conf_Shard_27) (y := c_conf_Shard_29) (by kernel_rfl) ?_
        refine wpE_drawregion (id := 6) (ops := r_conf_Shard_27) (by kernel_rfl) (by kernel_rfl) (by kernel_rfl) ?_
        refine qreg_run [.plain] 1 [(2, [], Value.pointer (some ⟨b_, 0, none⟩)), (19, [], Value.string key)] (by kernel_rfl) (by kernel_rfl) ?_
        obtain ⟨v20, hq, h⟩ := h
        refine qreg_enter (op := (Go.Op.call (Go.Call.mk (Go.Callee.value (Go.Operand.func 64)) #[(Go.Operand.tmp 19)] #[9]))) (ty := 112) (dst := some 20) 64 #[Value.string key] (Value.int .u32 v20) (by kernel_rfl) (fun ww => by kernel_rfl) (fun w' he => Calls.mono (hq w' he) (by rintro _ w'' ⟨_, rfl, rfl, hE⟩; exact ⟨rfl, hE⟩)) ?_
        clear hq
        refine qreg_run [.plain] 3 [(20, [], Value.int .u32 v20), (21, [], Value.pointer (some ⟨b_, 1, none⟩))] (by kernel_rfl) (by kernel_rfl) ?_
        obtain ⟨v22, hc, h⟩ := h
        refine qreg_load1 (t := 3) (a := (Go.Operand.tmp 21)) (b := b_) (o := 1) (ty := 3) (dst := some 22) (by kernel_rfl) (by kernel_rfl) (by kernel_rfl) hc ?_
        refine qreg_run [.plain] 5 [(20, [], Value.int .u32 v20), (23, [], Value.int .u32 (IntKind.u32.wrap v22))] (by kernel_rfl) (by kernel_rfl) ?_
        obtain ⟨h0, h⟩ := h
        refine qreg_val (op := (Go.Op.binOp Go.BinOp.rem 112 (Go.Operand.tmp 20) (Go.Operand.tmp 23) 112)) (ty := 112) (dst := some 24) (Value.int .u32 (Int.tmod v20 (IntKind.u32.wrap v22))) (by kernel_rfl) (fun ww => run_rem (by kernel_rfl) (by kernel_rfl) h0 ww) ?_
        refine qreg_run [.plain, .plain, .plain] 9 [(4, [], Value.int .i64 (IntKind.i64.wrap (Int.tmod v20 (IntKind.u32.wrap v22)))), (5, [], Value.int .i64 0)] (by kernel_rfl) (by kernel_rfl) ?_
        refine qreg_end [(4, Value.int .i64 (IntKind.i64.wrap (Int.tmod v20 (IntKind.u32.wrap v22)))), (5, Value.int .i64 0)] (by kernel_rfl) (by kernel_rfl) (fun w4 hw => ?_)
        replace h := h w4 hw
        clear hw
        change WpE _ _ c_conf_Shard_29 _ _ _
        refine wpE_ret (by kernel_rfl) ?_
        repeat (first | refine seqQ_ret ?_ | refine blockQ_ret ?_ | refine loopQ_ret ?_ | refine cutQ_ret ?_)
        exact retT (rs := [(Go.ResultVar.tmp 4), (Go.ResultVar.tmp 5)]) (vs := [Value.int .i64 (IntKind.i64.wrap (Int.tmod v20 (IntKind.u32.wrap v22))), Value.int .i64 0]) (by kernel_rfl) (⟨by kernel_rfl, ⟨by kernel_rfl, trivial⟩⟩) (by kernel_rfl) ⟨(IntKind.i64.wrap (Int.tmod v20 (IntKind.u32.wrap v22))), 0, rfl, h⟩
  · rintro e w' ⟨v, rfl, r0, r1, rfl, h⟩; exact ⟨r0, r1, rfl, h⟩
end Go.Proofs.Ytfmkemmgakdddaa
