/- WRITTEN BY PROGRAM (dec.py): for each Go function the clean formula F, the call's contract C, and the proof S that F gives C. -/
import Derived.Test.YtchcljkflklddaaDoorRows
import Derived.Test.YtchcljkflklddaaDoorGF
namespace Go.Proofs.YtchcljkflklddaaDoor
open Go
set_option linter.unusedVariables false

/-! ### towpath/gate.New (function 7) -/
noncomputable def c_gate_New_0 : Code := (Tryd.f7.body).getD Code.skip
noncomputable def c_gate_New_1 : Code := Code.l c_gate_New_0
noncomputable def r_gate_New_1 : Array Oper := Code.ops c_gate_New_1
noncomputable def c_gate_New_3 : Code := Code.r c_gate_New_0
noncomputable def c_gate_New_4 : Code := Code.l c_gate_New_3
noncomputable def c_gate_New_5 : Code := Code.l c_gate_New_4
noncomputable def r_gate_New_5 : Array Oper := Code.ops c_gate_New_5
noncomputable def c_gate_New_7 : Code := Code.r c_gate_New_4
noncomputable def c_gate_New_8 : Code := Code.l c_gate_New_7
noncomputable def c_gate_New_9 : Code := Code.l c_gate_New_8
noncomputable def r_gate_New_9 : Array Oper := Code.ops c_gate_New_9
noncomputable def c_gate_New_11 : Code := Code.r c_gate_New_8
noncomputable def c_gate_New_12 : Code := Code.r c_gate_New_7
noncomputable def c_gate_New_13 : Code := Code.r c_gate_New_3
noncomputable def c_gate_New_14 : Code := Code.l c_gate_New_13
noncomputable def r_gate_New_14 : Array Oper := Code.ops c_gate_New_14
noncomputable def c_gate_New_16 : Code := Code.r c_gate_New_13
noncomputable def c_gate_New_17 : Code := Code.l c_gate_New_16
noncomputable def c_gate_New_18 : Code := Code.l c_gate_New_17
noncomputable def r_gate_New_18 : Array Oper := Code.ops c_gate_New_18
noncomputable def c_gate_New_20 : Code := Code.r c_gate_New_17
noncomputable def c_gate_New_21 : Code := Code.l c_gate_New_20
noncomputable def c_gate_New_22 : Code := Code.l c_gate_New_21
noncomputable def c_gate_New_23 : Code := Code.l c_gate_New_22
noncomputable def r_gate_New_23 : Array Oper := Code.ops c_gate_New_23
noncomputable def c_gate_New_25 : Code := Code.r c_gate_New_22
noncomputable def c_gate_New_26 : Code := Code.l c_gate_New_25
noncomputable def c_gate_New_27 : Code := Code.l c_gate_New_26
noncomputable def c_gate_New_28 : Code := Code.r c_gate_New_26
noncomputable def c_gate_New_29 : Code := Code.r c_gate_New_25
noncomputable def c_gate_New_30 : Code := Code.l c_gate_New_29
noncomputable def c_gate_New_31 : Code := Code.l c_gate_New_30
noncomputable def c_gate_New_32 : Code := Code.l c_gate_New_31
noncomputable def r_gate_New_32 : Array Oper := Code.ops c_gate_New_32
noncomputable def c_gate_New_34 : Code := Code.r c_gate_New_31
noncomputable def c_gate_New_35 : Code := Code.l c_gate_New_34
noncomputable def c_gate_New_36 : Code := Code.l c_gate_New_35
noncomputable def r_gate_New_36 : Array Oper := Code.ops c_gate_New_36
noncomputable def c_gate_New_38 : Code := Code.r c_gate_New_35
noncomputable def c_gate_New_39 : Code := Code.l c_gate_New_38
noncomputable def c_gate_New_40 : Code := Code.l c_gate_New_39
noncomputable def r_gate_New_40 : Array Oper := Code.ops c_gate_New_40
noncomputable def c_gate_New_42 : Code := Code.r c_gate_New_39
noncomputable def c_gate_New_43 : Code := Code.r c_gate_New_38
noncomputable def c_gate_New_44 : Code := Code.r c_gate_New_34
noncomputable def r_gate_New_44 : Array Oper := Code.ops c_gate_New_44
noncomputable def c_gate_New_46 : Code := Code.r c_gate_New_29
noncomputable def r_gate_New_46 : Array Oper := Code.ops c_gate_New_46
noncomputable def c_gate_New_48 : Code := Code.r c_gate_New_16
noncomputable def c_gate_New_49 : Code := Code.l c_gate_New_48
noncomputable def r_gate_New_49 : Array Oper := Code.ops c_gate_New_49
noncomputable def c_gate_New_51 : Code := Code.r c_gate_New_48

set_option maxRecDepth 100000 in
set_option maxHeartbeats 4000000 in
theorem S_gate_New {mark : Int} {beyond : Slc} {w : World} {R : Option Addr → Int → World → Prop} (h : F_gate_New mark beyond R w) : C_gate_New mark beyond w R := by
  unfold F_gate_New at h
  unfold C_gate_New
  refine Calls.mono (calls_of_wpE (args := [Value.int .i64 mark, Value.slice beyond.ptr beyond.len beyond.cap]) (R := fun v w' => ∃ (r0 : Option Addr) (r1 : Int), v = Value.tuple #[Value.pointer r0, Value.int .i64 r1] ∧ R r0 r1 w') Tryd.func7 (c := c_gate_New_0) (by kernel_rfl) 46 (by kernel_rfl) (by kernel_rfl) [(0, Value.int .i64 mark), (1, Value.slice beyond.ptr beyond.len beyond.cap)] (by kernel_rfl) ?_) ?_
  · refine wpE_seq (x := c_gate_New_1) (y := c_gate_New_3) (by kernel_rfl) ?_
    refine wpE_region (id := 0) (ops := r_gate_New_1) (by kernel_rfl) ?_
    refine reg_run [.plain, .plain] 2 [(0, [], Value.int .i64 mark), (1, [], Value.slice beyond.ptr beyond.len beyond.cap)] (by kernel_rfl) (by kernel_rfl) ?_
    refine reg_end [(0, Value.int .i64 mark), (1, Value.slice beyond.ptr beyond.len beyond.cap)] (by kernel_rfl) (by kernel_rfl) ?_
    change WpE _ _ c_gate_New_3 _ _ _
    refine wpE_seq (x := c_gate_New_4) (y := c_gate_New_13) (by kernel_rfl) ?_
    refine wpE_seq (x := c_gate_New_5) (y := c_gate_New_7) (by kernel_rfl) ?_
    refine wpE_region (id := 1) (ops := r_gate_New_5) (by kernel_rfl) ?_
    refine reg_run [.plain, .plain, .plain, .plain, .plain, .pick] 6 [(0, [], Value.int .i64 mark), (1, [], Value.slice beyond.ptr beyond.len beyond.cap), (14, [], Value.bool ((decide (mark < 0)) || (decide (mark > 65536))))] (by kernel_rfl) (by kernel_rfl) ?_
    refine reg_end [(0, Value.int .i64 mark), (1, Value.slice beyond.ptr beyond.len beyond.cap), (14, Value.bool ((decide (mark < 0)) || (decide (mark > 65536))))] (by kernel_rfl) (by kernel_rfl) ?_
    change WpE _ _ c_gate_New_7 _ _ _
    refine wpE_cond (o := (Operand.tmp 14)) (b := ((decide (mark < 0)) || (decide (mark > 65536)))) (x := c_gate_New_8) (y := c_gate_New_12) (by kernel_rfl) (by kernel_rfl) (fun hb => ?_) (fun hb => ?_)
    · replace h := h.1 hb
      refine wpE_seq (x := c_gate_New_9) (y := c_gate_New_11) (by kernel_rfl) ?_
      refine wpE_region (id := 2) (ops := r_gate_New_9) (by kernel_rfl) ?_
      refine reg_run [.plain, .plain] 2 [(4, [], Value.pointer none), (5, [], Value.int .i64 1)] (by kernel_rfl) (by kernel_rfl) ?_
      refine reg_end [(4, Value.pointer none), (5, Value.int .i64 1)] (by kernel_rfl) (by kernel_rfl) ?_
      change WpE _ _ c_gate_New_11 _ _ _
      refine wpE_ret (by kernel_rfl) ?_
      repeat (first | refine seqQ_ret ?_ | refine blockQ_ret ?_ | refine loopQ_ret ?_ | refine cutQ_ret ?_)
      exact retT (rs := [(Go.ResultVar.tmp 4), (Go.ResultVar.tmp 5)]) (vs := [Value.pointer none, Value.int .i64 1]) (by kernel_rfl) (⟨by kernel_rfl, ⟨by kernel_rfl, trivial⟩⟩) (by kernel_rfl) ⟨none, 1, rfl, h⟩
    · replace h := h.2 hb
      refine wpE_skip (by kernel_rfl) ?_
      change WpE _ _ c_gate_New_13 _ _ _
      refine wpE_seq (x := c_gate_New_14) (y := c_gate_New_16) (by kernel_rfl) ?_
      refine wpE_region (id := 3) (ops := r_gate_New_14) (by kernel_rfl) ?_
      refine reg_run [.plain, .plain, .plain] 3 [(0, [], Value.int .i64 mark), (1, [], Value.slice beyond.ptr beyond.len beyond.cap), (17, [], Value.agg (([Value.bool true, Value.int .i64 mark] ++ (List.map (Value.int .u64) (List.replicate 1025 0)) ++ [Value.int .i64 mark])).toArray)] (by kernel_rfl) (by kernel_rfl) ?_
      refine reg_new (op := (Go.Op.box 53 (Go.Operand.tmp 17))) (ty := 25) (dst := some 18) (fun bb => Value.pointer (some ⟨bb, 0, none⟩)) (Obj.cells (([Value.bool true, Value.int .i64 mark] ++ (List.map (Value.int .u64) (List.replicate 1025 0)) ++ [Value.int .i64 mark])).toArray ty_gate_Gate (0, 0)) (by kernel_rfl) (by kernel_rfl) (fun b_ w1 hb hw => ?_)
      replace h := h b_ w1 hb hw
      clear hb hw
      refine reg_run [.plain] 5 [(0, [], Value.int .i64 mark), (1, [], Value.slice beyond.ptr beyond.len beyond.cap), (6, [], Value.pointer (some ⟨b_, 0, none⟩))] (by kernel_rfl) (by kernel_rfl) ?_
      refine reg_end [(0, Value.int .i64 mark), (1, Value.slice beyond.ptr beyond.len beyond.cap), (6, Value.pointer (some ⟨b_, 0, none⟩))] (by kernel_rfl) (by kernel_rfl) ?_
      change WpE _ _ c_gate_New_16 _ _ _
      refine wpE_seq (x := c_gate_New_17) (y := c_gate_New_48) (by kernel_rfl) ?_
      refine wpE_seq (x := c_gate_New_18) (y := c_gate_New_20) (by kernel_rfl) ?_
      refine wpE_region (id := 4) (ops := r_gate_New_18) (by kernel_rfl) ?_
      refine reg_run [.plain, .plain, .plain] 3 [(0, [], Value.int .i64 mark), (6, [], Value.pointer (some ⟨b_, 0, none⟩)), (19, [], Value.slice beyond.ptr beyond.len beyond.cap), (20, [], Value.int .i64 ((beyond.len : Nat) : Int)), (21, [], Value.int .i64 0)] (by kernel_rfl) (by kernel_rfl) ?_
      refine reg_end [(0, Value.int .i64 mark), (6, Value.pointer (some ⟨b_, 0, none⟩)), (19, Value.slice beyond.ptr beyond.len beyond.cap), (20, Value.int .i64 ((beyond.len : Nat) : Int)), (21, Value.int .i64 0)] (by kernel_rfl) (by kernel_rfl) ?_
      change WpE _ _ c_gate_New_20 _ _ _
      refine wpE_block (id := 0) (x := c_gate_New_21) (by kernel_rfl) ?_
      obtain ⟨I, μ, h0, hr⟩ := h
      refine wpE_loop (x := c_gate_New_22) (by kernel_rfl) (fun m l w => ∃ (t21 : Int), l = [(0, Value.int .i64 mark), (6, Value.pointer (some ⟨b_, 0, none⟩)), (19, Value.slice beyond.ptr beyond.len beyond.cap), (20, Value.int .i64 ((beyond.len : Nat) : Int)), (21, Value.int .i64 t21)] ∧ I t21 w ∧ μ t21 w = m) (l' := [(0, Value.int .i64 mark), (6, Value.pointer (some ⟨b_, 0, none⟩)), (19, Value.slice beyond.ptr beyond.len beyond.cap), (20, Value.int .i64 ((beyond.len : Nat) : Int)), (21, Value.int .i64 0)]) (Sub.mk (by kernel_rfl)) ⟨0, rfl, h0, rfl⟩ ?_
      rintro _ _ w2 ⟨t21, rfl, hI, rfl⟩
      obtain ⟨again_, again__h, h⟩ : ∃ again_ : Int → World → Prop, (∀ t21' w', again_ t21' w' → I t21' w' ∧ μ t21' w' < μ t21 w2) ∧ F_gate_New_L0 mark beyond R b_ again_ t21 w2 := ⟨_, fun _ _ h => h, hr t21 w2 hI⟩
      clear h0 hI
      unfold F_gate_New_L0 at h
      refine wpE_seq (x := c_gate_New_23) (y := c_gate_New_25) (by kernel_rfl) ?_
      refine wpE_region (id := 5) (ops := r_gate_New_23) (by kernel_rfl) ?_
      refine reg_run [.plain] 1 [(0, [], Value.int .i64 mark), (6, [], Value.pointer (some ⟨b_, 0, none⟩)), (19, [], Value.slice beyond.ptr beyond.len beyond.cap), (20, [], Value.int .i64 ((beyond.len : Nat) : Int)), (21, [], Value.int .i64 t21), (22, [], Value.bool (decide (t21 < ((beyond.len : Nat) : Int))))] (by kernel_rfl) (by kernel_rfl) ?_
      refine reg_end [(0, Value.int .i64 mark), (6, Value.pointer (some ⟨b_, 0, none⟩)), (19, Value.slice beyond.ptr beyond.len beyond.cap), (20, Value.int .i64 ((beyond.len : Nat) : Int)), (21, Value.int .i64 t21), (22, Value.bool (decide (t21 < ((beyond.len : Nat) : Int))))] (by kernel_rfl) (by kernel_rfl) ?_
      change WpE _ _ c_gate_New_25 _ _ _
      refine wpE_seq (x := c_gate_New_26) (y := c_gate_New_29) (by kernel_rfl) ?_
      refine wpE_cond (o := (Operand.tmp 22)) (b := (decide (t21 < ((beyond.len : Nat) : Int)))) (x := c_gate_New_27) (y := c_gate_New_28) (by kernel_rfl) (by kernel_rfl) (fun hb => ?_) (fun hb => ?_)
      · replace h := h.1 hb
        refine wpE_skip (by kernel_rfl) ?_
        change WpE _ _ c_gate_New_29 _ _ _
        refine wpE_seq (x := c_gate_New_30) (y := c_gate_New_46) (by kernel_rfl) ?_
        refine wpE_block (id := 1) (x := c_gate_New_31) (by kernel_rfl) ?_
        refine wpE_seq (x := c_gate_New_32) (y := c_gate_New_34) (by kernel_rfl) ?_
        refine wpE_region (id := 6) (ops := r_gate_New_32) (by kernel_rfl) ?_
        refine reg_run [] 0 [(0, [], Value.int .i64 mark), (6, [], Value.pointer (some ⟨b_, 0, none⟩)), (19, [], Value.slice beyond.ptr beyond.len beyond.cap), (20, [], Value.int .i64 ((beyond.len : Nat) : Int)), (21, [], Value.int .i64 t21)] (by kernel_rfl) (by kernel_rfl) ?_
        obtain ⟨hp_7, h⟩ := h
        refine reg_conv [(0, [], Value.int .i64 mark), (6, [], Value.pointer (some ⟨b_, 0, none⟩)), (19, [], Value.slice (some ⟨(pblk beyond.ptr), (poff beyond.ptr), none⟩) beyond.len beyond.cap), (20, [], Value.int .i64 ((beyond.len : Nat) : Int)), (21, [], Value.int .i64 t21)] (congrArg (fun pp => ([(0, [], Value.int .i64 mark), (6, [], Value.pointer (some ⟨b_, 0, none⟩)), (19, [], Value.slice pp beyond.len beyond.cap), (20, [], Value.int .i64 ((beyond.len : Nat) : Int)), (21, [], Value.int .i64 t21)] : GEnv)) hp_7) ?_
        obtain ⟨h0, h1, h⟩ := h
        refine reg_indexS1 (t := 22) (e := 3) (x := (Go.Operand.tmp 19)) (ix := (Go.Operand.tmp 21)) (b := (pblk beyond.ptr)) (o := (poff beyond.ptr)) (l := beyond.len) (c := beyond.cap) (k := .i64) (j := t21) (ty := 0) (dst := some 23) (by kernel_rfl) (by kernel_rfl) (by kernel_rfl) (by kernel_rfl) (by kernel_rfl) h0 h1 ?_
        refine reg_run [] 1 [(0, [], Value.int .i64 mark), (6, [], Value.pointer (some ⟨b_, 0, none⟩)), (19, [], Value.slice (some ⟨(pblk beyond.ptr), (poff beyond.ptr), none⟩) beyond.len beyond.cap), (20, [], Value.int .i64 ((beyond.len : Nat) : Int)), (21, [], Value.int .i64 t21), (23, [], Value.pointer (some ⟨(pblk beyond.ptr), (poff beyond.ptr) + t21.toNat, none⟩))] (by kernel_rfl) (by kernel_rfl) ?_
        obtain ⟨n_, hc, h⟩ := h
        refine reg_load1 (t := 3) (a := (Go.Operand.tmp 23)) (b := (pblk beyond.ptr)) (o := ((poff beyond.ptr) + t21.toNat)) (ty := 3) (dst := some 24) (by kernel_rfl) (by kernel_rfl) (by kernel_rfl) hc ?_
        refine reg_run [.plain] 3 [(0, [], Value.int .i64 mark), (6, [], Value.pointer (some ⟨b_, 0, none⟩)), (8, [], Value.int .i64 n_), (19, [], Value.slice (some ⟨(pblk beyond.ptr), (poff beyond.ptr), none⟩) beyond.len beyond.cap), (20, [], Value.int .i64 ((beyond.len : Nat) : Int)), (21, [], Value.int .i64 t21)] (by kernel_rfl) (by kernel_rfl) ?_
        refine reg_conv [(0, [], Value.int .i64 mark), (6, [], Value.pointer (some ⟨b_, 0, none⟩)), (8, [], Value.int .i64 n_), (19, [], Value.slice beyond.ptr beyond.len beyond.cap), (20, [], Value.int .i64 ((beyond.len : Nat) : Int)), (21, [], Value.int .i64 t21)] (congrArg (fun pp => ([(0, [], Value.int .i64 mark), (6, [], Value.pointer (some ⟨b_, 0, none⟩)), (8, [], Value.int .i64 n_), (19, [], Value.slice pp beyond.len beyond.cap), (20, [], Value.int .i64 ((beyond.len : Nat) : Int)), (21, [], Value.int .i64 t21)] : GEnv)) hp_7.symm) ?_
        refine reg_end [(0, Value.int .i64 mark), (6, Value.pointer (some ⟨b_, 0, none⟩)), (8, Value.int .i64 n_), (19, Value.slice beyond.ptr beyond.len beyond.cap), (20, Value.int .i64 ((beyond.len : Nat) : Int)), (21, Value.int .i64 t21)] (by kernel_rfl) (by kernel_rfl) ?_
        change WpE _ _ c_gate_New_34 _ _ _
        refine wpE_seq (x := c_gate_New_35) (y := c_gate_New_44) (by kernel_rfl) ?_
        refine wpE_seq_cut (x := c_gate_New_36) (y := c_gate_New_38) (by kernel_rfl) (fun l w => ∃ (t40 : Bool), l = [(0, Value.int .i64 mark), (6, Value.pointer (some ⟨b_, 0, none⟩)), (8, Value.int .i64 n_), (19, Value.slice beyond.ptr beyond.len beyond.cap), (20, Value.int .i64 ((beyond.len : Nat) : Int)), (21, Value.int .i64 t21), (40, Value.bool t40)] ∧ F_gate_New_k1 R b_ t21 again_ n_ t40 w) ?_ ?_
        · refine wpE_region (id := 7) (ops := r_gate_New_36) (by kernel_rfl) ?_
          refine reg_run [.plain, .plain, .plain, .plain, .plain, .plain, .plain, .pick, .plain, .plain, .plain, .plain, .plain] 13 [(0, [], Value.int .i64 mark), (6, [], Value.pointer (some ⟨b_, 0, none⟩)), (8, [], Value.int .i64 n_), (19, [], Value.slice beyond.ptr beyond.len beyond.cap), (20, [], Value.int .i64 ((beyond.len : Nat) : Int)), (21, [], Value.int .i64 t21), (33, [], Value.bool ((decide (n_ < (IntKind.i64.wrap (mark + 2)))) || (decide (n_ > 65536)))), (34, [(33, false)], Value.int .i64 n_), (37, [(33, false)], Value.pointer (some ⟨b_, 1027, none⟩))] (by kernel_rfl) (by kernel_rfl) ?_
          refine reg_split 33 ((decide (n_ < (IntKind.i64.wrap (mark + 2)))) || (decide (n_ > 65536))) (by kernel_rfl) (fun hb => ?_) (fun hb => ?_)
          · replace h := h.1 hb
            refine reg_run [] 13 [(0, [], Value.int .i64 mark), (6, [], Value.pointer (some ⟨b_, 0, none⟩)), (8, [], Value.int .i64 n_), (19, [], Value.slice beyond.ptr beyond.len beyond.cap), (20, [], Value.int .i64 ((beyond.len : Nat) : Int)), (21, [], Value.int .i64 t21), (33, [], Value.bool true), (34, [], undef), (37, [], undef)] (by kernel_rfl) (by kernel_rfl) ?_
            refine reg_run [.skip, .skip, .plain] 16 [(0, [], Value.int .i64 mark), (6, [], Value.pointer (some ⟨b_, 0, none⟩)), (8, [], Value.int .i64 n_), (19, [], Value.slice beyond.ptr beyond.len beyond.cap), (20, [], Value.int .i64 ((beyond.len : Nat) : Int)), (21, [], Value.int .i64 t21), (40, [], Value.bool true)] (by kernel_rfl) (by kernel_rfl) ?_
            refine reg_end [(0, Value.int .i64 mark), (6, Value.pointer (some ⟨b_, 0, none⟩)), (8, Value.int .i64 n_), (19, Value.slice beyond.ptr beyond.len beyond.cap), (20, Value.int .i64 ((beyond.len : Nat) : Int)), (21, Value.int .i64 t21), (40, Value.bool true)] (by kernel_rfl) (by kernel_rfl) ?_
            exact ⟨[(0, Value.int .i64 mark), (6, Value.pointer (some ⟨b_, 0, none⟩)), (8, Value.int .i64 n_), (19, Value.slice beyond.ptr beyond.len beyond.cap), (20, Value.int .i64 ((beyond.len : Nat) : Int)), (21, Value.int .i64 t21), (40, Value.bool true)], Sub.mk (by kernel_rfl), true, rfl, h⟩
          · replace h := h.2 hb
            refine reg_run [] 13 [(0, [], Value.int .i64 mark), (6, [], Value.pointer (some ⟨b_, 0, none⟩)), (8, [], Value.int .i64 n_), (19, [], Value.slice beyond.ptr beyond.len beyond.cap), (20, [], Value.int .i64 ((beyond.len : Nat) : Int)), (21, [], Value.int .i64 t21), (33, [], Value.bool false), (34, [], Value.int .i64 n_), (37, [], Value.pointer (some ⟨b_, 1027, none⟩))] (by kernel_rfl) (by kernel_rfl) ?_
            refine reg_run [] 13 [(0, [], Value.int .i64 mark), (6, [], Value.pointer (some ⟨b_, 0, none⟩)), (8, [], Value.int .i64 n_), (19, [], Value.slice beyond.ptr beyond.len beyond.cap), (20, [], Value.int .i64 ((beyond.len : Nat) : Int)), (21, [], Value.int .i64 t21), (33, [], Value.bool false), (34, [], Value.int .i64 n_), (37, [], Value.pointer (some ⟨b_, 1027, none⟩))] (by kernel_rfl) (by kernel_rfl) ?_
            obtain ⟨v38, hc, h⟩ := h
            refine reg_load1 (t := 3) (a := (Go.Operand.tmp 37)) (b := b_) (o := 1027) (ty := 3) (dst := some 38) (by kernel_rfl) (by kernel_rfl) (by kernel_rfl) hc ?_
            refine reg_run [.sure, .plain] 16 [(0, [], Value.int .i64 mark), (6, [], Value.pointer (some ⟨b_, 0, none⟩)), (8, [], Value.int .i64 n_), (19, [], Value.slice beyond.ptr beyond.len beyond.cap), (20, [], Value.int .i64 ((beyond.len : Nat) : Int)), (21, [], Value.int .i64 t21), (40, [], Value.bool (decide (n_ ≤ v38)))] (by kernel_rfl) (by kernel_rfl) ?_
            refine reg_end [(0, Value.int .i64 mark), (6, Value.pointer (some ⟨b_, 0, none⟩)), (8, Value.int .i64 n_), (19, Value.slice beyond.ptr beyond.len beyond.cap), (20, Value.int .i64 ((beyond.len : Nat) : Int)), (21, Value.int .i64 t21), (40, Value.bool (decide (n_ ≤ v38)))] (by kernel_rfl) (by kernel_rfl) ?_
            exact ⟨[(0, Value.int .i64 mark), (6, Value.pointer (some ⟨b_, 0, none⟩)), (8, Value.int .i64 n_), (19, Value.slice beyond.ptr beyond.len beyond.cap), (20, Value.int .i64 ((beyond.len : Nat) : Int)), (21, Value.int .i64 t21), (40, Value.bool (decide (n_ ≤ v38)))], Sub.mk (by kernel_rfl), (decide (n_ ≤ v38)), rfl, h⟩
        · rintro _ w3 ⟨t40, rfl, h⟩
          unfold F_gate_New_k1 at h
          refine wpE_cond (o := (Operand.tmp 40)) (b := t40) (x := c_gate_New_39) (y := c_gate_New_43) (by kernel_rfl) (by kernel_rfl) (fun hb => ?_) (fun hb => ?_)
          · replace h := h.1 hb
            refine wpE_seq (x := c_gate_New_40) (y := c_gate_New_42) (by kernel_rfl) ?_
            refine wpE_region (id := 8) (ops := r_gate_New_40) (by kernel_rfl) ?_
            refine reg_run [.plain, .plain] 2 [(4, [], Value.pointer none), (5, [], Value.int .i64 1)] (by kernel_rfl) (by kernel_rfl) ?_
            refine reg_end [(4, Value.pointer none), (5, Value.int .i64 1)] (by kernel_rfl) (by kernel_rfl) ?_
            change WpE _ _ c_gate_New_42 _ _ _
            refine wpE_ret (by kernel_rfl) ?_
            repeat (first | refine seqQ_ret ?_ | refine blockQ_ret ?_ | refine loopQ_ret ?_ | refine cutQ_ret ?_)
            exact retT (rs := [(Go.ResultVar.tmp 4), (Go.ResultVar.tmp 5)]) (vs := [Value.pointer none, Value.int .i64 1]) (by kernel_rfl) (⟨by kernel_rfl, ⟨by kernel_rfl, trivial⟩⟩) (by kernel_rfl) ⟨none, 1, rfl, h⟩
          · replace h := h.2 hb
            refine wpE_skip (by kernel_rfl) ?_
            change WpE _ _ c_gate_New_44 _ _ _
            refine wpE_region (id := 9) (ops := r_gate_New_44) (by kernel_rfl) ?_
            refine reg_run [.plain, .plain] 2 [(0, [], Value.int .i64 mark), (6, [], Value.pointer (some ⟨b_, 0, none⟩)), (19, [], Value.slice beyond.ptr beyond.len beyond.cap), (20, [], Value.int .i64 ((beyond.len : Nat) : Int)), (21, [], Value.int .i64 t21), (41, [], Value.pointer (some ⟨b_, 0, none⟩)), (42, [], Value.int .i64 n_)] (by kernel_rfl) (by kernel_rfl) ?_
            refine reg_enter (op := (Go.Op.call (Go.Call.mk (Go.Callee.value (Go.Operand.func 29)) #[(Go.Operand.tmp 41), (Go.Operand.tmp 42)] #[25, 3]))) (ty := 0) (dst := some 43) 29 #[Value.pointer (some ⟨b_, 0, none⟩), Value.int .i64 n_] (by kernel_rfl) (fun ww => by kernel_rfl) (Calls.mono h ?_)
            rintro _ w4 ⟨rfl, h⟩
            refine ⟨_, rfl, ?_⟩
            refine reg_end [(0, Value.int .i64 mark), (6, Value.pointer (some ⟨b_, 0, none⟩)), (19, Value.slice beyond.ptr beyond.len beyond.cap), (20, Value.int .i64 ((beyond.len : Nat) : Int)), (21, Value.int .i64 t21)] (by kernel_rfl) (by kernel_rfl) ?_
            change WpE _ _ c_gate_New_46 _ _ _
            refine wpE_region (id := 10) (ops := r_gate_New_46) (by kernel_rfl) ?_
            refine reg_run [.plain, .plain] 2 [(0, [], Value.int .i64 mark), (6, [], Value.pointer (some ⟨b_, 0, none⟩)), (19, [], Value.slice beyond.ptr beyond.len beyond.cap), (20, [], Value.int .i64 ((beyond.len : Nat) : Int)), (21, [], Value.int .i64 (IntKind.i64.wrap (t21 + 1)))] (by kernel_rfl) (by kernel_rfl) ?_
            refine reg_end [(0, Value.int .i64 mark), (6, Value.pointer (some ⟨b_, 0, none⟩)), (19, Value.slice beyond.ptr beyond.len beyond.cap), (20, Value.int .i64 ((beyond.len : Nat) : Int)), (21, Value.int .i64 (IntKind.i64.wrap (t21 + 1)))] (by kernel_rfl) (by kernel_rfl) ?_
            have hb_ := again__h _ _ h
            exact ⟨_, hb_.2, [(0, Value.int .i64 mark), (6, Value.pointer (some ⟨b_, 0, none⟩)), (19, Value.slice beyond.ptr beyond.len beyond.cap), (20, Value.int .i64 ((beyond.len : Nat) : Int)), (21, Value.int .i64 (IntKind.i64.wrap (t21 + 1)))], Sub.mk (by kernel_rfl), (IntKind.i64.wrap (t21 + 1)), rfl, hb_.1, rfl⟩
      · replace h := h.2 hb
        refine wpE_exit (id := 0) (by kernel_rfl) ?_
        change WpE _ _ c_gate_New_48 _ _ _
        refine wpE_seq (x := c_gate_New_49) (y := c_gate_New_51) (by kernel_rfl) ?_
        refine wpE_region (id := 11) (ops := r_gate_New_49) (by kernel_rfl) ?_
        refine reg_run [.plain, .plain, .plain] 3 [(4, [], Value.pointer (some ⟨b_, 0, none⟩)), (5, [], Value.int .i64 0)] (by kernel_rfl) (by kernel_rfl) ?_
        refine reg_end [(4, Value.pointer (some ⟨b_, 0, none⟩)), (5, Value.int .i64 0)] (by kernel_rfl) (by kernel_rfl) ?_
        change WpE _ _ c_gate_New_51 _ _ _
        refine wpE_ret (by kernel_rfl) ?_
        repeat (first | refine seqQ_ret ?_ | refine blockQ_ret ?_ | refine loopQ_ret ?_ | refine cutQ_ret ?_)
        exact retT (rs := [(Go.ResultVar.tmp 4), (Go.ResultVar.tmp 5)]) (vs := [Value.pointer (some ⟨b_, 0, none⟩), Value.int .i64 0]) (by kernel_rfl) (⟨by kernel_rfl, ⟨by kernel_rfl, trivial⟩⟩) (by kernel_rfl) ⟨(some ⟨b_, 0, none⟩), 0, rfl, h⟩
  · rintro e w' ⟨v, rfl, r0, r1, rfl, h⟩; exact ⟨r0, r1, rfl, h⟩

/-! ### (*towpath/gate.Gate).Beyond (function 11) -/
noncomputable def c_gate_Gate_Beyond_0 : Code := (Tryd.f11.body).getD Code.skip
noncomputable def c_gate_Gate_Beyond_1 : Code := Code.l c_gate_Gate_Beyond_0
noncomputable def r_gate_Gate_Beyond_1 : Array Oper := Code.ops c_gate_Gate_Beyond_1
noncomputable def c_gate_Gate_Beyond_3 : Code := Code.r c_gate_Gate_Beyond_0
noncomputable def c_gate_Gate_Beyond_4 : Code := Code.l c_gate_Gate_Beyond_3
noncomputable def c_gate_Gate_Beyond_5 : Code := Code.l c_gate_Gate_Beyond_4
noncomputable def r_gate_Gate_Beyond_5 : Array Oper := Code.ops c_gate_Gate_Beyond_5
noncomputable def c_gate_Gate_Beyond_7 : Code := Code.r c_gate_Gate_Beyond_4
noncomputable def c_gate_Gate_Beyond_8 : Code := Code.l c_gate_Gate_Beyond_7
noncomputable def c_gate_Gate_Beyond_9 : Code := Code.l c_gate_Gate_Beyond_8
noncomputable def r_gate_Gate_Beyond_9 : Array Oper := Code.ops c_gate_Gate_Beyond_9
noncomputable def c_gate_Gate_Beyond_11 : Code := Code.r c_gate_Gate_Beyond_8
noncomputable def c_gate_Gate_Beyond_12 : Code := Code.r c_gate_Gate_Beyond_7
noncomputable def c_gate_Gate_Beyond_13 : Code := Code.r c_gate_Gate_Beyond_3
noncomputable def c_gate_Gate_Beyond_14 : Code := Code.l c_gate_Gate_Beyond_13
noncomputable def r_gate_Gate_Beyond_14 : Array Oper := Code.ops c_gate_Gate_Beyond_14
noncomputable def c_gate_Gate_Beyond_16 : Code := Code.r c_gate_Gate_Beyond_13
noncomputable def c_gate_Gate_Beyond_17 : Code := Code.l c_gate_Gate_Beyond_16
noncomputable def c_gate_Gate_Beyond_18 : Code := Code.l c_gate_Gate_Beyond_17
noncomputable def r_gate_Gate_Beyond_18 : Array Oper := Code.ops c_gate_Gate_Beyond_18
noncomputable def c_gate_Gate_Beyond_20 : Code := Code.r c_gate_Gate_Beyond_17
noncomputable def c_gate_Gate_Beyond_21 : Code := Code.l c_gate_Gate_Beyond_20
noncomputable def c_gate_Gate_Beyond_22 : Code := Code.l c_gate_Gate_Beyond_21
noncomputable def c_gate_Gate_Beyond_23 : Code := Code.l c_gate_Gate_Beyond_22
noncomputable def c_gate_Gate_Beyond_24 : Code := Code.l c_gate_Gate_Beyond_23
noncomputable def r_gate_Gate_Beyond_24 : Array Oper := Code.ops c_gate_Gate_Beyond_24
noncomputable def c_gate_Gate_Beyond_26 : Code := Code.r c_gate_Gate_Beyond_23
noncomputable def c_gate_Gate_Beyond_27 : Code := Code.l c_gate_Gate_Beyond_26
noncomputable def c_gate_Gate_Beyond_28 : Code := Code.r c_gate_Gate_Beyond_26
noncomputable def c_gate_Gate_Beyond_29 : Code := Code.r c_gate_Gate_Beyond_22
noncomputable def c_gate_Gate_Beyond_30 : Code := Code.l c_gate_Gate_Beyond_29
noncomputable def c_gate_Gate_Beyond_31 : Code := Code.l c_gate_Gate_Beyond_30
noncomputable def c_gate_Gate_Beyond_32 : Code := Code.l c_gate_Gate_Beyond_31
noncomputable def r_gate_Gate_Beyond_32 : Array Oper := Code.ops c_gate_Gate_Beyond_32
noncomputable def c_gate_Gate_Beyond_34 : Code := Code.r c_gate_Gate_Beyond_31
noncomputable def c_gate_Gate_Beyond_35 : Code := Code.l c_gate_Gate_Beyond_34
noncomputable def r_gate_Gate_Beyond_35 : Array Oper := Code.ops c_gate_Gate_Beyond_35
noncomputable def c_gate_Gate_Beyond_37 : Code := Code.r c_gate_Gate_Beyond_34
noncomputable def c_gate_Gate_Beyond_38 : Code := Code.r c_gate_Gate_Beyond_29
noncomputable def r_gate_Gate_Beyond_38 : Array Oper := Code.ops c_gate_Gate_Beyond_38
noncomputable def c_gate_Gate_Beyond_40 : Code := Code.r c_gate_Gate_Beyond_16
noncomputable def c_gate_Gate_Beyond_41 : Code := Code.l c_gate_Gate_Beyond_40
noncomputable def r_gate_Gate_Beyond_41 : Array Oper := Code.ops c_gate_Gate_Beyond_41
noncomputable def c_gate_Gate_Beyond_43 : Code := Code.r c_gate_Gate_Beyond_40

set_option maxRecDepth 100000 in
set_option maxHeartbeats 4000000 in
theorem S_gate_Gate_Beyond {g : Option Addr} {w : World} {R : Slc → World → Prop} (h : F_gate_Gate_Beyond g R w) : C_gate_Gate_Beyond g w R := by
  unfold F_gate_Gate_Beyond at h
  unfold C_gate_Gate_Beyond
  refine Calls.mono (calls_of_wpE (args := [Value.pointer g]) (R := fun v w' => ∃ (r0 : Slc), v = Value.slice r0.ptr r0.len r0.cap ∧ R r0 w') Tryd.func11 (c := c_gate_Gate_Beyond_0) (by kernel_rfl) 35 (by kernel_rfl) (by kernel_rfl) [(0, Value.pointer g)] (by kernel_rfl) ?_) ?_
  · refine wpE_seq (x := c_gate_Gate_Beyond_1) (y := c_gate_Gate_Beyond_3) (by kernel_rfl) ?_
    refine wpE_region (id := 0) (ops := r_gate_Gate_Beyond_1) (by kernel_rfl) ?_
    refine reg_run [.plain] 1 [(0, [], Value.pointer g)] (by kernel_rfl) (by kernel_rfl) ?_
    refine reg_end [(0, Value.pointer g)] (by kernel_rfl) (by kernel_rfl) ?_
    change WpE _ _ c_gate_Gate_Beyond_3 _ _ _
    refine wpE_seq (x := c_gate_Gate_Beyond_4) (y := c_gate_Gate_Beyond_13) (by kernel_rfl) ?_
    refine wpE_seq_cut (x := c_gate_Gate_Beyond_5) (y := c_gate_Gate_Beyond_7) (by kernel_rfl) (fun l w => ∃ (t13 : Bool), l = [(0, Value.pointer g), (13, Value.bool t13)] ∧ F_gate_Gate_Beyond_k0 g R t13 w) ?_ ?_
    · refine wpE_region (id := 1) (ops := r_gate_Gate_Beyond_5) (by kernel_rfl) ?_
      refine reg_run [.plain] 1 [(0, [], Value.pointer g), (5, [], Value.pointer g)] (by kernel_rfl) (by kernel_rfl) ?_
      refine reg_val (op := (Go.Op.binOp Go.BinOp.eql 25 (Go.Operand.tmp 5) (Go.Operand.const (Go.Value.pointer none)) 25)) (ty := 4) (dst := some 6) (Value.bool g.isNone) (by kernel_rfl) (fun ww => run_ptr_eql_R (p := g) (by kernel_rfl) (by kernel_rfl) (by kernel_rfl) ww) ?_
      refine reg_run [.plain, .plain] 4 [(0, [], Value.pointer g), (7, [], Value.bool g.isNone), (8, [(7, false)], Value.pointer g)] (by kernel_rfl) (by kernel_rfl) ?_
      refine reg_split 7 g.isNone (by kernel_rfl) (fun hb => ?_) (fun hb => ?_)
      · replace h := h.1 hb
        refine reg_run [] 4 [(0, [], Value.pointer g), (7, [], Value.bool true), (8, [], undef)] (by kernel_rfl) (by kernel_rfl) ?_
        refine reg_run [.skip, .skip, .skip, .skip, .plain] 9 [(0, [], Value.pointer g), (13, [], Value.bool true)] (by kernel_rfl) (by kernel_rfl) ?_
        refine reg_end [(0, Value.pointer g), (13, Value.bool true)] (by kernel_rfl) (by kernel_rfl) ?_
        exact ⟨[(0, Value.pointer g), (13, Value.bool true)], Sub.mk (by kernel_rfl), true, rfl, h⟩
      · replace h := h.2 hb
        refine reg_run [] 4 [(0, [], Value.pointer g), (7, [], Value.bool false), (8, [], Value.pointer g)] (by kernel_rfl) (by kernel_rfl) ?_
        refine reg_run [] 4 [(0, [], Value.pointer g), (7, [], Value.bool false), (8, [], Value.pointer g)] (by kernel_rfl) (by kernel_rfl) ?_
        obtain ⟨hp_15, h⟩ := h
        refine reg_conv [(0, [], Value.pointer g), (7, [], Value.bool false), (8, [], Value.pointer (some ⟨(pblk g), (poff g), none⟩))] (congrArg (fun pp => ([(0, [], Value.pointer g), (7, [], Value.bool false), (8, [], Value.pointer pp)] : GEnv)) hp_15) ?_
        refine reg_run [.sure] 5 [(0, [], Value.pointer g), (7, [], Value.bool false), (8, [], Value.pointer (some ⟨(pblk g), (poff g), none⟩)), (9, [], Value.pointer (some ⟨(pblk g), (poff g), none⟩))] (by kernel_rfl) (by kernel_rfl) ?_
        refine reg_run [.sure] 6 [(0, [], Value.pointer g), (7, [], Value.bool false), (10, [], Value.pointer (some ⟨(pblk g), (poff g), none⟩))] (by kernel_rfl) (by kernel_rfl) ?_
        obtain ⟨v11, hc, h⟩ := h
        refine reg_load1 (t := 4) (a := (Go.Operand.tmp 10)) (b := (pblk g)) (o := (poff g)) (ty := 4) (dst := some 11) (by kernel_rfl) (by kernel_rfl) (by kernel_rfl) hc ?_
        refine reg_run [.sure, .plain] 9 [(0, [], Value.pointer g), (13, [], Value.bool (!v11))] (by kernel_rfl) (by kernel_rfl) ?_
        refine reg_end [(0, Value.pointer g), (13, Value.bool (!v11))] (by kernel_rfl) (by kernel_rfl) ?_
        exact ⟨[(0, Value.pointer g), (13, Value.bool (!v11))], Sub.mk (by kernel_rfl), (!v11), rfl, h⟩
    · rintro _ w1 ⟨t13, rfl, h⟩
      unfold F_gate_Gate_Beyond_k0 at h
      refine wpE_cond (o := (Operand.tmp 13)) (b := t13) (x := c_gate_Gate_Beyond_8) (y := c_gate_Gate_Beyond_12) (by kernel_rfl) (by kernel_rfl) (fun hb => ?_) (fun hb => ?_)
      · replace h := h.1 hb
        refine wpE_seq (x := c_gate_Gate_Beyond_9) (y := c_gate_Gate_Beyond_11) (by kernel_rfl) ?_
        refine wpE_region (id := 2) (ops := r_gate_Gate_Beyond_9) (by kernel_rfl) ?_
        refine reg_run [.plain] 1 [(2, [], Value.slice none 0 0)] (by kernel_rfl) (by kernel_rfl) ?_
        refine reg_end [(2, Value.slice none 0 0)] (by kernel_rfl) (by kernel_rfl) ?_
        change WpE _ _ c_gate_Gate_Beyond_11 _ _ _
        refine wpE_ret (by kernel_rfl) ?_
        repeat (first | refine seqQ_ret ?_ | refine blockQ_ret ?_ | refine loopQ_ret ?_ | refine cutQ_ret ?_)
        exact retS (rs := [(Go.ResultVar.tmp 2)]) (v := Value.slice none 0 0) (by kernel_rfl) (⟨by kernel_rfl, trivial⟩) ⟨(Slc.mk none 0 0), rfl, h⟩
      · replace h := h.2 hb
        refine wpE_skip (by kernel_rfl) ?_
        change WpE _ _ c_gate_Gate_Beyond_13 _ _ _
        refine wpE_seq (x := c_gate_Gate_Beyond_14) (y := c_gate_Gate_Beyond_16) (by kernel_rfl) ?_
        refine wpE_region (id := 3) (ops := r_gate_Gate_Beyond_14) (by kernel_rfl) ?_
        refine reg_run [.plain] 1 [(0, [], Value.pointer g), (3, [], Value.slice none 0 0)] (by kernel_rfl) (by kernel_rfl) ?_
        refine reg_end [(0, Value.pointer g), (3, Value.slice none 0 0)] (by kernel_rfl) (by kernel_rfl) ?_
        change WpE _ _ c_gate_Gate_Beyond_16 _ _ _
        refine wpE_seq (x := c_gate_Gate_Beyond_17) (y := c_gate_Gate_Beyond_40) (by kernel_rfl) ?_
        refine wpE_seq (x := c_gate_Gate_Beyond_18) (y := c_gate_Gate_Beyond_20) (by kernel_rfl) ?_
        refine wpE_region (id := 4) (ops := r_gate_Gate_Beyond_18) (by kernel_rfl) ?_
        refine reg_run [.plain] 1 [(0, [], Value.pointer g), (3, [], Value.slice none 0 0), (14, [], Value.pointer g)] (by kernel_rfl) (by kernel_rfl) ?_
        obtain ⟨hp_10, h⟩ := h
        refine reg_conv [(0, [], Value.pointer g), (3, [], Value.slice none 0 0), (14, [], Value.pointer (some ⟨(pblk g), (poff g), none⟩))] (congrArg (fun pp => ([(0, [], Value.pointer g), (3, [], Value.slice none 0 0), (14, [], Value.pointer pp)] : GEnv)) hp_10) ?_
        refine reg_run [.plain] 2 [(0, [], Value.pointer g), (3, [], Value.slice none 0 0), (14, [], Value.pointer (some ⟨(pblk g), (poff g), none⟩)), (15, [], Value.pointer (some ⟨(pblk g), (poff g), none⟩))] (by kernel_rfl) (by kernel_rfl) ?_
        refine reg_run [.plain] 3 [(0, [], Value.pointer g), (3, [], Value.slice none 0 0), (16, [], Value.pointer (some ⟨(pblk g), (poff g) + 1, none⟩))] (by kernel_rfl) (by kernel_rfl) ?_
        obtain ⟨v17, hc, h⟩ := h
        refine reg_load1 (t := 3) (a := (Go.Operand.tmp 16)) (b := (pblk g)) (o := ((poff g) + 1)) (ty := 3) (dst := some 17) (by kernel_rfl) (by kernel_rfl) (by kernel_rfl) hc ?_
        refine reg_run [.plain, .plain] 6 [(0, [], Value.pointer g), (3, [], Value.slice none 0 0), (4, [], Value.int .i64 (IntKind.i64.wrap (v17 + 1)))] (by kernel_rfl) (by kernel_rfl) ?_
        refine reg_end [(0, Value.pointer g), (3, Value.slice none 0 0), (4, Value.int .i64 (IntKind.i64.wrap (v17 + 1)))] (by kernel_rfl) (by kernel_rfl) ?_
        change WpE _ _ c_gate_Gate_Beyond_20 _ _ _
        refine wpE_block (id := 0) (x := c_gate_Gate_Beyond_21) (by kernel_rfl) ?_
        obtain ⟨I, μ, h0, hr⟩ := h
        refine wpE_loop (x := c_gate_Gate_Beyond_22) (by kernel_rfl) (fun m l w => ∃ (out : Slc) (n_ : Int), l = [(0, Value.pointer g), (3, Value.slice out.ptr out.len out.cap), (4, Value.int .i64 n_)] ∧ I out n_ w ∧ μ out n_ w = m) (l' := [(0, Value.pointer g), (3, Value.slice none 0 0), (4, Value.int .i64 (IntKind.i64.wrap (v17 + 1)))]) (Sub.mk (by kernel_rfl)) ⟨(Slc.mk none 0 0), (IntKind.i64.wrap (v17 + 1)), rfl, h0, rfl⟩ ?_
        rintro _ _ w2 ⟨out, n_, rfl, hI, rfl⟩
        obtain ⟨again_, again__h, h⟩ : ∃ again_ : Slc → Int → World → Prop, (∀ out' n_' w', again_ out' n_' w' → I out' n_' w' ∧ μ out' n_' w' < μ out n_ w2) ∧ F_gate_Gate_Beyond_L1 g R again_ out n_ w2 := ⟨_, fun _ _ _ h => h, hr out n_ w2 hI⟩
        clear h0 hI
        unfold F_gate_Gate_Beyond_L1 at h
        refine wpE_seq (x := c_gate_Gate_Beyond_23) (y := c_gate_Gate_Beyond_29) (by kernel_rfl) ?_
        refine wpE_seq (x := c_gate_Gate_Beyond_24) (y := c_gate_Gate_Beyond_26) (by kernel_rfl) ?_
        refine wpE_region (id := 5) (ops := r_gate_Gate_Beyond_24) (by kernel_rfl) ?_
        refine reg_run [.plain, .plain] 2 [(0, [], Value.pointer g), (3, [], Value.slice out.ptr out.len out.cap), (4, [], Value.int .i64 n_), (19, [], Value.int .i64 n_), (20, [], Value.pointer g)] (by kernel_rfl) (by kernel_rfl) ?_
        obtain ⟨hp_14, h⟩ := h
        refine reg_conv [(0, [], Value.pointer g), (3, [], Value.slice out.ptr out.len out.cap), (4, [], Value.int .i64 n_), (19, [], Value.int .i64 n_), (20, [], Value.pointer (some ⟨(pblk g), (poff g), none⟩))] (congrArg (fun pp => ([(0, [], Value.pointer g), (3, [], Value.slice out.ptr out.len out.cap), (4, [], Value.int .i64 n_), (19, [], Value.int .i64 n_), (20, [], Value.pointer pp)] : GEnv)) hp_14) ?_
        refine reg_run [.plain] 3 [(0, [], Value.pointer g), (3, [], Value.slice out.ptr out.len out.cap), (4, [], Value.int .i64 n_), (19, [], Value.int .i64 n_), (20, [], Value.pointer (some ⟨(pblk g), (poff g), none⟩)), (21, [], Value.pointer (some ⟨(pblk g), (poff g), none⟩))] (by kernel_rfl) (by kernel_rfl) ?_
        refine reg_run [.plain] 4 [(0, [], Value.pointer g), (3, [], Value.slice out.ptr out.len out.cap), (4, [], Value.int .i64 n_), (19, [], Value.int .i64 n_), (22, [], Value.pointer (some ⟨(pblk g), (poff g) + 1027, none⟩))] (by kernel_rfl) (by kernel_rfl) ?_
        obtain ⟨v23, hc, h⟩ := h
        refine reg_load1 (t := 3) (a := (Go.Operand.tmp 22)) (b := (pblk g)) (o := ((poff g) + 1027)) (ty := 3) (dst := some 23) (by kernel_rfl) (by kernel_rfl) (by kernel_rfl) hc ?_
        refine reg_run [.plain] 6 [(0, [], Value.pointer g), (3, [], Value.slice out.ptr out.len out.cap), (4, [], Value.int .i64 n_), (24, [], Value.bool (decide (n_ ≤ v23)))] (by kernel_rfl) (by kernel_rfl) ?_
        refine reg_end [(0, Value.pointer g), (3, Value.slice out.ptr out.len out.cap), (4, Value.int .i64 n_), (24, Value.bool (decide (n_ ≤ v23)))] (by kernel_rfl) (by kernel_rfl) ?_
        change WpE _ _ c_gate_Gate_Beyond_26 _ _ _
        refine wpE_cond (o := (Operand.tmp 24)) (b := (decide (n_ ≤ v23))) (x := c_gate_Gate_Beyond_27) (y := c_gate_Gate_Beyond_28) (by kernel_rfl) (by kernel_rfl) (fun hb => ?_) (fun hb => ?_)
        · replace h := h.1 hb
          refine wpE_skip (by kernel_rfl) ?_
          change WpE _ _ c_gate_Gate_Beyond_29 _ _ _
          refine wpE_seq_cut (x := c_gate_Gate_Beyond_30) (y := c_gate_Gate_Beyond_38) (by kernel_rfl) (fun l w => ∃ (out1 : Slc), l = [(0, Value.pointer g), (3, Value.slice out1.ptr out1.len out1.cap), (4, Value.int .i64 n_)] ∧ F_gate_Gate_Beyond_k2 n_ again_ out1 w) ?_ ?_
          · refine wpE_block (id := 1) (x := c_gate_Gate_Beyond_31) (by kernel_rfl) ?_
            refine wpE_seq (x := c_gate_Gate_Beyond_32) (y := c_gate_Gate_Beyond_34) (by kernel_rfl) ?_
            refine wpE_region (id := 7) (ops := r_gate_Gate_Beyond_32) (by kernel_rfl) ?_
            refine reg_run [.plain, .plain] 2 [(0, [], Value.pointer g), (3, [], Value.slice out.ptr out.len out.cap), (4, [], Value.int .i64 n_), (27, [], Value.pointer g), (28, [], Value.int .i64 n_)] (by kernel_rfl) (by kernel_rfl) ?_
            refine reg_enter (op := (Go.Op.call (Go.Call.mk (Go.Callee.value (Go.Operand.func 32)) #[(Go.Operand.tmp 27), (Go.Operand.tmp 28)] #[25, 3]))) (ty := 4) (dst := some 29) 32 #[Value.pointer g, Value.int .i64 n_] (by kernel_rfl) (fun ww => by kernel_rfl) (Calls.mono h ?_)
            rintro _ w4 ⟨v29, rfl, h⟩
            refine ⟨_, rfl, ?_⟩
            refine reg_end [(0, Value.pointer g), (3, Value.slice out.ptr out.len out.cap), (4, Value.int .i64 n_), (29, Value.bool v29)] (by kernel_rfl) (by kernel_rfl) ?_
            change WpE _ _ c_gate_Gate_Beyond_34 _ _ _
            refine wpE_cond (o := (Operand.tmp 29)) (b := v29) (x := c_gate_Gate_Beyond_35) (y := c_gate_Gate_Beyond_37) (by kernel_rfl) (by kernel_rfl) (fun hb => ?_) (fun hb => ?_)
            · replace h := h.1 hb
              refine wpE_region (id := 8) (ops := r_gate_Gate_Beyond_35) (by kernel_rfl) ?_
              refine reg_run [.plain, .plain] 2 [(0, [], Value.pointer g), (3, [], Value.slice out.ptr out.len out.cap), (4, [], Value.int .i64 n_), (30, [], Value.slice out.ptr out.len out.cap), (31, [], Value.int .i64 n_)] (by kernel_rfl) (by kernel_rfl) ?_
              refine reg_new (op := (Go.Op.buildSlice 22 1 #[(0, (Go.Operand.tmp 31))])) (ty := 22) (dst := some 32) (fun bb => Value.slice (some ⟨bb, 0, none⟩) 1 1) (Obj.cells ([Value.int .i64 n_]).toArray ty_int (0, 0)) (by kernel_rfl) (by kernel_rfl) (fun b_ w5 hb hw => ?_)
              replace h := h b_ w5 hb hw
              clear hb hw
              refine reg_run [] 3 [(0, [], Value.pointer g), (3, [], Value.slice out.ptr out.len out.cap), (4, [], Value.int .i64 n_), (30, [], Value.slice out.ptr out.len out.cap), (32, [], Value.slice (some ⟨b_, 0, none⟩) 1 1)] (by kernel_rfl) (by kernel_rfl) ?_
              obtain ⟨src, hs, h⟩ := h
              refine reg_append (t := 22) (tx := 22) (e := 3) (a := (Go.Operand.tmp 30)) (xo := (Go.Operand.tmp 32)) (s := out) (x := (Slc.mk (some ⟨b_, 0, none⟩) 1 1)) (sz := 1) (by_ := 8) (zs := [Value.int .i64 0]) (ty := 22) (dst := some 33)  src (by kernel_rfl) (by kernel_rfl) (by kernel_rfl) (by kernel_rfl) (by kernel_rfl) (by kernel_rfl) (by kernel_rfl) (by kernel_rfl) (by kernel_rfl) hs (AppendW.mono h (fun out2 w6 h => ?_))
              refine reg_run [.plain] 5 [(0, [], Value.pointer g), (3, [], Value.slice out2.ptr out2.len out2.cap), (4, [], Value.int .i64 n_)] (by kernel_rfl) (by kernel_rfl) ?_
              refine reg_end [(0, Value.pointer g), (3, Value.slice out2.ptr out2.len out2.cap), (4, Value.int .i64 n_)] (by kernel_rfl) (by kernel_rfl) ?_
              exact ⟨[(0, Value.pointer g), (3, Value.slice out2.ptr out2.len out2.cap), (4, Value.int .i64 n_)], Sub.mk (by kernel_rfl), out2, rfl, h⟩
            · replace h := h.2 hb
              refine wpE_skip (by kernel_rfl) ?_
              exact ⟨[(0, Value.pointer g), (3, Value.slice out.ptr out.len out.cap), (4, Value.int .i64 n_)], Sub.mk (by kernel_rfl), out, rfl, h⟩
          · rintro _ w3 ⟨out1, rfl, h⟩
            unfold F_gate_Gate_Beyond_k2 at h
            refine wpE_region (id := 6) (ops := r_gate_Gate_Beyond_38) (by kernel_rfl) ?_
            refine reg_run [.plain, .plain, .plain] 3 [(0, [], Value.pointer g), (3, [], Value.slice out1.ptr out1.len out1.cap), (4, [], Value.int .i64 (IntKind.i64.wrap (n_ + 1)))] (by kernel_rfl) (by kernel_rfl) ?_
            refine reg_end [(0, Value.pointer g), (3, Value.slice out1.ptr out1.len out1.cap), (4, Value.int .i64 (IntKind.i64.wrap (n_ + 1)))] (by kernel_rfl) (by kernel_rfl) ?_
            have hb_ := again__h _ _ _ h
            exact ⟨_, hb_.2, [(0, Value.pointer g), (3, Value.slice out1.ptr out1.len out1.cap), (4, Value.int .i64 (IntKind.i64.wrap (n_ + 1)))], Sub.mk (by kernel_rfl), out1, (IntKind.i64.wrap (n_ + 1)), rfl, hb_.1, rfl⟩
        · replace h := h.2 hb
          refine wpE_exit (id := 0) (by kernel_rfl) ?_
          change WpE _ _ c_gate_Gate_Beyond_40 _ _ _
          refine wpE_seq (x := c_gate_Gate_Beyond_41) (y := c_gate_Gate_Beyond_43) (by kernel_rfl) ?_
          refine wpE_region (id := 9) (ops := r_gate_Gate_Beyond_41) (by kernel_rfl) ?_
          refine reg_run [.plain, .plain] 2 [(2, [], Value.slice out.ptr out.len out.cap)] (by kernel_rfl) (by kernel_rfl) ?_
          refine reg_end [(2, Value.slice out.ptr out.len out.cap)] (by kernel_rfl) (by kernel_rfl) ?_
          change WpE _ _ c_gate_Gate_Beyond_43 _ _ _
          refine wpE_ret (by kernel_rfl) ?_
          repeat (first | refine seqQ_ret ?_ | refine blockQ_ret ?_ | refine loopQ_ret ?_ | refine cutQ_ret ?_)
          exact retS (rs := [(Go.ResultVar.tmp 2)]) (v := Value.slice out.ptr out.len out.cap) (by kernel_rfl) (⟨by kernel_rfl, trivial⟩) ⟨out, rfl, h⟩
  · rintro e w' ⟨v, rfl, r0, rfl, h⟩; exact ⟨r0, rfl, h⟩

/-! ### (*towpath/gate.Gate).Done (function 14) -/
noncomputable def c_gate_Gate_Done_0 : Code := (Tryd.f14.body).getD Code.skip
noncomputable def c_gate_Gate_Done_1 : Code := Code.l c_gate_Gate_Done_0
noncomputable def r_gate_Gate_Done_1 : Array Oper := Code.ops c_gate_Gate_Done_1
noncomputable def c_gate_Gate_Done_3 : Code := Code.r c_gate_Gate_Done_0
noncomputable def c_gate_Gate_Done_4 : Code := Code.l c_gate_Gate_Done_3
noncomputable def c_gate_Gate_Done_5 : Code := Code.l c_gate_Gate_Done_4
noncomputable def c_gate_Gate_Done_6 : Code := Code.l c_gate_Gate_Done_5
noncomputable def r_gate_Gate_Done_6 : Array Oper := Code.ops c_gate_Gate_Done_6
noncomputable def c_gate_Gate_Done_8 : Code := Code.r c_gate_Gate_Done_5
noncomputable def c_gate_Gate_Done_9 : Code := Code.l c_gate_Gate_Done_8
noncomputable def c_gate_Gate_Done_10 : Code := Code.l c_gate_Gate_Done_9
noncomputable def r_gate_Gate_Done_10 : Array Oper := Code.ops c_gate_Gate_Done_10
noncomputable def c_gate_Gate_Done_12 : Code := Code.r c_gate_Gate_Done_9
noncomputable def c_gate_Gate_Done_13 : Code := Code.r c_gate_Gate_Done_8
noncomputable def c_gate_Gate_Done_14 : Code := Code.l c_gate_Gate_Done_13
noncomputable def r_gate_Gate_Done_14 : Array Oper := Code.ops c_gate_Gate_Done_14
noncomputable def c_gate_Gate_Done_16 : Code := Code.r c_gate_Gate_Done_13
noncomputable def c_gate_Gate_Done_17 : Code := Code.l c_gate_Gate_Done_16
noncomputable def c_gate_Gate_Done_18 : Code := Code.l c_gate_Gate_Done_17
noncomputable def r_gate_Gate_Done_18 : Array Oper := Code.ops c_gate_Gate_Done_18
noncomputable def c_gate_Gate_Done_20 : Code := Code.r c_gate_Gate_Done_17
noncomputable def c_gate_Gate_Done_21 : Code := Code.r c_gate_Gate_Done_16
noncomputable def c_gate_Gate_Done_22 : Code := Code.r c_gate_Gate_Done_3
noncomputable def c_gate_Gate_Done_23 : Code := Code.l c_gate_Gate_Done_22
noncomputable def r_gate_Gate_Done_23 : Array Oper := Code.ops c_gate_Gate_Done_23
noncomputable def c_gate_Gate_Done_25 : Code := Code.r c_gate_Gate_Done_22
noncomputable def c_gate_Gate_Done_26 : Code := Code.l c_gate_Gate_Done_25
noncomputable def r_gate_Gate_Done_26 : Array Oper := Code.ops c_gate_Gate_Done_26
noncomputable def c_gate_Gate_Done_28 : Code := Code.r c_gate_Gate_Done_25
noncomputable def c_gate_Gate_Done_29 : Code := Code.l c_gate_Gate_Done_28
noncomputable def c_gate_Gate_Done_30 : Code := Code.l c_gate_Gate_Done_29
noncomputable def c_gate_Gate_Done_31 : Code := Code.l c_gate_Gate_Done_30
noncomputable def c_gate_Gate_Done_32 : Code := Code.l c_gate_Gate_Done_31
noncomputable def c_gate_Gate_Done_33 : Code := Code.l c_gate_Gate_Done_32
noncomputable def r_gate_Gate_Done_33 : Array Oper := Code.ops c_gate_Gate_Done_33
noncomputable def c_gate_Gate_Done_35 : Code := Code.r c_gate_Gate_Done_32
noncomputable def c_gate_Gate_Done_36 : Code := Code.l c_gate_Gate_Done_35
noncomputable def c_gate_Gate_Done_37 : Code := Code.r c_gate_Gate_Done_35
noncomputable def c_gate_Gate_Done_38 : Code := Code.r c_gate_Gate_Done_31
noncomputable def c_gate_Gate_Done_39 : Code := Code.l c_gate_Gate_Done_38
noncomputable def c_gate_Gate_Done_40 : Code := Code.l c_gate_Gate_Done_39
noncomputable def c_gate_Gate_Done_41 : Code := Code.l c_gate_Gate_Done_40
noncomputable def r_gate_Gate_Done_41 : Array Oper := Code.ops c_gate_Gate_Done_41
noncomputable def c_gate_Gate_Done_43 : Code := Code.r c_gate_Gate_Done_40
noncomputable def r_gate_Gate_Done_43 : Array Oper := Code.ops c_gate_Gate_Done_43
noncomputable def c_gate_Gate_Done_45 : Code := Code.r c_gate_Gate_Done_38
noncomputable def r_gate_Gate_Done_45 : Array Oper := Code.ops c_gate_Gate_Done_45
noncomputable def c_gate_Gate_Done_47 : Code := Code.r c_gate_Gate_Done_28
noncomputable def c_gate_Gate_Done_48 : Code := Code.l c_gate_Gate_Done_47
noncomputable def r_gate_Gate_Done_48 : Array Oper := Code.ops c_gate_Gate_Done_48
noncomputable def c_gate_Gate_Done_50 : Code := Code.r c_gate_Gate_Done_47

set_option maxRecDepth 100000 in
set_option maxHeartbeats 4000000 in
theorem S_gate_Gate_Done {g : Option Addr} {number : Int} {w : World} {R : Int → Int → World → Prop} (h : F_gate_Gate_Done g number R w) : C_gate_Gate_Done g number w R := by
  unfold F_gate_Gate_Done at h
  unfold C_gate_Gate_Done
  refine Calls.mono (calls_of_wpE (args := [Value.pointer g, Value.int .i64 number]) (R := fun v w' => ∃ (r0 : Int) (r1 : Int), v = Value.tuple #[Value.int .i64 r0, Value.int .i64 r1] ∧ R r0 r1 w') Tryd.func14 (c := c_gate_Gate_Done_0) (by kernel_rfl) 69 (by kernel_rfl) (by kernel_rfl) [(0, Value.pointer g), (1, Value.int .i64 number)] (by kernel_rfl) ?_) ?_
  · refine wpE_seq (x := c_gate_Gate_Done_1) (y := c_gate_Gate_Done_3) (by kernel_rfl) ?_
    refine wpE_region (id := 0) (ops := r_gate_Gate_Done_1) (by kernel_rfl) ?_
    refine reg_run [.plain, .plain] 2 [(0, [], Value.pointer g), (1, [], Value.int .i64 number)] (by kernel_rfl) (by kernel_rfl) ?_
    refine reg_end [(0, Value.pointer g), (1, Value.int .i64 number)] (by kernel_rfl) (by kernel_rfl) ?_
    change WpE _ _ c_gate_Gate_Done_3 _ _ _
    refine wpE_seq (x := c_gate_Gate_Done_4) (y := c_gate_Gate_Done_22) (by kernel_rfl) ?_
    refine wpE_block (id := 0) (x := c_gate_Gate_Done_5) (by kernel_rfl) ?_
    refine wpE_seq_cut (x := c_gate_Gate_Done_6) (y := c_gate_Gate_Done_8) (by kernel_rfl) (fun l w => ∃ (t7 : Bool), l = [(0, Value.pointer g), (1, Value.int .i64 number), (7, Value.bool t7)] ∧ F_gate_Gate_Done_k0 g number R t7 w) ?_ ?_
    · refine wpE_region (id := 1) (ops := r_gate_Gate_Done_6) (by kernel_rfl) ?_
      refine reg_run [.plain] 1 [(0, [], Value.pointer g), (1, [], Value.int .i64 number), (8, [], Value.pointer g)] (by kernel_rfl) (by kernel_rfl) ?_
      refine reg_val (op := (Go.Op.binOp Go.BinOp.eql 25 (Go.Operand.tmp 8) (Go.Operand.const (Go.Value.pointer none)) 25)) (ty := 4) (dst := some 9) (Value.bool g.isNone) (by kernel_rfl) (fun ww => run_ptr_eql_R (p := g) (by kernel_rfl) (by kernel_rfl) (by kernel_rfl) ww) ?_
      refine reg_run [.plain, .plain] 4 [(0, [], Value.pointer g), (1, [], Value.int .i64 number), (10, [], Value.bool g.isNone), (11, [(10, false)], Value.pointer g)] (by kernel_rfl) (by kernel_rfl) ?_
      refine reg_split 10 g.isNone (by kernel_rfl) (fun hb => ?_) (fun hb => ?_)
      · replace h := h.1 hb
        refine reg_run [] 4 [(0, [], Value.pointer g), (1, [], Value.int .i64 number), (10, [], Value.bool true), (11, [], undef)] (by kernel_rfl) (by kernel_rfl) ?_
        refine reg_run [.skip, .skip, .skip, .skip, .plain, .plain] 10 [(0, [], Value.pointer g), (1, [], Value.int .i64 number), (7, [], Value.bool true)] (by kernel_rfl) (by kernel_rfl) ?_
        refine reg_end [(0, Value.pointer g), (1, Value.int .i64 number), (7, Value.bool true)] (by kernel_rfl) (by kernel_rfl) ?_
        exact ⟨[(0, Value.pointer g), (1, Value.int .i64 number), (7, Value.bool true)], Sub.mk (by kernel_rfl), true, rfl, h⟩
      · replace h := h.2 hb
        refine reg_run [] 4 [(0, [], Value.pointer g), (1, [], Value.int .i64 number), (10, [], Value.bool false), (11, [], Value.pointer g)] (by kernel_rfl) (by kernel_rfl) ?_
        refine reg_run [] 4 [(0, [], Value.pointer g), (1, [], Value.int .i64 number), (10, [], Value.bool false), (11, [], Value.pointer g)] (by kernel_rfl) (by kernel_rfl) ?_
        obtain ⟨hp_31, h⟩ := h
        refine reg_conv [(0, [], Value.pointer g), (1, [], Value.int .i64 number), (10, [], Value.bool false), (11, [], Value.pointer (some ⟨(pblk g), (poff g), none⟩))] (congrArg (fun pp => ([(0, [], Value.pointer g), (1, [], Value.int .i64 number), (10, [], Value.bool false), (11, [], Value.pointer pp)] : GEnv)) hp_31) ?_
        refine reg_run [.sure] 5 [(0, [], Value.pointer g), (1, [], Value.int .i64 number), (10, [], Value.bool false), (11, [], Value.pointer (some ⟨(pblk g), (poff g), none⟩)), (12, [], Value.pointer (some ⟨(pblk g), (poff g), none⟩))] (by kernel_rfl) (by kernel_rfl) ?_
        refine reg_run [.sure] 6 [(0, [], Value.pointer g), (1, [], Value.int .i64 number), (10, [], Value.bool false), (13, [], Value.pointer (some ⟨(pblk g), (poff g), none⟩))] (by kernel_rfl) (by kernel_rfl) ?_
        obtain ⟨v14, hc, h⟩ := h
        refine reg_load1 (t := 4) (a := (Go.Operand.tmp 13)) (b := (pblk g)) (o := (poff g)) (ty := 4) (dst := some 14) (by kernel_rfl) (by kernel_rfl) (by kernel_rfl) hc ?_
        refine reg_run [.sure, .plain, .plain] 10 [(0, [], Value.pointer g), (1, [], Value.int .i64 number), (7, [], Value.bool (!v14))] (by kernel_rfl) (by kernel_rfl) ?_
        refine reg_end [(0, Value.pointer g), (1, Value.int .i64 number), (7, Value.bool (!v14))] (by kernel_rfl) (by kernel_rfl) ?_
        exact ⟨[(0, Value.pointer g), (1, Value.int .i64 number), (7, Value.bool (!v14))], Sub.mk (by kernel_rfl), (!v14), rfl, h⟩
    · rintro _ w1 ⟨t7, rfl, h⟩
      unfold F_gate_Gate_Done_k0 at h
      refine wpE_cond (o := (Operand.tmp 7)) (b := t7) (x := c_gate_Gate_Done_9) (y := c_gate_Gate_Done_13) (by kernel_rfl) (by kernel_rfl) (fun hb => ?_) (fun hb => ?_)
      · replace h := h.1 hb
        refine wpE_seq (x := c_gate_Gate_Done_10) (y := c_gate_Gate_Done_12) (by kernel_rfl) ?_
        refine wpE_region (id := 2) (ops := r_gate_Gate_Done_10) (by kernel_rfl) ?_
        refine reg_run [.plain, .plain] 2 [(4, [], Value.int .i64 0), (5, [], Value.int .i64 2)] (by kernel_rfl) (by kernel_rfl) ?_
        refine reg_end [(4, Value.int .i64 0), (5, Value.int .i64 2)] (by kernel_rfl) (by kernel_rfl) ?_
        change WpE _ _ c_gate_Gate_Done_12 _ _ _
        refine wpE_ret (by kernel_rfl) ?_
        repeat (first | refine seqQ_ret ?_ | refine blockQ_ret ?_ | refine loopQ_ret ?_ | refine cutQ_ret ?_)
        exact retT (rs := [(Go.ResultVar.tmp 4), (Go.ResultVar.tmp 5)]) (vs := [Value.int .i64 0, Value.int .i64 2]) (by kernel_rfl) (⟨by kernel_rfl, ⟨by kernel_rfl, trivial⟩⟩) (by kernel_rfl) ⟨0, 2, rfl, h⟩
      · replace h := h.2 hb
        refine wpE_seq_cut (x := c_gate_Gate_Done_14) (y := c_gate_Gate_Done_16) (by kernel_rfl) (fun l w => ∃ (t17 : Bool), l = [(0, Value.pointer g), (1, Value.int .i64 number), (17, Value.bool t17)] ∧ F_gate_Gate_Done_k1 g number R t17 w) ?_ ?_
        · refine wpE_region (id := 3) (ops := r_gate_Gate_Done_14) (by kernel_rfl) ?_
          refine reg_run [.plain, .plain, .plain, .plain, .plain, .pick, .plain, .plain, .plain] 9 [(0, [], Value.pointer g), (1, [], Value.int .i64 number), (24, [], Value.bool ((decide (number < 1)) || (decide (number > 65536)))), (25, [(24, false)], Value.pointer g), (26, [(24, false)], Value.int .i64 number)] (by kernel_rfl) (by kernel_rfl) ?_
          refine reg_split 24 ((decide (number < 1)) || (decide (number > 65536))) (by kernel_rfl) (fun hb => ?_) (fun hb => ?_)
          · replace h := h.1 hb
            refine reg_run [] 9 [(0, [], Value.pointer g), (1, [], Value.int .i64 number), (24, [], Value.bool true), (25, [], undef), (26, [], undef)] (by kernel_rfl) (by kernel_rfl) ?_
            refine reg_run [.skip, .plain, .plain] 12 [(0, [], Value.pointer g), (1, [], Value.int .i64 number), (17, [], Value.bool true)] (by kernel_rfl) (by kernel_rfl) ?_
            refine reg_end [(0, Value.pointer g), (1, Value.int .i64 number), (17, Value.bool true)] (by kernel_rfl) (by kernel_rfl) ?_
            exact ⟨[(0, Value.pointer g), (1, Value.int .i64 number), (17, Value.bool true)], Sub.mk (by kernel_rfl), true, rfl, h⟩
          · replace h := h.2 hb
            refine reg_run [] 9 [(0, [], Value.pointer g), (1, [], Value.int .i64 number), (24, [], Value.bool false), (25, [], Value.pointer g), (26, [], Value.int .i64 number)] (by kernel_rfl) (by kernel_rfl) ?_
            refine reg_run [] 9 [(0, [], Value.pointer g), (1, [], Value.int .i64 number), (24, [], Value.bool false), (25, [], Value.pointer g), (26, [], Value.int .i64 number)] (by kernel_rfl) (by kernel_rfl) ?_
            refine reg_enter (op := (Go.Op.call (Go.Call.mk (Go.Callee.value (Go.Operand.func 66)) #[(Go.Operand.tmp 25), (Go.Operand.tmp 26)] #[25, 3]))) (ty := 4) (dst := some 27) 66 #[Value.pointer g, Value.int .i64 number] (by kernel_rfl) (fun ww => by kernel_rfl) (Calls.mono h ?_)
            rintro _ w9 ⟨v27, rfl, h⟩
            refine ⟨_, rfl, ?_⟩
            refine reg_run [.plain, .plain] 12 [(0, [], Value.pointer g), (1, [], Value.int .i64 number), (17, [], Value.bool v27)] (by kernel_rfl) (by kernel_rfl) ?_
            refine reg_end [(0, Value.pointer g), (1, Value.int .i64 number), (17, Value.bool v27)] (by kernel_rfl) (by kernel_rfl) ?_
            exact ⟨[(0, Value.pointer g), (1, Value.int .i64 number), (17, Value.bool v27)], Sub.mk (by kernel_rfl), v27, rfl, h⟩
        · rintro _ w2 ⟨t17, rfl, h⟩
          unfold F_gate_Gate_Done_k1 at h
          refine wpE_cond (o := (Operand.tmp 17)) (b := t17) (x := c_gate_Gate_Done_17) (y := c_gate_Gate_Done_21) (by kernel_rfl) (by kernel_rfl) (fun hb => ?_) (fun hb => ?_)
          · replace h := h.1 hb
            refine wpE_seq (x := c_gate_Gate_Done_18) (y := c_gate_Gate_Done_20) (by kernel_rfl) ?_
            refine wpE_region (id := 4) (ops := r_gate_Gate_Done_18) (by kernel_rfl) ?_
            refine reg_run [.plain, .plain] 2 [(4, [], Value.int .i64 0), (5, [], Value.int .i64 1)] (by kernel_rfl) (by kernel_rfl) ?_
            refine reg_end [(4, Value.int .i64 0), (5, Value.int .i64 1)] (by kernel_rfl) (by kernel_rfl) ?_
            change WpE _ _ c_gate_Gate_Done_20 _ _ _
            refine wpE_ret (by kernel_rfl) ?_
            repeat (first | refine seqQ_ret ?_ | refine blockQ_ret ?_ | refine loopQ_ret ?_ | refine cutQ_ret ?_)
            exact retT (rs := [(Go.ResultVar.tmp 4), (Go.ResultVar.tmp 5)]) (vs := [Value.int .i64 0, Value.int .i64 1]) (by kernel_rfl) (⟨by kernel_rfl, ⟨by kernel_rfl, trivial⟩⟩) (by kernel_rfl) ⟨0, 1, rfl, h⟩
          · replace h := h.2 hb
            refine wpE_skip (by kernel_rfl) ?_
            change WpE _ _ c_gate_Gate_Done_22 _ _ _
            refine wpE_seq (x := c_gate_Gate_Done_23) (y := c_gate_Gate_Done_25) (by kernel_rfl) ?_
            refine wpE_region (id := 5) (ops := r_gate_Gate_Done_23) (by kernel_rfl) ?_
            refine reg_run [.plain, .plain] 2 [(0, [], Value.pointer g), (29, [], Value.pointer g), (30, [], Value.int .i64 number)] (by kernel_rfl) (by kernel_rfl) ?_
            refine reg_enter (op := (Go.Op.call (Go.Call.mk (Go.Callee.value (Go.Operand.func 29)) #[(Go.Operand.tmp 29), (Go.Operand.tmp 30)] #[25, 3]))) (ty := 0) (dst := some 31) 29 #[Value.pointer g, Value.int .i64 number] (by kernel_rfl) (fun ww => by kernel_rfl) (Calls.mono h ?_)
            rintro _ w3 ⟨rfl, h⟩
            refine ⟨_, rfl, ?_⟩
            refine reg_end [(0, Value.pointer g)] (by kernel_rfl) (by kernel_rfl) ?_
            change WpE _ _ c_gate_Gate_Done_25 _ _ _
            refine wpE_seq (x := c_gate_Gate_Done_26) (y := c_gate_Gate_Done_28) (by kernel_rfl) ?_
            refine wpE_region (id := 6) (ops := r_gate_Gate_Done_26) (by kernel_rfl) ?_
            refine reg_run [.plain] 1 [(0, [], Value.pointer g), (6, [], Value.int .i64 0)] (by kernel_rfl) (by kernel_rfl) ?_
            refine reg_end [(0, Value.pointer g), (6, Value.int .i64 0)] (by kernel_rfl) (by kernel_rfl) ?_
            change WpE _ _ c_gate_Gate_Done_28 _ _ _
            refine wpE_seq (x := c_gate_Gate_Done_29) (y := c_gate_Gate_Done_47) (by kernel_rfl) ?_
            refine wpE_block (id := 1) (x := c_gate_Gate_Done_30) (by kernel_rfl) ?_
            obtain ⟨I, μ, h0, hr⟩ := h
            refine wpE_loop (x := c_gate_Gate_Done_31) (by kernel_rfl) (fun m l w => ∃ (up : Int), l = [(0, Value.pointer g), (6, Value.int .i64 up)] ∧ I up w ∧ μ up w = m) (l' := [(0, Value.pointer g), (6, Value.int .i64 0)]) (Sub.mk (by kernel_rfl)) ⟨0, rfl, h0, rfl⟩ ?_
            rintro _ _ w4 ⟨up, rfl, hI, rfl⟩
            obtain ⟨again_, again__h, h⟩ : ∃ again_ : Int → World → Prop, (∀ up' w', again_ up' w' → I up' w' ∧ μ up' w' < μ up w4) ∧ F_gate_Gate_Done_L2 g R again_ up w4 := ⟨_, fun _ _ h => h, hr up w4 hI⟩
            clear h0 hI
            unfold F_gate_Gate_Done_L2 at h
            refine wpE_seq (x := c_gate_Gate_Done_32) (y := c_gate_Gate_Done_38) (by kernel_rfl) ?_
            refine wpE_seq (x := c_gate_Gate_Done_33) (y := c_gate_Gate_Done_35) (by kernel_rfl) ?_
            refine wpE_region (id := 7) (ops := r_gate_Gate_Done_33) (by kernel_rfl) ?_
            refine reg_run [.plain, .plain] 2 [(0, [], Value.pointer g), (6, [], Value.int .i64 up), (32, [], Value.pointer g), (33, [], Value.pointer g)] (by kernel_rfl) (by kernel_rfl) ?_
            obtain ⟨hp_20, h⟩ := h
            refine reg_conv [(0, [], Value.pointer g), (6, [], Value.int .i64 up), (32, [], Value.pointer g), (33, [], Value.pointer (some ⟨(pblk g), (poff g), none⟩))] (congrArg (fun pp => ([(0, [], Value.pointer g), (6, [], Value.int .i64 up), (32, [], Value.pointer g), (33, [], Value.pointer pp)] : GEnv)) hp_20) ?_
            refine reg_run [.plain] 3 [(0, [], Value.pointer g), (6, [], Value.int .i64 up), (32, [], Value.pointer g), (33, [], Value.pointer (some ⟨(pblk g), (poff g), none⟩)), (34, [], Value.pointer (some ⟨(pblk g), (poff g), none⟩))] (by kernel_rfl) (by kernel_rfl) ?_
            refine reg_run [.plain] 4 [(0, [], Value.pointer g), (6, [], Value.int .i64 up), (32, [], Value.pointer g), (35, [], Value.pointer (some ⟨(pblk g), (poff g) + 1, none⟩))] (by kernel_rfl) (by kernel_rfl) ?_
            obtain ⟨v36, hc, h⟩ := h
            refine reg_load1 (t := 3) (a := (Go.Operand.tmp 35)) (b := (pblk g)) (o := ((poff g) + 1)) (ty := 3) (dst := some 36) (by kernel_rfl) (by kernel_rfl) (by kernel_rfl) hc ?_
            refine reg_run [.plain] 6 [(0, [], Value.pointer g), (6, [], Value.int .i64 up), (32, [], Value.pointer g), (37, [], Value.int .i64 (IntKind.i64.wrap (v36 + 1)))] (by kernel_rfl) (by kernel_rfl) ?_
            refine reg_enter (op := (Go.Op.call (Go.Call.mk (Go.Callee.value (Go.Operand.func 32)) #[(Go.Operand.tmp 32), (Go.Operand.tmp 37)] #[25, 3]))) (ty := 4) (dst := some 38) 32 #[Value.pointer g, Value.int .i64 (IntKind.i64.wrap (v36 + 1))] (by kernel_rfl) (fun ww => by kernel_rfl) (Calls.mono h ?_)
            rintro _ w5 ⟨v38, rfl, h⟩
            refine ⟨_, rfl, ?_⟩
            refine reg_end [(0, Value.pointer g), (6, Value.int .i64 up), (38, Value.bool v38)] (by kernel_rfl) (by kernel_rfl) ?_
            change WpE _ _ c_gate_Gate_Done_35 _ _ _
            refine wpE_cond (o := (Operand.tmp 38)) (b := v38) (x := c_gate_Gate_Done_36) (y := c_gate_Gate_Done_37) (by kernel_rfl) (by kernel_rfl) (fun hb => ?_) (fun hb => ?_)
            · replace h := h.1 hb
              refine wpE_skip (by kernel_rfl) ?_
              change WpE _ _ c_gate_Gate_Done_38 _ _ _
              refine wpE_seq (x := c_gate_Gate_Done_39) (y := c_gate_Gate_Done_45) (by kernel_rfl) ?_
              refine wpE_block (id := 2) (x := c_gate_Gate_Done_40) (by kernel_rfl) ?_
              refine wpE_seq (x := c_gate_Gate_Done_41) (y := c_gate_Gate_Done_43) (by kernel_rfl) ?_
              refine wpE_region (id := 9) (ops := r_gate_Gate_Done_41) (by kernel_rfl) ?_
              refine reg_run [.plain] 1 [(0, [], Value.pointer g), (6, [], Value.int .i64 up), (41, [], Value.pointer g)] (by kernel_rfl) (by kernel_rfl) ?_
              obtain ⟨hp_27, h⟩ := h
              refine reg_conv [(0, [], Value.pointer g), (6, [], Value.int .i64 up), (41, [], Value.pointer (some ⟨(pblk g), (poff g), none⟩))] (congrArg (fun pp => ([(0, [], Value.pointer g), (6, [], Value.int .i64 up), (41, [], Value.pointer pp)] : GEnv)) hp_27) ?_
              refine reg_run [.plain] 2 [(0, [], Value.pointer g), (6, [], Value.int .i64 up), (41, [], Value.pointer (some ⟨(pblk g), (poff g), none⟩)), (42, [], Value.pointer (some ⟨(pblk g), (poff g), none⟩))] (by kernel_rfl) (by kernel_rfl) ?_
              refine reg_run [.plain] 3 [(0, [], Value.pointer g), (6, [], Value.int .i64 up), (41, [], Value.pointer (some ⟨(pblk g), (poff g), none⟩)), (43, [], Value.pointer (some ⟨(pblk g), (poff g) + 1, none⟩))] (by kernel_rfl) (by kernel_rfl) ?_
              obtain ⟨v44, hc, h⟩ := h
              refine reg_load1 (t := 3) (a := (Go.Operand.tmp 43)) (b := (pblk g)) (o := ((poff g) + 1)) (ty := 3) (dst := some 44) (by kernel_rfl) (by kernel_rfl) (by kernel_rfl) hc ?_
              refine reg_run [.plain, .plain, .plain] 7 [(0, [], Value.pointer g), (6, [], Value.int .i64 up), (45, [], Value.int .i64 (IntKind.i64.wrap (v44 + 1))), (47, [], Value.pointer (some ⟨(pblk g), (poff g) + 1, none⟩))] (by kernel_rfl) (by kernel_rfl) ?_
              obtain ⟨hc, h⟩ := h
              refine reg_store (t := 3) (a := (Go.Operand.tmp 47)) (x := (Go.Operand.tmp 45)) (b := (pblk g)) (o := ((poff g) + 1)) (ty := 0) (dst := none) [Value.int .i64 (IntKind.i64.wrap (v44 + 1))] (by kernel_rfl) (by kernel_rfl) (by kernel_rfl) (k := 1) (by kernel_rfl) (by kernel_rfl) (by kernel_rfl) hc (fun w6 hw => ?_)
              replace h := h w6 hw
              clear hw
              refine reg_end [(0, Value.pointer g), (6, Value.int .i64 up)] (by kernel_rfl) (by kernel_rfl) ?_
              change WpE _ _ c_gate_Gate_Done_43 _ _ _
              refine wpE_tailregion (id := 10) (ops := r_gate_Gate_Done_43) (by kernel_rfl) 20 (by kernel_rfl) (by kernel_rfl) (fun w7 hw => ?_)
              replace h := h w7 hw
              clear hw
              refine qreg_run [.plain, .plain] 2 [(0, [], Value.pointer g), (6, [], Value.int .i64 up), (48, [], Value.pointer g), (49, [], Value.pointer g)] (by kernel_rfl) (by kernel_rfl) ?_
              obtain ⟨hp_28, h⟩ := h
              refine qreg_conv [(0, [], Value.pointer g), (6, [], Value.int .i64 up), (48, [], Value.pointer g), (49, [], Value.pointer (some ⟨(pblk g), (poff g), none⟩))] (congrArg (fun pp => ([(0, [], Value.pointer g), (6, [], Value.int .i64 up), (48, [], Value.pointer g), (49, [], Value.pointer pp)] : GEnv)) hp_28) ?_
              refine qreg_run [.plain] 3 [(0, [], Value.pointer g), (6, [], Value.int .i64 up), (48, [], Value.pointer g), (49, [], Value.pointer (some ⟨(pblk g), (poff g), none⟩)), (50, [], Value.pointer (some ⟨(pblk g), (poff g), none⟩))] (by kernel_rfl) (by kernel_rfl) ?_
              refine qreg_run [.plain] 4 [(0, [], Value.pointer g), (6, [], Value.int .i64 up), (48, [], Value.pointer g), (51, [], Value.pointer (some ⟨(pblk g), (poff g) + 1, none⟩))] (by kernel_rfl) (by kernel_rfl) ?_
              obtain ⟨v52, hc, h⟩ := h
              refine qreg_load1 (t := 3) (a := (Go.Operand.tmp 51)) (b := (pblk g)) (o := ((poff g) + 1)) (ty := 3) (dst := some 52) (by kernel_rfl) (by kernel_rfl) (by kernel_rfl) hc ?_
              refine qreg_run [.plain] 6 [(0, [], Value.pointer g), (6, [], Value.int .i64 up), (48, [], Value.pointer g), (53, [], Value.int .i64 (IntKind.i64.wrap (Int.tdiv v52 64)))] (by kernel_rfl) (by kernel_rfl) ?_
              obtain ⟨hp_29, h⟩ := h
              refine qreg_conv [(0, [], Value.pointer g), (6, [], Value.int .i64 up), (48, [], Value.pointer (some ⟨(pblk g), (poff g), none⟩)), (53, [], Value.int .i64 (IntKind.i64.wrap (Int.tdiv v52 64)))] (congrArg (fun pp => ([(0, [], Value.pointer g), (6, [], Value.int .i64 up), (48, [], Value.pointer pp), (53, [], Value.int .i64 (IntKind.i64.wrap (Int.tdiv v52 64)))] : GEnv)) hp_29) ?_
              refine qreg_run [.plain] 7 [(0, [], Value.pointer g), (6, [], Value.int .i64 up), (48, [], Value.pointer (some ⟨(pblk g), (poff g), none⟩)), (53, [], Value.int .i64 (IntKind.i64.wrap (Int.tdiv v52 64))), (54, [], Value.pointer (some ⟨(pblk g), (poff g), none⟩))] (by kernel_rfl) (by kernel_rfl) ?_
              refine qreg_run [.plain] 8 [(0, [], Value.pointer g), (6, [], Value.int .i64 up), (48, [], Value.pointer (some ⟨(pblk g), (poff g), none⟩)), (53, [], Value.int .i64 (IntKind.i64.wrap (Int.tdiv v52 64))), (55, [], Value.pointer (some ⟨(pblk g), (poff g) + 2, none⟩))] (by kernel_rfl) (by kernel_rfl) ?_
              obtain ⟨h0, h1, h⟩ := h
              refine qreg_indexA1 (t := 51) (e := 50) (x := (Go.Operand.tmp 55)) (ix := (Go.Operand.tmp 53)) (b := (pblk g)) (o := ((poff g) + 2)) (len := 1025) (k := .i64) (j := (IntKind.i64.wrap (Int.tdiv v52 64))) (ty := 0) (dst := some 56) (by kernel_rfl) (by kernel_rfl) (by kernel_rfl) (by kernel_rfl) (by kernel_rfl) h0 h1 ?_
              refine qreg_run [] 9 [(0, [], Value.pointer g), (6, [], Value.int .i64 up), (48, [], Value.pointer (some ⟨(pblk g), (poff g), none⟩)), (53, [], Value.int .i64 (IntKind.i64.wrap (Int.tdiv v52 64))), (56, [], Value.pointer (some ⟨(pblk g), ((poff g) + 2) + (IntKind.i64.wrap (Int.tdiv v52 64)).toNat, none⟩))] (by kernel_rfl) (by kernel_rfl) ?_
              obtain ⟨v57, hc, h⟩ := h
              refine qreg_load1 (t := 50) (a := (Go.Operand.tmp 56)) (b := (pblk g)) (o := (((poff g) + 2) + (IntKind.i64.wrap (Int.tdiv v52 64)).toNat)) (ty := 50) (dst := some 57) (by kernel_rfl) (by kernel_rfl) (by kernel_rfl) hc ?_
              refine qreg_run [.plain] 11 [(0, [], Value.pointer g), (6, [], Value.int .i64 up), (48, [], Value.pointer (some ⟨(pblk g), (poff g), none⟩)), (53, [], Value.int .i64 (IntKind.i64.wrap (Int.tdiv v52 64))), (57, [], Value.int .u64 v57), (58, [], Value.pointer g)] (by kernel_rfl) (by kernel_rfl) ?_
              obtain ⟨hp_30, h⟩ := h
              refine qreg_conv [(0, [], Value.pointer g), (6, [], Value.int .i64 up), (48, [], Value.pointer (some ⟨(pblk g), (poff g), none⟩)), (53, [], Value.int .i64 (IntKind.i64.wrap (Int.tdiv v52 64))), (57, [], Value.int .u64 v57), (58, [], Value.pointer (some ⟨(pblk g), (poff g), none⟩))] (congrArg (fun pp => ([(0, [], Value.pointer g), (6, [], Value.int .i64 up), (48, [], Value.pointer (some ⟨(pblk g), (poff g), none⟩)), (53, [], Value.int .i64 (IntKind.i64.wrap (Int.tdiv v52 64))), (57, [], Value.int .u64 v57), (58, [], Value.pointer pp)] : GEnv)) hp_30) ?_
              refine qreg_run [.plain] 12 [(0, [], Value.pointer g), (6, [], Value.int .i64 up), (48, [], Value.pointer (some ⟨(pblk g), (poff g), none⟩)), (53, [], Value.int .i64 (IntKind.i64.wrap (Int.tdiv v52 64))), (57, [], Value.int .u64 v57), (58, [], Value.pointer (some ⟨(pblk g), (poff g), none⟩)), (59, [], Value.pointer (some ⟨(pblk g), (poff g), none⟩))] (by kernel_rfl) (by kernel_rfl) ?_
              refine qreg_run [.plain] 13 [(0, [], Value.pointer g), (6, [], Value.int .i64 up), (48, [], Value.pointer (some ⟨(pblk g), (poff g), none⟩)), (53, [], Value.int .i64 (IntKind.i64.wrap (Int.tdiv v52 64))), (57, [], Value.int .u64 v57), (60, [], Value.pointer (some ⟨(pblk g), (poff g) + 1, none⟩))] (by kernel_rfl) (by kernel_rfl) ?_
              obtain ⟨v61, hc, h⟩ := h
              refine qreg_load1 (t := 3) (a := (Go.Operand.tmp 60)) (b := (pblk g)) (o := ((poff g) + 1)) (ty := 3) (dst := some 61) (by kernel_rfl) (by kernel_rfl) (by kernel_rfl) hc ?_
              refine qreg_run [.plain] 15 [(0, [], Value.pointer g), (6, [], Value.int .i64 up), (48, [], Value.pointer (some ⟨(pblk g), (poff g), none⟩)), (53, [], Value.int .i64 (IntKind.i64.wrap (Int.tdiv v52 64))), (57, [], Value.int .u64 v57), (62, [], Value.int .i64 (Int.tmod v61 64))] (by kernel_rfl) (by kernel_rfl) ?_
              obtain ⟨h0, h⟩ := h
              refine qreg_val (op := (Go.Op.binOp Go.BinOp.shl 50 (Go.Operand.const (Go.Value.int Go.IntKind.u64 1)) (Go.Operand.tmp 62) 3)) (ty := 50) (dst := some 63) (Value.int .u64 (IntKind.u64.wrap (1 * 2 ^ (min (Int.tmod v61 64).toNat 64)))) (by kernel_rfl) (fun ww => run_shl (k' := .i64) (by kernel_rfl) (by kernel_rfl) (by kernel_rfl) h0 ww) ?_
              refine qreg_run [.plain, .plain, .plain] 19 [(0, [], Value.pointer g), (6, [], Value.int .i64 up), (53, [], Value.int .i64 (IntKind.i64.wrap (Int.tdiv v52 64))), (64, [], Value.int .u64 (bandnot .u64 v57 (IntKind.u64.wrap (1 * 2 ^ (min (Int.tmod v61 64).toNat 64))))), (66, [], Value.pointer (some ⟨(pblk g), (poff g) + 2, none⟩))] (by kernel_rfl) (by kernel_rfl) ?_
              obtain ⟨h0, h1, h⟩ := h
              refine qreg_indexA1 (t := 51) (e := 50) (x := (Go.Operand.tmp 66)) (ix := (Go.Operand.tmp 53)) (b := (pblk g)) (o := ((poff g) + 2)) (len := 1025) (k := .i64) (j := (IntKind.i64.wrap (Int.tdiv v52 64))) (ty := 0) (dst := some 67) (by kernel_rfl) (by kernel_rfl) (by kernel_rfl) (by kernel_rfl) (by kernel_rfl) h0 h1 ?_
              refine qreg_run [] 20 [(0, [], Value.pointer g), (6, [], Value.int .i64 up), (64, [], Value.int .u64 (bandnot .u64 v57 (IntKind.u64.wrap (1 * 2 ^ (min (Int.tmod v61 64).toNat 64))))), (67, [], Value.pointer (some ⟨(pblk g), ((poff g) + 2) + (IntKind.i64.wrap (Int.tdiv v52 64)).toNat, none⟩))] (by kernel_rfl) (by kernel_rfl) ?_
              refine qreg_tail (by kernel_rfl) ?_
              refine reg_run [] 20 [(0, [], Value.pointer g), (6, [], Value.int .i64 up), (64, [], Value.int .u64 (bandnot .u64 v57 (IntKind.u64.wrap (1 * 2 ^ (min (Int.tmod v61 64).toNat 64))))), (67, [], Value.pointer (some ⟨(pblk g), ((poff g) + 2) + (IntKind.i64.wrap (Int.tdiv v52 64)).toNat, none⟩))] (by kernel_rfl) (by kernel_rfl) ?_
              obtain ⟨hc, h⟩ := h
              refine reg_store (t := 50) (a := (Go.Operand.tmp 67)) (x := (Go.Operand.tmp 64)) (b := (pblk g)) (o := (((poff g) + 2) + (IntKind.i64.wrap (Int.tdiv v52 64)).toNat)) (ty := 0) (dst := none) [Value.int .u64 (bandnot .u64 v57 (IntKind.u64.wrap (1 * 2 ^ (min (Int.tmod v61 64).toNat 64))))] (by kernel_rfl) (by kernel_rfl) (by kernel_rfl) (k := 1) (by kernel_rfl) (by kernel_rfl) (by kernel_rfl) hc (fun w8 hw => ?_)
              replace h := h w8 hw
              clear hw
              refine reg_end [(0, Value.pointer g), (6, Value.int .i64 up)] (by kernel_rfl) (by kernel_rfl) ?_
              change WpE _ _ c_gate_Gate_Done_45 _ _ _
              refine wpE_region (id := 8) (ops := r_gate_Gate_Done_45) (by kernel_rfl) ?_
              refine reg_run [.plain, .plain, .plain] 3 [(0, [], Value.pointer g), (6, [], Value.int .i64 (IntKind.i64.wrap (up + 1)))] (by kernel_rfl) (by kernel_rfl) ?_
              refine reg_end [(0, Value.pointer g), (6, Value.int .i64 (IntKind.i64.wrap (up + 1)))] (by kernel_rfl) (by kernel_rfl) ?_
              have hb_ := again__h _ _ h
              exact ⟨_, hb_.2, [(0, Value.pointer g), (6, Value.int .i64 (IntKind.i64.wrap (up + 1)))], Sub.mk (by kernel_rfl), (IntKind.i64.wrap (up + 1)), rfl, hb_.1, rfl⟩
            · replace h := h.2 hb
              refine wpE_exit (id := 1) (by kernel_rfl) ?_
              change WpE _ _ c_gate_Gate_Done_47 _ _ _
              refine wpE_seq (x := c_gate_Gate_Done_48) (y := c_gate_Gate_Done_50) (by kernel_rfl) ?_
              refine wpE_region (id := 11) (ops := r_gate_Gate_Done_48) (by kernel_rfl) ?_
              refine reg_run [.plain, .plain, .plain] 3 [(4, [], Value.int .i64 up), (5, [], Value.int .i64 0)] (by kernel_rfl) (by kernel_rfl) ?_
              refine reg_end [(4, Value.int .i64 up), (5, Value.int .i64 0)] (by kernel_rfl) (by kernel_rfl) ?_
              change WpE _ _ c_gate_Gate_Done_50 _ _ _
              refine wpE_ret (by kernel_rfl) ?_
              repeat (first | refine seqQ_ret ?_ | refine blockQ_ret ?_ | refine loopQ_ret ?_ | refine cutQ_ret ?_)
              exact retT (rs := [(Go.ResultVar.tmp 4), (Go.ResultVar.tmp 5)]) (vs := [Value.int .i64 up, Value.int .i64 0]) (by kernel_rfl) (⟨by kernel_rfl, ⟨by kernel_rfl, trivial⟩⟩) (by kernel_rfl) ⟨up, 0, rfl, h⟩
  · rintro e w' ⟨v, rfl, r0, r1, rfl, h⟩; exact ⟨r0, r1, rfl, h⟩

/-! ### (*towpath/gate.Gate).Mark (function 18) -/
noncomputable def c_gate_Gate_Mark_0 : Code := (Tryd.f18.body).getD Code.skip
noncomputable def c_gate_Gate_Mark_1 : Code := Code.l c_gate_Gate_Mark_0
noncomputable def r_gate_Gate_Mark_1 : Array Oper := Code.ops c_gate_Gate_Mark_1
noncomputable def c_gate_Gate_Mark_3 : Code := Code.r c_gate_Gate_Mark_0
noncomputable def c_gate_Gate_Mark_4 : Code := Code.l c_gate_Gate_Mark_3
noncomputable def c_gate_Gate_Mark_5 : Code := Code.l c_gate_Gate_Mark_4
noncomputable def r_gate_Gate_Mark_5 : Array Oper := Code.ops c_gate_Gate_Mark_5
noncomputable def c_gate_Gate_Mark_7 : Code := Code.r c_gate_Gate_Mark_4
noncomputable def c_gate_Gate_Mark_8 : Code := Code.l c_gate_Gate_Mark_7
noncomputable def c_gate_Gate_Mark_9 : Code := Code.l c_gate_Gate_Mark_8
noncomputable def r_gate_Gate_Mark_9 : Array Oper := Code.ops c_gate_Gate_Mark_9
noncomputable def c_gate_Gate_Mark_11 : Code := Code.r c_gate_Gate_Mark_8
noncomputable def c_gate_Gate_Mark_12 : Code := Code.r c_gate_Gate_Mark_7
noncomputable def c_gate_Gate_Mark_13 : Code := Code.r c_gate_Gate_Mark_3
noncomputable def c_gate_Gate_Mark_14 : Code := Code.l c_gate_Gate_Mark_13
noncomputable def r_gate_Gate_Mark_14 : Array Oper := Code.ops c_gate_Gate_Mark_14
noncomputable def c_gate_Gate_Mark_16 : Code := Code.r c_gate_Gate_Mark_13

set_option maxRecDepth 100000 in
set_option maxHeartbeats 4000000 in
theorem S_gate_Gate_Mark {g : Option Addr} {w : World} {R : Int → World → Prop} (h : F_gate_Gate_Mark g R w) : C_gate_Gate_Mark g w R := by
  unfold F_gate_Gate_Mark at h
  unfold C_gate_Gate_Mark
  refine Calls.mono (calls_of_wpE (args := [Value.pointer g]) (R := fun v w' => ∃ (r0 : Int), v = Value.int .i64 r0 ∧ R r0 w') Tryd.func18 (c := c_gate_Gate_Mark_0) (by kernel_rfl) 9 (by kernel_rfl) (by kernel_rfl) [(0, Value.pointer g)] (by kernel_rfl) ?_) ?_
  · refine wpE_seq (x := c_gate_Gate_Mark_1) (y := c_gate_Gate_Mark_3) (by kernel_rfl) ?_
    refine wpE_region (id := 0) (ops := r_gate_Gate_Mark_1) (by kernel_rfl) ?_
    refine reg_run [.plain] 1 [(0, [], Value.pointer g)] (by kernel_rfl) (by kernel_rfl) ?_
    refine reg_end [(0, Value.pointer g)] (by kernel_rfl) (by kernel_rfl) ?_
    change WpE _ _ c_gate_Gate_Mark_3 _ _ _
    refine wpE_seq (x := c_gate_Gate_Mark_4) (y := c_gate_Gate_Mark_13) (by kernel_rfl) ?_
    refine wpE_seq (x := c_gate_Gate_Mark_5) (y := c_gate_Gate_Mark_7) (by kernel_rfl) ?_
    refine wpE_region (id := 1) (ops := r_gate_Gate_Mark_5) (by kernel_rfl) ?_
    refine reg_run [.plain] 1 [(0, [], Value.pointer g), (3, [], Value.pointer g)] (by kernel_rfl) (by kernel_rfl) ?_
    refine reg_val (op := (Go.Op.binOp Go.BinOp.eql 25 (Go.Operand.tmp 3) (Go.Operand.const (Go.Value.pointer none)) 25)) (ty := 4) (dst := some 4) (Value.bool g.isNone) (by kernel_rfl) (fun ww => run_ptr_eql_R (p := g) (by kernel_rfl) (by kernel_rfl) (by kernel_rfl) ww) ?_
    refine reg_end [(0, Value.pointer g), (4, Value.bool g.isNone)] (by kernel_rfl) (by kernel_rfl) ?_
    change WpE _ _ c_gate_Gate_Mark_7 _ _ _
    refine wpE_cond (o := (Operand.tmp 4)) (b := g.isNone) (x := c_gate_Gate_Mark_8) (y := c_gate_Gate_Mark_12) (by kernel_rfl) (by kernel_rfl) (fun hb => ?_) (fun hb => ?_)
    · replace h := h.1 hb
      refine wpE_seq (x := c_gate_Gate_Mark_9) (y := c_gate_Gate_Mark_11) (by kernel_rfl) ?_
      refine wpE_region (id := 2) (ops := r_gate_Gate_Mark_9) (by kernel_rfl) ?_
      refine reg_run [.plain] 1 [(2, [], Value.int .i64 0)] (by kernel_rfl) (by kernel_rfl) ?_
      refine reg_end [(2, Value.int .i64 0)] (by kernel_rfl) (by kernel_rfl) ?_
      change WpE _ _ c_gate_Gate_Mark_11 _ _ _
      refine wpE_ret (by kernel_rfl) ?_
      repeat (first | refine seqQ_ret ?_ | refine blockQ_ret ?_ | refine loopQ_ret ?_ | refine cutQ_ret ?_)
      exact retS (rs := [(Go.ResultVar.tmp 2)]) (v := Value.int .i64 0) (by kernel_rfl) (⟨by kernel_rfl, trivial⟩) ⟨0, rfl, h⟩
    · replace h := h.2 hb
      refine wpE_skip (by kernel_rfl) ?_
      change WpE _ _ c_gate_Gate_Mark_13 _ _ _
      refine wpE_seq (x := c_gate_Gate_Mark_14) (y := c_gate_Gate_Mark_16) (by kernel_rfl) ?_
      refine wpE_region (id := 3) (ops := r_gate_Gate_Mark_14) (by kernel_rfl) ?_
      refine reg_run [.plain] 1 [(5, [], Value.pointer g)] (by kernel_rfl) (by kernel_rfl) ?_
      obtain ⟨hp_0, h⟩ := h
      refine reg_conv [(5, [], Value.pointer (some ⟨(pblk g), (poff g), none⟩))] (congrArg (fun pp => ([(5, [], Value.pointer pp)] : GEnv)) hp_0) ?_
      refine reg_run [.plain] 2 [(5, [], Value.pointer (some ⟨(pblk g), (poff g), none⟩)), (6, [], Value.pointer (some ⟨(pblk g), (poff g), none⟩))] (by kernel_rfl) (by kernel_rfl) ?_
      refine reg_run [.plain] 3 [(7, [], Value.pointer (some ⟨(pblk g), (poff g) + 1, none⟩))] (by kernel_rfl) (by kernel_rfl) ?_
      obtain ⟨v8, hc, h⟩ := h
      refine reg_load1 (t := 3) (a := (Go.Operand.tmp 7)) (b := (pblk g)) (o := ((poff g) + 1)) (ty := 3) (dst := some 8) (by kernel_rfl) (by kernel_rfl) (by kernel_rfl) hc ?_
      refine reg_run [.plain] 5 [(2, [], Value.int .i64 v8)] (by kernel_rfl) (by kernel_rfl) ?_
      refine reg_end [(2, Value.int .i64 v8)] (by kernel_rfl) (by kernel_rfl) ?_
      change WpE _ _ c_gate_Gate_Mark_16 _ _ _
      refine wpE_ret (by kernel_rfl) ?_
      repeat (first | refine seqQ_ret ?_ | refine blockQ_ret ?_ | refine loopQ_ret ?_ | refine cutQ_ret ?_)
      exact retS (rs := [(Go.ResultVar.tmp 2)]) (v := Value.int .i64 v8) (by kernel_rfl) (⟨by kernel_rfl, trivial⟩) ⟨v8, rfl, h⟩
  · rintro e w' ⟨v, rfl, r0, rfl, h⟩; exact ⟨r0, rfl, h⟩

/-! ### (*towpath/gate.Gate).set (function 29) -/
noncomputable def c_gate_Gate_set_0 : Code := (Tryd.f29.body).getD Code.skip
noncomputable def c_gate_Gate_set_1 : Code := Code.l c_gate_Gate_set_0
noncomputable def r_gate_Gate_set_1 : Array Oper := Code.ops c_gate_Gate_set_1
noncomputable def c_gate_Gate_set_3 : Code := Code.r c_gate_Gate_set_0
noncomputable def r_gate_Gate_set_3 : Array Oper := Code.ops c_gate_Gate_set_3

set_option maxRecDepth 100000 in
set_option maxHeartbeats 4000000 in
theorem S_gate_Gate_set {g : Option Addr} {n_ : Int} {w : World} {R : World → Prop} (h : F_gate_Gate_set g n_ R w) : C_gate_Gate_set g n_ w R := by
  unfold F_gate_Gate_set at h
  unfold C_gate_Gate_set
  refine Calls.mono (calls_of_wpE (args := [Value.pointer g, Value.int .i64 n_]) (R := fun v w' => v = Value.tuple #[] ∧ R w') Tryd.func29 (c := c_gate_Gate_set_0) (by kernel_rfl) 27 (by kernel_rfl) (by kernel_rfl) [(0, Value.pointer g), (1, Value.int .i64 n_)] (by kernel_rfl) ?_) ?_
  · refine wpE_seq (x := c_gate_Gate_set_1) (y := c_gate_Gate_set_3) (by kernel_rfl) ?_
    refine wpE_tailregion (id := 0) (ops := r_gate_Gate_set_1) (by kernel_rfl) 14 (by kernel_rfl) (by kernel_rfl) (fun w1 hw => ?_)
    replace h := h w1 hw
    clear hw
    refine qreg_run [.plain, .plain, .plain] 3 [(0, [], Value.pointer g), (1, [], Value.int .i64 n_), (4, [], Value.pointer g), (6, [], Value.int .i64 (IntKind.i64.wrap (Int.tdiv n_ 64)))] (by kernel_rfl) (by kernel_rfl) ?_
    obtain ⟨hp_1, h⟩ := h
    refine qreg_conv [(0, [], Value.pointer g), (1, [], Value.int .i64 n_), (4, [], Value.pointer (some ⟨(pblk g), (poff g), none⟩)), (6, [], Value.int .i64 (IntKind.i64.wrap (Int.tdiv n_ 64)))] (congrArg (fun pp => ([(0, [], Value.pointer g), (1, [], Value.int .i64 n_), (4, [], Value.pointer pp), (6, [], Value.int .i64 (IntKind.i64.wrap (Int.tdiv n_ 64)))] : GEnv)) hp_1) ?_
    refine qreg_run [.plain] 4 [(0, [], Value.pointer g), (1, [], Value.int .i64 n_), (4, [], Value.pointer (some ⟨(pblk g), (poff g), none⟩)), (6, [], Value.int .i64 (IntKind.i64.wrap (Int.tdiv n_ 64))), (7, [], Value.pointer (some ⟨(pblk g), (poff g), none⟩))] (by kernel_rfl) (by kernel_rfl) ?_
    refine qreg_run [.plain] 5 [(0, [], Value.pointer g), (1, [], Value.int .i64 n_), (4, [], Value.pointer (some ⟨(pblk g), (poff g), none⟩)), (6, [], Value.int .i64 (IntKind.i64.wrap (Int.tdiv n_ 64))), (8, [], Value.pointer (some ⟨(pblk g), (poff g) + 2, none⟩))] (by kernel_rfl) (by kernel_rfl) ?_
    obtain ⟨h0, h1, h⟩ := h
    refine qreg_indexA1 (t := 51) (e := 50) (x := (Go.Operand.tmp 8)) (ix := (Go.Operand.tmp 6)) (b := (pblk g)) (o := ((poff g) + 2)) (len := 1025) (k := .i64) (j := (IntKind.i64.wrap (Int.tdiv n_ 64))) (ty := 0) (dst := some 9) (by kernel_rfl) (by kernel_rfl) (by kernel_rfl) (by kernel_rfl) (by kernel_rfl) h0 h1 ?_
    refine qreg_run [] 6 [(0, [], Value.pointer g), (1, [], Value.int .i64 n_), (4, [], Value.pointer (some ⟨(pblk g), (poff g), none⟩)), (6, [], Value.int .i64 (IntKind.i64.wrap (Int.tdiv n_ 64))), (9, [], Value.pointer (some ⟨(pblk g), ((poff g) + 2) + (IntKind.i64.wrap (Int.tdiv n_ 64)).toNat, none⟩))] (by kernel_rfl) (by kernel_rfl) ?_
    obtain ⟨v10, hc, h⟩ := h
    refine qreg_load1 (t := 50) (a := (Go.Operand.tmp 9)) (b := (pblk g)) (o := (((poff g) + 2) + (IntKind.i64.wrap (Int.tdiv n_ 64)).toNat)) (ty := 50) (dst := some 10) (by kernel_rfl) (by kernel_rfl) (by kernel_rfl) hc ?_
    refine qreg_run [.plain, .plain] 9 [(0, [], Value.pointer g), (1, [], Value.int .i64 n_), (4, [], Value.pointer (some ⟨(pblk g), (poff g), none⟩)), (6, [], Value.int .i64 (IntKind.i64.wrap (Int.tdiv n_ 64))), (10, [], Value.int .u64 v10), (12, [], Value.int .i64 (Int.tmod n_ 64))] (by kernel_rfl) (by kernel_rfl) ?_
    obtain ⟨h0, h⟩ := h
    refine qreg_val (op := (Go.Op.binOp Go.BinOp.shl 50 (Go.Operand.const (Go.Value.int Go.IntKind.u64 1)) (Go.Operand.tmp 12) 3)) (ty := 50) (dst := some 13) (Value.int .u64 (IntKind.u64.wrap (1 * 2 ^ (min (Int.tmod n_ 64).toNat 64)))) (by kernel_rfl) (fun ww => run_shl (k' := .i64) (by kernel_rfl) (by kernel_rfl) (by kernel_rfl) h0 ww) ?_
    refine qreg_run [.plain, .plain, .plain] 13 [(0, [], Value.pointer g), (1, [], Value.int .i64 n_), (6, [], Value.int .i64 (IntKind.i64.wrap (Int.tdiv n_ 64))), (14, [], Value.int .u64 (bor .u64 v10 (IntKind.u64.wrap (1 * 2 ^ (min (Int.tmod n_ 64).toNat 64))))), (16, [], Value.pointer (some ⟨(pblk g), (poff g) + 2, none⟩))] (by kernel_rfl) (by kernel_rfl) ?_
    obtain ⟨h0, h1, h⟩ := h
    refine qreg_indexA1 (t := 51) (e := 50) (x := (Go.Operand.tmp 16)) (ix := (Go.Operand.tmp 6)) (b := (pblk g)) (o := ((poff g) + 2)) (len := 1025) (k := .i64) (j := (IntKind.i64.wrap (Int.tdiv n_ 64))) (ty := 0) (dst := some 17) (by kernel_rfl) (by kernel_rfl) (by kernel_rfl) (by kernel_rfl) (by kernel_rfl) h0 h1 ?_
    refine qreg_run [] 14 [(0, [], Value.pointer g), (1, [], Value.int .i64 n_), (14, [], Value.int .u64 (bor .u64 v10 (IntKind.u64.wrap (1 * 2 ^ (min (Int.tmod n_ 64).toNat 64))))), (17, [], Value.pointer (some ⟨(pblk g), ((poff g) + 2) + (IntKind.i64.wrap (Int.tdiv n_ 64)).toNat, none⟩))] (by kernel_rfl) (by kernel_rfl) ?_
    refine qreg_tail (by kernel_rfl) ?_
    refine reg_run [] 14 [(0, [], Value.pointer g), (1, [], Value.int .i64 n_), (14, [], Value.int .u64 (bor .u64 v10 (IntKind.u64.wrap (1 * 2 ^ (min (Int.tmod n_ 64).toNat 64))))), (17, [], Value.pointer (some ⟨(pblk g), ((poff g) + 2) + (IntKind.i64.wrap (Int.tdiv n_ 64)).toNat, none⟩))] (by kernel_rfl) (by kernel_rfl) ?_
    obtain ⟨hc, h⟩ := h
    refine reg_store (t := 50) (a := (Go.Operand.tmp 17)) (x := (Go.Operand.tmp 14)) (b := (pblk g)) (o := (((poff g) + 2) + (IntKind.i64.wrap (Int.tdiv n_ 64)).toNat)) (ty := 0) (dst := none) [Value.int .u64 (bor .u64 v10 (IntKind.u64.wrap (1 * 2 ^ (min (Int.tmod n_ 64).toNat 64))))] (by kernel_rfl) (by kernel_rfl) (by kernel_rfl) (k := 1) (by kernel_rfl) (by kernel_rfl) (by kernel_rfl) hc (fun w2 hw => ?_)
    replace h := h w2 hw
    clear hw
    refine reg_end [(0, Value.pointer g), (1, Value.int .i64 n_)] (by kernel_rfl) (by kernel_rfl) ?_
    change WpE _ _ c_gate_Gate_set_3 _ _ _
    refine wpE_region (id := 1) (ops := r_gate_Gate_set_3) (by kernel_rfl) ?_
    refine reg_run [.plain, .plain] 2 [(1, [], Value.int .i64 n_), (18, [], Value.pointer g), (19, [], Value.pointer g)] (by kernel_rfl) (by kernel_rfl) ?_
    obtain ⟨hp_2, h⟩ := h
    refine reg_conv [(1, [], Value.int .i64 n_), (18, [], Value.pointer g), (19, [], Value.pointer (some ⟨(pblk g), (poff g), none⟩))] (congrArg (fun pp => ([(1, [], Value.int .i64 n_), (18, [], Value.pointer g), (19, [], Value.pointer pp)] : GEnv)) hp_2) ?_
    refine reg_run [.plain] 3 [(1, [], Value.int .i64 n_), (18, [], Value.pointer g), (19, [], Value.pointer (some ⟨(pblk g), (poff g), none⟩)), (20, [], Value.pointer (some ⟨(pblk g), (poff g), none⟩))] (by kernel_rfl) (by kernel_rfl) ?_
    refine reg_run [.plain] 4 [(1, [], Value.int .i64 n_), (18, [], Value.pointer g), (21, [], Value.pointer (some ⟨(pblk g), (poff g) + 1027, none⟩))] (by kernel_rfl) (by kernel_rfl) ?_
    obtain ⟨v22, hc, h⟩ := h
    refine reg_load1 (t := 3) (a := (Go.Operand.tmp 21)) (b := (pblk g)) (o := ((poff g) + 1027)) (ty := 3) (dst := some 22) (by kernel_rfl) (by kernel_rfl) (by kernel_rfl) hc ?_
    refine reg_run [.plain, .plain] 7 [(18, [], Value.pointer g), (24, [], Value.int .i64 (if n_ > v22 then n_ else v22))] (by kernel_rfl) (by kernel_rfl) ?_
    obtain ⟨hp_3, h⟩ := h
    refine reg_conv [(18, [], Value.pointer (some ⟨(pblk g), (poff g), none⟩)), (24, [], Value.int .i64 (if n_ > v22 then n_ else v22))] (congrArg (fun pp => ([(18, [], Value.pointer pp), (24, [], Value.int .i64 (if n_ > v22 then n_ else v22))] : GEnv)) hp_3) ?_
    refine reg_run [.plain] 8 [(18, [], Value.pointer (some ⟨(pblk g), (poff g), none⟩)), (24, [], Value.int .i64 (if n_ > v22 then n_ else v22)), (25, [], Value.pointer (some ⟨(pblk g), (poff g), none⟩))] (by kernel_rfl) (by kernel_rfl) ?_
    refine reg_run [.plain] 9 [(24, [], Value.int .i64 (if n_ > v22 then n_ else v22)), (26, [], Value.pointer (some ⟨(pblk g), (poff g) + 1027, none⟩))] (by kernel_rfl) (by kernel_rfl) ?_
    obtain ⟨hc, h⟩ := h
    refine reg_store (t := 3) (a := (Go.Operand.tmp 26)) (x := (Go.Operand.tmp 24)) (b := (pblk g)) (o := ((poff g) + 1027)) (ty := 0) (dst := none) [Value.int .i64 (if n_ > v22 then n_ else v22)] (by kernel_rfl) (by kernel_rfl) (by kernel_rfl) (k := 1) (by kernel_rfl) (by kernel_rfl) (by kernel_rfl) hc (fun w3 hw => ?_)
    replace h := h w3 hw
    clear hw
    refine reg_end [] (by kernel_rfl) (by kernel_rfl) ?_
    repeat (first | refine seqQ_exit ?_ | refine loopQ_exit ?_ | refine cutQ_exit ?_ | refine blockQ_hit ?_ | refine blockQ_miss (by kernel_rfl) ?_)
    refine retQ_normal ?_
    repeat (first | refine seqQ_ret ?_ | refine blockQ_ret ?_ | refine loopQ_ret ?_ | refine cutQ_ret ?_)
    exact retT (rs := []) (vs := []) (by kernel_rfl) (trivial) (by kernel_rfl) ⟨rfl, h⟩
  · rintro e w' ⟨v, rfl, rfl, h⟩; exact ⟨rfl, h⟩

/-! ### (*towpath/gate.Gate).is (function 32) -/
noncomputable def c_gate_Gate_is_0 : Code := (Tryd.f32.body).getD Code.skip
noncomputable def c_gate_Gate_is_1 : Code := Code.l c_gate_Gate_is_0
noncomputable def r_gate_Gate_is_1 : Array Oper := Code.ops c_gate_Gate_is_1
noncomputable def c_gate_Gate_is_3 : Code := Code.r c_gate_Gate_is_0
noncomputable def c_gate_Gate_is_4 : Code := Code.l c_gate_Gate_is_3
noncomputable def r_gate_Gate_is_4 : Array Oper := Code.ops c_gate_Gate_is_4
noncomputable def c_gate_Gate_is_6 : Code := Code.r c_gate_Gate_is_3

set_option maxRecDepth 100000 in
set_option maxHeartbeats 4000000 in
theorem S_gate_Gate_is {g : Option Addr} {n_ : Int} {w : World} {R : Bool → World → Prop} (h : F_gate_Gate_is g n_ R w) : C_gate_Gate_is g n_ w R := by
  unfold F_gate_Gate_is at h
  unfold C_gate_Gate_is
  refine Calls.mono (calls_of_wpE (args := [Value.pointer g, Value.int .i64 n_]) (R := fun v w' => ∃ (r0 : Bool), v = Value.bool r0 ∧ R r0 w') Tryd.func32 (c := c_gate_Gate_is_0) (by kernel_rfl) 21 (by kernel_rfl) (by kernel_rfl) [(0, Value.pointer g), (1, Value.int .i64 n_)] (by kernel_rfl) ?_) ?_
  · refine wpE_seq (x := c_gate_Gate_is_1) (y := c_gate_Gate_is_3) (by kernel_rfl) ?_
    refine wpE_region (id := 0) (ops := r_gate_Gate_is_1) (by kernel_rfl) ?_
    refine reg_run [.plain] 1 [(0, [], Value.pointer g), (1, [], Value.int .i64 n_)] (by kernel_rfl) (by kernel_rfl) ?_
    refine reg_end [(0, Value.pointer g), (1, Value.int .i64 n_)] (by kernel_rfl) (by kernel_rfl) ?_
    change WpE _ _ c_gate_Gate_is_3 _ _ _
    refine wpE_seq (x := c_gate_Gate_is_4) (y := c_gate_Gate_is_6) (by kernel_rfl) ?_
    refine wpE_region (id := 1) (ops := r_gate_Gate_is_4) (by kernel_rfl) ?_
    refine reg_run [.plain, .plain, .plain, .plain, .plain, .plain] 6 [(1, [], Value.int .i64 n_), (7, [], Value.bool (decide (n_ ≤ 65536))), (8, [(7, true)], Value.pointer g), (10, [(7, true)], Value.int .i64 (IntKind.i64.wrap (Int.tdiv n_ 64)))] (by kernel_rfl) (by kernel_rfl) ?_
    refine reg_split 7 (decide (n_ ≤ 65536)) (by kernel_rfl) (fun hb => ?_) (fun hb => ?_)
    · replace h := h.1 hb
      refine reg_run [] 6 [(1, [], Value.int .i64 n_), (7, [], Value.bool true), (8, [], Value.pointer g), (10, [], Value.int .i64 (IntKind.i64.wrap (Int.tdiv n_ 64)))] (by kernel_rfl) (by kernel_rfl) ?_
      refine reg_run [] 6 [(1, [], Value.int .i64 n_), (7, [], Value.bool true), (8, [], Value.pointer g), (10, [], Value.int .i64 (IntKind.i64.wrap (Int.tdiv n_ 64)))] (by kernel_rfl) (by kernel_rfl) ?_
      obtain ⟨hp_0, h⟩ := h
      refine reg_conv [(1, [], Value.int .i64 n_), (7, [], Value.bool true), (8, [], Value.pointer (some ⟨(pblk g), (poff g), none⟩)), (10, [], Value.int .i64 (IntKind.i64.wrap (Int.tdiv n_ 64)))] (congrArg (fun pp => ([(1, [], Value.int .i64 n_), (7, [], Value.bool true), (8, [], Value.pointer pp), (10, [], Value.int .i64 (IntKind.i64.wrap (Int.tdiv n_ 64)))] : GEnv)) hp_0) ?_
      refine reg_run [.sure] 7 [(1, [], Value.int .i64 n_), (7, [], Value.bool true), (8, [], Value.pointer (some ⟨(pblk g), (poff g), none⟩)), (10, [], Value.int .i64 (IntKind.i64.wrap (Int.tdiv n_ 64))), (11, [], Value.pointer (some ⟨(pblk g), (poff g), none⟩))] (by kernel_rfl) (by kernel_rfl) ?_
      refine reg_run [.sure] 8 [(1, [], Value.int .i64 n_), (7, [], Value.bool true), (10, [], Value.int .i64 (IntKind.i64.wrap (Int.tdiv n_ 64))), (12, [], Value.pointer (some ⟨(pblk g), (poff g) + 2, none⟩))] (by kernel_rfl) (by kernel_rfl) ?_
      obtain ⟨h0, h1, h⟩ := h
      refine reg_indexA1 (t := 51) (e := 50) (x := (Go.Operand.tmp 12)) (ix := (Go.Operand.tmp 10)) (b := (pblk g)) (o := ((poff g) + 2)) (len := 1025) (k := .i64) (j := (IntKind.i64.wrap (Int.tdiv n_ 64))) (ty := 0) (dst := some 13) (by kernel_rfl) (by kernel_rfl) (by kernel_rfl) (by kernel_rfl) (by kernel_rfl) h0 h1 ?_
      refine reg_run [] 9 [(1, [], Value.int .i64 n_), (7, [], Value.bool true), (13, [], Value.pointer (some ⟨(pblk g), ((poff g) + 2) + (IntKind.i64.wrap (Int.tdiv n_ 64)).toNat, none⟩))] (by kernel_rfl) (by kernel_rfl) ?_
      obtain ⟨v14, hc, h⟩ := h
      refine reg_load1 (t := 50) (a := (Go.Operand.tmp 13)) (b := (pblk g)) (o := (((poff g) + 2) + (IntKind.i64.wrap (Int.tdiv n_ 64)).toNat)) (ty := 50) (dst := some 14) (by kernel_rfl) (by kernel_rfl) (by kernel_rfl) hc ?_
      refine reg_run [.sure, .sure] 12 [(7, [], Value.bool true), (14, [], Value.int .u64 v14), (16, [], Value.int .i64 (Int.tmod n_ 64))] (by kernel_rfl) (by kernel_rfl) ?_
      obtain ⟨h0, h⟩ := h
      refine reg_val (op := (Go.Op.binOp Go.BinOp.shr 50 (Go.Operand.tmp 14) (Go.Operand.tmp 16) 3)) (ty := 50) (dst := some 17) (Value.int .u64 (Int.fdiv v14 (2 ^ (min (Int.tmod n_ 64).toNat 64)))) (by kernel_rfl) (fun ww => run_shr (k' := .i64) (by kernel_rfl) (by kernel_rfl) (by kernel_rfl) h0 ww) ?_
      refine reg_run [.sure, .sure, .plain, .plain] 17 [(4, [], Value.bool ((band .u64 (Int.fdiv v14 (2 ^ (min (Int.tmod n_ 64).toNat 64))) 1) == 1))] (by kernel_rfl) (by kernel_rfl) ?_
      refine reg_end [(4, Value.bool ((band .u64 (Int.fdiv v14 (2 ^ (min (Int.tmod n_ 64).toNat 64))) 1) == 1))] (by kernel_rfl) (by kernel_rfl) ?_
      change WpE _ _ c_gate_Gate_is_6 _ _ _
      refine wpE_ret (by kernel_rfl) ?_
      repeat (first | refine seqQ_ret ?_ | refine blockQ_ret ?_ | refine loopQ_ret ?_ | refine cutQ_ret ?_)
      exact retS (rs := [(Go.ResultVar.tmp 4)]) (v := Value.bool ((band .u64 (Int.fdiv v14 (2 ^ (min (Int.tmod n_ 64).toNat 64))) 1) == 1)) (by kernel_rfl) (⟨by kernel_rfl, trivial⟩) ⟨((band .u64 (Int.fdiv v14 (2 ^ (min (Int.tmod n_ 64).toNat 64))) 1) == 1), rfl, h⟩
    · replace h := h.2 hb
      refine reg_run [] 6 [(1, [], Value.int .i64 n_), (7, [], Value.bool false), (8, [], undef), (10, [], undef)] (by kernel_rfl) (by kernel_rfl) ?_
      refine reg_run [.skip, .skip, .skip, .skip, .skip, .skip, .skip, .skip, .skip, .plain, .plain] 17 [(4, [], Value.bool false)] (by kernel_rfl) (by kernel_rfl) ?_
      refine reg_end [(4, Value.bool false)] (by kernel_rfl) (by kernel_rfl) ?_
      change WpE _ _ c_gate_Gate_is_6 _ _ _
      refine wpE_ret (by kernel_rfl) ?_
      repeat (first | refine seqQ_ret ?_ | refine blockQ_ret ?_ | refine loopQ_ret ?_ | refine cutQ_ret ?_)
      exact retS (rs := [(Go.ResultVar.tmp 4)]) (v := Value.bool false) (by kernel_rfl) (⟨by kernel_rfl, trivial⟩) ⟨false, rfl, h⟩
  · rintro e w' ⟨v, rfl, r0, rfl, h⟩; exact ⟨r0, rfl, h⟩

/-! ### (*towpath/gate.Gate).Has (function 66) -/
noncomputable def c_gate_Gate_Has_0 : Code := (Tryd.f66.body).getD Code.skip
noncomputable def c_gate_Gate_Has_1 : Code := Code.l c_gate_Gate_Has_0
noncomputable def r_gate_Gate_Has_1 : Array Oper := Code.ops c_gate_Gate_Has_1
noncomputable def c_gate_Gate_Has_3 : Code := Code.r c_gate_Gate_Has_0
noncomputable def c_gate_Gate_Has_4 : Code := Code.l c_gate_Gate_Has_3
noncomputable def r_gate_Gate_Has_4 : Array Oper := Code.ops c_gate_Gate_Has_4
noncomputable def c_gate_Gate_Has_6 : Code := Code.r c_gate_Gate_Has_3

set_option maxRecDepth 100000 in
set_option maxHeartbeats 4000000 in
theorem S_gate_Gate_Has {g : Option Addr} {number : Int} {w : World} {R : Bool → World → Prop} (h : F_gate_Gate_Has g number R w) : C_gate_Gate_Has g number w R := by
  unfold F_gate_Gate_Has at h
  unfold C_gate_Gate_Has
  refine Calls.mono (calls_of_wpE (args := [Value.pointer g, Value.int .i64 number]) (R := fun v w' => ∃ (r0 : Bool), v = Value.bool r0 ∧ R r0 w') Tryd.func66 (c := c_gate_Gate_Has_0) (by kernel_rfl) 30 (by kernel_rfl) (by kernel_rfl) [(0, Value.pointer g), (1, Value.int .i64 number)] (by kernel_rfl) ?_) ?_
  · refine wpE_seq (x := c_gate_Gate_Has_1) (y := c_gate_Gate_Has_3) (by kernel_rfl) ?_
    refine wpE_region (id := 0) (ops := r_gate_Gate_Has_1) (by kernel_rfl) ?_
    refine reg_run [.plain] 1 [(0, [], Value.pointer g), (1, [], Value.int .i64 number)] (by kernel_rfl) (by kernel_rfl) ?_
    refine reg_end [(0, Value.pointer g), (1, Value.int .i64 number)] (by kernel_rfl) (by kernel_rfl) ?_
    change WpE _ _ c_gate_Gate_Has_3 _ _ _
    refine wpE_seq (x := c_gate_Gate_Has_4) (y := c_gate_Gate_Has_6) (by kernel_rfl) ?_
    refine wpE_region (id := 1) (ops := r_gate_Gate_Has_4) (by kernel_rfl) ?_
    refine reg_run [.plain] 1 [(0, [], Value.pointer g), (1, [], Value.int .i64 number), (5, [], Value.pointer g)] (by kernel_rfl) (by kernel_rfl) ?_
    refine reg_val (op := (Go.Op.binOp Go.BinOp.neq 25 (Go.Operand.tmp 5) (Go.Operand.const (Go.Value.pointer none)) 25)) (ty := 4) (dst := some 6) (Value.bool (!g.isNone)) (by kernel_rfl) (fun ww => run_ptr_neq_R (p := g) (by kernel_rfl) (by kernel_rfl) (by kernel_rfl) ww) ?_
    refine reg_run [.plain, .plain] 4 [(0, [], Value.pointer g), (1, [], Value.int .i64 number), (7, [], Value.bool (!g.isNone)), (8, [(7, true)], Value.pointer g)] (by kernel_rfl) (by kernel_rfl) ?_
    refine reg_split 7 (!g.isNone) (by kernel_rfl) (fun hb => ?_) (fun hb => ?_)
    · replace h := h.1 hb
      refine reg_run [] 4 [(0, [], Value.pointer g), (1, [], Value.int .i64 number), (7, [], Value.bool true), (8, [], Value.pointer g)] (by kernel_rfl) (by kernel_rfl) ?_
      refine reg_run [] 4 [(0, [], Value.pointer g), (1, [], Value.int .i64 number), (7, [], Value.bool true), (8, [], Value.pointer g)] (by kernel_rfl) (by kernel_rfl) ?_
      obtain ⟨hp_0, h⟩ := h
      refine reg_conv [(0, [], Value.pointer g), (1, [], Value.int .i64 number), (7, [], Value.bool true), (8, [], Value.pointer (some ⟨(pblk g), (poff g), none⟩))] (congrArg (fun pp => ([(0, [], Value.pointer g), (1, [], Value.int .i64 number), (7, [], Value.bool true), (8, [], Value.pointer pp)] : GEnv)) hp_0) ?_
      refine reg_run [.sure] 5 [(0, [], Value.pointer g), (1, [], Value.int .i64 number), (7, [], Value.bool true), (8, [], Value.pointer (some ⟨(pblk g), (poff g), none⟩)), (9, [], Value.pointer (some ⟨(pblk g), (poff g), none⟩))] (by kernel_rfl) (by kernel_rfl) ?_
      refine reg_run [.sure] 6 [(0, [], Value.pointer g), (1, [], Value.int .i64 number), (7, [], Value.bool true), (10, [], Value.pointer (some ⟨(pblk g), (poff g), none⟩))] (by kernel_rfl) (by kernel_rfl) ?_
      obtain ⟨v11, hc, h⟩ := h
      refine reg_load1 (t := 4) (a := (Go.Operand.tmp 10)) (b := (pblk g)) (o := (poff g)) (ty := 4) (dst := some 11) (by kernel_rfl) (by kernel_rfl) (by kernel_rfl) hc ?_
      refine reg_run [.plain, .plain, .plain, .plain, .pick, .plain, .plain, .plain] 15 [(0, [], Value.pointer g), (1, [], Value.int .i64 number), (17, [], Value.bool (v11 && (decide (number ≥ 1)))), (18, [(17, true)], Value.int .i64 number), (19, [(17, true)], Value.pointer g)] (by kernel_rfl) (by kernel_rfl) ?_
      refine reg_split 17 (v11 && (decide (number ≥ 1))) (by kernel_rfl) (fun hb => ?_) (fun hb => ?_)
      · replace h := h.1 hb
        refine reg_run [] 15 [(0, [], Value.pointer g), (1, [], Value.int .i64 number), (17, [], Value.bool true), (18, [], Value.int .i64 number), (19, [], Value.pointer g)] (by kernel_rfl) (by kernel_rfl) ?_
        refine reg_run [] 15 [(0, [], Value.pointer g), (1, [], Value.int .i64 number), (17, [], Value.bool true), (18, [], Value.int .i64 number), (19, [], Value.pointer g)] (by kernel_rfl) (by kernel_rfl) ?_
        obtain ⟨hp_1, h⟩ := h
        refine reg_conv [(0, [], Value.pointer g), (1, [], Value.int .i64 number), (17, [], Value.bool true), (18, [], Value.int .i64 number), (19, [], Value.pointer (some ⟨(pblk g), (poff g), none⟩))] (congrArg (fun pp => ([(0, [], Value.pointer g), (1, [], Value.int .i64 number), (17, [], Value.bool true), (18, [], Value.int .i64 number), (19, [], Value.pointer pp)] : GEnv)) hp_1) ?_
        refine reg_run [.sure] 16 [(0, [], Value.pointer g), (1, [], Value.int .i64 number), (17, [], Value.bool true), (18, [], Value.int .i64 number), (19, [], Value.pointer (some ⟨(pblk g), (poff g), none⟩)), (20, [], Value.pointer (some ⟨(pblk g), (poff g), none⟩))] (by kernel_rfl) (by kernel_rfl) ?_
        refine reg_run [.sure] 17 [(0, [], Value.pointer g), (1, [], Value.int .i64 number), (17, [], Value.bool true), (18, [], Value.int .i64 number), (21, [], Value.pointer (some ⟨(pblk g), (poff g) + 1, none⟩))] (by kernel_rfl) (by kernel_rfl) ?_
        obtain ⟨v22, hc, h⟩ := h
        refine reg_load1 (t := 3) (a := (Go.Operand.tmp 21)) (b := (pblk g)) (o := ((poff g) + 1)) (ty := 3) (dst := some 22) (by kernel_rfl) (by kernel_rfl) (by kernel_rfl) hc ?_
        refine reg_run [.sure, .sure, .plain, .plain] 22 [(17, [], Value.bool true), (24, [], Value.bool (decide (number ≤ v22))), (25, [(24, false)], Value.pointer g), (26, [(24, false)], Value.int .i64 number)] (by kernel_rfl) (by kernel_rfl) ?_
        refine reg_split 24 (decide (number ≤ v22)) (by kernel_rfl) (fun hb => ?_) (fun hb => ?_)
        · replace h := h.1 hb
          refine reg_run [] 22 [(17, [], Value.bool true), (24, [], Value.bool true), (25, [], undef), (26, [], undef)] (by kernel_rfl) (by kernel_rfl) ?_
          refine reg_run [.skip, .sure, .plain, .plain] 26 [(4, [], Value.bool true)] (by kernel_rfl) (by kernel_rfl) ?_
          refine reg_end [(4, Value.bool true)] (by kernel_rfl) (by kernel_rfl) ?_
          change WpE _ _ c_gate_Gate_Has_6 _ _ _
          refine wpE_ret (by kernel_rfl) ?_
          repeat (first | refine seqQ_ret ?_ | refine blockQ_ret ?_ | refine loopQ_ret ?_ | refine cutQ_ret ?_)
          exact retS (rs := [(Go.ResultVar.tmp 4)]) (v := Value.bool true) (by kernel_rfl) (⟨by kernel_rfl, trivial⟩) ⟨true, rfl, h⟩
        · replace h := h.2 hb
          refine reg_run [] 22 [(17, [], Value.bool true), (24, [], Value.bool false), (25, [], Value.pointer g), (26, [], Value.int .i64 number)] (by kernel_rfl) (by kernel_rfl) ?_
          refine reg_run [] 22 [(17, [], Value.bool true), (24, [], Value.bool false), (25, [], Value.pointer g), (26, [], Value.int .i64 number)] (by kernel_rfl) (by kernel_rfl) ?_
          refine reg_enter (op := (Go.Op.call (Go.Call.mk (Go.Callee.value (Go.Operand.func 32)) #[(Go.Operand.tmp 25), (Go.Operand.tmp 26)] #[25, 3]))) (ty := 4) (dst := some 27) 32 #[Value.pointer g, Value.int .i64 number] (by kernel_rfl) (fun ww => by kernel_rfl) (Calls.mono h ?_)
          rintro _ w1 ⟨v27, rfl, h⟩
          refine ⟨_, rfl, ?_⟩
          refine reg_run [.sure, .plain, .plain] 26 [(4, [], Value.bool v27)] (by kernel_rfl) (by kernel_rfl) ?_
          refine reg_end [(4, Value.bool v27)] (by kernel_rfl) (by kernel_rfl) ?_
          change WpE _ _ c_gate_Gate_Has_6 _ _ _
          refine wpE_ret (by kernel_rfl) ?_
          repeat (first | refine seqQ_ret ?_ | refine blockQ_ret ?_ | refine loopQ_ret ?_ | refine cutQ_ret ?_)
          exact retS (rs := [(Go.ResultVar.tmp 4)]) (v := Value.bool v27) (by kernel_rfl) (⟨by kernel_rfl, trivial⟩) ⟨v27, rfl, h⟩
      · replace h := h.2 hb
        refine reg_run [] 15 [(0, [], Value.pointer g), (1, [], Value.int .i64 number), (17, [], Value.bool false), (18, [], undef), (19, [], undef)] (by kernel_rfl) (by kernel_rfl) ?_
        refine reg_run [.skip, .skip, .skip, .skip, .skip, .skip, .skip, .skip, .skip, .plain, .plain] 26 [(4, [], Value.bool false)] (by kernel_rfl) (by kernel_rfl) ?_
        refine reg_end [(4, Value.bool false)] (by kernel_rfl) (by kernel_rfl) ?_
        change WpE _ _ c_gate_Gate_Has_6 _ _ _
        refine wpE_ret (by kernel_rfl) ?_
        repeat (first | refine seqQ_ret ?_ | refine blockQ_ret ?_ | refine loopQ_ret ?_ | refine cutQ_ret ?_)
        exact retS (rs := [(Go.ResultVar.tmp 4)]) (v := Value.bool false) (by kernel_rfl) (⟨by kernel_rfl, trivial⟩) ⟨false, rfl, h⟩
    · replace h := h.2 hb
      refine reg_run [] 4 [(0, [], Value.pointer g), (1, [], Value.int .i64 number), (7, [], Value.bool false), (8, [], undef)] (by kernel_rfl) (by kernel_rfl) ?_
      refine reg_run [.skip, .skip, .skip, .plain, .plain, .skip, .skip, .plain, .plain, .skip, .skip, .skip, .skip, .skip, .skip, .skip, .skip, .skip, .skip, .skip, .plain, .plain] 26 [(4, [], Value.bool false)] (by kernel_rfl) (by kernel_rfl) ?_
      refine reg_end [(4, Value.bool false)] (by kernel_rfl) (by kernel_rfl) ?_
      change WpE _ _ c_gate_Gate_Has_6 _ _ _
      refine wpE_ret (by kernel_rfl) ?_
      repeat (first | refine seqQ_ret ?_ | refine blockQ_ret ?_ | refine loopQ_ret ?_ | refine cutQ_ret ?_)
      exact retS (rs := [(Go.ResultVar.tmp 4)]) (v := Value.bool false) (by kernel_rfl) (⟨by kernel_rfl, trivial⟩) ⟨false, rfl, h⟩
  · rintro e w' ⟨v, rfl, r0, rfl, h⟩; exact ⟨r0, rfl, h⟩
end Go.Proofs.YtchcljkflklddaaDoor
