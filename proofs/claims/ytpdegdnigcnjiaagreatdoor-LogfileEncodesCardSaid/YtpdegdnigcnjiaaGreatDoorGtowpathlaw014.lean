/- WRITTEN BY PROGRAM (dec.py): for each Go function the clean formula F, the call's contract C, and the proof S that F gives C. -/
import Derived.Test.YtpdegdnigcnjiaaGreatDoorRows
import Derived.Test.YtpdegdnigcnjiaaGreatDoorGF
namespace Go.Proofs.YtpdegdnigcnjiaaGreatDoor
open Go
set_option linter.unusedVariables false
set_option maxRecDepth 100000
set_option maxHeartbeats 4000000

/-! ### (*towpath/towpathlaw01.Book).lookTxn (function 78) -/
noncomputable def c78_0 := (Tryz.f78.body).getD Code.skip
noncomputable def c78_3 := Code.r c78_0
noncomputable def c78_4 := Code.l c78_3
noncomputable def c78_7 := Code.r c78_4
noncomputable def c78_8 := Code.l c78_7
noncomputable def c78_9 := Code.l c78_8
noncomputable def c78_10 := Code.l c78_9
noncomputable def c78_11 := Code.l c78_10
noncomputable def r78_11 := Code.ops c78_11
noncomputable def c78_13 := Code.r c78_10
noncomputable def c78_14 := Code.l c78_13
noncomputable def c78_15 := Code.r c78_13
noncomputable def c78_16 := Code.r c78_9
noncomputable def c78_17 := Code.l c78_16
noncomputable def c78_18 := Code.l c78_17
noncomputable def c78_19 := Code.l c78_18
noncomputable def r78_19 := Code.ops c78_19
noncomputable def c78_21 := Code.r c78_18
noncomputable def c78_22 := Code.l c78_21
noncomputable def c78_23 := Code.l c78_22
noncomputable def r78_23 := Code.ops c78_23
noncomputable def c78_25 := Code.r c78_22
noncomputable def c78_26 := Code.l c78_25
noncomputable def c78_29 := Code.r c78_26
noncomputable def c78_30 := Code.r c78_25
noncomputable def c78_31 := Code.r c78_21
noncomputable def c78_34 := Code.r c78_31
noncomputable def c78_35 := Code.l c78_34
noncomputable def c78_36 := Code.l c78_35
noncomputable def c78_37 := Code.l c78_36
noncomputable def c78_38 := Code.l c78_37
noncomputable def r78_38 := Code.ops c78_38
noncomputable def c78_40 := Code.r c78_37
noncomputable def c78_41 := Code.l c78_40
noncomputable def c78_42 := Code.r c78_40
noncomputable def c78_43 := Code.r c78_36
noncomputable def c78_44 := Code.l c78_43
noncomputable def c78_45 := Code.l c78_44
noncomputable def c78_46 := Code.l c78_45
noncomputable def r78_46 := Code.ops c78_46
noncomputable def c78_48 := Code.r c78_45
noncomputable def c78_49 := Code.l c78_48
noncomputable def c78_52 := Code.r c78_49
noncomputable def c78_53 := Code.r c78_48
noncomputable def c78_54 := Code.r c78_43
noncomputable def r78_54 := Code.ops c78_54
noncomputable def c78_56 := Code.r c78_16
noncomputable def r78_56 := Code.ops c78_56
noncomputable def c78_58 := Code.r c78_3
noncomputable def c78_61 := Code.r c78_58

theorem S_towpathlaw01_Book_lookTxn {b_ : Option Addr} {w : World} {R : Bool → World → Prop} (h : F_towpathlaw01_Book_lookTxn b_ R w) : C_towpathlaw01_Book_lookTxn b_ w R := by
  unfold F_towpathlaw01_Book_lookTxn at h
  unfold C_towpathlaw01_Book_lookTxn
  refine Calls.mono (calls_of_wpE (args := [Value.pointer b_]) (R := fun v w' => ∃ (r0 : Bool), v = Value.bool r0 ∧ R r0 w') Tryz.func78 (c := c78_0) (by kernel_rfl) 64 (by kernel_rfl) (by kernel_rfl) [(0, Value.pointer b_)] (by kernel_rfl) ?_) ?_
  · refine Zp c78_3 P1 [(0, .pointer b_)] ?_
    refine Zs c78_4 c78_58 ?_
    refine Zp c78_7 P1 [(0, .pointer b_), (3, .int .i64 0)] ?_
    refine Zb 0 c78_8 ?_
    obtain ⟨I, μ, h0, hr⟩ := h
    refine wpE_loop (x := c78_9) (by kernel_rfl) (fun m l w => ∃ (i : Int), l = [(0, Value.pointer b_), (3, Value.int .i64 i)] ∧ I i w ∧ μ i w = m) (l' := [(0, Value.pointer b_), (3, Value.int .i64 0)]) (Sub.mk (by kernel_rfl)) ⟨0, rfl, h0, rfl⟩ ?_
    rintro _ _ w1 ⟨i, rfl, hI, rfl⟩
    obtain ⟨again_, again__h, h⟩ : ∃ again_ : Int → World → Prop, (∀ i' w', again_ i' w' → I i' w' ∧ μ i' w' < μ i w1) ∧ F_towpathlaw01_Book_lookTxn_L0 b_ R again_ i w1 := ⟨_, fun _ _ h => h, hr i w1 hI⟩
    clear h0 hI
    unfold F_towpathlaw01_Book_lookTxn_L0 at h
    refine Zs c78_10 c78_16 ?_
    refine Zt r78_11 c78_13 ?_
    refine Zn P2 2 [(0, [], .pointer b_), (3, [], .int .i64 i), (6, [], .int .i64 i), (7, [], .pointer b_)] ?_
    obtain ⟨hp_31, h⟩ := h
    refine Zv (fun pp => [(0, [], .pointer b_), (3, [], .int .i64 i), (6, [], .int .i64 i), (7, [], .pointer pp)]) hp_31 ?_
    refine Zn P1 3 [(0, [], .pointer b_), (3, [], .int .i64 i), (6, [], .int .i64 i), (7, [], .pointer (some ⟨(pblk b_), (poff b_), none⟩)), (8, [], .pointer (some ⟨(pblk b_), (poff b_), none⟩))] ?_
    refine Zn P1 4 [(0, [], .pointer b_), (3, [], .int .i64 i), (6, [], .int .i64 i), (9, [], .pointer (some ⟨(pblk b_), (poff b_) + 7, none⟩))] ?_
    obtain ⟨v10, hc, h⟩ := h
    refine Zl 41 9 (pblk b_) ((poff b_) + 7) 41 10 hc ?_
    refine Zf P2 [(0, .pointer b_), (3, .int .i64 i), (12, .bool (decide (i < ((v10.len : Nat) : Int))))] ?_
    change WpE _ _ c78_13 _ _ _
    refine Zc 12 (decide (i < ((v10.len : Nat) : Int))) c78_14 c78_15 (fun hb => ?_) (fun hb => ?_)
    · replace h := h.1 hb
      refine wpE_skip (by kernel_rfl) ?_
      change WpE _ _ c78_16 _ _ _
      refine Zs c78_17 c78_56 ?_
      refine Zb 1 c78_18 ?_
      refine Zt r78_19 c78_21 ?_
      refine Zn P1 1 [(0, [], .pointer b_), (3, [], .int .i64 i), (15, [], .pointer b_)] ?_
      obtain ⟨hp_46, h⟩ := h
      refine Zv (fun pp => [(0, [], .pointer b_), (3, [], .int .i64 i), (15, [], .pointer pp)]) hp_46 ?_
      refine Zn P1 2 [(0, [], .pointer b_), (3, [], .int .i64 i), (15, [], .pointer (some ⟨(pblk b_), (poff b_), none⟩)), (16, [], .pointer (some ⟨(pblk b_), (poff b_), none⟩))] ?_
      refine Zn P1 3 [(0, [], .pointer b_), (3, [], .int .i64 i), (17, [], .pointer (some ⟨(pblk b_), (poff b_) + 7, none⟩))] ?_
      obtain ⟨v18, hc, h⟩ := h
      refine Zl 41 17 (pblk b_) ((poff b_) + 7) 41 18 hc ?_
      refine Zn P1 5 [(0, [], .pointer b_), (3, [], .int .i64 i), (18, [], .slice v18.ptr v18.len v18.cap), (19, [], .int .i64 i)] ?_
      obtain ⟨hp_47, h⟩ := h
      refine Zv (fun pp => [(0, [], .pointer b_), (3, [], .int .i64 i), (18, [], .slice pp v18.len v18.cap), (19, [], .int .i64 i)]) hp_47 ?_
      obtain ⟨h0, h1, h⟩ := h
      refine Zj 41 141 18 19 (pblk v18.ptr) (poff v18.ptr) v18.len v18.cap i 3 20 0 h0 h1 ?_
      refine Zn [] 6 [(0, [], .pointer b_), (3, [], .int .i64 i), (20, [], .pointer (some ⟨(pblk v18.ptr), (poff v18.ptr) + i.toNat * 3, none⟩))] ?_
      obtain ⟨v21, hc, h⟩ := h
      refine reg_loadN (t := 141) (a := (Operand.tmp 20)) (b := (pblk v18.ptr)) (o := ((poff v18.ptr) + i.toNat * 3)) (ty := 141) (dst := some 21) [Value.slice v21.l.ptr v21.l.len v21.l.cap, Value.slice v21.long.ptr v21.long.len v21.long.cap, Value.int .i64 v21.n] (by kernel_rfl) (by kernel_rfl) (by kernel_rfl) (k := 3) (by kernel_rfl) (by kernel_rfl) hc ?_
      refine Zn [] 7 [(0, [], .pointer b_), (3, [], .int .i64 i), (21, [], .agg #[.slice v21.l.ptr v21.l.len v21.l.cap, .slice v21.long.ptr v21.long.len v21.long.cap, .int .i64 v21.n])] ?_
      refine Zw (some 4) (fun bb => .pointer (some ⟨bb, 0, none⟩)) (Obj.cells ([.slice none 0 0, .slice none 0 0, .int .i64 0]).toArray ty_towpathlaw01_heldTxn (0, 0)) (fun b_1 w2 hb hw => ?_)
      replace h := h b_1 w2 hb hw
      clear hb hw
      refine Zn [] 8 [(0, [], .pointer b_), (3, [], .int .i64 i), (4, [], .pointer (some ⟨b_1, 0, none⟩)), (21, [], .agg #[.slice v21.l.ptr v21.l.len v21.l.cap, .slice v21.long.ptr v21.long.len v21.long.cap, .int .i64 v21.n])] ?_
      obtain ⟨hc, h⟩ := h
      refine Zo 141 4 21 b_1 0 3 [.slice v21.l.ptr v21.l.len v21.l.cap, .slice v21.long.ptr v21.long.len v21.long.cap, .int .i64 v21.n] hc (fun w3 hw => ?_)
      replace h := h w3 hw
      clear hw
      refine Ze [(0, .pointer b_), (3, .int .i64 i), (4, .pointer (some ⟨b_1, 0, none⟩))] ?_
      change WpE _ _ c78_21 _ _ _
      refine Zs c78_22 c78_31 ?_
      refine Zt r78_23 c78_25 ?_
      refine Zn P1 1 [(0, [], .pointer b_), (3, [], .int .i64 i), (4, [], .pointer (some ⟨b_1, 0, none⟩)), (22, [], .pointer (some ⟨b_1, 1, none⟩))] ?_
      obtain ⟨v23, hc, h⟩ := h
      refine Zl 22 22 b_1 1 22 23 hc ?_
      refine Zn P2 4 [(0, [], .pointer b_), (3, [], .int .i64 i), (4, [], .pointer (some ⟨b_1, 0, none⟩)), (24, [], .int .i64 ((v23.len : Nat) : Int)), (25, [], .pointer (some ⟨b_1, 0, none⟩))] ?_
      obtain ⟨v26, hc, h⟩ := h
      refine Zl 22 25 b_1 0 22 26 hc ?_
      refine Zf P3 [(0, .pointer b_), (3, .int .i64 i), (4, .pointer (some ⟨b_1, 0, none⟩)), (29, .bool (((v23.len : Nat) : Int) != (IntKind.i64.wrap (((v26.len : Nat) : Int) + 70))))] ?_
      change WpE _ _ c78_25 _ _ _
      refine Zc 29 (((v23.len : Nat) : Int) != (IntKind.i64.wrap (((v26.len : Nat) : Int) + 70))) c78_26 c78_30 (fun hb => ?_) (fun hb => ?_)
      · replace h := h.1 hb
        refine Zp c78_29 P1 [(2, .bool false)] ?_
        refine wpE_ret (by kernel_rfl) ?_
        repeat (first | refine seqQ_ret ?_ | refine blockQ_ret ?_ | refine loopQ_ret ?_ | refine cutQ_ret ?_)
        exact retS (rs := [(ResultVar.tmp 2)]) (v := Value.bool false) (by kernel_rfl) (⟨by kernel_rfl, trivial⟩) ⟨false, rfl, h⟩
      · replace h := h.2 hb
        refine wpE_skip (by kernel_rfl) ?_
        change WpE _ _ c78_31 _ _ _
        refine Zp c78_34 P1 [(0, .pointer b_), (3, .int .i64 i), (4, .pointer (some ⟨b_1, 0, none⟩)), (5, .int .i64 0)] ?_
        refine Zb 2 c78_35 ?_
        obtain ⟨I, μ, h0, hr⟩ := h
        refine wpE_loop (x := c78_36) (by kernel_rfl) (fun m l w => ∃ (k : Int), l = [(0, Value.pointer b_), (3, Value.int .i64 i), (4, Value.pointer (some ⟨b_1, 0, none⟩)), (5, Value.int .i64 k)] ∧ I k w ∧ μ k w = m) (l' := [(0, Value.pointer b_), (3, Value.int .i64 i), (4, Value.pointer (some ⟨b_1, 0, none⟩)), (5, Value.int .i64 0)]) (Sub.mk (by kernel_rfl)) ⟨0, rfl, h0, rfl⟩ ?_
        rintro _ _ w4 ⟨k, rfl, hI, rfl⟩
        obtain ⟨again_1, again_1_h, h⟩ : ∃ again_1 : Int → World → Prop, (∀ k' w', again_1 k' w' → I k' w' ∧ μ k' w' < μ k w4) ∧ F_towpathlaw01_Book_lookTxn_L1 R i again_ b_1 again_1 k w4 := ⟨_, fun _ _ h => h, hr k w4 hI⟩
        clear h0 hI
        unfold F_towpathlaw01_Book_lookTxn_L1 at h
        refine Zs c78_37 c78_43 ?_
        refine Zt r78_38 c78_40 ?_
        refine Zn P2 2 [(0, [], .pointer b_), (3, [], .int .i64 i), (4, [], .pointer (some ⟨b_1, 0, none⟩)), (5, [], .int .i64 k), (30, [], .int .i64 k), (31, [], .pointer (some ⟨b_1, 1, none⟩))] ?_
        obtain ⟨v32, hc, h⟩ := h
        refine Zl 22 31 b_1 1 22 32 hc ?_
        refine Zf P2 [(0, .pointer b_), (3, .int .i64 i), (4, .pointer (some ⟨b_1, 0, none⟩)), (5, .int .i64 k), (34, .bool (decide (k < ((v32.len : Nat) : Int))))] ?_
        change WpE _ _ c78_40 _ _ _
        refine Zc 34 (decide (k < ((v32.len : Nat) : Int))) c78_41 c78_42 (fun hb => ?_) (fun hb => ?_)
        · replace h := h.1 hb
          refine wpE_skip (by kernel_rfl) ?_
          change WpE _ _ c78_43 _ _ _
          refine Zs c78_44 c78_54 ?_
          refine Zb 3 c78_45 ?_
          refine wpE_seq_cut (x := c78_46) (y := c78_48) (by kernel_rfl) (fun l w => ∃ (t63 : Bool), l = [(0, Value.pointer b_), (3, Value.int .i64 i), (4, Value.pointer (some ⟨b_1, 0, none⟩)), (5, Value.int .i64 k), (63, Value.bool t63)] ∧ F_towpathlaw01_Book_lookTxn_k2 R k again_1 t63 w) ?_ ?_
          · refine wpE_drawregion (id := 10) (ops := r78_46) (by kernel_rfl) (by kernel_rfl) (by kernel_rfl) ?_
            refine qreg_run P1 1 [(0, [], Value.pointer b_), (3, [], Value.int .i64 i), (4, [], Value.pointer (some ⟨b_1, 0, none⟩)), (5, [], Value.int .i64 k), (37, [], Value.pointer (some ⟨b_1, 1, none⟩))] (by kernel_rfl) (by kernel_rfl) ?_
            obtain ⟨v38, hc, h⟩ := h
            refine qreg_load1 (t := 22) (a := (Operand.tmp 37)) (b := b_1) (o := 1) (ty := 22) (dst := some 38) (by kernel_rfl) (by kernel_rfl) (by kernel_rfl) hc ?_
            refine qreg_run P1 3 [(0, [], Value.pointer b_), (3, [], Value.int .i64 i), (4, [], Value.pointer (some ⟨b_1, 0, none⟩)), (5, [], Value.int .i64 k), (38, [], Value.slice v38.ptr v38.len v38.cap), (39, [], Value.int .i64 k)] (by kernel_rfl) (by kernel_rfl) ?_
            obtain ⟨hp_54, h⟩ := h
            refine qreg_conv [(0, [], Value.pointer b_), (3, [], Value.int .i64 i), (4, [], Value.pointer (some ⟨b_1, 0, none⟩)), (5, [], Value.int .i64 k), (38, [], Value.slice (some ⟨(pblk v38.ptr), (poff v38.ptr), none⟩) v38.len v38.cap), (39, [], Value.int .i64 k)] (congrArg (fun pp => ([(0, [], Value.pointer b_), (3, [], Value.int .i64 i), (4, [], Value.pointer (some ⟨b_1, 0, none⟩)), (5, [], Value.int .i64 k), (38, [], Value.slice pp v38.len v38.cap), (39, [], Value.int .i64 k)] : GEnv)) hp_54) ?_
            obtain ⟨h0, h1, h⟩ := h
            refine qreg_indexS (t := 22) (e := 52) (x := (Operand.tmp 38)) (ix := (Operand.tmp 39)) (b := (pblk v38.ptr)) (o := (poff v38.ptr)) (l := v38.len) (c := v38.cap) (k := .i64) (j := k) (ty := 0) (dst := some 40) (sz := 2) (by kernel_rfl) (by kernel_rfl) (by kernel_rfl) (by kernel_rfl) (by kernel_rfl) h0 h1 ?_
            refine qreg_run [] 4 [(0, [], Value.pointer b_), (3, [], Value.int .i64 i), (4, [], Value.pointer (some ⟨b_1, 0, none⟩)), (5, [], Value.int .i64 k), (40, [], Value.pointer (some ⟨(pblk v38.ptr), (poff v38.ptr) + k.toNat * 2, none⟩))] (by kernel_rfl) (by kernel_rfl) ?_
            obtain ⟨v41, hc, h⟩ := h
            refine qreg_loadN (t := 52) (a := (Operand.tmp 40)) (b := (pblk v38.ptr)) (o := ((poff v38.ptr) + k.toNat * 2)) (ty := 52) (dst := some 41) [Value.int .i64 v41.Number, Value.slice v41.Writes.ptr v41.Writes.len v41.Writes.cap] (by kernel_rfl) (by kernel_rfl) (by kernel_rfl) (k := 2) (by kernel_rfl) (by kernel_rfl) hc ?_
            refine qreg_run P1 6 [(0, [], Value.pointer b_), (3, [], Value.int .i64 i), (4, [], Value.pointer (some ⟨b_1, 0, none⟩)), (5, [], Value.int .i64 k), (41, [], Value.agg #[Value.int .i64 v41.Number, Value.slice v41.Writes.ptr v41.Writes.len v41.Writes.cap]), (42, [], Value.pointer (some ⟨b_1, 2, none⟩))] (by kernel_rfl) (by kernel_rfl) ?_
            obtain ⟨v43, hc, h⟩ := h
            refine qreg_load1 (t := 3) (a := (Operand.tmp 42)) (b := b_1) (o := 2) (ty := 3) (dst := some 43) (by kernel_rfl) (by kernel_rfl) (by kernel_rfl) hc ?_
            refine qreg_run [] 7 [(0, [], Value.pointer b_), (3, [], Value.int .i64 i), (4, [], Value.pointer (some ⟨b_1, 0, none⟩)), (5, [], Value.int .i64 k), (41, [], Value.agg #[Value.int .i64 v41.Number, Value.slice v41.Writes.ptr v41.Writes.len v41.Writes.cap]), (43, [], Value.int .i64 v43)] (by kernel_rfl) (by kernel_rfl) ?_
            obtain ⟨v44, hq, h⟩ := h
            refine qreg_enter (op := (Op.call (Call.mk (Callee.value (Operand.func 142)) #[(Operand.tmp 41), (Operand.tmp 43)] #[52, 3]))) (ty := 4) (dst := some 44) 142 #[Value.agg #[Value.int .i64 v41.Number, Value.slice v41.Writes.ptr v41.Writes.len v41.Writes.cap], Value.int .i64 v43] (Value.bool v44) (by kernel_rfl) (fun ww => by kernel_rfl) (fun w' he => Calls.mono (hq w' he) (by rintro _ w'' ⟨_, rfl, rfl, hE⟩; exact ⟨rfl, hE⟩)) ?_
            clear hq
            refine qreg_run P4 12 [(0, [], Value.pointer b_), (3, [], Value.int .i64 i), (4, [], Value.pointer (some ⟨b_1, 0, none⟩)), (5, [], Value.int .i64 k), (46, [], Value.bool (!v44)), (47, [(46, false)], Value.int .i64 k), (48, [(46, false)], Value.pointer (some ⟨b_1, 0, none⟩))] (by kernel_rfl) (by kernel_rfl) ?_
            refine qreg_split 46 (!v44) (by kernel_rfl) (fun hb => ?_) (fun hb => ?_)
            · replace h := h.1 hb
              refine qreg_run [] 12 [(0, [], Value.pointer b_), (3, [], Value.int .i64 i), (4, [], Value.pointer (some ⟨b_1, 0, none⟩)), (5, [], Value.int .i64 k), (46, [], Value.bool true), (47, [], undef), (48, [], undef)] (by kernel_rfl) (by kernel_rfl) ?_
              refine qreg_run [.skip, .skip, .skip, .skip, .skip, .skip, .skip, .skip, .skip, .skip, .skip, .skip, .skip, .skip, .plain] 27 [(0, [], Value.pointer b_), (3, [], Value.int .i64 i), (4, [], Value.pointer (some ⟨b_1, 0, none⟩)), (5, [], Value.int .i64 k), (63, [], Value.bool true)] (by kernel_rfl) (by kernel_rfl) ?_
              refine qreg_end [(0, Value.pointer b_), (3, Value.int .i64 i), (4, Value.pointer (some ⟨b_1, 0, none⟩)), (5, Value.int .i64 k), (63, Value.bool true)] (by kernel_rfl) (by kernel_rfl) (fun w7 hw => ?_)
              replace h := h w7 hw
              clear hw
              exact ⟨[(0, Value.pointer b_), (3, Value.int .i64 i), (4, Value.pointer (some ⟨b_1, 0, none⟩)), (5, Value.int .i64 k), (63, Value.bool true)], Sub.mk (by kernel_rfl), true, rfl, h⟩
            · replace h := h.2 hb
              refine qreg_run [] 12 [(0, [], Value.pointer b_), (3, [], Value.int .i64 i), (4, [], Value.pointer (some ⟨b_1, 0, none⟩)), (5, [], Value.int .i64 k), (46, [], Value.bool false), (47, [], Value.int .i64 k), (48, [], Value.pointer (some ⟨b_1, 0, none⟩))] (by kernel_rfl) (by kernel_rfl) ?_
              refine qreg_run [] 12 [(0, [], Value.pointer b_), (3, [], Value.int .i64 i), (4, [], Value.pointer (some ⟨b_1, 0, none⟩)), (5, [], Value.int .i64 k), (46, [], Value.bool false), (47, [], Value.int .i64 k), (48, [], Value.pointer (some ⟨b_1, 0, none⟩))] (by kernel_rfl) (by kernel_rfl) ?_
              obtain ⟨v49, hc, h⟩ := h
              refine qreg_load1 (t := 22) (a := (Operand.tmp 48)) (b := b_1) (o := 0) (ty := 22) (dst := some 49) (by kernel_rfl) (by kernel_rfl) (by kernel_rfl) hc ?_
              refine qreg_run [.sure, .sure, .sure, .plain] 17 [(0, [], Value.pointer b_), (3, [], Value.int .i64 i), (4, [], Value.pointer (some ⟨b_1, 0, none⟩)), (5, [], Value.int .i64 k), (46, [], Value.bool false), (52, [], Value.bool (decide (k < ((v49.len : Nat) : Int)))), (53, [(52, true)], Value.pointer (some ⟨b_1, 0, none⟩))] (by kernel_rfl) (by kernel_rfl) ?_
              refine qreg_split 52 (decide (k < ((v49.len : Nat) : Int))) (by kernel_rfl) (fun hb => ?_) (fun hb => ?_)
              · replace h := h.1 hb
                refine qreg_run [] 17 [(0, [], Value.pointer b_), (3, [], Value.int .i64 i), (4, [], Value.pointer (some ⟨b_1, 0, none⟩)), (5, [], Value.int .i64 k), (46, [], Value.bool false), (52, [], Value.bool true), (53, [], Value.pointer (some ⟨b_1, 0, none⟩))] (by kernel_rfl) (by kernel_rfl) ?_
                refine qreg_run [] 17 [(0, [], Value.pointer b_), (3, [], Value.int .i64 i), (4, [], Value.pointer (some ⟨b_1, 0, none⟩)), (5, [], Value.int .i64 k), (46, [], Value.bool false), (52, [], Value.bool true), (53, [], Value.pointer (some ⟨b_1, 0, none⟩))] (by kernel_rfl) (by kernel_rfl) ?_
                obtain ⟨v54, hc, h⟩ := h
                refine qreg_load1 (t := 22) (a := (Operand.tmp 53)) (b := b_1) (o := 0) (ty := 22) (dst := some 54) (by kernel_rfl) (by kernel_rfl) (by kernel_rfl) hc ?_
                refine qreg_run [.sure] 19 [(0, [], Value.pointer b_), (3, [], Value.int .i64 i), (4, [], Value.pointer (some ⟨b_1, 0, none⟩)), (5, [], Value.int .i64 k), (46, [], Value.bool false), (52, [], Value.bool true), (54, [], Value.slice v54.ptr v54.len v54.cap), (55, [], Value.int .i64 k)] (by kernel_rfl) (by kernel_rfl) ?_
                obtain ⟨hp_55, h⟩ := h
                refine qreg_conv [(0, [], Value.pointer b_), (3, [], Value.int .i64 i), (4, [], Value.pointer (some ⟨b_1, 0, none⟩)), (5, [], Value.int .i64 k), (46, [], Value.bool false), (52, [], Value.bool true), (54, [], Value.slice (some ⟨(pblk v54.ptr), (poff v54.ptr), none⟩) v54.len v54.cap), (55, [], Value.int .i64 k)] (congrArg (fun pp => ([(0, [], Value.pointer b_), (3, [], Value.int .i64 i), (4, [], Value.pointer (some ⟨b_1, 0, none⟩)), (5, [], Value.int .i64 k), (46, [], Value.bool false), (52, [], Value.bool true), (54, [], Value.slice pp v54.len v54.cap), (55, [], Value.int .i64 k)] : GEnv)) hp_55) ?_
                obtain ⟨h0, h1, h⟩ := h
                refine qreg_indexS (t := 22) (e := 52) (x := (Operand.tmp 54)) (ix := (Operand.tmp 55)) (b := (pblk v54.ptr)) (o := (poff v54.ptr)) (l := v54.len) (c := v54.cap) (k := .i64) (j := k) (ty := 0) (dst := some 56) (sz := 2) (by kernel_rfl) (by kernel_rfl) (by kernel_rfl) (by kernel_rfl) (by kernel_rfl) h0 h1 ?_
                refine qreg_run [] 20 [(0, [], Value.pointer b_), (3, [], Value.int .i64 i), (4, [], Value.pointer (some ⟨b_1, 0, none⟩)), (5, [], Value.int .i64 k), (46, [], Value.bool false), (52, [], Value.bool true), (56, [], Value.pointer (some ⟨(pblk v54.ptr), (poff v54.ptr) + k.toNat * 2, none⟩))] (by kernel_rfl) (by kernel_rfl) ?_
                obtain ⟨v57, hc, h⟩ := h
                refine qreg_loadN (t := 52) (a := (Operand.tmp 56)) (b := (pblk v54.ptr)) (o := ((poff v54.ptr) + k.toNat * 2)) (ty := 52) (dst := some 57) [Value.int .i64 v57.Number, Value.slice v57.Writes.ptr v57.Writes.len v57.Writes.cap] (by kernel_rfl) (by kernel_rfl) (by kernel_rfl) (k := 2) (by kernel_rfl) (by kernel_rfl) hc ?_
                refine qreg_run [.sure] 22 [(0, [], Value.pointer b_), (3, [], Value.int .i64 i), (4, [], Value.pointer (some ⟨b_1, 0, none⟩)), (5, [], Value.int .i64 k), (46, [], Value.bool false), (52, [], Value.bool true), (57, [], Value.agg #[Value.int .i64 v57.Number, Value.slice v57.Writes.ptr v57.Writes.len v57.Writes.cap]), (58, [], Value.pointer (some ⟨b_1, 2, none⟩))] (by kernel_rfl) (by kernel_rfl) ?_
                obtain ⟨v59, hc, h⟩ := h
                refine qreg_load1 (t := 3) (a := (Operand.tmp 58)) (b := b_1) (o := 2) (ty := 3) (dst := some 59) (by kernel_rfl) (by kernel_rfl) (by kernel_rfl) hc ?_
                refine qreg_run [] 23 [(0, [], Value.pointer b_), (3, [], Value.int .i64 i), (4, [], Value.pointer (some ⟨b_1, 0, none⟩)), (5, [], Value.int .i64 k), (46, [], Value.bool false), (52, [], Value.bool true), (57, [], Value.agg #[Value.int .i64 v57.Number, Value.slice v57.Writes.ptr v57.Writes.len v57.Writes.cap]), (59, [], Value.int .i64 v59)] (by kernel_rfl) (by kernel_rfl) ?_
                obtain ⟨v60, hq, h⟩ := h
                refine qreg_enter (op := (Op.call (Call.mk (Callee.value (Operand.func 142)) #[(Operand.tmp 57), (Operand.tmp 59)] #[52, 3]))) (ty := 4) (dst := some 60) 142 #[Value.agg #[Value.int .i64 v57.Number, Value.slice v57.Writes.ptr v57.Writes.len v57.Writes.cap], Value.int .i64 v59] (Value.bool v60) (by kernel_rfl) (fun ww => by kernel_rfl) (fun w' he => Calls.mono (hq w' he) (by rintro _ w'' ⟨_, rfl, rfl, hE⟩; exact ⟨rfl, hE⟩)) ?_
                clear hq
                refine qreg_run [.sure, .sure, .plain] 27 [(0, [], Value.pointer b_), (3, [], Value.int .i64 i), (4, [], Value.pointer (some ⟨b_1, 0, none⟩)), (5, [], Value.int .i64 k), (63, [], Value.bool (!v60))] (by kernel_rfl) (by kernel_rfl) ?_
                refine qreg_end [(0, Value.pointer b_), (3, Value.int .i64 i), (4, Value.pointer (some ⟨b_1, 0, none⟩)), (5, Value.int .i64 k), (63, Value.bool (!v60))] (by kernel_rfl) (by kernel_rfl) (fun w9 hw => ?_)
                replace h := h w9 hw
                clear hw
                exact ⟨[(0, Value.pointer b_), (3, Value.int .i64 i), (4, Value.pointer (some ⟨b_1, 0, none⟩)), (5, Value.int .i64 k), (63, Value.bool (!v60))], Sub.mk (by kernel_rfl), (!v60), rfl, h⟩
              · replace h := h.2 hb
                refine qreg_run [] 17 [(0, [], Value.pointer b_), (3, [], Value.int .i64 i), (4, [], Value.pointer (some ⟨b_1, 0, none⟩)), (5, [], Value.int .i64 k), (46, [], Value.bool false), (52, [], Value.bool false), (53, [], undef)] (by kernel_rfl) (by kernel_rfl) ?_
                refine qreg_run [.skip, .skip, .skip, .skip, .skip, .skip, .skip, .skip, .sure, .plain] 27 [(0, [], Value.pointer b_), (3, [], Value.int .i64 i), (4, [], Value.pointer (some ⟨b_1, 0, none⟩)), (5, [], Value.int .i64 k), (63, [], Value.bool false)] (by kernel_rfl) (by kernel_rfl) ?_
                refine qreg_end [(0, Value.pointer b_), (3, Value.int .i64 i), (4, Value.pointer (some ⟨b_1, 0, none⟩)), (5, Value.int .i64 k), (63, Value.bool false)] (by kernel_rfl) (by kernel_rfl) (fun w10 hw => ?_)
                replace h := h w10 hw
                clear hw
                exact ⟨[(0, Value.pointer b_), (3, Value.int .i64 i), (4, Value.pointer (some ⟨b_1, 0, none⟩)), (5, Value.int .i64 k), (63, Value.bool false)], Sub.mk (by kernel_rfl), false, rfl, h⟩
          · rintro _ w5 ⟨t63, rfl, h⟩
            unfold F_towpathlaw01_Book_lookTxn_k2 at h
            refine Zc 63 t63 c78_49 c78_53 (fun hb => ?_) (fun hb => ?_)
            · replace h := h.1 hb
              refine Zp c78_52 P1 [(2, .bool false)] ?_
              refine wpE_ret (by kernel_rfl) ?_
              repeat (first | refine seqQ_ret ?_ | refine blockQ_ret ?_ | refine loopQ_ret ?_ | refine cutQ_ret ?_)
              exact retS (rs := [(ResultVar.tmp 2)]) (v := Value.bool false) (by kernel_rfl) (⟨by kernel_rfl, trivial⟩) ⟨false, rfl, h⟩
            · replace h := h.2 hb
              refine wpE_skip (by kernel_rfl) ?_
              change WpE _ _ c78_54 _ _ _
              refine Zr r78_54 ?_
              refine Zf P3 [(0, .pointer b_), (3, .int .i64 i), (4, .pointer (some ⟨b_1, 0, none⟩)), (5, .int .i64 (IntKind.i64.wrap (k + 1)))] ?_
              have hb_ := again_1_h _ _ h
              exact ⟨_, hb_.2, [(0, Value.pointer b_), (3, Value.int .i64 i), (4, Value.pointer (some ⟨b_1, 0, none⟩)), (5, Value.int .i64 (IntKind.i64.wrap (k + 1)))], Sub.mk (by kernel_rfl), (IntKind.i64.wrap (k + 1)), rfl, hb_.1, rfl⟩
        · replace h := h.2 hb
          refine wpE_exit (id := 2) (by kernel_rfl) ?_
          change WpE _ _ c78_56 _ _ _
          refine Zr r78_56 ?_
          refine Zf P3 [(0, .pointer b_), (3, .int .i64 (IntKind.i64.wrap (i + 1)))] ?_
          have hb_ := again__h _ _ h
          exact ⟨_, hb_.2, [(0, Value.pointer b_), (3, Value.int .i64 (IntKind.i64.wrap (i + 1)))], Sub.mk (by kernel_rfl), (IntKind.i64.wrap (i + 1)), rfl, hb_.1, rfl⟩
    · replace h := h.2 hb
      refine wpE_exit (id := 0) (by kernel_rfl) ?_
      change WpE _ _ c78_58 _ _ _
      refine Zp c78_61 P1 [(2, .bool true)] ?_
      refine wpE_ret (by kernel_rfl) ?_
      repeat (first | refine seqQ_ret ?_ | refine blockQ_ret ?_ | refine loopQ_ret ?_ | refine cutQ_ret ?_)
      exact retS (rs := [(ResultVar.tmp 2)]) (v := Value.bool true) (by kernel_rfl) (⟨by kernel_rfl, trivial⟩) ⟨true, rfl, h⟩
  · rintro e w' ⟨v, rfl, r0, rfl, h⟩; exact ⟨r0, rfl, h⟩

/-! ### (*towpath/towpathlaw01.Book).lookHeld (function 79) -/
noncomputable def c79_0 := (Tryz.f79.body).getD Code.skip
noncomputable def c79_3 := Code.r c79_0
noncomputable def c79_4 := Code.l c79_3
noncomputable def c79_7 := Code.r c79_4
noncomputable def c79_8 := Code.l c79_7
noncomputable def c79_9 := Code.l c79_8
noncomputable def c79_10 := Code.l c79_9
noncomputable def c79_11 := Code.l c79_10
noncomputable def r79_11 := Code.ops c79_11
noncomputable def c79_13 := Code.r c79_10
noncomputable def c79_14 := Code.l c79_13
noncomputable def c79_15 := Code.r c79_13
noncomputable def c79_16 := Code.r c79_9
noncomputable def c79_58 := Code.r c79_3
noncomputable def c79_61 := Code.r c79_58

theorem S_towpathlaw01_Book_lookHeld {b_ : Option Addr} {w : World} {R : Bool → World → Prop} (h : F_towpathlaw01_Book_lookHeld b_ R w) : C_towpathlaw01_Book_lookHeld b_ w R := by
  unfold F_towpathlaw01_Book_lookHeld at h
  unfold C_towpathlaw01_Book_lookHeld
  refine Calls.mono (calls_of_wpE (args := [Value.pointer b_]) (R := fun v w' => ∃ (r0 : Bool), v = Value.bool r0 ∧ R r0 w') Tryz.func79 (c := c79_0) (by kernel_rfl) 64 (by kernel_rfl) (by kernel_rfl) [(0, Value.pointer b_)] (by kernel_rfl) ?_) ?_
  · refine Zp c79_3 P1 [(0, .pointer b_)] ?_
    refine Zs c79_4 c79_58 ?_
    refine Zp c79_7 P1 [(0, .pointer b_), (3, .int .i64 0)] ?_
    refine Zb 0 c79_8 ?_
    obtain ⟨I, μ, h0, hr⟩ := h
    refine wpE_loop (x := c79_9) (by kernel_rfl) (fun m l w => ∃ (i : Int), l = [(0, Value.pointer b_), (3, Value.int .i64 i)] ∧ I i w ∧ μ i w = m) (l' := [(0, Value.pointer b_), (3, Value.int .i64 0)]) (Sub.mk (by kernel_rfl)) ⟨0, rfl, h0, rfl⟩ ?_
    rintro _ _ w1 ⟨i, rfl, hI, rfl⟩
    obtain ⟨again_, again__h, h⟩ : ∃ again_ : Int → World → Prop, (∀ i' w', again_ i' w' → I i' w' ∧ μ i' w' < μ i w1) ∧ F_towpathlaw01_Book_lookHeld_L0 b_ R again_ i w1 := ⟨_, fun _ _ h => h, hr i w1 hI⟩
    clear h0 hI
    unfold F_towpathlaw01_Book_lookHeld_L0 at h
    refine Zs c79_10 c79_16 ?_
    refine Zt r79_11 c79_13 ?_
    refine Zn P2 2 [(0, [], .pointer b_), (3, [], .int .i64 i), (6, [], .int .i64 i), (7, [], .pointer b_)] ?_
    obtain ⟨hp_7, h⟩ := h
    refine Zv (fun pp => [(0, [], .pointer b_), (3, [], .int .i64 i), (6, [], .int .i64 i), (7, [], .pointer pp)]) hp_7 ?_
    refine Zn P1 3 [(0, [], .pointer b_), (3, [], .int .i64 i), (6, [], .int .i64 i), (7, [], .pointer (some ⟨(pblk b_), (poff b_), none⟩)), (8, [], .pointer (some ⟨(pblk b_), (poff b_), none⟩))] ?_
    refine Zn P1 4 [(0, [], .pointer b_), (3, [], .int .i64 i), (6, [], .int .i64 i), (9, [], .pointer (some ⟨(pblk b_), (poff b_) + 8, none⟩))] ?_
    obtain ⟨v10, hc, h⟩ := h
    refine Zl 42 9 (pblk b_) ((poff b_) + 8) 42 10 hc ?_
    refine Zf P2 [(0, .pointer b_), (3, .int .i64 i), (12, .bool (decide (i < ((v10.len : Nat) : Int))))] ?_
    change WpE _ _ c79_13 _ _ _
    refine Zc 12 (decide (i < ((v10.len : Nat) : Int))) c79_14 c79_15 (fun hb => ?_) (fun hb => ?_)
    · replace h := h.1 hb
      exact h.elim
    · replace h := h.2 hb
      refine wpE_exit (id := 0) (by kernel_rfl) ?_
      change WpE _ _ c79_58 _ _ _
      refine Zp c79_61 P1 [(2, .bool true)] ?_
      refine wpE_ret (by kernel_rfl) ?_
      repeat (first | refine seqQ_ret ?_ | refine blockQ_ret ?_ | refine loopQ_ret ?_ | refine cutQ_ret ?_)
      exact retS (rs := [(ResultVar.tmp 2)]) (v := Value.bool true) (by kernel_rfl) (⟨by kernel_rfl, trivial⟩) ⟨true, rfl, h⟩
  · rintro e w' ⟨v, rfl, r0, rfl, h⟩; exact ⟨r0, rfl, h⟩

/-! ### (*towpath/towpathlaw01.Book).lookHeldList (function 80) -/
noncomputable def c80_0 := (Tryz.f80.body).getD Code.skip
noncomputable def c80_3 := Code.r c80_0
noncomputable def c80_4 := Code.l c80_3
noncomputable def c80_7 := Code.r c80_4
noncomputable def c80_8 := Code.l c80_7
noncomputable def c80_9 := Code.l c80_8
noncomputable def c80_10 := Code.l c80_9
noncomputable def c80_11 := Code.l c80_10
noncomputable def r80_11 := Code.ops c80_11
noncomputable def c80_13 := Code.r c80_10
noncomputable def c80_14 := Code.l c80_13
noncomputable def c80_15 := Code.r c80_13
noncomputable def c80_16 := Code.r c80_9
noncomputable def c80_58 := Code.r c80_3
noncomputable def c80_61 := Code.r c80_58

theorem S_towpathlaw01_Book_lookHeldList {b_ : Option Addr} {w : World} {R : Bool → World → Prop} (h : F_towpathlaw01_Book_lookHeldList b_ R w) : C_towpathlaw01_Book_lookHeldList b_ w R := by
  unfold F_towpathlaw01_Book_lookHeldList at h
  unfold C_towpathlaw01_Book_lookHeldList
  refine Calls.mono (calls_of_wpE (args := [Value.pointer b_]) (R := fun v w' => ∃ (r0 : Bool), v = Value.bool r0 ∧ R r0 w') Tryz.func80 (c := c80_0) (by kernel_rfl) 64 (by kernel_rfl) (by kernel_rfl) [(0, Value.pointer b_)] (by kernel_rfl) ?_) ?_
  · refine Zp c80_3 P1 [(0, .pointer b_)] ?_
    refine Zs c80_4 c80_58 ?_
    refine Zp c80_7 P1 [(0, .pointer b_), (3, .int .i64 0)] ?_
    refine Zb 0 c80_8 ?_
    obtain ⟨I, μ, h0, hr⟩ := h
    refine wpE_loop (x := c80_9) (by kernel_rfl) (fun m l w => ∃ (i : Int), l = [(0, Value.pointer b_), (3, Value.int .i64 i)] ∧ I i w ∧ μ i w = m) (l' := [(0, Value.pointer b_), (3, Value.int .i64 0)]) (Sub.mk (by kernel_rfl)) ⟨0, rfl, h0, rfl⟩ ?_
    rintro _ _ w1 ⟨i, rfl, hI, rfl⟩
    obtain ⟨again_, again__h, h⟩ : ∃ again_ : Int → World → Prop, (∀ i' w', again_ i' w' → I i' w' ∧ μ i' w' < μ i w1) ∧ F_towpathlaw01_Book_lookHeldList_L0 b_ R again_ i w1 := ⟨_, fun _ _ h => h, hr i w1 hI⟩
    clear h0 hI
    unfold F_towpathlaw01_Book_lookHeldList_L0 at h
    refine Zs c80_10 c80_16 ?_
    refine Zt r80_11 c80_13 ?_
    refine Zn P2 2 [(0, [], .pointer b_), (3, [], .int .i64 i), (6, [], .int .i64 i), (7, [], .pointer b_)] ?_
    obtain ⟨hp_7, h⟩ := h
    refine Zv (fun pp => [(0, [], .pointer b_), (3, [], .int .i64 i), (6, [], .int .i64 i), (7, [], .pointer pp)]) hp_7 ?_
    refine Zn P1 3 [(0, [], .pointer b_), (3, [], .int .i64 i), (6, [], .int .i64 i), (7, [], .pointer (some ⟨(pblk b_), (poff b_), none⟩)), (8, [], .pointer (some ⟨(pblk b_), (poff b_), none⟩))] ?_
    refine Zn P1 4 [(0, [], .pointer b_), (3, [], .int .i64 i), (6, [], .int .i64 i), (9, [], .pointer (some ⟨(pblk b_), (poff b_) + 9, none⟩))] ?_
    obtain ⟨v10, hc, h⟩ := h
    refine Zl 43 9 (pblk b_) ((poff b_) + 9) 43 10 hc ?_
    refine Zf P2 [(0, .pointer b_), (3, .int .i64 i), (12, .bool (decide (i < ((v10.len : Nat) : Int))))] ?_
    change WpE _ _ c80_13 _ _ _
    refine Zc 12 (decide (i < ((v10.len : Nat) : Int))) c80_14 c80_15 (fun hb => ?_) (fun hb => ?_)
    · replace h := h.1 hb
      exact h.elim
    · replace h := h.2 hb
      refine wpE_exit (id := 0) (by kernel_rfl) ?_
      change WpE _ _ c80_58 _ _ _
      refine Zp c80_61 P1 [(2, .bool true)] ?_
      refine wpE_ret (by kernel_rfl) ?_
      repeat (first | refine seqQ_ret ?_ | refine blockQ_ret ?_ | refine loopQ_ret ?_ | refine cutQ_ret ?_)
      exact retS (rs := [(ResultVar.tmp 2)]) (v := Value.bool true) (by kernel_rfl) (⟨by kernel_rfl, trivial⟩) ⟨true, rfl, h⟩
  · rintro e w' ⟨v, rfl, r0, rfl, h⟩; exact ⟨r0, rfl, h⟩

/-! ### (*towpath/towpathlaw01.Book).lookEvent (function 81) -/
noncomputable def c81_0 := (Tryz.f81.body).getD Code.skip
noncomputable def c81_3 := Code.r c81_0
noncomputable def c81_4 := Code.l c81_3
noncomputable def c81_7 := Code.r c81_4
noncomputable def c81_8 := Code.l c81_7
noncomputable def c81_9 := Code.l c81_8
noncomputable def c81_10 := Code.l c81_9
noncomputable def c81_11 := Code.l c81_10
noncomputable def r81_11 := Code.ops c81_11
noncomputable def c81_13 := Code.r c81_10
noncomputable def c81_14 := Code.l c81_13
noncomputable def c81_15 := Code.r c81_13
noncomputable def c81_16 := Code.r c81_9
noncomputable def c81_58 := Code.r c81_3
noncomputable def c81_61 := Code.r c81_58

theorem S_towpathlaw01_Book_lookEvent {b_ : Option Addr} {w : World} {R : Bool → World → Prop} (h : F_towpathlaw01_Book_lookEvent b_ R w) : C_towpathlaw01_Book_lookEvent b_ w R := by
  unfold F_towpathlaw01_Book_lookEvent at h
  unfold C_towpathlaw01_Book_lookEvent
  refine Calls.mono (calls_of_wpE (args := [Value.pointer b_]) (R := fun v w' => ∃ (r0 : Bool), v = Value.bool r0 ∧ R r0 w') Tryz.func81 (c := c81_0) (by kernel_rfl) 64 (by kernel_rfl) (by kernel_rfl) [(0, Value.pointer b_)] (by kernel_rfl) ?_) ?_
  · refine Zp c81_3 P1 [(0, .pointer b_)] ?_
    refine Zs c81_4 c81_58 ?_
    refine Zp c81_7 P1 [(0, .pointer b_), (3, .int .i64 0)] ?_
    refine Zb 0 c81_8 ?_
    obtain ⟨I, μ, h0, hr⟩ := h
    refine wpE_loop (x := c81_9) (by kernel_rfl) (fun m l w => ∃ (i : Int), l = [(0, Value.pointer b_), (3, Value.int .i64 i)] ∧ I i w ∧ μ i w = m) (l' := [(0, Value.pointer b_), (3, Value.int .i64 0)]) (Sub.mk (by kernel_rfl)) ⟨0, rfl, h0, rfl⟩ ?_
    rintro _ _ w1 ⟨i, rfl, hI, rfl⟩
    obtain ⟨again_, again__h, h⟩ : ∃ again_ : Int → World → Prop, (∀ i' w', again_ i' w' → I i' w' ∧ μ i' w' < μ i w1) ∧ F_towpathlaw01_Book_lookEvent_L0 b_ R again_ i w1 := ⟨_, fun _ _ h => h, hr i w1 hI⟩
    clear h0 hI
    unfold F_towpathlaw01_Book_lookEvent_L0 at h
    refine Zs c81_10 c81_16 ?_
    refine Zt r81_11 c81_13 ?_
    refine Zn P2 2 [(0, [], .pointer b_), (3, [], .int .i64 i), (6, [], .int .i64 i), (7, [], .pointer b_)] ?_
    obtain ⟨hp_7, h⟩ := h
    refine Zv (fun pp => [(0, [], .pointer b_), (3, [], .int .i64 i), (6, [], .int .i64 i), (7, [], .pointer pp)]) hp_7 ?_
    refine Zn P1 3 [(0, [], .pointer b_), (3, [], .int .i64 i), (6, [], .int .i64 i), (7, [], .pointer (some ⟨(pblk b_), (poff b_), none⟩)), (8, [], .pointer (some ⟨(pblk b_), (poff b_), none⟩))] ?_
    refine Zn P1 4 [(0, [], .pointer b_), (3, [], .int .i64 i), (6, [], .int .i64 i), (9, [], .pointer (some ⟨(pblk b_), (poff b_) + 10, none⟩))] ?_
    obtain ⟨v10, hc, h⟩ := h
    refine Zl 44 9 (pblk b_) ((poff b_) + 10) 44 10 hc ?_
    refine Zf P2 [(0, .pointer b_), (3, .int .i64 i), (12, .bool (decide (i < ((v10.len : Nat) : Int))))] ?_
    change WpE _ _ c81_13 _ _ _
    refine Zc 12 (decide (i < ((v10.len : Nat) : Int))) c81_14 c81_15 (fun hb => ?_) (fun hb => ?_)
    · replace h := h.1 hb
      exact h.elim
    · replace h := h.2 hb
      refine wpE_exit (id := 0) (by kernel_rfl) ?_
      change WpE _ _ c81_58 _ _ _
      refine Zp c81_61 P1 [(2, .bool true)] ?_
      refine wpE_ret (by kernel_rfl) ?_
      repeat (first | refine seqQ_ret ?_ | refine blockQ_ret ?_ | refine loopQ_ret ?_ | refine cutQ_ret ?_)
      exact retS (rs := [(ResultVar.tmp 2)]) (v := Value.bool true) (by kernel_rfl) (⟨by kernel_rfl, trivial⟩) ⟨true, rfl, h⟩
  · rintro e w' ⟨v, rfl, r0, rfl, h⟩; exact ⟨r0, rfl, h⟩

/-! ### (*towpath/towpathlaw01.Book).lookAnswer (function 82) -/
noncomputable def c82_0 := (Tryz.f82.body).getD Code.skip
noncomputable def c82_3 := Code.r c82_0
noncomputable def c82_4 := Code.l c82_3
noncomputable def c82_7 := Code.r c82_4
noncomputable def c82_8 := Code.l c82_7
noncomputable def c82_9 := Code.l c82_8
noncomputable def c82_10 := Code.l c82_9
noncomputable def c82_11 := Code.l c82_10
noncomputable def r82_11 := Code.ops c82_11
noncomputable def c82_13 := Code.r c82_10
noncomputable def c82_14 := Code.l c82_13
noncomputable def c82_15 := Code.r c82_13
noncomputable def c82_16 := Code.r c82_9
noncomputable def c82_58 := Code.r c82_3
noncomputable def c82_61 := Code.r c82_58

theorem S_towpathlaw01_Book_lookAnswer {b_ : Option Addr} {w : World} {R : Bool → World → Prop} (h : F_towpathlaw01_Book_lookAnswer b_ R w) : C_towpathlaw01_Book_lookAnswer b_ w R := by
  unfold F_towpathlaw01_Book_lookAnswer at h
  unfold C_towpathlaw01_Book_lookAnswer
  refine Calls.mono (calls_of_wpE (args := [Value.pointer b_]) (R := fun v w' => ∃ (r0 : Bool), v = Value.bool r0 ∧ R r0 w') Tryz.func82 (c := c82_0) (by kernel_rfl) 64 (by kernel_rfl) (by kernel_rfl) [(0, Value.pointer b_)] (by kernel_rfl) ?_) ?_
  · refine Zp c82_3 P1 [(0, .pointer b_)] ?_
    refine Zs c82_4 c82_58 ?_
    refine Zp c82_7 P1 [(0, .pointer b_), (3, .int .i64 0)] ?_
    refine Zb 0 c82_8 ?_
    obtain ⟨I, μ, h0, hr⟩ := h
    refine wpE_loop (x := c82_9) (by kernel_rfl) (fun m l w => ∃ (i : Int), l = [(0, Value.pointer b_), (3, Value.int .i64 i)] ∧ I i w ∧ μ i w = m) (l' := [(0, Value.pointer b_), (3, Value.int .i64 0)]) (Sub.mk (by kernel_rfl)) ⟨0, rfl, h0, rfl⟩ ?_
    rintro _ _ w1 ⟨i, rfl, hI, rfl⟩
    obtain ⟨again_, again__h, h⟩ : ∃ again_ : Int → World → Prop, (∀ i' w', again_ i' w' → I i' w' ∧ μ i' w' < μ i w1) ∧ F_towpathlaw01_Book_lookAnswer_L0 b_ R again_ i w1 := ⟨_, fun _ _ h => h, hr i w1 hI⟩
    clear h0 hI
    unfold F_towpathlaw01_Book_lookAnswer_L0 at h
    refine Zs c82_10 c82_16 ?_
    refine Zt r82_11 c82_13 ?_
    refine Zn P2 2 [(0, [], .pointer b_), (3, [], .int .i64 i), (6, [], .int .i64 i), (7, [], .pointer b_)] ?_
    obtain ⟨hp_7, h⟩ := h
    refine Zv (fun pp => [(0, [], .pointer b_), (3, [], .int .i64 i), (6, [], .int .i64 i), (7, [], .pointer pp)]) hp_7 ?_
    refine Zn P1 3 [(0, [], .pointer b_), (3, [], .int .i64 i), (6, [], .int .i64 i), (7, [], .pointer (some ⟨(pblk b_), (poff b_), none⟩)), (8, [], .pointer (some ⟨(pblk b_), (poff b_), none⟩))] ?_
    refine Zn P1 4 [(0, [], .pointer b_), (3, [], .int .i64 i), (6, [], .int .i64 i), (9, [], .pointer (some ⟨(pblk b_), (poff b_) + 11, none⟩))] ?_
    obtain ⟨v10, hc, h⟩ := h
    refine Zl 45 9 (pblk b_) ((poff b_) + 11) 45 10 hc ?_
    refine Zf P2 [(0, .pointer b_), (3, .int .i64 i), (12, .bool (decide (i < ((v10.len : Nat) : Int))))] ?_
    change WpE _ _ c82_13 _ _ _
    refine Zc 12 (decide (i < ((v10.len : Nat) : Int))) c82_14 c82_15 (fun hb => ?_) (fun hb => ?_)
    · replace h := h.1 hb
      exact h.elim
    · replace h := h.2 hb
      refine wpE_exit (id := 0) (by kernel_rfl) ?_
      change WpE _ _ c82_58 _ _ _
      refine Zp c82_61 P1 [(2, .bool true)] ?_
      refine wpE_ret (by kernel_rfl) ?_
      repeat (first | refine seqQ_ret ?_ | refine blockQ_ret ?_ | refine loopQ_ret ?_ | refine cutQ_ret ?_)
      exact retS (rs := [(ResultVar.tmp 2)]) (v := Value.bool true) (by kernel_rfl) (⟨by kernel_rfl, trivial⟩) ⟨true, rfl, h⟩
  · rintro e w' ⟨v, rfl, r0, rfl, h⟩; exact ⟨r0, rfl, h⟩

/-! ### (*towpath/towpathlaw01.Book).Writes (function 84) -/
noncomputable def c84_0 := (Tryz.f84.body).getD Code.skip
noncomputable def r84_0 := Code.ops c84_0

theorem S_towpathlaw01_Book_Writes {b_ : Option Addr} {l_ : Slc} {w : World} {R : World → Prop} (h : F_towpathlaw01_Book_Writes b_ l_ R w) : C_towpathlaw01_Book_Writes b_ l_ w R := by
  unfold F_towpathlaw01_Book_Writes at h
  unfold C_towpathlaw01_Book_Writes
  refine Calls.mono (calls_of_wpE (args := [Value.pointer b_, Value.slice l_.ptr l_.len l_.cap]) (R := fun v w' => v = Value.tuple #[] ∧ R w') Tryz.func84 (c := c84_0) (by kernel_rfl) 7 (by kernel_rfl) (by kernel_rfl) [(0, Value.pointer b_), (1, Value.slice l_.ptr l_.len l_.cap)] (by kernel_rfl) ?_) ?_
  · refine Zr r84_0 ?_
    refine Zn P2 2 [(4, [], .pointer b_), (5, [], .slice l_.ptr l_.len l_.cap)] ?_
    refine Zm 147 #[.pointer b_, .slice l_.ptr l_.len l_.cap] (some 6) (Calls.mono h ?_)
    rintro _ w1 ⟨rfl, h⟩
    refine ⟨_, rfl, ?_⟩
    refine Ze [] ?_
    repeat (first | refine seqQ_exit ?_ | refine loopQ_exit ?_ | refine cutQ_exit ?_ | refine blockQ_hit ?_ | refine blockQ_miss (by kernel_rfl) ?_)
    refine retQ_normal ?_
    repeat (first | refine seqQ_ret ?_ | refine blockQ_ret ?_ | refine loopQ_ret ?_ | refine cutQ_ret ?_)
    exact retT (rs := []) (vs := []) (by kernel_rfl) (trivial) (by kernel_rfl) ⟨rfl, h⟩
  · rintro e w' ⟨v, rfl, rfl, h⟩; exact ⟨rfl, h⟩

/-! ### (*towpath/towpathlaw01.Book).keepByte (function 114) -/
noncomputable def c114_0 := (Tryz.f114.body).getD Code.skip
noncomputable def c114_1 := Code.l c114_0
noncomputable def r114_1 := Code.ops c114_1
noncomputable def c114_3 := Code.r c114_0
noncomputable def r114_3 := Code.ops c114_3
def o_towpathlaw01_Book_keepByte_3 : List Nat := [0, 1, 2, 3, 4, 5, 6, 7, 8, 9, 10, 11, 12, 13, 14, 15]

theorem S_towpathlaw01_Book_keepByte {b_ : Option Addr} {l_ : Slc} {w : World} {R : World → Prop} (h : F_towpathlaw01_Book_keepByte b_ l_ R w) : C_towpathlaw01_Book_keepByte b_ l_ w R := by
  unfold F_towpathlaw01_Book_keepByte at h
  unfold C_towpathlaw01_Book_keepByte
  refine Calls.mono (calls_of_wpE (args := [Value.pointer b_, Value.slice l_.ptr l_.len l_.cap]) (R := fun v w' => v = Value.tuple #[] ∧ R w') Tryz.func114 (c := c114_0) (by kernel_rfl) 26 (by kernel_rfl) (by kernel_rfl) [(0, Value.pointer b_), (1, Value.slice l_.ptr l_.len l_.cap)] (by kernel_rfl) ?_) ?_
  · refine Zt r114_1 c114_3 ?_
    refine Zn P1 1 [(0, [], .pointer b_), (1, [], .slice l_.ptr l_.len l_.cap), (4, [], .pointer b_)] ?_
    obtain ⟨hp_1, h⟩ := h
    refine Zv (fun pp => [(0, [], .pointer b_), (1, [], .slice l_.ptr l_.len l_.cap), (4, [], .pointer pp)]) hp_1 ?_
    refine Zn P1 2 [(0, [], .pointer b_), (1, [], .slice l_.ptr l_.len l_.cap), (4, [], .pointer (some ⟨(pblk b_), (poff b_), none⟩)), (5, [], .pointer (some ⟨(pblk b_), (poff b_), none⟩))] ?_
    refine Zn P1 3 [(0, [], .pointer b_), (1, [], .slice l_.ptr l_.len l_.cap), (4, [], .pointer (some ⟨(pblk b_), (poff b_), none⟩)), (6, [], .pointer (some ⟨(pblk b_), (poff b_), none⟩))] ?_
    obtain ⟨v7, hc, h⟩ := h
    refine Zl 3 6 (pblk b_) (poff b_) 3 7 hc ?_
    refine Zn P3 7 [(0, [], .pointer b_), (1, [], .slice l_.ptr l_.len l_.cap), (8, [], .int .i64 (IntKind.i64.wrap (v7 + 1))), (10, [], .pointer (some ⟨(pblk b_), (poff b_), none⟩))] ?_
    obtain ⟨hc, h⟩ := h
    refine Zo 3 10 8 (pblk b_) (poff b_) 1 [.int .i64 (IntKind.i64.wrap (v7 + 1))] hc (fun w1 hw => ?_)
    replace h := h w1 hw
    clear hw
    refine Ze [(0, .pointer b_), (1, .slice l_.ptr l_.len l_.cap)] ?_
    change WpE _ _ c114_3 _ _ _
    refine wpE_mixregion (id := 1) (ops := r114_3) o_towpathlaw01_Book_keepByte_3 (by kernel_rfl) (by kernel_rfl) (by kernel_rfl) (by kernel_rfl) (fun w2 hw => ?_)
    replace h := h w2 hw
    clear hw
    refine mreg_run P2 2 [(0, [], Value.pointer b_), (1, [], Value.slice l_.ptr l_.len l_.cap), (11, [], Value.pointer b_), (12, [], Value.pointer b_)] (by kernel_rfl) (by kernel_rfl) ?_
    obtain ⟨hp_2, h⟩ := h
    refine mreg_conv [(0, [], Value.pointer b_), (1, [], Value.slice l_.ptr l_.len l_.cap), (11, [], Value.pointer b_), (12, [], Value.pointer (some ⟨(pblk b_), (poff b_), none⟩))] (congrArg (fun pp => ([(0, [], Value.pointer b_), (1, [], Value.slice l_.ptr l_.len l_.cap), (11, [], Value.pointer b_), (12, [], Value.pointer pp)] : GEnv)) hp_2) ?_
    refine mreg_run P1 3 [(0, [], Value.pointer b_), (1, [], Value.slice l_.ptr l_.len l_.cap), (11, [], Value.pointer b_), (12, [], Value.pointer (some ⟨(pblk b_), (poff b_), none⟩)), (13, [], Value.pointer (some ⟨(pblk b_), (poff b_), none⟩))] (by kernel_rfl) (by kernel_rfl) ?_
    refine mreg_run P1 4 [(0, [], Value.pointer b_), (1, [], Value.slice l_.ptr l_.len l_.cap), (11, [], Value.pointer b_), (14, [], Value.pointer (some ⟨(pblk b_), (poff b_) + 1, none⟩))] (by kernel_rfl) (by kernel_rfl) ?_
    obtain ⟨v15, hc, h⟩ := h
    refine mreg_load1 (i := 4) (by kernel_rfl) (t := 35) (a := (Operand.tmp 14)) (b := (pblk b_)) (o := ((poff b_) + 1)) (ty := 35) (dst := some 15) (by kernel_rfl) (by kernel_rfl) (by kernel_rfl) hc ?_
    refine mreg_run P2 7 [(11, [], Value.pointer b_), (15, [], Value.slice v15.ptr v15.len v15.cap), (16, [], Value.slice l_.ptr l_.len l_.cap), (17, [], Value.pointer b_)] (by kernel_rfl) (by kernel_rfl) ?_
    obtain ⟨hp_3, h⟩ := h
    refine mreg_conv [(11, [], Value.pointer b_), (15, [], Value.slice v15.ptr v15.len v15.cap), (16, [], Value.slice l_.ptr l_.len l_.cap), (17, [], Value.pointer (some ⟨(pblk b_), (poff b_), none⟩))] (congrArg (fun pp => ([(11, [], Value.pointer b_), (15, [], Value.slice v15.ptr v15.len v15.cap), (16, [], Value.slice l_.ptr l_.len l_.cap), (17, [], Value.pointer pp)] : GEnv)) hp_3) ?_
    refine mreg_run P1 8 [(11, [], Value.pointer b_), (15, [], Value.slice v15.ptr v15.len v15.cap), (16, [], Value.slice l_.ptr l_.len l_.cap), (17, [], Value.pointer (some ⟨(pblk b_), (poff b_), none⟩)), (18, [], Value.pointer (some ⟨(pblk b_), (poff b_), none⟩))] (by kernel_rfl) (by kernel_rfl) ?_
    refine mreg_run P1 9 [(11, [], Value.pointer b_), (15, [], Value.slice v15.ptr v15.len v15.cap), (16, [], Value.slice l_.ptr l_.len l_.cap), (19, [], Value.pointer (some ⟨(pblk b_), (poff b_), none⟩))] (by kernel_rfl) (by kernel_rfl) ?_
    obtain ⟨v20, hc, h⟩ := h
    refine mreg_load1 (i := 9) (by kernel_rfl) (t := 3) (a := (Operand.tmp 19)) (b := (pblk b_)) (o := (poff b_)) (ty := 3) (dst := some 20) (by kernel_rfl) (by kernel_rfl) (by kernel_rfl) hc ?_
    refine mreg_run P1 11 [(11, [], Value.pointer b_), (15, [], Value.slice v15.ptr v15.len v15.cap), (21, [], Value.agg #[Value.slice l_.ptr l_.len l_.cap, Value.slice none 0 0, Value.int .i64 v20])] (by kernel_rfl) (by kernel_rfl) ?_
    refine mreg_new (op := (Op.buildSlice 35 1 #[(0, (Operand.tmp 21))])) (ty := 35) (dst := some 22) 11 [10, 5, 9, 8, 7, 6] [(4, fun w' => w'.cell? ⟨(pblk b_), (poff b_) + 1, none⟩ = some (Value.slice v15.ptr v15.len v15.cap))] (fun bb => Value.slice (some ⟨bb, 0, none⟩) 1 1) (Obj.cells ([Value.slice l_.ptr l_.len l_.cap, Value.slice none 0 0, Value.int .i64 v20]).toArray ty_towpathlaw01_heldByte (0, 0)) (by kernel_rfl) (by kernel_rfl) (by kernel_rfl) (by kernel_rfl) (by kernel_rfl) (by kernel_rfl) (fun b_1 w3 hb hw => ?_)
    replace h := h b_1 w3 hb hw
    clear hb hw
    obtain ⟨hk0, h⟩ := h
    refine ⟨⟨hk0, trivial⟩, ?_⟩
    refine mreg_run [] 12 [(11, [], Value.pointer b_), (15, [], Value.slice v15.ptr v15.len v15.cap), (22, [], Value.slice (some ⟨b_1, 0, none⟩) 1 1)] (by kernel_rfl) (by kernel_rfl) ?_
    obtain ⟨src, hs, h⟩ := h
    refine mreg_append (t := 35) (tx := 35) (e := 143) (a := (Operand.tmp 15)) (xo := (Operand.tmp 22)) (s := v15) (x := (Slc.mk (some ⟨b_1, 0, none⟩) 1 1)) (sz := 3) (by_ := 56) (zs := [Value.slice none 0 0, Value.slice none 0 0, Value.int .i64 0]) (ty := 35) (dst := some 23) 12 [4, 11, 3, 10, 2, 5, 9, 1, 8, 7, 6] [] src (by kernel_rfl) (by kernel_rfl) (by kernel_rfl) (by kernel_rfl) (by kernel_rfl) (by kernel_rfl) (by kernel_rfl) (by kernel_rfl) (by kernel_rfl) (by kernel_rfl) (by kernel_rfl) (by kernel_rfl) (by kernel_rfl) hs (AppendW.mono h (fun v23 w4 h => ?_))
    refine ⟨trivial, ?_⟩
    refine mreg_run [] 13 [(11, [], Value.pointer b_), (23, [], Value.slice v23.ptr v23.len v23.cap)] (by kernel_rfl) (by kernel_rfl) ?_
    obtain ⟨hp_4, h⟩ := h
    refine mreg_conv [(11, [], Value.pointer (some ⟨(pblk b_), (poff b_), none⟩)), (23, [], Value.slice v23.ptr v23.len v23.cap)] (congrArg (fun pp => ([(11, [], Value.pointer pp), (23, [], Value.slice v23.ptr v23.len v23.cap)] : GEnv)) hp_4) ?_
    refine mreg_run P1 14 [(11, [], Value.pointer (some ⟨(pblk b_), (poff b_), none⟩)), (23, [], Value.slice v23.ptr v23.len v23.cap), (24, [], Value.pointer (some ⟨(pblk b_), (poff b_), none⟩))] (by kernel_rfl) (by kernel_rfl) ?_
    refine mreg_run P1 15 [(23, [], Value.slice v23.ptr v23.len v23.cap), (25, [], Value.pointer (some ⟨(pblk b_), (poff b_) + 1, none⟩))] (by kernel_rfl) (by kernel_rfl) ?_
    obtain ⟨hc, h⟩ := h
    refine mreg_store (t := 35) (a := (Operand.tmp 25)) (x := (Operand.tmp 23)) (b := (pblk b_)) (o := ((poff b_) + 1)) (k := 1) (ty := 0) (dst := none) 15 [0, 1, 2, 3, 4, 5, 6, 7, 8, 9, 10, 11, 12, 14, 13] [] [Value.slice v23.ptr v23.len v23.cap] (by kernel_rfl) (by kernel_rfl) (by kernel_rfl) (by kernel_rfl) (by kernel_rfl) (by kernel_rfl) (by kernel_rfl) (by kernel_rfl) (by kernel_rfl) (by kernel_rfl) hc (fun w5 hw => ?_)
    replace h := h w5 hw
    clear hw
    refine ⟨trivial, ?_⟩
    refine mreg_end [] (by kernel_rfl) (by kernel_rfl) (by kernel_rfl) ?_
    repeat (first | refine seqQ_exit ?_ | refine loopQ_exit ?_ | refine cutQ_exit ?_ | refine blockQ_hit ?_ | refine blockQ_miss (by kernel_rfl) ?_)
    refine retQ_normal ?_
    repeat (first | refine seqQ_ret ?_ | refine blockQ_ret ?_ | refine loopQ_ret ?_ | refine cutQ_ret ?_)
    exact retT (rs := []) (vs := []) (by kernel_rfl) (trivial) (by kernel_rfl) ⟨rfl, h⟩
  · rintro e w' ⟨v, rfl, rfl, h⟩; exact ⟨rfl, h⟩

/-! ### towpath/towpathlaw01.WritesSize (function 120) -/
noncomputable def c120_0 := (Tryz.f120.body).getD Code.skip
noncomputable def c120_3 := Code.r c120_0
noncomputable def c120_6 := Code.r c120_3
noncomputable def c120_7 := Code.l c120_6
noncomputable def c120_10 := Code.r c120_7
noncomputable def c120_11 := Code.l c120_10
noncomputable def c120_12 := Code.l c120_11
noncomputable def c120_13 := Code.l c120_12
noncomputable def c120_16 := Code.r c120_13
noncomputable def c120_17 := Code.l c120_16
noncomputable def c120_18 := Code.r c120_16
noncomputable def c120_19 := Code.r c120_12
noncomputable def c120_20 := Code.l c120_19
noncomputable def c120_21 := Code.l c120_20
noncomputable def r120_21 := Code.ops c120_21
noncomputable def c120_23 := Code.r c120_19
noncomputable def r120_23 := Code.ops c120_23
noncomputable def c120_25 := Code.r c120_6
noncomputable def c120_28 := Code.r c120_25

theorem S_towpathlaw01_WritesSize {l_ : Slc} {w : World} {R : Int → World → Prop} (h : F_towpathlaw01_WritesSize l_ R w) : C_towpathlaw01_WritesSize l_ w R := by
  unfold F_towpathlaw01_WritesSize at h
  unfold C_towpathlaw01_WritesSize
  refine Calls.mono (calls_of_wpE (args := [Value.slice l_.ptr l_.len l_.cap]) (R := fun v w' => ∃ (r0 : Int), v = Value.int .i64 r0 ∧ R r0 w') Tryz.func120 (c := c120_0) (by kernel_rfl) 33 (by kernel_rfl) (by kernel_rfl) [(0, Value.slice l_.ptr l_.len l_.cap)] (by kernel_rfl) ?_) ?_
  · refine Zp c120_3 P1 [(0, .slice l_.ptr l_.len l_.cap)] ?_
    refine Zp c120_6 P3 [(0, .slice l_.ptr l_.len l_.cap), (3, .int .i64 ((l_.len : Nat) : Int))] ?_
    refine Zs c120_7 c120_25 ?_
    refine Zp c120_10 P1 [(0, .slice l_.ptr l_.len l_.cap), (3, .int .i64 ((l_.len : Nat) : Int)), (4, .int .i64 0)] ?_
    refine Zb 0 c120_11 ?_
    obtain ⟨I, μ, h0, hr⟩ := h
    refine wpE_loop (x := c120_12) (by kernel_rfl) (fun m l w => ∃ (n_ : Int) (i : Int), l = [(0, Value.slice l_.ptr l_.len l_.cap), (3, Value.int .i64 n_), (4, Value.int .i64 i)] ∧ I n_ i w ∧ μ n_ i w = m) (l' := [(0, Value.slice l_.ptr l_.len l_.cap), (3, Value.int .i64 ((l_.len : Nat) : Int)), (4, Value.int .i64 0)]) (Sub.mk (by kernel_rfl)) ⟨((l_.len : Nat) : Int), 0, rfl, h0, rfl⟩ ?_
    rintro _ _ w1 ⟨n_, i, rfl, hI, rfl⟩
    obtain ⟨again_, again__h, h⟩ : ∃ again_ : Int → Int → World → Prop, (∀ n_' i' w', again_ n_' i' w' → I n_' i' w' ∧ μ n_' i' w' < μ n_ i w1) ∧ F_towpathlaw01_WritesSize_L0 l_ R again_ n_ i w1 := ⟨_, fun _ _ _ h => h, hr n_ i w1 hI⟩
    clear h0 hI
    unfold F_towpathlaw01_WritesSize_L0 at h
    refine Zs c120_13 c120_19 ?_
    refine Zp c120_16 [.plain, .plain, .plain, .plain, .plain, .plain, .plain, .pick] [(0, .slice l_.ptr l_.len l_.cap), (3, .int .i64 n_), (4, .int .i64 i), (14, .bool ((decide (i < ((l_.len : Nat) : Int))) && (decide (n_ ≤ 1048576))))] ?_
    refine Zc 14 ((decide (i < ((l_.len : Nat) : Int))) && (decide (n_ ≤ 1048576))) c120_17 c120_18 (fun hb => ?_) (fun hb => ?_)
    · replace h := h.1 hb
      refine wpE_skip (by kernel_rfl) ?_
      change WpE _ _ c120_19 _ _ _
      refine Zs c120_20 c120_23 ?_
      refine Zb 1 c120_21 ?_
      refine wpE_drawregion (id := 5) (ops := r120_21) (by kernel_rfl) (by kernel_rfl) (by kernel_rfl) ?_
      refine qreg_run P3 3 [(0, [], Value.slice l_.ptr l_.len l_.cap), (3, [], Value.int .i64 n_), (4, [], Value.int .i64 i), (17, [], Value.int .i64 n_), (18, [], Value.slice l_.ptr l_.len l_.cap), (19, [], Value.int .i64 i)] (by kernel_rfl) (by kernel_rfl) ?_
      obtain ⟨hp_6, h⟩ := h
      refine qreg_conv [(0, [], Value.slice l_.ptr l_.len l_.cap), (3, [], Value.int .i64 n_), (4, [], Value.int .i64 i), (17, [], Value.int .i64 n_), (18, [], Value.slice (some ⟨(pblk l_.ptr), (poff l_.ptr), none⟩) l_.len l_.cap), (19, [], Value.int .i64 i)] (congrArg (fun pp => ([(0, [], Value.slice l_.ptr l_.len l_.cap), (3, [], Value.int .i64 n_), (4, [], Value.int .i64 i), (17, [], Value.int .i64 n_), (18, [], Value.slice pp l_.len l_.cap), (19, [], Value.int .i64 i)] : GEnv)) hp_6) ?_
      obtain ⟨h0, h1, h⟩ := h
      refine qreg_indexS (t := 50) (e := 139) (x := (Operand.tmp 18)) (ix := (Operand.tmp 19)) (b := (pblk l_.ptr)) (o := (poff l_.ptr)) (l := l_.len) (c := l_.cap) (k := .i64) (j := i) (ty := 0) (dst := some 20) (sz := 3) (by kernel_rfl) (by kernel_rfl) (by kernel_rfl) (by kernel_rfl) (by kernel_rfl) h0 h1 ?_
      refine qreg_run P1 5 [(0, [], Value.slice l_.ptr l_.len l_.cap), (3, [], Value.int .i64 n_), (4, [], Value.int .i64 i), (17, [], Value.int .i64 n_), (21, [], Value.pointer (some ⟨(pblk l_.ptr), (poff l_.ptr) + i.toNat * 3, none⟩))] (by kernel_rfl) (by kernel_rfl) ?_
      obtain ⟨v22, hc, h⟩ := h
      refine qreg_load1 (t := 9) (a := (Operand.tmp 21)) (b := (pblk l_.ptr)) (o := ((poff l_.ptr) + i.toNat * 3)) (ty := 9) (dst := some 22) (by kernel_rfl) (by kernel_rfl) (by kernel_rfl) hc ?_
      refine qreg_run P4 10 [(0, [], Value.slice l_.ptr l_.len l_.cap), (3, [], Value.int .i64 n_), (4, [], Value.int .i64 i), (24, [], Value.int .i64 (IntKind.i64.wrap (n_ + ((v22.size : Nat) : Int)))), (25, [], Value.slice l_.ptr l_.len l_.cap), (26, [], Value.int .i64 i)] (by kernel_rfl) (by kernel_rfl) ?_
      obtain ⟨hp_7, h⟩ := h
      refine qreg_conv [(0, [], Value.slice l_.ptr l_.len l_.cap), (3, [], Value.int .i64 n_), (4, [], Value.int .i64 i), (24, [], Value.int .i64 (IntKind.i64.wrap (n_ + ((v22.size : Nat) : Int)))), (25, [], Value.slice (some ⟨(pblk l_.ptr), (poff l_.ptr), none⟩) l_.len l_.cap), (26, [], Value.int .i64 i)] (congrArg (fun pp => ([(0, [], Value.slice l_.ptr l_.len l_.cap), (3, [], Value.int .i64 n_), (4, [], Value.int .i64 i), (24, [], Value.int .i64 (IntKind.i64.wrap (n_ + ((v22.size : Nat) : Int)))), (25, [], Value.slice pp l_.len l_.cap), (26, [], Value.int .i64 i)] : GEnv)) hp_7) ?_
      obtain ⟨h0, h1, h⟩ := h
      refine qreg_indexS (t := 50) (e := 139) (x := (Operand.tmp 25)) (ix := (Operand.tmp 26)) (b := (pblk l_.ptr)) (o := (poff l_.ptr)) (l := l_.len) (c := l_.cap) (k := .i64) (j := i) (ty := 0) (dst := some 27) (sz := 3) (by kernel_rfl) (by kernel_rfl) (by kernel_rfl) (by kernel_rfl) (by kernel_rfl) h0 h1 ?_
      refine qreg_run P1 12 [(0, [], Value.slice l_.ptr l_.len l_.cap), (3, [], Value.int .i64 n_), (4, [], Value.int .i64 i), (24, [], Value.int .i64 (IntKind.i64.wrap (n_ + ((v22.size : Nat) : Int)))), (28, [], Value.pointer (some ⟨(pblk l_.ptr), ((poff l_.ptr) + i.toNat * 3) + 1, none⟩))] (by kernel_rfl) (by kernel_rfl) ?_
      obtain ⟨v29, hc, h⟩ := h
      refine qreg_load1 (t := 9) (a := (Operand.tmp 28)) (b := (pblk l_.ptr)) (o := (((poff l_.ptr) + i.toNat * 3) + 1)) (ty := 9) (dst := some 29) (by kernel_rfl) (by kernel_rfl) (by kernel_rfl) hc ?_
      refine qreg_run P3 16 [(0, [], Value.slice l_.ptr l_.len l_.cap), (3, [], Value.int .i64 (IntKind.i64.wrap ((IntKind.i64.wrap (n_ + ((v22.size : Nat) : Int))) + ((v29.size : Nat) : Int)))), (4, [], Value.int .i64 i)] (by kernel_rfl) (by kernel_rfl) ?_
      refine qreg_end [(0, Value.slice l_.ptr l_.len l_.cap), (3, Value.int .i64 (IntKind.i64.wrap ((IntKind.i64.wrap (n_ + ((v22.size : Nat) : Int))) + ((v29.size : Nat) : Int)))), (4, Value.int .i64 i)] (by kernel_rfl) (by kernel_rfl) (fun w2 hw => ?_)
      replace h := h w2 hw
      clear hw
      change WpE _ _ c120_23 _ _ _
      refine Zr r120_23 ?_
      refine Zf P3 [(0, .slice l_.ptr l_.len l_.cap), (3, .int .i64 (IntKind.i64.wrap ((IntKind.i64.wrap (n_ + ((v22.size : Nat) : Int))) + ((v29.size : Nat) : Int)))), (4, .int .i64 (IntKind.i64.wrap (i + 1)))] ?_
      have hb_ := again__h _ _ _ h
      exact ⟨_, hb_.2, [(0, Value.slice l_.ptr l_.len l_.cap), (3, Value.int .i64 (IntKind.i64.wrap ((IntKind.i64.wrap (n_ + ((v22.size : Nat) : Int))) + ((v29.size : Nat) : Int)))), (4, Value.int .i64 (IntKind.i64.wrap (i + 1)))], Sub.mk (by kernel_rfl), (IntKind.i64.wrap ((IntKind.i64.wrap (n_ + ((v22.size : Nat) : Int))) + ((v29.size : Nat) : Int))), (IntKind.i64.wrap (i + 1)), rfl, hb_.1, rfl⟩
    · replace h := h.2 hb
      refine wpE_exit (id := 0) (by kernel_rfl) ?_
      change WpE _ _ c120_25 _ _ _
      refine Zp c120_28 P2 [(2, .int .i64 n_)] ?_
      refine wpE_ret (by kernel_rfl) ?_
      repeat (first | refine seqQ_ret ?_ | refine blockQ_ret ?_ | refine loopQ_ret ?_ | refine cutQ_ret ?_)
      exact retS (rs := [(ResultVar.tmp 2)]) (v := Value.int .i64 n_) (by kernel_rfl) (⟨by kernel_rfl, trivial⟩) ⟨n_, rfl, h⟩
  · rintro e w' ⟨v, rfl, r0, rfl, h⟩; exact ⟨r0, rfl, h⟩

/-! ### towpath/towpathlaw01.TwinWrites (function 121) -/
noncomputable def c121_0 := (Tryz.f121.body).getD Code.skip
noncomputable def c121_3 := Code.r c121_0
noncomputable def c121_4 := Code.l c121_3
noncomputable def r121_4 := Code.ops c121_4
noncomputable def c121_6 := Code.r c121_3
noncomputable def c121_7 := Code.l c121_6
noncomputable def c121_10 := Code.r c121_7
noncomputable def c121_11 := Code.l c121_10
noncomputable def c121_12 := Code.l c121_11
noncomputable def c121_13 := Code.l c121_12
noncomputable def c121_16 := Code.r c121_13
noncomputable def c121_17 := Code.l c121_16
noncomputable def c121_18 := Code.r c121_16
noncomputable def c121_19 := Code.r c121_12
noncomputable def c121_20 := Code.l c121_19
noncomputable def c121_21 := Code.l c121_20
noncomputable def r121_21 := Code.ops c121_21
noncomputable def c121_23 := Code.r c121_19
noncomputable def r121_23 := Code.ops c121_23
noncomputable def c121_25 := Code.r c121_6
noncomputable def c121_26 := Code.l c121_25
noncomputable def r121_26 := Code.ops c121_26
noncomputable def c121_28 := Code.r c121_25

theorem S_towpathlaw01_TwinWrites {l_ : Slc} {w : World} {R : Slc → World → Prop} (h : F_towpathlaw01_TwinWrites l_ R w) : C_towpathlaw01_TwinWrites l_ w R := by
  unfold F_towpathlaw01_TwinWrites at h
  unfold C_towpathlaw01_TwinWrites
  refine Calls.mono (calls_of_wpE (args := [Value.slice l_.ptr l_.len l_.cap]) (R := fun v w' => ∃ (r0 : Slc), v = Value.slice r0.ptr r0.len r0.cap ∧ R r0 w') Tryz.func121 (c := c121_0) (by kernel_rfl) 29 (by kernel_rfl) (by kernel_rfl) [(0, Value.slice l_.ptr l_.len l_.cap)] (by kernel_rfl) ?_) ?_
  · refine Zp c121_3 P1 [(0, .slice l_.ptr l_.len l_.cap)] ?_
    refine Zt r121_4 c121_6 ?_
    refine Zn P3 3 [(0, [], .slice l_.ptr l_.len l_.cap), (7, [], .int .i64 (IntKind.i64.wrap (((l_.len : Nat) : Int) + 1)))] ?_
    obtain ⟨h0, h1, h2, h⟩ := h
    refine reg_makeSlice (t := 50) (e := 139) (lo := (Operand.const (Value.int Go.IntKind.i64 0))) (co := (Operand.tmp 7)) (l := 0) (c := (IntKind.i64.wrap (((l_.len : Nat) : Int) + 1))) (sz := 3) (by_ := 40) (zs := [Value.string ByteArray.empty, Value.string ByteArray.empty, Value.bool false]) (ty := 50) (dst := some 8) (by kernel_rfl) (by kernel_rfl) (by kernel_rfl) (by kernel_rfl) (by kernel_rfl) (by kernel_rfl) (by kernel_rfl) (by kernel_rfl) (by kernel_rfl) h0 h1 h2 (fun b_ w1 hb hw => ?_)
    replace h := h b_ w1 hb hw
    clear hb hw
    refine Zf P1 [(0, .slice l_.ptr l_.len l_.cap), (3, .slice (some ⟨b_, 0, none⟩) 0 ((IntKind.i64.wrap (((l_.len : Nat) : Int) + 1)).toNat))] ?_
    change WpE _ _ c121_6 _ _ _
    refine Zs c121_7 c121_25 ?_
    refine Zp c121_10 P1 [(0, .slice l_.ptr l_.len l_.cap), (3, .slice (some ⟨b_, 0, none⟩) 0 ((IntKind.i64.wrap (((l_.len : Nat) : Int) + 1)).toNat)), (4, .int .i64 0)] ?_
    refine Zb 0 c121_11 ?_
    obtain ⟨I, μ, h0, hr⟩ := h
    refine wpE_loop (x := c121_12) (by kernel_rfl) (fun m l w => ∃ (t_ : Slc) (i : Int), l = [(0, Value.slice l_.ptr l_.len l_.cap), (3, Value.slice t_.ptr t_.len t_.cap), (4, Value.int .i64 i)] ∧ I t_ i w ∧ μ t_ i w = m) (l' := [(0, Value.slice l_.ptr l_.len l_.cap), (3, Value.slice (some ⟨b_, 0, none⟩) 0 ((IntKind.i64.wrap (((l_.len : Nat) : Int) + 1)).toNat)), (4, Value.int .i64 0)]) (Sub.mk (by kernel_rfl)) ⟨(Slc.mk (some ⟨b_, 0, none⟩) 0 ((IntKind.i64.wrap (((l_.len : Nat) : Int) + 1)).toNat)), 0, rfl, h0, rfl⟩ ?_
    rintro _ _ w2 ⟨t_, i, rfl, hI, rfl⟩
    obtain ⟨again_, again__h, h⟩ : ∃ again_ : Slc → Int → World → Prop, (∀ t_' i' w', again_ t_' i' w' → I t_' i' w' ∧ μ t_' i' w' < μ t_ i w2) ∧ F_towpathlaw01_TwinWrites_L0 l_ R again_ t_ i w2 := ⟨_, fun _ _ _ h => h, hr t_ i w2 hI⟩
    clear h0 hI
    unfold F_towpathlaw01_TwinWrites_L0 at h
    refine Zs c121_13 c121_19 ?_
    refine Zp c121_16 P4 [(0, .slice l_.ptr l_.len l_.cap), (3, .slice t_.ptr t_.len t_.cap), (4, .int .i64 i), (12, .bool (decide (i < ((l_.len : Nat) : Int))))] ?_
    refine Zc 12 (decide (i < ((l_.len : Nat) : Int))) c121_17 c121_18 (fun hb => ?_) (fun hb => ?_)
    · replace h := h.1 hb
      refine wpE_skip (by kernel_rfl) ?_
      change WpE _ _ c121_19 _ _ _
      refine Zs c121_20 c121_23 ?_
      refine Zb 1 c121_21 ?_
      refine Zr r121_21 ?_
      refine Zn P3 3 [(0, [], .slice l_.ptr l_.len l_.cap), (3, [], .slice t_.ptr t_.len t_.cap), (4, [], .int .i64 i), (15, [], .slice t_.ptr t_.len t_.cap), (16, [], .slice l_.ptr l_.len l_.cap), (17, [], .int .i64 i)] ?_
      obtain ⟨hp_3, h⟩ := h
      refine Zv (fun pp => [(0, [], .slice l_.ptr l_.len l_.cap), (3, [], .slice t_.ptr t_.len t_.cap), (4, [], .int .i64 i), (15, [], .slice t_.ptr t_.len t_.cap), (16, [], .slice pp l_.len l_.cap), (17, [], .int .i64 i)]) hp_3 ?_
      obtain ⟨h0, h1, h⟩ := h
      refine Zj 50 139 16 17 (pblk l_.ptr) (poff l_.ptr) l_.len l_.cap i 3 18 0 h0 h1 ?_
      refine Zn [] 4 [(0, [], .slice l_.ptr l_.len l_.cap), (3, [], .slice t_.ptr t_.len t_.cap), (4, [], .int .i64 i), (15, [], .slice t_.ptr t_.len t_.cap), (18, [], .pointer (some ⟨(pblk l_.ptr), (poff l_.ptr) + i.toNat * 3, none⟩))] ?_
      obtain ⟨v19, hc, h⟩ := h
      refine reg_loadN (t := 139) (a := (Operand.tmp 18)) (b := (pblk l_.ptr)) (o := ((poff l_.ptr) + i.toNat * 3)) (ty := 139) (dst := some 19) [Value.string v19.Key, Value.string v19.Val, Value.bool v19.Drop] (by kernel_rfl) (by kernel_rfl) (by kernel_rfl) (k := 3) (by kernel_rfl) (by kernel_rfl) hc ?_
      refine Zn [] 5 [(0, [], .slice l_.ptr l_.len l_.cap), (3, [], .slice t_.ptr t_.len t_.cap), (4, [], .int .i64 i), (15, [], .slice t_.ptr t_.len t_.cap), (19, [], .agg #[.string v19.Key, .string v19.Val, .bool v19.Drop])] ?_
      refine Zw (some 20) (fun bb => .slice (some ⟨bb, 0, none⟩) 1 1) (Obj.cells ([.string v19.Key, .string v19.Val, .bool v19.Drop]).toArray ty_api_Write (0, 0)) (fun b_1 w3 hb hw => ?_)
      replace h := h b_1 w3 hb hw
      clear hb hw
      refine Zn [] 6 [(0, [], .slice l_.ptr l_.len l_.cap), (3, [], .slice t_.ptr t_.len t_.cap), (4, [], .int .i64 i), (15, [], .slice t_.ptr t_.len t_.cap), (20, [], .slice (some ⟨b_1, 0, none⟩) 1 1)] ?_
      obtain ⟨src, hs, h⟩ := h
      refine reg_append (t := 50) (tx := 50) (e := 139) (a := (Operand.tmp 15)) (xo := (Operand.tmp 20)) (s := t_) (x := (Slc.mk (some ⟨b_1, 0, none⟩) 1 1)) (sz := 3) (by_ := 40) (zs := [Value.string ByteArray.empty, Value.string ByteArray.empty, Value.bool false]) (ty := 50) (dst := some 21)  src (by kernel_rfl) (by kernel_rfl) (by kernel_rfl) (by kernel_rfl) (by kernel_rfl) (by kernel_rfl) (by kernel_rfl) (by kernel_rfl) (by kernel_rfl) hs (AppendW.mono h (fun t_1 w4 h => ?_))
      refine Zf P1 [(0, .slice l_.ptr l_.len l_.cap), (3, .slice t_1.ptr t_1.len t_1.cap), (4, .int .i64 i)] ?_
      change WpE _ _ c121_23 _ _ _
      refine Zr r121_23 ?_
      refine Zf P3 [(0, .slice l_.ptr l_.len l_.cap), (3, .slice t_1.ptr t_1.len t_1.cap), (4, .int .i64 (IntKind.i64.wrap (i + 1)))] ?_
      have hb_ := again__h _ _ _ h
      exact ⟨_, hb_.2, [(0, Value.slice l_.ptr l_.len l_.cap), (3, Value.slice t_1.ptr t_1.len t_1.cap), (4, Value.int .i64 (IntKind.i64.wrap (i + 1)))], Sub.mk (by kernel_rfl), t_1, (IntKind.i64.wrap (i + 1)), rfl, hb_.1, rfl⟩
    · replace h := h.2 hb
      refine wpE_exit (id := 0) (by kernel_rfl) ?_
      change WpE _ _ c121_25 _ _ _
      refine Zt r121_26 c121_28 ?_
      refine Zn P2 2 [(0, [], .slice l_.ptr l_.len l_.cap), (22, [], .slice t_.ptr t_.len t_.cap), (23, [], .agg #[.string (ByteArray.mk #[115, 112, 97, 114, 101]), .string ByteArray.empty, .bool false])] ?_
      refine Zw (some 24) (fun bb => .slice (some ⟨bb, 0, none⟩) 1 1) (Obj.cells ([.string (ByteArray.mk #[115, 112, 97, 114, 101]), .string ByteArray.empty, .bool false]).toArray ty_api_Write (0, 0)) (fun b_2 w5 hb hw => ?_)
      replace h := h b_2 w5 hb hw
      clear hb hw
      refine Zn [] 3 [(0, [], .slice l_.ptr l_.len l_.cap), (22, [], .slice t_.ptr t_.len t_.cap), (24, [], .slice (some ⟨b_2, 0, none⟩) 1 1)] ?_
      obtain ⟨src, hs, h⟩ := h
      refine reg_append (t := 50) (tx := 50) (e := 139) (a := (Operand.tmp 22)) (xo := (Operand.tmp 24)) (s := t_) (x := (Slc.mk (some ⟨b_2, 0, none⟩) 1 1)) (sz := 3) (by_ := 40) (zs := [Value.string ByteArray.empty, Value.string ByteArray.empty, Value.bool false]) (ty := 50) (dst := some 25)  src (by kernel_rfl) (by kernel_rfl) (by kernel_rfl) (by kernel_rfl) (by kernel_rfl) (by kernel_rfl) (by kernel_rfl) (by kernel_rfl) (by kernel_rfl) hs (AppendW.mono h (fun v25 w6 h => ?_))
      refine Zn P2 6 [(25, [], .slice v25.ptr v25.len v25.cap), (27, [], .int .i64 ((l_.len : Nat) : Int))] ?_
      obtain ⟨h0, h1, h⟩ := h
      refine reg_sliceHi (t := 50) (e := 139) (x := (Operand.tmp 25)) (hi := (Operand.tmp 27)) (p := v25.ptr) (l := v25.len) (c := v25.cap) (sz := 3) (k := .i64) (j := ((l_.len : Nat) : Int)) (ty := 50) (dst := some 28) (by kernel_rfl) (by kernel_rfl) (by kernel_rfl) (by kernel_rfl) (by kernel_rfl) h0 h1 ?_
      refine Zf P1 [(2, .slice v25.ptr (((l_.len : Nat) : Int).toNat) v25.cap)] ?_
      change WpE _ _ c121_28 _ _ _
      refine wpE_ret (by kernel_rfl) ?_
      repeat (first | refine seqQ_ret ?_ | refine blockQ_ret ?_ | refine loopQ_ret ?_ | refine cutQ_ret ?_)
      exact retS (rs := [(ResultVar.tmp 2)]) (v := Value.slice v25.ptr (((l_.len : Nat) : Int).toNat) v25.cap) (by kernel_rfl) (⟨by kernel_rfl, trivial⟩) ⟨(Slc.mk v25.ptr (((l_.len : Nat) : Int).toNat) v25.cap), rfl, h⟩
  · rintro e w' ⟨v, rfl, r0, rfl, h⟩; exact ⟨r0, rfl, h⟩
end Go.Proofs.YtpdegdnigcnjiaaGreatDoor
