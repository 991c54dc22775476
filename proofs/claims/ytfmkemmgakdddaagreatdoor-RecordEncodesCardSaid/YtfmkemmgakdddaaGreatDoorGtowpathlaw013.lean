/- WRITTEN BY PROGRAM (dec.py): for each Go function the clean formula F, the call's contract C, and the proof S that F gives C. -/
import Derived.Test.YtfmkemmgakdddaaGreatDoorRows
import Derived.Test.YtfmkemmgakdddaaGreatDoorGF
namespace Go.Proofs.YtfmkemmgakdddaaGreatDoor
open Go
set_option linter.unusedVariables false
set_option maxRecDepth 100000
set_option maxHeartbeats 4000000

/-! ### (*towpath/towpathlaw01.Book).lookByte (function 55) -/
noncomputable def c55_0 := (Tryz.f55.body).getD Code.skip
noncomputable def c55_3 := Code.r c55_0
noncomputable def c55_4 := Code.l c55_3
noncomputable def c55_7 := Code.r c55_4
noncomputable def c55_8 := Code.l c55_7
noncomputable def c55_9 := Code.l c55_8
noncomputable def c55_10 := Code.l c55_9
noncomputable def c55_11 := Code.l c55_10
noncomputable def r55_11 := Code.ops c55_11
noncomputable def c55_13 := Code.r c55_10
noncomputable def c55_14 := Code.l c55_13
noncomputable def c55_15 := Code.r c55_13
noncomputable def c55_16 := Code.r c55_9
noncomputable def c55_17 := Code.l c55_16
noncomputable def c55_18 := Code.l c55_17
noncomputable def c55_19 := Code.l c55_18
noncomputable def r55_19 := Code.ops c55_19
noncomputable def c55_21 := Code.r c55_18
noncomputable def c55_22 := Code.l c55_21
noncomputable def c55_23 := Code.l c55_22
noncomputable def r55_23 := Code.ops c55_23
noncomputable def c55_25 := Code.r c55_22
noncomputable def c55_26 := Code.l c55_25
noncomputable def c55_29 := Code.r c55_26
noncomputable def c55_30 := Code.r c55_25
noncomputable def c55_31 := Code.r c55_21
noncomputable def c55_34 := Code.r c55_31
noncomputable def c55_35 := Code.l c55_34
noncomputable def c55_36 := Code.l c55_35
noncomputable def c55_37 := Code.l c55_36
noncomputable def c55_38 := Code.l c55_37
noncomputable def r55_38 := Code.ops c55_38
noncomputable def c55_40 := Code.r c55_37
noncomputable def c55_41 := Code.l c55_40
noncomputable def c55_42 := Code.r c55_40
noncomputable def c55_43 := Code.r c55_36
noncomputable def c55_44 := Code.l c55_43
noncomputable def c55_45 := Code.l c55_44
noncomputable def c55_46 := Code.l c55_45
noncomputable def r55_46 := Code.ops c55_46
noncomputable def c55_48 := Code.r c55_45
noncomputable def c55_49 := Code.l c55_48
noncomputable def c55_52 := Code.r c55_49
noncomputable def c55_53 := Code.r c55_48
noncomputable def c55_54 := Code.r c55_43
noncomputable def r55_54 := Code.ops c55_54
noncomputable def c55_56 := Code.r c55_16
noncomputable def r55_56 := Code.ops c55_56
noncomputable def c55_58 := Code.r c55_3
noncomputable def c55_61 := Code.r c55_58

theorem S_towpathlaw01_Book_lookByte {b_ : Option Addr} {w : World} {R : Bool → World → Prop} (h : F_towpathlaw01_Book_lookByte b_ R w) : C_towpathlaw01_Book_lookByte b_ w R := by
  unfold F_towpathlaw01_Book_lookByte at h
  unfold C_towpathlaw01_Book_lookByte
  refine Calls.mono (calls_of_wpE (args := [Value.pointer b_]) (R := fun v w' => ∃ (r0 : Bool), v = Value.bool r0 ∧ R r0 w') Tryz.func55 (c := c55_0) (by kernel_rfl) 64 (by kernel_rfl) (by kernel_rfl) [(0, Value.pointer b_)] (by kernel_rfl) ?_) ?_
  · refine Zp c55_3 P1 [(0, .pointer b_)] ?_
    refine Zs c55_4 c55_58 ?_
    refine Zp c55_7 P1 [(0, .pointer b_), (3, .int .i64 0)] ?_
    refine Zb 0 c55_8 ?_
    obtain ⟨I, μ, h0, hr⟩ := h
    refine wpE_loop (x := c55_9) (by kernel_rfl) (fun m l w => ∃ (i : Int), l = [(0, Value.pointer b_), (3, Value.int .i64 i)] ∧ I i w ∧ μ i w = m) (l' := [(0, Value.pointer b_), (3, Value.int .i64 0)]) (Sub.mk (by kernel_rfl)) ⟨0, rfl, h0, rfl⟩ ?_
    rintro _ _ w1 ⟨i, rfl, hI, rfl⟩
    obtain ⟨again_, again__h, h⟩ : ∃ again_ : Int → World → Prop, (∀ i' w', again_ i' w' → I i' w' ∧ μ i' w' < μ i w1) ∧ F_towpathlaw01_Book_lookByte_L0 b_ R again_ i w1 := ⟨_, fun _ _ h => h, hr i w1 hI⟩
    clear h0 hI
    unfold F_towpathlaw01_Book_lookByte_L0 at h
    refine Zs c55_10 c55_16 ?_
    refine Zt r55_11 c55_13 ?_
    refine Zn P2 2 [(0, [], .pointer b_), (3, [], .int .i64 i), (6, [], .int .i64 i), (7, [], .pointer b_)] ?_
    obtain ⟨hp_31, h⟩ := h
    refine Zv (fun pp => [(0, [], .pointer b_), (3, [], .int .i64 i), (6, [], .int .i64 i), (7, [], .pointer pp)]) hp_31 ?_
    refine Zn P1 3 [(0, [], .pointer b_), (3, [], .int .i64 i), (6, [], .int .i64 i), (7, [], .pointer (some ⟨(pblk b_), (poff b_), none⟩)), (8, [], .pointer (some ⟨(pblk b_), (poff b_), none⟩))] ?_
    refine Zn P1 4 [(0, [], .pointer b_), (3, [], .int .i64 i), (6, [], .int .i64 i), (9, [], .pointer (some ⟨(pblk b_), (poff b_) + 1, none⟩))] ?_
    obtain ⟨v10, hc, h⟩ := h
    refine Zl 37 9 (pblk b_) ((poff b_) + 1) 37 10 hc ?_
    refine Zf P2 [(0, .pointer b_), (3, .int .i64 i), (12, .bool (decide (i < ((v10.len : Nat) : Int))))] ?_
    change WpE _ _ c55_13 _ _ _
    refine Zc 12 (decide (i < ((v10.len : Nat) : Int))) c55_14 c55_15 (fun hb => ?_) (fun hb => ?_)
    · replace h := h.1 hb
      refine wpE_skip (by kernel_rfl) ?_
      change WpE _ _ c55_16 _ _ _
      refine Zs c55_17 c55_56 ?_
      refine Zb 1 c55_18 ?_
      refine Zt r55_19 c55_21 ?_
      refine Zn P1 1 [(0, [], .pointer b_), (3, [], .int .i64 i), (15, [], .pointer b_)] ?_
      obtain ⟨hp_46, h⟩ := h
      refine Zv (fun pp => [(0, [], .pointer b_), (3, [], .int .i64 i), (15, [], .pointer pp)]) hp_46 ?_
      refine Zn P1 2 [(0, [], .pointer b_), (3, [], .int .i64 i), (15, [], .pointer (some ⟨(pblk b_), (poff b_), none⟩)), (16, [], .pointer (some ⟨(pblk b_), (poff b_), none⟩))] ?_
      refine Zn P1 3 [(0, [], .pointer b_), (3, [], .int .i64 i), (17, [], .pointer (some ⟨(pblk b_), (poff b_) + 1, none⟩))] ?_
      obtain ⟨v18, hc, h⟩ := h
      refine Zl 37 17 (pblk b_) ((poff b_) + 1) 37 18 hc ?_
      refine Zn P1 5 [(0, [], .pointer b_), (3, [], .int .i64 i), (18, [], .slice v18.ptr v18.len v18.cap), (19, [], .int .i64 i)] ?_
      obtain ⟨hp_47, h⟩ := h
      refine Zv (fun pp => [(0, [], .pointer b_), (3, [], .int .i64 i), (18, [], .slice pp v18.len v18.cap), (19, [], .int .i64 i)]) hp_47 ?_
      obtain ⟨h0, h1, h⟩ := h
      refine Zj 37 81 18 19 (pblk v18.ptr) (poff v18.ptr) v18.len v18.cap i 3 20 0 h0 h1 ?_
      refine Zn [] 6 [(0, [], .pointer b_), (3, [], .int .i64 i), (20, [], .pointer (some ⟨(pblk v18.ptr), (poff v18.ptr) + i.toNat * 3, none⟩))] ?_
      obtain ⟨v21, hc, h⟩ := h
      refine reg_loadN (t := 81) (a := (Operand.tmp 20)) (b := (pblk v18.ptr)) (o := ((poff v18.ptr) + i.toNat * 3)) (ty := 81) (dst := some 21) [Value.slice v21.l.ptr v21.l.len v21.l.cap, Value.slice v21.long.ptr v21.long.len v21.long.cap, Value.int .i64 v21.n] (by kernel_rfl) (by kernel_rfl) (by kernel_rfl) (k := 3) (by kernel_rfl) (by kernel_rfl) hc ?_
      refine Zn [] 7 [(0, [], .pointer b_), (3, [], .int .i64 i), (21, [], .agg #[.slice v21.l.ptr v21.l.len v21.l.cap, .slice v21.long.ptr v21.long.len v21.long.cap, .int .i64 v21.n])] ?_
      refine Zw (some 4) (fun bb => .pointer (some ⟨bb, 0, none⟩)) (Obj.cells ([.slice none 0 0, .slice none 0 0, .int .i64 0]).toArray ty_towpathlaw01_heldByte (0, 0)) (fun b_1 w2 hb hw => ?_)
      replace h := h b_1 w2 hb hw
      clear hb hw
      refine Zn [] 8 [(0, [], .pointer b_), (3, [], .int .i64 i), (4, [], .pointer (some ⟨b_1, 0, none⟩)), (21, [], .agg #[.slice v21.l.ptr v21.l.len v21.l.cap, .slice v21.long.ptr v21.long.len v21.long.cap, .int .i64 v21.n])] ?_
      obtain ⟨hc, h⟩ := h
      refine Zo 81 4 21 b_1 0 3 [.slice v21.l.ptr v21.l.len v21.l.cap, .slice v21.long.ptr v21.long.len v21.long.cap, .int .i64 v21.n] hc (fun w3 hw => ?_)
      replace h := h w3 hw
      clear hw
      refine Ze [(0, .pointer b_), (3, .int .i64 i), (4, .pointer (some ⟨b_1, 0, none⟩))] ?_
      change WpE _ _ c55_21 _ _ _
      refine Zs c55_22 c55_31 ?_
      refine Zt r55_23 c55_25 ?_
      refine Zn P1 1 [(0, [], .pointer b_), (3, [], .int .i64 i), (4, [], .pointer (some ⟨b_1, 0, none⟩)), (22, [], .pointer (some ⟨b_1, 1, none⟩))] ?_
      obtain ⟨v23, hc, h⟩ := h
      refine Zl 28 22 b_1 1 28 23 hc ?_
      refine Zn P2 4 [(0, [], .pointer b_), (3, [], .int .i64 i), (4, [], .pointer (some ⟨b_1, 0, none⟩)), (24, [], .int .i64 ((v23.len : Nat) : Int)), (25, [], .pointer (some ⟨b_1, 0, none⟩))] ?_
      obtain ⟨v26, hc, h⟩ := h
      refine Zl 28 25 b_1 0 28 26 hc ?_
      refine Zf P3 [(0, .pointer b_), (3, .int .i64 i), (4, .pointer (some ⟨b_1, 0, none⟩)), (29, .bool (((v23.len : Nat) : Int) != (IntKind.i64.wrap (((v26.len : Nat) : Int) + 70))))] ?_
      change WpE _ _ c55_25 _ _ _
      refine Zc 29 (((v23.len : Nat) : Int) != (IntKind.i64.wrap (((v26.len : Nat) : Int) + 70))) c55_26 c55_30 (fun hb => ?_) (fun hb => ?_)
      · replace h := h.1 hb
        refine Zp c55_29 P1 [(2, .bool false)] ?_
        refine wpE_ret (by kernel_rfl) ?_
        repeat (first | refine seqQ_ret ?_ | refine blockQ_ret ?_ | refine loopQ_ret ?_ | refine cutQ_ret ?_)
        exact retS (rs := [(ResultVar.tmp 2)]) (v := Value.bool false) (by kernel_rfl) (⟨by kernel_rfl, trivial⟩) ⟨false, rfl, h⟩
      · replace h := h.2 hb
        refine wpE_skip (by kernel_rfl) ?_
        change WpE _ _ c55_31 _ _ _
        refine Zp c55_34 P1 [(0, .pointer b_), (3, .int .i64 i), (4, .pointer (some ⟨b_1, 0, none⟩)), (5, .int .i64 0)] ?_
        refine Zb 2 c55_35 ?_
        obtain ⟨I, μ, h0, hr⟩ := h
        refine wpE_loop (x := c55_36) (by kernel_rfl) (fun m l w => ∃ (k : Int), l = [(0, Value.pointer b_), (3, Value.int .i64 i), (4, Value.pointer (some ⟨b_1, 0, none⟩)), (5, Value.int .i64 k)] ∧ I k w ∧ μ k w = m) (l' := [(0, Value.pointer b_), (3, Value.int .i64 i), (4, Value.pointer (some ⟨b_1, 0, none⟩)), (5, Value.int .i64 0)]) (Sub.mk (by kernel_rfl)) ⟨0, rfl, h0, rfl⟩ ?_
        rintro _ _ w4 ⟨k, rfl, hI, rfl⟩
        obtain ⟨again_1, again_1_h, h⟩ : ∃ again_1 : Int → World → Prop, (∀ k' w', again_1 k' w' → I k' w' ∧ μ k' w' < μ k w4) ∧ F_towpathlaw01_Book_lookByte_L1 R i again_ b_1 again_1 k w4 := ⟨_, fun _ _ h => h, hr k w4 hI⟩
        clear h0 hI
        unfold F_towpathlaw01_Book_lookByte_L1 at h
        refine Zs c55_37 c55_43 ?_
        refine Zt r55_38 c55_40 ?_
        refine Zn P2 2 [(0, [], .pointer b_), (3, [], .int .i64 i), (4, [], .pointer (some ⟨b_1, 0, none⟩)), (5, [], .int .i64 k), (30, [], .int .i64 k), (31, [], .pointer (some ⟨b_1, 1, none⟩))] ?_
        obtain ⟨v32, hc, h⟩ := h
        refine Zl 28 31 b_1 1 28 32 hc ?_
        refine Zf P2 [(0, .pointer b_), (3, .int .i64 i), (4, .pointer (some ⟨b_1, 0, none⟩)), (5, .int .i64 k), (34, .bool (decide (k < ((v32.len : Nat) : Int))))] ?_
        change WpE _ _ c55_40 _ _ _
        refine Zc 34 (decide (k < ((v32.len : Nat) : Int))) c55_41 c55_42 (fun hb => ?_) (fun hb => ?_)
        · replace h := h.1 hb
          refine wpE_skip (by kernel_rfl) ?_
          change WpE _ _ c55_43 _ _ _
          refine Zs c55_44 c55_54 ?_
          refine Zb 3 c55_45 ?_
          refine wpE_seq_cut (x := c55_46) (y := c55_48) (by kernel_rfl) (fun l w => ∃ (t63 : Bool), l = [(0, Value.pointer b_), (3, Value.int .i64 i), (4, Value.pointer (some ⟨b_1, 0, none⟩)), (5, Value.int .i64 k), (63, Value.bool t63)] ∧ F_towpathlaw01_Book_lookByte_k2 R k again_1 t63 w) ?_ ?_
          · refine wpE_drawregion (id := 10) (ops := r55_46) (by kernel_rfl) (by kernel_rfl) (by kernel_rfl) ?_
            refine qreg_run P1 1 [(0, [], Value.pointer b_), (3, [], Value.int .i64 i), (4, [], Value.pointer (some ⟨b_1, 0, none⟩)), (5, [], Value.int .i64 k), (37, [], Value.pointer (some ⟨b_1, 1, none⟩))] (by kernel_rfl) (by kernel_rfl) ?_
            obtain ⟨v38, hc, h⟩ := h
            refine qreg_load1 (t := 28) (a := (Operand.tmp 37)) (b := b_1) (o := 1) (ty := 28) (dst := some 38) (by kernel_rfl) (by kernel_rfl) (by kernel_rfl) hc ?_
            refine qreg_run P1 3 [(0, [], Value.pointer b_), (3, [], Value.int .i64 i), (4, [], Value.pointer (some ⟨b_1, 0, none⟩)), (5, [], Value.int .i64 k), (38, [], Value.slice v38.ptr v38.len v38.cap), (39, [], Value.int .i64 k)] (by kernel_rfl) (by kernel_rfl) ?_
            obtain ⟨hp_54, h⟩ := h
            refine qreg_conv [(0, [], Value.pointer b_), (3, [], Value.int .i64 i), (4, [], Value.pointer (some ⟨b_1, 0, none⟩)), (5, [], Value.int .i64 k), (38, [], Value.slice (some ⟨(pblk v38.ptr), (poff v38.ptr), none⟩) v38.len v38.cap), (39, [], Value.int .i64 k)] (congrArg (fun pp => ([(0, [], Value.pointer b_), (3, [], Value.int .i64 i), (4, [], Value.pointer (some ⟨b_1, 0, none⟩)), (5, [], Value.int .i64 k), (38, [], Value.slice pp v38.len v38.cap), (39, [], Value.int .i64 k)] : GEnv)) hp_54) ?_
            obtain ⟨h0, h1, h⟩ := h
            refine qreg_indexS1 (t := 28) (e := 5) (x := (Operand.tmp 38)) (ix := (Operand.tmp 39)) (b := (pblk v38.ptr)) (o := (poff v38.ptr)) (l := v38.len) (c := v38.cap) (k := .i64) (j := k) (ty := 0) (dst := some 40) (by kernel_rfl) (by kernel_rfl) (by kernel_rfl) (by kernel_rfl) (by kernel_rfl) h0 h1 ?_
            refine qreg_run [] 4 [(0, [], Value.pointer b_), (3, [], Value.int .i64 i), (4, [], Value.pointer (some ⟨b_1, 0, none⟩)), (5, [], Value.int .i64 k), (40, [], Value.pointer (some ⟨(pblk v38.ptr), (poff v38.ptr) + k.toNat, none⟩))] (by kernel_rfl) (by kernel_rfl) ?_
            obtain ⟨v41, hc, h⟩ := h
            refine qreg_load1 (t := 5) (a := (Operand.tmp 40)) (b := (pblk v38.ptr)) (o := ((poff v38.ptr) + k.toNat)) (ty := 5) (dst := some 41) (by kernel_rfl) (by kernel_rfl) (by kernel_rfl) hc ?_
            refine qreg_run P1 6 [(0, [], Value.pointer b_), (3, [], Value.int .i64 i), (4, [], Value.pointer (some ⟨b_1, 0, none⟩)), (5, [], Value.int .i64 k), (41, [], Value.int .u8 v41), (42, [], Value.pointer (some ⟨b_1, 2, none⟩))] (by kernel_rfl) (by kernel_rfl) ?_
            obtain ⟨v43, hc, h⟩ := h
            refine qreg_load1 (t := 3) (a := (Operand.tmp 42)) (b := b_1) (o := 2) (ty := 3) (dst := some 43) (by kernel_rfl) (by kernel_rfl) (by kernel_rfl) hc ?_
            refine qreg_run [] 7 [(0, [], Value.pointer b_), (3, [], Value.int .i64 i), (4, [], Value.pointer (some ⟨b_1, 0, none⟩)), (5, [], Value.int .i64 k), (41, [], Value.int .u8 v41), (43, [], Value.int .i64 v43)] (by kernel_rfl) (by kernel_rfl) ?_
            obtain ⟨v44, hq, h⟩ := h
            refine qreg_enter (op := (Op.call (Call.mk (Callee.value (Operand.func 83)) #[(Operand.tmp 41), (Operand.tmp 43)] #[5, 3]))) (ty := 4) (dst := some 44) 83 #[Value.int .u8 v41, Value.int .i64 v43] (Value.bool v44) (by kernel_rfl) (fun ww => by kernel_rfl) (fun w' he => Calls.mono (hq w' he) (by rintro _ w'' ⟨_, rfl, rfl, hE⟩; exact ⟨rfl, hE⟩)) ?_
            clear hq
            refine qreg_run P4 12 [(0, [], Value.pointer b_), (3, [], Value.int .i64 i), (4, [], Value.pointer (some ⟨b_1, 0, none⟩)), (5, [], Value.int .i64 k), (46, [], Value.bool (!v44)), (47, [(46, false)], Value.int .i64 k), (48, [(46, false)], Value.pointer (some ⟨b_1, 0, none⟩))] (by kernel_rfl) (by kernel_rfl) ?_
            refine qreg_split 46 (!v44) (by kernel_rfl) (fun hb => ?_) (fun hb => ?_)
            · replace h := h.1 hb
              refine qreg_run [] 12 [(0, [], Value.pointer b_), (3, [], Value.int .i64 i), (4, [], Value.pointer (some ⟨b_1, 0, none⟩)), (5, [], Value.int .i64 k), (46, [], Value.bool true), (47, [], undef), (48, [], undef)] (by kernel_rfl) (by kernel_rfl) ?_
              refine qreg_run [.skip, .skip, .skip, .skip, .skip, .skip, .skip, .skip, .skip, .skip, .skip, .skip, .skip, .skip, .plain] 27 [(0, [], Value.pointer b_), (3, [], Value.int .i64 i), (4, [], Value.pointer (some ⟨b_1, 0, none⟩)), (5, [], Value.int .i64 k), (63, [], Value.bool true)] (by kernel_rfl) (by kernel_rfl) ?_
              refine qreg_end [(0, Value.pointer b_), (3, Value.int .i64 i), (4, Value.pointer (some ⟨b_1, 0, none⟩)), (5, Value.int .i64 k), (63, Value.bool true)] (by kernel_rfl) (by kernel_rfl) (fun w7 hw => ?_)
              replace h := h w7 hw
              clear hw
              exact ⟨[(0, Value.pointer b_), (3, Value.int .i64 i), (4, Value.pointer (some ⟨b_1, 0, none⟩)), (5, Value.int .i64 k), (63, Value.bool true)], Sub.mk (by kernel_rfl), true, rfl, h⟩
            · replace h := h.2 hb
              refine qreg_run [] 12 [(0, [], Value.pointer b_), (3, [], Value.int .i64 i), (4, [], Value.pointer (some ⟨b_1, 0, none⟩)), (5, [], Value.int .i64 k), (46, [], Value.bool false), (47, [], Value.int .i64 k), (48, [], Value.pointer (some ⟨b_1, 0, none⟩))] (by kernel_rfl) (by kernel_rfl) ?_
              refine qreg_run [] 12 [(0, [], Value.pointer b_), (3, [], Value.int .i64 i), (4, [], Value.pointer (some ⟨b_1, 0, none⟩)), (5, [], Value.int .i64 k), (46, [], Value.bool false), (47, [], Value.int .i64 k), (48, [], Value.pointer (some ⟨b_1, 0, none⟩))] (by kernel_rfl) (by kernel_rfl) ?_
              obtain ⟨v49, hc, h⟩ := h
              refine qreg_load1 (t := 28) (a := (Operand.tmp 48)) (b := b_1) (o := 0) (ty := 28) (dst := some 49) (by kernel_rfl) (by kernel_rfl) (by kernel_rfl) hc ?_
              refine qreg_run [.sure, .sure, .sure, .plain] 17 [(0, [], Value.pointer b_), (3, [], Value.int .i64 i), (4, [], Value.pointer (some ⟨b_1, 0, none⟩)), (5, [], Value.int .i64 k), (46, [], Value.bool false), (52, [], Value.bool (decide (k < ((v49.len : Nat) : Int)))), (53, [(52, true)], Value.pointer (some ⟨b_1, 0, none⟩))] (by kernel_rfl) (by kernel_rfl) ?_
              refine qreg_split 52 (decide (k < ((v49.len : Nat) : Int))) (by kernel_rfl) (fun hb => ?_) (fun hb => ?_)
              · replace h := h.1 hb
                refine qreg_run [] 17 [(0, [], Value.pointer b_), (3, [], Value.int .i64 i), (4, [], Value.pointer (some ⟨b_1, 0, none⟩)), (5, [], Value.int .i64 k), (46, [], Value.bool false), (52, [], Value.bool true), (53, [], Value.pointer (some ⟨b_1, 0, none⟩))] (by kernel_rfl) (by kernel_rfl) ?_
                refine qreg_run [] 17 [(0, [], Value.pointer b_), (3, [], Value.int .i64 i), (4, [], Value.pointer (some ⟨b_1, 0, none⟩)), (5, [], Value.int .i64 k), (46, [], Value.bool false), (52, [], Value.bool true), (53, [], Value.pointer (some ⟨b_1, 0, none⟩))] (by kernel_rfl) (by kernel_rfl) ?_
                obtain ⟨v54, hc, h⟩ := h
                refine qreg_load1 (t := 28) (a := (Operand.tmp 53)) (b := b_1) (o := 0) (ty := 28) (dst := some 54) (by kernel_rfl) (by kernel_rfl) (by kernel_rfl) hc ?_
                refine qreg_run [.sure] 19 [(0, [], Value.pointer b_), (3, [], Value.int .i64 i), (4, [], Value.pointer (some ⟨b_1, 0, none⟩)), (5, [], Value.int .i64 k), (46, [], Value.bool false), (52, [], Value.bool true), (54, [], Value.slice v54.ptr v54.len v54.cap), (55, [], Value.int .i64 k)] (by kernel_rfl) (by kernel_rfl) ?_
                obtain ⟨hp_55, h⟩ := h
                refine qreg_conv [(0, [], Value.pointer b_), (3, [], Value.int .i64 i), (4, [], Value.pointer (some ⟨b_1, 0, none⟩)), (5, [], Value.int .i64 k), (46, [], Value.bool false), (52, [], Value.bool true), (54, [], Value.slice (some ⟨(pblk v54.ptr), (poff v54.ptr), none⟩) v54.len v54.cap), (55, [], Value.int .i64 k)] (congrArg (fun pp => ([(0, [], Value.pointer b_), (3, [], Value.int .i64 i), (4, [], Value.pointer (some ⟨b_1, 0, none⟩)), (5, [], Value.int .i64 k), (46, [], Value.bool false), (52, [], Value.bool true), (54, [], Value.slice pp v54.len v54.cap), (55, [], Value.int .i64 k)] : GEnv)) hp_55) ?_
                obtain ⟨h0, h1, h⟩ := h
                refine qreg_indexS1 (t := 28) (e := 5) (x := (Operand.tmp 54)) (ix := (Operand.tmp 55)) (b := (pblk v54.ptr)) (o := (poff v54.ptr)) (l := v54.len) (c := v54.cap) (k := .i64) (j := k) (ty := 0) (dst := some 56) (by kernel_rfl) (by kernel_rfl) (by kernel_rfl) (by kernel_rfl) (by kernel_rfl) h0 h1 ?_
                refine qreg_run [] 20 [(0, [], Value.pointer b_), (3, [], Value.int .i64 i), (4, [], Value.pointer (some ⟨b_1, 0, none⟩)), (5, [], Value.int .i64 k), (46, [], Value.bool false), (52, [], Value.bool true), (56, [], Value.pointer (some ⟨(pblk v54.ptr), (poff v54.ptr) + k.toNat, none⟩))] (by kernel_rfl) (by kernel_rfl) ?_
                obtain ⟨v57, hc, h⟩ := h
                refine qreg_load1 (t := 5) (a := (Operand.tmp 56)) (b := (pblk v54.ptr)) (o := ((poff v54.ptr) + k.toNat)) (ty := 5) (dst := some 57) (by kernel_rfl) (by kernel_rfl) (by kernel_rfl) hc ?_
                refine qreg_run [.sure] 22 [(0, [], Value.pointer b_), (3, [], Value.int .i64 i), (4, [], Value.pointer (some ⟨b_1, 0, none⟩)), (5, [], Value.int .i64 k), (46, [], Value.bool false), (52, [], Value.bool true), (57, [], Value.int .u8 v57), (58, [], Value.pointer (some ⟨b_1, 2, none⟩))] (by kernel_rfl) (by kernel_rfl) ?_
                obtain ⟨v59, hc, h⟩ := h
                refine qreg_load1 (t := 3) (a := (Operand.tmp 58)) (b := b_1) (o := 2) (ty := 3) (dst := some 59) (by kernel_rfl) (by kernel_rfl) (by kernel_rfl) hc ?_
                refine qreg_run [] 23 [(0, [], Value.pointer b_), (3, [], Value.int .i64 i), (4, [], Value.pointer (some ⟨b_1, 0, none⟩)), (5, [], Value.int .i64 k), (46, [], Value.bool false), (52, [], Value.bool true), (57, [], Value.int .u8 v57), (59, [], Value.int .i64 v59)] (by kernel_rfl) (by kernel_rfl) ?_
                obtain ⟨v60, hq, h⟩ := h
                refine qreg_enter (op := (Op.call (Call.mk (Callee.value (Operand.func 83)) #[(Operand.tmp 57), (Operand.tmp 59)] #[5, 3]))) (ty := 4) (dst := some 60) 83 #[Value.int .u8 v57, Value.int .i64 v59] (Value.bool v60) (by kernel_rfl) (fun ww => by kernel_rfl) (fun w' he => Calls.mono (hq w' he) (by rintro _ w'' ⟨_, rfl, rfl, hE⟩; exact ⟨rfl, hE⟩)) ?_
                clear hq
                refine qreg_run [.sure, .sure, .plain] 27 [(0, [], Value.pointer b_), (3, [], Value.int .i64 i), (4, [], Value.pointer (some ⟨b_1, 0, none⟩)), (5, [], Value.int .i64 k), (63, [], Value.bool (!v60))] (by kernel_rfl) (by kernel_rfl) ?_
                refine qreg_end [(0, Value.pointer b_), (3, Value.int .i64 i), (4, Value.pointer (some ⟨b_1, 0, none⟩)), (5, Value.int .i64 k), (63, Value.bool (!v60))] (by kernel_rfl) (by kernel_rfl) (fun w9 hw => ?_)
                replace h := h w9 hw
                clear hw
                exact ⟨[(0, Value.pointer b_), (3, Value.int .i64 i), (4, Value.pointer (some ⟨b_1, 0, none⟩)), (5, Value.int .i64 k), (63, Value.bool (!v60))], Sub.mk (by kernel_rfl), (!v60), rfl, h⟩
              · replace h := h.2 hb
                refine qreg_run [] 17 [(0, [], Value.pointer b_), (3, [], Value.int .i64 i), (4, [], Value.pointer (some ⟨b_1, 0, none⟩)), (5, [], Value.int .i64 k), (46, [], Value.bool false), (52, [], Value.bool false), (53, [], undef)] (by kernel_rfl) (by kernel_rfl) ?_
                refine qreg_run [.skip, .skip, .skip, .skip, .skip, .skip, .skip, .skip, .sure, .plain] 27 [(0, [], Value.pointer b_), (3, [], Value.int .i64 i), (4, [], Value.pointer (some ⟨b_1, 0, none⟩)), (5, [], Value.int .i64 k), (63, [], Value.bool false)] (by kernel_rfl) (by kernel_rfl) ?_
                refine qreg_end [(0, Value.pointer b_), (3, Value.int .i64 i), (4, Value.pointer (some ⟨b_1, 0, none⟩)), (5, Value.int .i64 k), (63, Value.bool false)] (by kernel_rfl) (by kernel_rfl) (fun w10 hw => ?_)
                replace h := h w10 hw
                clear hw
                exact ⟨[(0, Value.pointer b_), (3, Value.int .i64 i), (4, Value.pointer (some ⟨b_1, 0, none⟩)), (5, Value.int .i64 k), (63, Value.bool false)], Sub.mk (by kernel_rfl), false, rfl, h⟩
          · rintro _ w5 ⟨t63, rfl, h⟩
            unfold F_towpathlaw01_Book_lookByte_k2 at h
            refine Zc 63 t63 c55_49 c55_53 (fun hb => ?_) (fun hb => ?_)
            · replace h := h.1 hb
              refine Zp c55_52 P1 [(2, .bool false)] ?_
              refine wpE_ret (by kernel_rfl) ?_
              repeat (first | refine seqQ_ret ?_ | refine blockQ_ret ?_ | refine loopQ_ret ?_ | refine cutQ_ret ?_)
              exact retS (rs := [(ResultVar.tmp 2)]) (v := Value.bool false) (by kernel_rfl) (⟨by kernel_rfl, trivial⟩) ⟨false, rfl, h⟩
            · replace h := h.2 hb
              refine wpE_skip (by kernel_rfl) ?_
              change WpE _ _ c55_54 _ _ _
              refine Zr r55_54 ?_
              refine Zf P3 [(0, .pointer b_), (3, .int .i64 i), (4, .pointer (some ⟨b_1, 0, none⟩)), (5, .int .i64 (IntKind.i64.wrap (k + 1)))] ?_
              have hb_ := again_1_h _ _ h
              exact ⟨_, hb_.2, [(0, Value.pointer b_), (3, Value.int .i64 i), (4, Value.pointer (some ⟨b_1, 0, none⟩)), (5, Value.int .i64 (IntKind.i64.wrap (k + 1)))], Sub.mk (by kernel_rfl), (IntKind.i64.wrap (k + 1)), rfl, hb_.1, rfl⟩
        · replace h := h.2 hb
          refine wpE_exit (id := 2) (by kernel_rfl) ?_
          change WpE _ _ c55_56 _ _ _
          refine Zr r55_56 ?_
          refine Zf P3 [(0, .pointer b_), (3, .int .i64 (IntKind.i64.wrap (i + 1)))] ?_
          have hb_ := again__h _ _ h
          exact ⟨_, hb_.2, [(0, Value.pointer b_), (3, Value.int .i64 (IntKind.i64.wrap (i + 1)))], Sub.mk (by kernel_rfl), (IntKind.i64.wrap (i + 1)), rfl, hb_.1, rfl⟩
    · replace h := h.2 hb
      refine wpE_exit (id := 0) (by kernel_rfl) ?_
      change WpE _ _ c55_58 _ _ _
      refine Zp c55_61 P1 [(2, .bool true)] ?_
      refine wpE_ret (by kernel_rfl) ?_
      repeat (first | refine seqQ_ret ?_ | refine blockQ_ret ?_ | refine loopQ_ret ?_ | refine cutQ_ret ?_)
      exact retS (rs := [(ResultVar.tmp 2)]) (v := Value.bool true) (by kernel_rfl) (⟨by kernel_rfl, trivial⟩) ⟨true, rfl, h⟩
  · rintro e w' ⟨v, rfl, r0, rfl, h⟩; exact ⟨r0, rfl, h⟩

/-! ### (*towpath/towpathlaw01.Book).lookInt (function 56) -/
noncomputable def c56_0 := (Tryz.f56.body).getD Code.skip
noncomputable def c56_3 := Code.r c56_0
noncomputable def c56_4 := Code.l c56_3
noncomputable def c56_7 := Code.r c56_4
noncomputable def c56_8 := Code.l c56_7
noncomputable def c56_9 := Code.l c56_8
noncomputable def c56_10 := Code.l c56_9
noncomputable def c56_11 := Code.l c56_10
noncomputable def r56_11 := Code.ops c56_11
noncomputable def c56_13 := Code.r c56_10
noncomputable def c56_14 := Code.l c56_13
noncomputable def c56_15 := Code.r c56_13
noncomputable def c56_16 := Code.r c56_9
noncomputable def c56_58 := Code.r c56_3
noncomputable def c56_61 := Code.r c56_58

theorem S_towpathlaw01_Book_lookInt {b_ : Option Addr} {w : World} {R : Bool → World → Prop} (h : F_towpathlaw01_Book_lookInt b_ R w) : C_towpathlaw01_Book_lookInt b_ w R := by
  unfold F_towpathlaw01_Book_lookInt at h
  unfold C_towpathlaw01_Book_lookInt
  refine Calls.mono (calls_of_wpE (args := [Value.pointer b_]) (R := fun v w' => ∃ (r0 : Bool), v = Value.bool r0 ∧ R r0 w') Tryz.func56 (c := c56_0) (by kernel_rfl) 64 (by kernel_rfl) (by kernel_rfl) [(0, Value.pointer b_)] (by kernel_rfl) ?_) ?_
  · refine Zp c56_3 P1 [(0, .pointer b_)] ?_
    refine Zs c56_4 c56_58 ?_
    refine Zp c56_7 P1 [(0, .pointer b_), (3, .int .i64 0)] ?_
    refine Zb 0 c56_8 ?_
    obtain ⟨I, μ, h0, hr⟩ := h
    refine wpE_loop (x := c56_9) (by kernel_rfl) (fun m l w => ∃ (i : Int), l = [(0, Value.pointer b_), (3, Value.int .i64 i)] ∧ I i w ∧ μ i w = m) (l' := [(0, Value.pointer b_), (3, Value.int .i64 0)]) (Sub.mk (by kernel_rfl)) ⟨0, rfl, h0, rfl⟩ ?_
    rintro _ _ w1 ⟨i, rfl, hI, rfl⟩
    obtain ⟨again_, again__h, h⟩ : ∃ again_ : Int → World → Prop, (∀ i' w', again_ i' w' → I i' w' ∧ μ i' w' < μ i w1) ∧ F_towpathlaw01_Book_lookInt_L0 b_ R again_ i w1 := ⟨_, fun _ _ h => h, hr i w1 hI⟩
    clear h0 hI
    unfold F_towpathlaw01_Book_lookInt_L0 at h
    refine Zs c56_10 c56_16 ?_
    refine Zt r56_11 c56_13 ?_
    refine Zn P2 2 [(0, [], .pointer b_), (3, [], .int .i64 i), (6, [], .int .i64 i), (7, [], .pointer b_)] ?_
    obtain ⟨hp_7, h⟩ := h
    refine Zv (fun pp => [(0, [], .pointer b_), (3, [], .int .i64 i), (6, [], .int .i64 i), (7, [], .pointer pp)]) hp_7 ?_
    refine Zn P1 3 [(0, [], .pointer b_), (3, [], .int .i64 i), (6, [], .int .i64 i), (7, [], .pointer (some ⟨(pblk b_), (poff b_), none⟩)), (8, [], .pointer (some ⟨(pblk b_), (poff b_), none⟩))] ?_
    refine Zn P1 4 [(0, [], .pointer b_), (3, [], .int .i64 i), (6, [], .int .i64 i), (9, [], .pointer (some ⟨(pblk b_), (poff b_) + 2, none⟩))] ?_
    obtain ⟨v10, hc, h⟩ := h
    refine Zl 38 9 (pblk b_) ((poff b_) + 2) 38 10 hc ?_
    refine Zf P2 [(0, .pointer b_), (3, .int .i64 i), (12, .bool (decide (i < ((v10.len : Nat) : Int))))] ?_
    change WpE _ _ c56_13 _ _ _
    refine Zc 12 (decide (i < ((v10.len : Nat) : Int))) c56_14 c56_15 (fun hb => ?_) (fun hb => ?_)
    · replace h := h.1 hb
      exact h.elim
    · replace h := h.2 hb
      refine wpE_exit (id := 0) (by kernel_rfl) ?_
      change WpE _ _ c56_58 _ _ _
      refine Zp c56_61 P1 [(2, .bool true)] ?_
      refine wpE_ret (by kernel_rfl) ?_
      repeat (first | refine seqQ_ret ?_ | refine blockQ_ret ?_ | refine loopQ_ret ?_ | refine cutQ_ret ?_)
      exact retS (rs := [(ResultVar.tmp 2)]) (v := Value.bool true) (by kernel_rfl) (⟨by kernel_rfl, trivial⟩) ⟨true, rfl, h⟩
  · rintro e w' ⟨v, rfl, r0, rfl, h⟩; exact ⟨r0, rfl, h⟩

/-! ### (*towpath/towpathlaw01.Book).lookText (function 57) -/
noncomputable def c57_0 := (Tryz.f57.body).getD Code.skip
noncomputable def c57_3 := Code.r c57_0
noncomputable def c57_4 := Code.l c57_3
noncomputable def c57_7 := Code.r c57_4
noncomputable def c57_8 := Code.l c57_7
noncomputable def c57_9 := Code.l c57_8
noncomputable def c57_10 := Code.l c57_9
noncomputable def c57_11 := Code.l c57_10
noncomputable def r57_11 := Code.ops c57_11
noncomputable def c57_13 := Code.r c57_10
noncomputable def c57_14 := Code.l c57_13
noncomputable def c57_15 := Code.r c57_13
noncomputable def c57_16 := Code.r c57_9
noncomputable def c57_58 := Code.r c57_3
noncomputable def c57_61 := Code.r c57_58

theorem S_towpathlaw01_Book_lookText {b_ : Option Addr} {w : World} {R : Bool → World → Prop} (h : F_towpathlaw01_Book_lookText b_ R w) : C_towpathlaw01_Book_lookText b_ w R := by
  unfold F_towpathlaw01_Book_lookText at h
  unfold C_towpathlaw01_Book_lookText
  refine Calls.mono (calls_of_wpE (args := [Value.pointer b_]) (R := fun v w' => ∃ (r0 : Bool), v = Value.bool r0 ∧ R r0 w') Tryz.func57 (c := c57_0) (by kernel_rfl) 64 (by kernel_rfl) (by kernel_rfl) [(0, Value.pointer b_)] (by kernel_rfl) ?_) ?_
  · refine Zp c57_3 P1 [(0, .pointer b_)] ?_
    refine Zs c57_4 c57_58 ?_
    refine Zp c57_7 P1 [(0, .pointer b_), (3, .int .i64 0)] ?_
    refine Zb 0 c57_8 ?_
    obtain ⟨I, μ, h0, hr⟩ := h
    refine wpE_loop (x := c57_9) (by kernel_rfl) (fun m l w => ∃ (i : Int), l = [(0, Value.pointer b_), (3, Value.int .i64 i)] ∧ I i w ∧ μ i w = m) (l' := [(0, Value.pointer b_), (3, Value.int .i64 0)]) (Sub.mk (by kernel_rfl)) ⟨0, rfl, h0, rfl⟩ ?_
    rintro _ _ w1 ⟨i, rfl, hI, rfl⟩
    obtain ⟨again_, again__h, h⟩ : ∃ again_ : Int → World → Prop, (∀ i' w', again_ i' w' → I i' w' ∧ μ i' w' < μ i w1) ∧ F_towpathlaw01_Book_lookText_L0 b_ R again_ i w1 := ⟨_, fun _ _ h => h, hr i w1 hI⟩
    clear h0 hI
    unfold F_towpathlaw01_Book_lookText_L0 at h
    refine Zs c57_10 c57_16 ?_
    refine Zt r57_11 c57_13 ?_
    refine Zn P2 2 [(0, [], .pointer b_), (3, [], .int .i64 i), (6, [], .int .i64 i), (7, [], .pointer b_)] ?_
    obtain ⟨hp_7, h⟩ := h
    refine Zv (fun pp => [(0, [], .pointer b_), (3, [], .int .i64 i), (6, [], .int .i64 i), (7, [], .pointer pp)]) hp_7 ?_
    refine Zn P1 3 [(0, [], .pointer b_), (3, [], .int .i64 i), (6, [], .int .i64 i), (7, [], .pointer (some ⟨(pblk b_), (poff b_), none⟩)), (8, [], .pointer (some ⟨(pblk b_), (poff b_), none⟩))] ?_
    refine Zn P1 4 [(0, [], .pointer b_), (3, [], .int .i64 i), (6, [], .int .i64 i), (9, [], .pointer (some ⟨(pblk b_), (poff b_) + 3, none⟩))] ?_
    obtain ⟨v10, hc, h⟩ := h
    refine Zl 39 9 (pblk b_) ((poff b_) + 3) 39 10 hc ?_
    refine Zf P2 [(0, .pointer b_), (3, .int .i64 i), (12, .bool (decide (i < ((v10.len : Nat) : Int))))] ?_
    change WpE _ _ c57_13 _ _ _
    refine Zc 12 (decide (i < ((v10.len : Nat) : Int))) c57_14 c57_15 (fun hb => ?_) (fun hb => ?_)
    · replace h := h.1 hb
      exact h.elim
    · replace h := h.2 hb
      refine wpE_exit (id := 0) (by kernel_rfl) ?_
      change WpE _ _ c57_58 _ _ _
      refine Zp c57_61 P1 [(2, .bool true)] ?_
      refine wpE_ret (by kernel_rfl) ?_
      repeat (first | refine seqQ_ret ?_ | refine blockQ_ret ?_ | refine loopQ_ret ?_ | refine cutQ_ret ?_)
      exact retS (rs := [(ResultVar.tmp 2)]) (v := Value.bool true) (by kernel_rfl) (⟨by kernel_rfl, trivial⟩) ⟨true, rfl, h⟩
  · rintro e w' ⟨v, rfl, r0, rfl, h⟩; exact ⟨r0, rfl, h⟩

/-! ### (*towpath/towpathlaw01.Book).lookWrite (function 58) -/
noncomputable def c58_0 := (Tryz.f58.body).getD Code.skip
noncomputable def c58_3 := Code.r c58_0
noncomputable def c58_4 := Code.l c58_3
noncomputable def c58_7 := Code.r c58_4
noncomputable def c58_8 := Code.l c58_7
noncomputable def c58_9 := Code.l c58_8
noncomputable def c58_10 := Code.l c58_9
noncomputable def c58_11 := Code.l c58_10
noncomputable def r58_11 := Code.ops c58_11
noncomputable def c58_13 := Code.r c58_10
noncomputable def c58_14 := Code.l c58_13
noncomputable def c58_15 := Code.r c58_13
noncomputable def c58_16 := Code.r c58_9
noncomputable def c58_17 := Code.l c58_16
noncomputable def c58_18 := Code.l c58_17
noncomputable def c58_19 := Code.l c58_18
noncomputable def r58_19 := Code.ops c58_19
noncomputable def c58_21 := Code.r c58_18
noncomputable def c58_22 := Code.l c58_21
noncomputable def c58_23 := Code.l c58_22
noncomputable def r58_23 := Code.ops c58_23
noncomputable def c58_25 := Code.r c58_22
noncomputable def c58_26 := Code.l c58_25
noncomputable def c58_29 := Code.r c58_26
noncomputable def c58_30 := Code.r c58_25
noncomputable def c58_31 := Code.r c58_21
noncomputable def c58_34 := Code.r c58_31
noncomputable def c58_35 := Code.l c58_34
noncomputable def c58_36 := Code.l c58_35
noncomputable def c58_37 := Code.l c58_36
noncomputable def c58_38 := Code.l c58_37
noncomputable def r58_38 := Code.ops c58_38
noncomputable def c58_40 := Code.r c58_37
noncomputable def c58_41 := Code.l c58_40
noncomputable def c58_42 := Code.r c58_40
noncomputable def c58_43 := Code.r c58_36
noncomputable def c58_44 := Code.l c58_43
noncomputable def c58_45 := Code.l c58_44
noncomputable def c58_46 := Code.l c58_45
noncomputable def r58_46 := Code.ops c58_46
noncomputable def c58_48 := Code.r c58_45
noncomputable def c58_49 := Code.l c58_48
noncomputable def c58_52 := Code.r c58_49
noncomputable def c58_53 := Code.r c58_48
noncomputable def c58_54 := Code.r c58_43
noncomputable def r58_54 := Code.ops c58_54
noncomputable def c58_56 := Code.r c58_16
noncomputable def r58_56 := Code.ops c58_56
noncomputable def c58_58 := Code.r c58_3
noncomputable def c58_61 := Code.r c58_58
def o_towpathlaw01_Book_lookWrite_46 : List Nat := [0, 1, 2, 3, 4, 5, 6, 7, 8, 9, 10, 11, 12, 13, 14, 15, 16, 17, 18, 19, 20, 21, 22, 23, 24, 25, 26]

theorem S_towpathlaw01_Book_lookWrite {b_ : Option Addr} {w : World} {R : Bool → World → Prop} (h : F_towpathlaw01_Book_lookWrite b_ R w) : C_towpathlaw01_Book_lookWrite b_ w R := by
  unfold F_towpathlaw01_Book_lookWrite at h
  unfold C_towpathlaw01_Book_lookWrite
  refine Calls.mono (calls_of_wpE (args := [Value.pointer b_]) (R := fun v w' => ∃ (r0 : Bool), v = Value.bool r0 ∧ R r0 w') Tryz.func58 (c := c58_0) (by kernel_rfl) 64 (by kernel_rfl) (by kernel_rfl) [(0, Value.pointer b_)] (by kernel_rfl) ?_) ?_
  · refine Zp c58_3 P1 [(0, .pointer b_)] ?_
    refine Zs c58_4 c58_58 ?_
    refine Zp c58_7 P1 [(0, .pointer b_), (3, .int .i64 0)] ?_
    refine Zb 0 c58_8 ?_
    obtain ⟨I, μ, h0, hr⟩ := h
    refine wpE_loop (x := c58_9) (by kernel_rfl) (fun m l w => ∃ (i : Int), l = [(0, Value.pointer b_), (3, Value.int .i64 i)] ∧ I i w ∧ μ i w = m) (l' := [(0, Value.pointer b_), (3, Value.int .i64 0)]) (Sub.mk (by kernel_rfl)) ⟨0, rfl, h0, rfl⟩ ?_
    rintro _ _ w1 ⟨i, rfl, hI, rfl⟩
    obtain ⟨again_, again__h, h⟩ : ∃ again_ : Int → World → Prop, (∀ i' w', again_ i' w' → I i' w' ∧ μ i' w' < μ i w1) ∧ F_towpathlaw01_Book_lookWrite_L0 b_ R again_ i w1 := ⟨_, fun _ _ h => h, hr i w1 hI⟩
    clear h0 hI
    unfold F_towpathlaw01_Book_lookWrite_L0 at h
    refine Zs c58_10 c58_16 ?_
    refine Zt r58_11 c58_13 ?_
    refine Zn P2 2 [(0, [], .pointer b_), (3, [], .int .i64 i), (6, [], .int .i64 i), (7, [], .pointer b_)] ?_
    obtain ⟨hp_31, h⟩ := h
    refine Zv (fun pp => [(0, [], .pointer b_), (3, [], .int .i64 i), (6, [], .int .i64 i), (7, [], .pointer pp)]) hp_31 ?_
    refine Zn P1 3 [(0, [], .pointer b_), (3, [], .int .i64 i), (6, [], .int .i64 i), (7, [], .pointer (some ⟨(pblk b_), (poff b_), none⟩)), (8, [], .pointer (some ⟨(pblk b_), (poff b_), none⟩))] ?_
    refine Zn P1 4 [(0, [], .pointer b_), (3, [], .int .i64 i), (6, [], .int .i64 i), (9, [], .pointer (some ⟨(pblk b_), (poff b_) + 4, none⟩))] ?_
    obtain ⟨v10, hc, h⟩ := h
    refine Zl 40 9 (pblk b_) ((poff b_) + 4) 40 10 hc ?_
    refine Zf P2 [(0, .pointer b_), (3, .int .i64 i), (12, .bool (decide (i < ((v10.len : Nat) : Int))))] ?_
    change WpE _ _ c58_13 _ _ _
    refine Zc 12 (decide (i < ((v10.len : Nat) : Int))) c58_14 c58_15 (fun hb => ?_) (fun hb => ?_)
    · replace h := h.1 hb
      refine wpE_skip (by kernel_rfl) ?_
      change WpE _ _ c58_16 _ _ _
      refine Zs c58_17 c58_56 ?_
      refine Zb 1 c58_18 ?_
      refine Zt r58_19 c58_21 ?_
      refine Zn P1 1 [(0, [], .pointer b_), (3, [], .int .i64 i), (15, [], .pointer b_)] ?_
      obtain ⟨hp_46, h⟩ := h
      refine Zv (fun pp => [(0, [], .pointer b_), (3, [], .int .i64 i), (15, [], .pointer pp)]) hp_46 ?_
      refine Zn P1 2 [(0, [], .pointer b_), (3, [], .int .i64 i), (15, [], .pointer (some ⟨(pblk b_), (poff b_), none⟩)), (16, [], .pointer (some ⟨(pblk b_), (poff b_), none⟩))] ?_
      refine Zn P1 3 [(0, [], .pointer b_), (3, [], .int .i64 i), (17, [], .pointer (some ⟨(pblk b_), (poff b_) + 4, none⟩))] ?_
      obtain ⟨v18, hc, h⟩ := h
      refine Zl 40 17 (pblk b_) ((poff b_) + 4) 40 18 hc ?_
      refine Zn P1 5 [(0, [], .pointer b_), (3, [], .int .i64 i), (18, [], .slice v18.ptr v18.len v18.cap), (19, [], .int .i64 i)] ?_
      obtain ⟨hp_47, h⟩ := h
      refine Zv (fun pp => [(0, [], .pointer b_), (3, [], .int .i64 i), (18, [], .slice pp v18.len v18.cap), (19, [], .int .i64 i)]) hp_47 ?_
      obtain ⟨h0, h1, h⟩ := h
      refine Zj 40 91 18 19 (pblk v18.ptr) (poff v18.ptr) v18.len v18.cap i 3 20 0 h0 h1 ?_
      refine Zn [] 6 [(0, [], .pointer b_), (3, [], .int .i64 i), (20, [], .pointer (some ⟨(pblk v18.ptr), (poff v18.ptr) + i.toNat * 3, none⟩))] ?_
      obtain ⟨v21, hc, h⟩ := h
      refine reg_loadN (t := 91) (a := (Operand.tmp 20)) (b := (pblk v18.ptr)) (o := ((poff v18.ptr) + i.toNat * 3)) (ty := 91) (dst := some 21) [Value.slice v21.l.ptr v21.l.len v21.l.cap, Value.slice v21.long.ptr v21.long.len v21.long.cap, Value.int .i64 v21.n] (by kernel_rfl) (by kernel_rfl) (by kernel_rfl) (k := 3) (by kernel_rfl) (by kernel_rfl) hc ?_
      refine Zn [] 7 [(0, [], .pointer b_), (3, [], .int .i64 i), (21, [], .agg #[.slice v21.l.ptr v21.l.len v21.l.cap, .slice v21.long.ptr v21.long.len v21.long.cap, .int .i64 v21.n])] ?_
      refine Zw (some 4) (fun bb => .pointer (some ⟨bb, 0, none⟩)) (Obj.cells ([.slice none 0 0, .slice none 0 0, .int .i64 0]).toArray ty_towpathlaw01_heldWrite (0, 0)) (fun b_1 w2 hb hw => ?_)
      replace h := h b_1 w2 hb hw
      clear hb hw
      refine Zn [] 8 [(0, [], .pointer b_), (3, [], .int .i64 i), (4, [], .pointer (some ⟨b_1, 0, none⟩)), (21, [], .agg #[.slice v21.l.ptr v21.l.len v21.l.cap, .slice v21.long.ptr v21.long.len v21.long.cap, .int .i64 v21.n])] ?_
      obtain ⟨hc, h⟩ := h
      refine Zo 91 4 21 b_1 0 3 [.slice v21.l.ptr v21.l.len v21.l.cap, .slice v21.long.ptr v21.long.len v21.long.cap, .int .i64 v21.n] hc (fun w3 hw => ?_)
      replace h := h w3 hw
      clear hw
      refine Ze [(0, .pointer b_), (3, .int .i64 i), (4, .pointer (some ⟨b_1, 0, none⟩))] ?_
      change WpE _ _ c58_21 _ _ _
      refine Zs c58_22 c58_31 ?_
      refine Zt r58_23 c58_25 ?_
      refine Zn P1 1 [(0, [], .pointer b_), (3, [], .int .i64 i), (4, [], .pointer (some ⟨b_1, 0, none⟩)), (22, [], .pointer (some ⟨b_1, 1, none⟩))] ?_
      obtain ⟨v23, hc, h⟩ := h
      refine Zl 22 22 b_1 1 22 23 hc ?_
      refine Zn P2 4 [(0, [], .pointer b_), (3, [], .int .i64 i), (4, [], .pointer (some ⟨b_1, 0, none⟩)), (24, [], .int .i64 ((v23.len : Nat) : Int)), (25, [], .pointer (some ⟨b_1, 0, none⟩))] ?_
      obtain ⟨v26, hc, h⟩ := h
      refine Zl 22 25 b_1 0 22 26 hc ?_
      refine Zf P3 [(0, .pointer b_), (3, .int .i64 i), (4, .pointer (some ⟨b_1, 0, none⟩)), (29, .bool (((v23.len : Nat) : Int) != (IntKind.i64.wrap (((v26.len : Nat) : Int) + 70))))] ?_
      change WpE _ _ c58_25 _ _ _
      refine Zc 29 (((v23.len : Nat) : Int) != (IntKind.i64.wrap (((v26.len : Nat) : Int) + 70))) c58_26 c58_30 (fun hb => ?_) (fun hb => ?_)
      · replace h := h.1 hb
        refine Zp c58_29 P1 [(2, .bool false)] ?_
        refine wpE_ret (by kernel_rfl) ?_
        repeat (first | refine seqQ_ret ?_ | refine blockQ_ret ?_ | refine loopQ_ret ?_ | refine cutQ_ret ?_)
        exact retS (rs := [(ResultVar.tmp 2)]) (v := Value.bool false) (by kernel_rfl) (⟨by kernel_rfl, trivial⟩) ⟨false, rfl, h⟩
      · replace h := h.2 hb
        refine wpE_skip (by kernel_rfl) ?_
        change WpE _ _ c58_31 _ _ _
        refine Zp c58_34 P1 [(0, .pointer b_), (3, .int .i64 i), (4, .pointer (some ⟨b_1, 0, none⟩)), (5, .int .i64 0)] ?_
        refine Zb 2 c58_35 ?_
        obtain ⟨I, μ, h0, hr⟩ := h
        refine wpE_loop (x := c58_36) (by kernel_rfl) (fun m l w => ∃ (k : Int), l = [(0, Value.pointer b_), (3, Value.int .i64 i), (4, Value.pointer (some ⟨b_1, 0, none⟩)), (5, Value.int .i64 k)] ∧ I k w ∧ μ k w = m) (l' := [(0, Value.pointer b_), (3, Value.int .i64 i), (4, Value.pointer (some ⟨b_1, 0, none⟩)), (5, Value.int .i64 0)]) (Sub.mk (by kernel_rfl)) ⟨0, rfl, h0, rfl⟩ ?_
        rintro _ _ w4 ⟨k, rfl, hI, rfl⟩
        obtain ⟨again_1, again_1_h, h⟩ : ∃ again_1 : Int → World → Prop, (∀ k' w', again_1 k' w' → I k' w' ∧ μ k' w' < μ k w4) ∧ F_towpathlaw01_Book_lookWrite_L1 R i again_ b_1 again_1 k w4 := ⟨_, fun _ _ h => h, hr k w4 hI⟩
        clear h0 hI
        unfold F_towpathlaw01_Book_lookWrite_L1 at h
        refine Zs c58_37 c58_43 ?_
        refine Zt r58_38 c58_40 ?_
        refine Zn P2 2 [(0, [], .pointer b_), (3, [], .int .i64 i), (4, [], .pointer (some ⟨b_1, 0, none⟩)), (5, [], .int .i64 k), (30, [], .int .i64 k), (31, [], .pointer (some ⟨b_1, 1, none⟩))] ?_
        obtain ⟨v32, hc, h⟩ := h
        refine Zl 22 31 b_1 1 22 32 hc ?_
        refine Zf P2 [(0, .pointer b_), (3, .int .i64 i), (4, .pointer (some ⟨b_1, 0, none⟩)), (5, .int .i64 k), (34, .bool (decide (k < ((v32.len : Nat) : Int))))] ?_
        change WpE _ _ c58_40 _ _ _
        refine Zc 34 (decide (k < ((v32.len : Nat) : Int))) c58_41 c58_42 (fun hb => ?_) (fun hb => ?_)
        · replace h := h.1 hb
          refine wpE_skip (by kernel_rfl) ?_
          change WpE _ _ c58_43 _ _ _
          refine Zs c58_44 c58_54 ?_
          refine Zb 3 c58_45 ?_
          refine wpE_seq_cut (x := c58_46) (y := c58_48) (by kernel_rfl) (fun l w => ∃ (t63 : Bool), l = [(0, Value.pointer b_), (3, Value.int .i64 i), (4, Value.pointer (some ⟨b_1, 0, none⟩)), (5, Value.int .i64 k), (63, Value.bool t63)] ∧ F_towpathlaw01_Book_lookWrite_k2 R k again_1 t63 w) ?_ ?_
          · refine wpE_mixregion (id := 10) (ops := r58_46) o_towpathlaw01_Book_lookWrite_46 (by kernel_rfl) (by kernel_rfl) (by kernel_rfl) (by kernel_rfl) (fun w6 hw => ?_)
            replace h := h w6 hw
            clear hw
            refine mreg_run P1 1 [(0, [], Value.pointer b_), (3, [], Value.int .i64 i), (4, [], Value.pointer (some ⟨b_1, 0, none⟩)), (5, [], Value.int .i64 k), (37, [], Value.pointer (some ⟨b_1, 1, none⟩))] (by kernel_rfl) (by kernel_rfl) ?_
            obtain ⟨v38, hc, h⟩ := h
            refine mreg_load1 (i := 1) (by kernel_rfl) (t := 22) (a := (Operand.tmp 37)) (b := b_1) (o := 1) (ty := 22) (dst := some 38) (by kernel_rfl) (by kernel_rfl) (by kernel_rfl) hc ?_
            refine mreg_run P1 3 [(0, [], Value.pointer b_), (3, [], Value.int .i64 i), (4, [], Value.pointer (some ⟨b_1, 0, none⟩)), (5, [], Value.int .i64 k), (38, [], Value.slice v38.ptr v38.len v38.cap), (39, [], Value.int .i64 k)] (by kernel_rfl) (by kernel_rfl) ?_
            obtain ⟨hp_54, h⟩ := h
            refine mreg_conv [(0, [], Value.pointer b_), (3, [], Value.int .i64 i), (4, [], Value.pointer (some ⟨b_1, 0, none⟩)), (5, [], Value.int .i64 k), (38, [], Value.slice (some ⟨(pblk v38.ptr), (poff v38.ptr), none⟩) v38.len v38.cap), (39, [], Value.int .i64 k)] (congrArg (fun pp => ([(0, [], Value.pointer b_), (3, [], Value.int .i64 i), (4, [], Value.pointer (some ⟨b_1, 0, none⟩)), (5, [], Value.int .i64 k), (38, [], Value.slice pp v38.len v38.cap), (39, [], Value.int .i64 k)] : GEnv)) hp_54) ?_
            obtain ⟨h0, h1, h⟩ := h
            refine mreg_indexS (i := 3) (by kernel_rfl) (t := 22) (e := 62) (x := (Operand.tmp 38)) (ix := (Operand.tmp 39)) (b := (pblk v38.ptr)) (o := (poff v38.ptr)) (l := v38.len) (c := v38.cap) (k := .i64) (j := k) (ty := 0) (dst := some 40) (sz := 3) (by kernel_rfl) (by kernel_rfl) (by kernel_rfl) (by kernel_rfl) (by kernel_rfl) h0 h1 ?_
            refine mreg_run [] 4 [(0, [], Value.pointer b_), (3, [], Value.int .i64 i), (4, [], Value.pointer (some ⟨b_1, 0, none⟩)), (5, [], Value.int .i64 k), (40, [], Value.pointer (some ⟨(pblk v38.ptr), (poff v38.ptr) + k.toNat * 3, none⟩))] (by kernel_rfl) (by kernel_rfl) ?_
            obtain ⟨v41, hc, h⟩ := h
            refine mreg_loadN (i := 4) (by kernel_rfl) (t := 62) (a := (Operand.tmp 40)) (b := (pblk v38.ptr)) (o := ((poff v38.ptr) + k.toNat * 3)) (ty := 62) (dst := some 41) [Value.string v41.Key, Value.string v41.Val, Value.bool v41.Drop] (by kernel_rfl) (by kernel_rfl) (by kernel_rfl) (k := 3) (by kernel_rfl) (by kernel_rfl) hc ?_
            refine mreg_run P1 6 [(0, [], Value.pointer b_), (3, [], Value.int .i64 i), (4, [], Value.pointer (some ⟨b_1, 0, none⟩)), (5, [], Value.int .i64 k), (41, [], Value.agg #[Value.string v41.Key, Value.string v41.Val, Value.bool v41.Drop]), (42, [], Value.pointer (some ⟨b_1, 2, none⟩))] (by kernel_rfl) (by kernel_rfl) ?_
            obtain ⟨v43, hc, h⟩ := h
            refine mreg_load1 (i := 6) (by kernel_rfl) (t := 3) (a := (Operand.tmp 42)) (b := b_1) (o := 2) (ty := 3) (dst := some 43) (by kernel_rfl) (by kernel_rfl) (by kernel_rfl) hc ?_
            refine mreg_run [] 7 [(0, [], Value.pointer b_), (3, [], Value.int .i64 i), (4, [], Value.pointer (some ⟨b_1, 0, none⟩)), (5, [], Value.int .i64 k), (41, [], Value.agg #[Value.string v41.Key, Value.string v41.Val, Value.bool v41.Drop]), (43, [], Value.int .i64 v43)] (by kernel_rfl) (by kernel_rfl) ?_
            refine mreg_enter (op := (Op.call (Call.mk (Callee.value (Operand.func 86)) #[(Operand.tmp 41), (Operand.tmp 43)] #[62, 3]))) (ty := 4) (dst := some 44) 7 [4, 6, 3, 5, 1, 2, 0] [] 86 #[Value.agg #[Value.string v41.Key, Value.string v41.Val, Value.bool v41.Drop], Value.int .i64 v43] (by kernel_rfl) (by kernel_rfl) (by kernel_rfl) (by kernel_rfl) (by kernel_rfl) (fun ww => by kernel_rfl) (Calls.mono h ?_)
            rintro _ w7 ⟨v44, rfl, h⟩
            refine ⟨_, rfl, trivial, ?_⟩
            refine mreg_run P4 12 [(0, [], Value.pointer b_), (3, [], Value.int .i64 i), (4, [], Value.pointer (some ⟨b_1, 0, none⟩)), (5, [], Value.int .i64 k), (46, [], Value.bool (!v44)), (47, [(46, false)], Value.int .i64 k), (48, [(46, false)], Value.pointer (some ⟨b_1, 0, none⟩))] (by kernel_rfl) (by kernel_rfl) ?_
            refine mreg_split 46 (!v44) (by kernel_rfl) (fun hb => ?_) (fun hb => ?_)
            · replace h := h.1 hb
              refine mreg_run [] 12 [(0, [], Value.pointer b_), (3, [], Value.int .i64 i), (4, [], Value.pointer (some ⟨b_1, 0, none⟩)), (5, [], Value.int .i64 k), (46, [], Value.bool true), (47, [], undef), (48, [], undef)] (by kernel_rfl) (by kernel_rfl) ?_
              refine mreg_run [.skip, .skip, .skip, .skip, .skip, .skip, .skip, .skip, .skip, .skip, .skip, .skip, .skip, .skip, .plain] 27 [(0, [], Value.pointer b_), (3, [], Value.int .i64 i), (4, [], Value.pointer (some ⟨b_1, 0, none⟩)), (5, [], Value.int .i64 k), (63, [], Value.bool true)] (by kernel_rfl) (by kernel_rfl) ?_
              refine mreg_end [(0, Value.pointer b_), (3, Value.int .i64 i), (4, Value.pointer (some ⟨b_1, 0, none⟩)), (5, Value.int .i64 k), (63, Value.bool true)] (by kernel_rfl) (by kernel_rfl) (by kernel_rfl) ?_
              exact ⟨[(0, Value.pointer b_), (3, Value.int .i64 i), (4, Value.pointer (some ⟨b_1, 0, none⟩)), (5, Value.int .i64 k), (63, Value.bool true)], Sub.mk (by kernel_rfl), true, rfl, h⟩
            · replace h := h.2 hb
              refine mreg_run [] 12 [(0, [], Value.pointer b_), (3, [], Value.int .i64 i), (4, [], Value.pointer (some ⟨b_1, 0, none⟩)), (5, [], Value.int .i64 k), (46, [], Value.bool false), (47, [], Value.int .i64 k), (48, [], Value.pointer (some ⟨b_1, 0, none⟩))] (by kernel_rfl) (by kernel_rfl) ?_
              refine mreg_run [] 12 [(0, [], Value.pointer b_), (3, [], Value.int .i64 i), (4, [], Value.pointer (some ⟨b_1, 0, none⟩)), (5, [], Value.int .i64 k), (46, [], Value.bool false), (47, [], Value.int .i64 k), (48, [], Value.pointer (some ⟨b_1, 0, none⟩))] (by kernel_rfl) (by kernel_rfl) ?_
              obtain ⟨v49, hc, h⟩ := h
              refine mreg_load1 (i := 12) (by kernel_rfl) (t := 22) (a := (Operand.tmp 48)) (b := b_1) (o := 0) (ty := 22) (dst := some 49) (by kernel_rfl) (by kernel_rfl) (by kernel_rfl) hc ?_
              refine mreg_run [.sure, .sure, .sure, .plain] 17 [(0, [], Value.pointer b_), (3, [], Value.int .i64 i), (4, [], Value.pointer (some ⟨b_1, 0, none⟩)), (5, [], Value.int .i64 k), (46, [], Value.bool false), (52, [], Value.bool (decide (k < ((v49.len : Nat) : Int)))), (53, [(52, true)], Value.pointer (some ⟨b_1, 0, none⟩))] (by kernel_rfl) (by kernel_rfl) ?_
              refine mreg_split 52 (decide (k < ((v49.len : Nat) : Int))) (by kernel_rfl) (fun hb => ?_) (fun hb => ?_)
              · replace h := h.1 hb
                refine mreg_run [] 17 [(0, [], Value.pointer b_), (3, [], Value.int .i64 i), (4, [], Value.pointer (some ⟨b_1, 0, none⟩)), (5, [], Value.int .i64 k), (46, [], Value.bool false), (52, [], Value.bool true), (53, [], Value.pointer (some ⟨b_1, 0, none⟩))] (by kernel_rfl) (by kernel_rfl) ?_
                refine mreg_run [] 17 [(0, [], Value.pointer b_), (3, [], Value.int .i64 i), (4, [], Value.pointer (some ⟨b_1, 0, none⟩)), (5, [], Value.int .i64 k), (46, [], Value.bool false), (52, [], Value.bool true), (53, [], Value.pointer (some ⟨b_1, 0, none⟩))] (by kernel_rfl) (by kernel_rfl) ?_
                obtain ⟨v54, hc, h⟩ := h
                refine mreg_load1 (i := 17) (by kernel_rfl) (t := 22) (a := (Operand.tmp 53)) (b := b_1) (o := 0) (ty := 22) (dst := some 54) (by kernel_rfl) (by kernel_rfl) (by kernel_rfl) hc ?_
                refine mreg_run [.sure] 19 [(0, [], Value.pointer b_), (3, [], Value.int .i64 i), (4, [], Value.pointer (some ⟨b_1, 0, none⟩)), (5, [], Value.int .i64 k), (46, [], Value.bool false), (52, [], Value.bool true), (54, [], Value.slice v54.ptr v54.len v54.cap), (55, [], Value.int .i64 k)] (by kernel_rfl) (by kernel_rfl) ?_
                obtain ⟨hp_55, h⟩ := h
                refine mreg_conv [(0, [], Value.pointer b_), (3, [], Value.int .i64 i), (4, [], Value.pointer (some ⟨b_1, 0, none⟩)), (5, [], Value.int .i64 k), (46, [], Value.bool false), (52, [], Value.bool true), (54, [], Value.slice (some ⟨(pblk v54.ptr), (poff v54.ptr), none⟩) v54.len v54.cap), (55, [], Value.int .i64 k)] (congrArg (fun pp => ([(0, [], Value.pointer b_), (3, [], Value.int .i64 i), (4, [], Value.pointer (some ⟨b_1, 0, none⟩)), (5, [], Value.int .i64 k), (46, [], Value.bool false), (52, [], Value.bool true), (54, [], Value.slice pp v54.len v54.cap), (55, [], Value.int .i64 k)] : GEnv)) hp_55) ?_
                obtain ⟨h0, h1, h⟩ := h
                refine mreg_indexS (i := 19) (by kernel_rfl) (t := 22) (e := 62) (x := (Operand.tmp 54)) (ix := (Operand.tmp 55)) (b := (pblk v54.ptr)) (o := (poff v54.ptr)) (l := v54.len) (c := v54.cap) (k := .i64) (j := k) (ty := 0) (dst := some 56) (sz := 3) (by kernel_rfl) (by kernel_rfl) (by kernel_rfl) (by kernel_rfl) (by kernel_rfl) h0 h1 ?_
                refine mreg_run [] 20 [(0, [], Value.pointer b_), (3, [], Value.int .i64 i), (4, [], Value.pointer (some ⟨b_1, 0, none⟩)), (5, [], Value.int .i64 k), (46, [], Value.bool false), (52, [], Value.bool true), (56, [], Value.pointer (some ⟨(pblk v54.ptr), (poff v54.ptr) + k.toNat * 3, none⟩))] (by kernel_rfl) (by kernel_rfl) ?_
                obtain ⟨v57, hc, h⟩ := h
                refine mreg_loadN (i := 20) (by kernel_rfl) (t := 62) (a := (Operand.tmp 56)) (b := (pblk v54.ptr)) (o := ((poff v54.ptr) + k.toNat * 3)) (ty := 62) (dst := some 57) [Value.string v57.Key, Value.string v57.Val, Value.bool v57.Drop] (by kernel_rfl) (by kernel_rfl) (by kernel_rfl) (k := 3) (by kernel_rfl) (by kernel_rfl) hc ?_
                refine mreg_run [.sure] 22 [(0, [], Value.pointer b_), (3, [], Value.int .i64 i), (4, [], Value.pointer (some ⟨b_1, 0, none⟩)), (5, [], Value.int .i64 k), (46, [], Value.bool false), (52, [], Value.bool true), (57, [], Value.agg #[Value.string v57.Key, Value.string v57.Val, Value.bool v57.Drop]), (58, [], Value.pointer (some ⟨b_1, 2, none⟩))] (by kernel_rfl) (by kernel_rfl) ?_
                obtain ⟨v59, hc, h⟩ := h
                refine mreg_load1 (i := 22) (by kernel_rfl) (t := 3) (a := (Operand.tmp 58)) (b := b_1) (o := 2) (ty := 3) (dst := some 59) (by kernel_rfl) (by kernel_rfl) (by kernel_rfl) hc ?_
                refine mreg_run [] 23 [(0, [], Value.pointer b_), (3, [], Value.int .i64 i), (4, [], Value.pointer (some ⟨b_1, 0, none⟩)), (5, [], Value.int .i64 k), (46, [], Value.bool false), (52, [], Value.bool true), (57, [], Value.agg #[Value.string v57.Key, Value.string v57.Val, Value.bool v57.Drop]), (59, [], Value.int .i64 v59)] (by kernel_rfl) (by kernel_rfl) ?_
                refine mreg_enter (op := (Op.call (Call.mk (Callee.value (Operand.func 86)) #[(Operand.tmp 57), (Operand.tmp 59)] #[62, 3]))) (ty := 4) (dst := some 60) 23 [15, 20, 22, 9, 14, 19, 21, 7, 8, 10, 13, 17, 18, 4, 6, 12, 16, 3, 5, 11, 1, 2, 0] [] 86 #[Value.agg #[Value.string v57.Key, Value.string v57.Val, Value.bool v57.Drop], Value.int .i64 v59] (by kernel_rfl) (by kernel_rfl) (by kernel_rfl) (by kernel_rfl) (by kernel_rfl) (fun ww => by kernel_rfl) (Calls.mono h ?_)
                rintro _ w8 ⟨v60, rfl, h⟩
                refine ⟨_, rfl, trivial, ?_⟩
                refine mreg_run [.sure, .sure, .plain] 27 [(0, [], Value.pointer b_), (3, [], Value.int .i64 i), (4, [], Value.pointer (some ⟨b_1, 0, none⟩)), (5, [], Value.int .i64 k), (63, [], Value.bool (!v60))] (by kernel_rfl) (by kernel_rfl) ?_
                refine mreg_end [(0, Value.pointer b_), (3, Value.int .i64 i), (4, Value.pointer (some ⟨b_1, 0, none⟩)), (5, Value.int .i64 k), (63, Value.bool (!v60))] (by kernel_rfl) (by kernel_rfl) (by kernel_rfl) ?_
                exact ⟨[(0, Value.pointer b_), (3, Value.int .i64 i), (4, Value.pointer (some ⟨b_1, 0, none⟩)), (5, Value.int .i64 k), (63, Value.bool (!v60))], Sub.mk (by kernel_rfl), (!v60), rfl, h⟩
              · replace h := h.2 hb
                refine mreg_run [] 17 [(0, [], Value.pointer b_), (3, [], Value.int .i64 i), (4, [], Value.pointer (some ⟨b_1, 0, none⟩)), (5, [], Value.int .i64 k), (46, [], Value.bool false), (52, [], Value.bool false), (53, [], undef)] (by kernel_rfl) (by kernel_rfl) ?_
                refine mreg_run [.skip, .skip, .skip, .skip, .skip, .skip, .skip, .skip, .sure, .plain] 27 [(0, [], Value.pointer b_), (3, [], Value.int .i64 i), (4, [], Value.pointer (some ⟨b_1, 0, none⟩)), (5, [], Value.int .i64 k), (63, [], Value.bool false)] (by kernel_rfl) (by kernel_rfl) ?_
                refine mreg_end [(0, Value.pointer b_), (3, Value.int .i64 i), (4, Value.pointer (some ⟨b_1, 0, none⟩)), (5, Value.int .i64 k), (63, Value.bool false)] (by kernel_rfl) (by kernel_rfl) (by kernel_rfl) ?_
                exact ⟨[(0, Value.pointer b_), (3, Value.int .i64 i), (4, Value.pointer (some ⟨b_1, 0, none⟩)), (5, Value.int .i64 k), (63, Value.bool false)], Sub.mk (by kernel_rfl), false, rfl, h⟩
          · rintro _ w5 ⟨t63, rfl, h⟩
            unfold F_towpathlaw01_Book_lookWrite_k2 at h
            refine Zc 63 t63 c58_49 c58_53 (fun hb => ?_) (fun hb => ?_)
            · replace h := h.1 hb
              refine Zp c58_52 P1 [(2, .bool false)] ?_
              refine wpE_ret (by kernel_rfl) ?_
              repeat (first | refine seqQ_ret ?_ | refine blockQ_ret ?_ | refine loopQ_ret ?_ | refine cutQ_ret ?_)
              exact retS (rs := [(ResultVar.tmp 2)]) (v := Value.bool false) (by kernel_rfl) (⟨by kernel_rfl, trivial⟩) ⟨false, rfl, h⟩
            · replace h := h.2 hb
              refine wpE_skip (by kernel_rfl) ?_
              change WpE _ _ c58_54 _ _ _
              refine Zr r58_54 ?_
              refine Zf P3 [(0, .pointer b_), (3, .int .i64 i), (4, .pointer (some ⟨b_1, 0, none⟩)), (5, .int .i64 (IntKind.i64.wrap (k + 1)))] ?_
              have hb_ := again_1_h _ _ h
              exact ⟨_, hb_.2, [(0, Value.pointer b_), (3, Value.int .i64 i), (4, Value.pointer (some ⟨b_1, 0, none⟩)), (5, Value.int .i64 (IntKind.i64.wrap (k + 1)))], Sub.mk (by kernel_rfl), (IntKind.i64.wrap (k + 1)), rfl, hb_.1, rfl⟩
        · replace h := h.2 hb
          refine wpE_exit (id := 2) (by kernel_rfl) ?_
          change WpE _ _ c58_56 _ _ _
          refine Zr r58_56 ?_
          refine Zf P3 [(0, .pointer b_), (3, .int .i64 (IntKind.i64.wrap (i + 1)))] ?_
          have hb_ := again__h _ _ h
          exact ⟨_, hb_.2, [(0, Value.pointer b_), (3, Value.int .i64 (IntKind.i64.wrap (i + 1)))], Sub.mk (by kernel_rfl), (IntKind.i64.wrap (i + 1)), rfl, hb_.1, rfl⟩
    · replace h := h.2 hb
      refine wpE_exit (id := 0) (by kernel_rfl) ?_
      change WpE _ _ c58_58 _ _ _
      refine Zp c58_61 P1 [(2, .bool true)] ?_
      refine wpE_ret (by kernel_rfl) ?_
      repeat (first | refine seqQ_ret ?_ | refine blockQ_ret ?_ | refine loopQ_ret ?_ | refine cutQ_ret ?_)
      exact retS (rs := [(ResultVar.tmp 2)]) (v := Value.bool true) (by kernel_rfl) (⟨by kernel_rfl, trivial⟩) ⟨true, rfl, h⟩
  · rintro e w' ⟨v, rfl, r0, rfl, h⟩; exact ⟨r0, rfl, h⟩

/-! ### (*towpath/towpathlaw01.Book).lookEntry (function 59) -/
noncomputable def c59_0 := (Tryz.f59.body).getD Code.skip
noncomputable def c59_3 := Code.r c59_0
noncomputable def c59_4 := Code.l c59_3
noncomputable def c59_7 := Code.r c59_4
noncomputable def c59_8 := Code.l c59_7
noncomputable def c59_9 := Code.l c59_8
noncomputable def c59_10 := Code.l c59_9
noncomputable def c59_11 := Code.l c59_10
noncomputable def r59_11 := Code.ops c59_11
noncomputable def c59_13 := Code.r c59_10
noncomputable def c59_14 := Code.l c59_13
noncomputable def c59_15 := Code.r c59_13
noncomputable def c59_16 := Code.r c59_9
noncomputable def c59_58 := Code.r c59_3
noncomputable def c59_61 := Code.r c59_58

theorem S_towpathlaw01_Book_lookEntry {b_ : Option Addr} {w : World} {R : Bool → World → Prop} (h : F_towpathlaw01_Book_lookEntry b_ R w) : C_towpathlaw01_Book_lookEntry b_ w R := by
  unfold F_towpathlaw01_Book_lookEntry at h
  unfold C_towpathlaw01_Book_lookEntry
  refine Calls.mono (calls_of_wpE (args := [Value.pointer b_]) (R := fun v w' => ∃ (r0 : Bool), v = Value.bool r0 ∧ R r0 w') Tryz.func59 (c := c59_0) (by kernel_rfl) 64 (by kernel_rfl) (by kernel_rfl) [(0, Value.pointer b_)] (by kernel_rfl) ?_) ?_
  · refine Zp c59_3 P1 [(0, .pointer b_)] ?_
    refine Zs c59_4 c59_58 ?_
    refine Zp c59_7 P1 [(0, .pointer b_), (3, .int .i64 0)] ?_
    refine Zb 0 c59_8 ?_
    obtain ⟨I, μ, h0, hr⟩ := h
    refine wpE_loop (x := c59_9) (by kernel_rfl) (fun m l w => ∃ (i : Int), l = [(0, Value.pointer b_), (3, Value.int .i64 i)] ∧ I i w ∧ μ i w = m) (l' := [(0, Value.pointer b_), (3, Value.int .i64 0)]) (Sub.mk (by kernel_rfl)) ⟨0, rfl, h0, rfl⟩ ?_
    rintro _ _ w1 ⟨i, rfl, hI, rfl⟩
    obtain ⟨again_, again__h, h⟩ : ∃ again_ : Int → World → Prop, (∀ i' w', again_ i' w' → I i' w' ∧ μ i' w' < μ i w1) ∧ F_towpathlaw01_Book_lookEntry_L0 b_ R again_ i w1 := ⟨_, fun _ _ h => h, hr i w1 hI⟩
    clear h0 hI
    unfold F_towpathlaw01_Book_lookEntry_L0 at h
    refine Zs c59_10 c59_16 ?_
    refine Zt r59_11 c59_13 ?_
    refine Zn P2 2 [(0, [], .pointer b_), (3, [], .int .i64 i), (6, [], .int .i64 i), (7, [], .pointer b_)] ?_
    obtain ⟨hp_7, h⟩ := h
    refine Zv (fun pp => [(0, [], .pointer b_), (3, [], .int .i64 i), (6, [], .int .i64 i), (7, [], .pointer pp)]) hp_7 ?_
    refine Zn P1 3 [(0, [], .pointer b_), (3, [], .int .i64 i), (6, [], .int .i64 i), (7, [], .pointer (some ⟨(pblk b_), (poff b_), none⟩)), (8, [], .pointer (some ⟨(pblk b_), (poff b_), none⟩))] ?_
    refine Zn P1 4 [(0, [], .pointer b_), (3, [], .int .i64 i), (6, [], .int .i64 i), (9, [], .pointer (some ⟨(pblk b_), (poff b_) + 5, none⟩))] ?_
    obtain ⟨v10, hc, h⟩ := h
    refine Zl 41 9 (pblk b_) ((poff b_) + 5) 41 10 hc ?_
    refine Zf P2 [(0, .pointer b_), (3, .int .i64 i), (12, .bool (decide (i < ((v10.len : Nat) : Int))))] ?_
    change WpE _ _ c59_13 _ _ _
    refine Zc 12 (decide (i < ((v10.len : Nat) : Int))) c59_14 c59_15 (fun hb => ?_) (fun hb => ?_)
    · replace h := h.1 hb
      exact h.elim
    · replace h := h.2 hb
      refine wpE_exit (id := 0) (by kernel_rfl) ?_
      change WpE _ _ c59_58 _ _ _
      refine Zp c59_61 P1 [(2, .bool true)] ?_
      refine wpE_ret (by kernel_rfl) ?_
      repeat (first | refine seqQ_ret ?_ | refine blockQ_ret ?_ | refine loopQ_ret ?_ | refine cutQ_ret ?_)
      exact retS (rs := [(ResultVar.tmp 2)]) (v := Value.bool true) (by kernel_rfl) (⟨by kernel_rfl, trivial⟩) ⟨true, rfl, h⟩
  · rintro e w' ⟨v, rfl, r0, rfl, h⟩; exact ⟨r0, rfl, h⟩

/-! ### (*towpath/towpathlaw01.Book).lookVersion (function 60) -/
noncomputable def c60_0 := (Tryz.f60.body).getD Code.skip
noncomputable def c60_3 := Code.r c60_0
noncomputable def c60_4 := Code.l c60_3
noncomputable def c60_7 := Code.r c60_4
noncomputable def c60_8 := Code.l c60_7
noncomputable def c60_9 := Code.l c60_8
noncomputable def c60_10 := Code.l c60_9
noncomputable def c60_11 := Code.l c60_10
noncomputable def r60_11 := Code.ops c60_11
noncomputable def c60_13 := Code.r c60_10
noncomputable def c60_14 := Code.l c60_13
noncomputable def c60_15 := Code.r c60_13
noncomputable def c60_16 := Code.r c60_9
noncomputable def c60_58 := Code.r c60_3
noncomputable def c60_61 := Code.r c60_58

theorem S_towpathlaw01_Book_lookVersion {b_ : Option Addr} {w : World} {R : Bool → World → Prop} (h : F_towpathlaw01_Book_lookVersion b_ R w) : C_towpathlaw01_Book_lookVersion b_ w R := by
  unfold F_towpathlaw01_Book_lookVersion at h
  unfold C_towpathlaw01_Book_lookVersion
  refine Calls.mono (calls_of_wpE (args := [Value.pointer b_]) (R := fun v w' => ∃ (r0 : Bool), v = Value.bool r0 ∧ R r0 w') Tryz.func60 (c := c60_0) (by kernel_rfl) 64 (by kernel_rfl) (by kernel_rfl) [(0, Value.pointer b_)] (by kernel_rfl) ?_) ?_
  · refine Zp c60_3 P1 [(0, .pointer b_)] ?_
    refine Zs c60_4 c60_58 ?_
    refine Zp c60_7 P1 [(0, .pointer b_), (3, .int .i64 0)] ?_
    refine Zb 0 c60_8 ?_
    obtain ⟨I, μ, h0, hr⟩ := h
    refine wpE_loop (x := c60_9) (by kernel_rfl) (fun m l w => ∃ (i : Int), l = [(0, Value.pointer b_), (3, Value.int .i64 i)] ∧ I i w ∧ μ i w = m) (l' := [(0, Value.pointer b_), (3, Value.int .i64 0)]) (Sub.mk (by kernel_rfl)) ⟨0, rfl, h0, rfl⟩ ?_
    rintro _ _ w1 ⟨i, rfl, hI, rfl⟩
    obtain ⟨again_, again__h, h⟩ : ∃ again_ : Int → World → Prop, (∀ i' w', again_ i' w' → I i' w' ∧ μ i' w' < μ i w1) ∧ F_towpathlaw01_Book_lookVersion_L0 b_ R again_ i w1 := ⟨_, fun _ _ h => h, hr i w1 hI⟩
    clear h0 hI
    unfold F_towpathlaw01_Book_lookVersion_L0 at h
    refine Zs c60_10 c60_16 ?_
    refine Zt r60_11 c60_13 ?_
    refine Zn P2 2 [(0, [], .pointer b_), (3, [], .int .i64 i), (6, [], .int .i64 i), (7, [], .pointer b_)] ?_
    obtain ⟨hp_7, h⟩ := h
    refine Zv (fun pp => [(0, [], .pointer b_), (3, [], .int .i64 i), (6, [], .int .i64 i), (7, [], .pointer pp)]) hp_7 ?_
    refine Zn P1 3 [(0, [], .pointer b_), (3, [], .int .i64 i), (6, [], .int .i64 i), (7, [], .pointer (some ⟨(pblk b_), (poff b_), none⟩)), (8, [], .pointer (some ⟨(pblk b_), (poff b_), none⟩))] ?_
    refine Zn P1 4 [(0, [], .pointer b_), (3, [], .int .i64 i), (6, [], .int .i64 i), (9, [], .pointer (some ⟨(pblk b_), (poff b_) + 6, none⟩))] ?_
    obtain ⟨v10, hc, h⟩ := h
    refine Zl 42 9 (pblk b_) ((poff b_) + 6) 42 10 hc ?_
    refine Zf P2 [(0, .pointer b_), (3, .int .i64 i), (12, .bool (decide (i < ((v10.len : Nat) : Int))))] ?_
    change WpE _ _ c60_13 _ _ _
    refine Zc 12 (decide (i < ((v10.len : Nat) : Int))) c60_14 c60_15 (fun hb => ?_) (fun hb => ?_)
    · replace h := h.1 hb
      exact h.elim
    · replace h := h.2 hb
      refine wpE_exit (id := 0) (by kernel_rfl) ?_
      change WpE _ _ c60_58 _ _ _
      refine Zp c60_61 P1 [(2, .bool true)] ?_
      refine wpE_ret (by kernel_rfl) ?_
      repeat (first | refine seqQ_ret ?_ | refine blockQ_ret ?_ | refine loopQ_ret ?_ | refine cutQ_ret ?_)
      exact retS (rs := [(ResultVar.tmp 2)]) (v := Value.bool true) (by kernel_rfl) (⟨by kernel_rfl, trivial⟩) ⟨true, rfl, h⟩
  · rintro e w' ⟨v, rfl, r0, rfl, h⟩; exact ⟨r0, rfl, h⟩

/-! ### (*towpath/towpathlaw01.Book).lookTxn (function 61) -/
noncomputable def c61_0 := (Tryz.f61.body).getD Code.skip
noncomputable def c61_3 := Code.r c61_0
noncomputable def c61_4 := Code.l c61_3
noncomputable def c61_7 := Code.r c61_4
noncomputable def c61_8 := Code.l c61_7
noncomputable def c61_9 := Code.l c61_8
noncomputable def c61_10 := Code.l c61_9
noncomputable def c61_11 := Code.l c61_10
noncomputable def r61_11 := Code.ops c61_11
noncomputable def c61_13 := Code.r c61_10
noncomputable def c61_14 := Code.l c61_13
noncomputable def c61_15 := Code.r c61_13
noncomputable def c61_16 := Code.r c61_9
noncomputable def c61_58 := Code.r c61_3
noncomputable def c61_61 := Code.r c61_58

theorem S_towpathlaw01_Book_lookTxn {b_ : Option Addr} {w : World} {R : Bool → World → Prop} (h : F_towpathlaw01_Book_lookTxn b_ R w) : C_towpathlaw01_Book_lookTxn b_ w R := by
  unfold F_towpathlaw01_Book_lookTxn at h
  unfold C_towpathlaw01_Book_lookTxn
  refine Calls.mono (calls_of_wpE (args := [Value.pointer b_]) (R := fun v w' => ∃ (r0 : Bool), v = Value.bool r0 ∧ R r0 w') Tryz.func61 (c := c61_0) (by kernel_rfl) 64 (by kernel_rfl) (by kernel_rfl) [(0, Value.pointer b_)] (by kernel_rfl) ?_) ?_
  · refine Zp c61_3 P1 [(0, .pointer b_)] ?_
    refine Zs c61_4 c61_58 ?_
    refine Zp c61_7 P1 [(0, .pointer b_), (3, .int .i64 0)] ?_
    refine Zb 0 c61_8 ?_
    obtain ⟨I, μ, h0, hr⟩ := h
    refine wpE_loop (x := c61_9) (by kernel_rfl) (fun m l w => ∃ (i : Int), l = [(0, Value.pointer b_), (3, Value.int .i64 i)] ∧ I i w ∧ μ i w = m) (l' := [(0, Value.pointer b_), (3, Value.int .i64 0)]) (Sub.mk (by kernel_rfl)) ⟨0, rfl, h0, rfl⟩ ?_
    rintro _ _ w1 ⟨i, rfl, hI, rfl⟩
    obtain ⟨again_, again__h, h⟩ : ∃ again_ : Int → World → Prop, (∀ i' w', again_ i' w' → I i' w' ∧ μ i' w' < μ i w1) ∧ F_towpathlaw01_Book_lookTxn_L0 b_ R again_ i w1 := ⟨_, fun _ _ h => h, hr i w1 hI⟩
    clear h0 hI
    unfold F_towpathlaw01_Book_lookTxn_L0 at h
    refine Zs c61_10 c61_16 ?_
    refine Zt r61_11 c61_13 ?_
    refine Zn P2 2 [(0, [], .pointer b_), (3, [], .int .i64 i), (6, [], .int .i64 i), (7, [], .pointer b_)] ?_
    obtain ⟨hp_7, h⟩ := h
    refine Zv (fun pp => [(0, [], .pointer b_), (3, [], .int .i64 i), (6, [], .int .i64 i), (7, [], .pointer pp)]) hp_7 ?_
    refine Zn P1 3 [(0, [], .pointer b_), (3, [], .int .i64 i), (6, [], .int .i64 i), (7, [], .pointer (some ⟨(pblk b_), (poff b_), none⟩)), (8, [], .pointer (some ⟨(pblk b_), (poff b_), none⟩))] ?_
    refine Zn P1 4 [(0, [], .pointer b_), (3, [], .int .i64 i), (6, [], .int .i64 i), (9, [], .pointer (some ⟨(pblk b_), (poff b_) + 7, none⟩))] ?_
    obtain ⟨v10, hc, h⟩ := h
    refine Zl 43 9 (pblk b_) ((poff b_) + 7) 43 10 hc ?_
    refine Zf P2 [(0, .pointer b_), (3, .int .i64 i), (12, .bool (decide (i < ((v10.len : Nat) : Int))))] ?_
    change WpE _ _ c61_13 _ _ _
    refine Zc 12 (decide (i < ((v10.len : Nat) : Int))) c61_14 c61_15 (fun hb => ?_) (fun hb => ?_)
    · replace h := h.1 hb
      exact h.elim
    · replace h := h.2 hb
      refine wpE_exit (id := 0) (by kernel_rfl) ?_
      change WpE _ _ c61_58 _ _ _
      refine Zp c61_61 P1 [(2, .bool true)] ?_
      refine wpE_ret (by kernel_rfl) ?_
      repeat (first | refine seqQ_ret ?_ | refine blockQ_ret ?_ | refine loopQ_ret ?_ | refine cutQ_ret ?_)
      exact retS (rs := [(ResultVar.tmp 2)]) (v := Value.bool true) (by kernel_rfl) (⟨by kernel_rfl, trivial⟩) ⟨true, rfl, h⟩
  · rintro e w' ⟨v, rfl, r0, rfl, h⟩; exact ⟨r0, rfl, h⟩

/-! ### (*towpath/towpathlaw01.Book).lookHeld (function 62) -/
noncomputable def c62_0 := (Tryz.f62.body).getD Code.skip
noncomputable def c62_3 := Code.r c62_0
noncomputable def c62_4 := Code.l c62_3
noncomputable def c62_7 := Code.r c62_4
noncomputable def c62_8 := Code.l c62_7
noncomputable def c62_9 := Code.l c62_8
noncomputable def c62_10 := Code.l c62_9
noncomputable def c62_11 := Code.l c62_10
noncomputable def r62_11 := Code.ops c62_11
noncomputable def c62_13 := Code.r c62_10
noncomputable def c62_14 := Code.l c62_13
noncomputable def c62_15 := Code.r c62_13
noncomputable def c62_16 := Code.r c62_9
noncomputable def c62_58 := Code.r c62_3
noncomputable def c62_61 := Code.r c62_58

theorem S_towpathlaw01_Book_lookHeld {b_ : Option Addr} {w : World} {R : Bool → World → Prop} (h : F_towpathlaw01_Book_lookHeld b_ R w) : C_towpathlaw01_Book_lookHeld b_ w R := by
  unfold F_towpathlaw01_Book_lookHeld at h
  unfold C_towpathlaw01_Book_lookHeld
  refine Calls.mono (calls_of_wpE (args := [Value.pointer b_]) (R := fun v w' => ∃ (r0 : Bool), v = Value.bool r0 ∧ R r0 w') Tryz.func62 (c := c62_0) (by kernel_rfl) 64 (by kernel_rfl) (by kernel_rfl) [(0, Value.pointer b_)] (by kernel_rfl) ?_) ?_
  · refine Zp c62_3 P1 [(0, .pointer b_)] ?_
    refine Zs c62_4 c62_58 ?_
    refine Zp c62_7 P1 [(0, .pointer b_), (3, .int .i64 0)] ?_
    refine Zb 0 c62_8 ?_
    obtain ⟨I, μ, h0, hr⟩ := h
    refine wpE_loop (x := c62_9) (by kernel_rfl) (fun m l w => ∃ (i : Int), l = [(0, Value.pointer b_), (3, Value.int .i64 i)] ∧ I i w ∧ μ i w = m) (l' := [(0, Value.pointer b_), (3, Value.int .i64 0)]) (Sub.mk (by kernel_rfl)) ⟨0, rfl, h0, rfl⟩ ?_
    rintro _ _ w1 ⟨i, rfl, hI, rfl⟩
    obtain ⟨again_, again__h, h⟩ : ∃ again_ : Int → World → Prop, (∀ i' w', again_ i' w' → I i' w' ∧ μ i' w' < μ i w1) ∧ F_towpathlaw01_Book_lookHeld_L0 b_ R again_ i w1 := ⟨_, fun _ _ h => h, hr i w1 hI⟩
    clear h0 hI
    unfold F_towpathlaw01_Book_lookHeld_L0 at h
    refine Zs c62_10 c62_16 ?_
    refine Zt r62_11 c62_13 ?_
    refine Zn P2 2 [(0, [], .pointer b_), (3, [], .int .i64 i), (6, [], .int .i64 i), (7, [], .pointer b_)] ?_
    obtain ⟨hp_7, h⟩ := h
    refine Zv (fun pp => [(0, [], .pointer b_), (3, [], .int .i64 i), (6, [], .int .i64 i), (7, [], .pointer pp)]) hp_7 ?_
    refine Zn P1 3 [(0, [], .pointer b_), (3, [], .int .i64 i), (6, [], .int .i64 i), (7, [], .pointer (some ⟨(pblk b_), (poff b_), none⟩)), (8, [], .pointer (some ⟨(pblk b_), (poff b_), none⟩))] ?_
    refine Zn P1 4 [(0, [], .pointer b_), (3, [], .int .i64 i), (6, [], .int .i64 i), (9, [], .pointer (some ⟨(pblk b_), (poff b_) + 8, none⟩))] ?_
    obtain ⟨v10, hc, h⟩ := h
    refine Zl 44 9 (pblk b_) ((poff b_) + 8) 44 10 hc ?_
    refine Zf P2 [(0, .pointer b_), (3, .int .i64 i), (12, .bool (decide (i < ((v10.len : Nat) : Int))))] ?_
    change WpE _ _ c62_13 _ _ _
    refine Zc 12 (decide (i < ((v10.len : Nat) : Int))) c62_14 c62_15 (fun hb => ?_) (fun hb => ?_)
    · replace h := h.1 hb
      exact h.elim
    · replace h := h.2 hb
      refine wpE_exit (id := 0) (by kernel_rfl) ?_
      change WpE _ _ c62_58 _ _ _
      refine Zp c62_61 P1 [(2, .bool true)] ?_
      refine wpE_ret (by kernel_rfl) ?_
      repeat (first | refine seqQ_ret ?_ | refine blockQ_ret ?_ | refine loopQ_ret ?_ | refine cutQ_ret ?_)
      exact retS (rs := [(ResultVar.tmp 2)]) (v := Value.bool true) (by kernel_rfl) (⟨by kernel_rfl, trivial⟩) ⟨true, rfl, h⟩
  · rintro e w' ⟨v, rfl, r0, rfl, h⟩; exact ⟨r0, rfl, h⟩
end Go.Proofs.YtfmkemmgakdddaaGreatDoor
