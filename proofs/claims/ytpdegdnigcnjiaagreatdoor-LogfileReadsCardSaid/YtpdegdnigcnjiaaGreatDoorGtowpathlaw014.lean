/- WRITTEN BY PROGRAM (dec.py): for each Go function the clean formula F, the call's contract C, and the proof S that F gives C. -/
import Derived.Test.YtpdegdnigcnjiaaGreatDoorRows
import Derived.Test.YtpdegdnigcnjiaaGreatDoorGF
namespace Go.Proofs.YtpdegdnigcnjiaaGreatDoor
open Go
set_option linter.unusedVariables false
set_option maxRecDepth 100000
set_option maxHeartbeats 4000000
noncomputable section

/-! ### (*towpath/towpathlaw01.Book).lookTxn (function 78) -/
def c78_0 := cb_ Tryz.f78
def c78_3 := cr_ c78_0
def c78_4 := cl_ c78_3
def c78_7 := cr_ c78_4
def c78_8 := cl_ c78_7
def c78_9 := cl_ c78_8
def c78_10 := cl_ c78_9
def c78_11 := cl_ c78_10
def r78_11 := co_ c78_11
def c78_13 := cr_ c78_10
def c78_14 := cl_ c78_13
def c78_15 := cr_ c78_13
def c78_16 := cr_ c78_9
def c78_17 := cl_ c78_16
def c78_18 := cl_ c78_17
def c78_19 := cl_ c78_18
def r78_19 := co_ c78_19
def c78_21 := cr_ c78_18
def c78_22 := cl_ c78_21
def c78_23 := cl_ c78_22
def r78_23 := co_ c78_23
def c78_25 := cr_ c78_22
def c78_26 := cl_ c78_25
def c78_29 := cr_ c78_26
def c78_30 := cr_ c78_25
def c78_31 := cr_ c78_21
def c78_34 := cr_ c78_31
def c78_35 := cl_ c78_34
def c78_36 := cl_ c78_35
def c78_37 := cl_ c78_36
def c78_38 := cl_ c78_37
def r78_38 := co_ c78_38
def c78_40 := cr_ c78_37
def c78_41 := cl_ c78_40
def c78_42 := cr_ c78_40
def c78_43 := cr_ c78_36
def c78_44 := cl_ c78_43
def c78_45 := cl_ c78_44
def c78_46 := cl_ c78_45
def r78_46 := co_ c78_46
def c78_48 := cr_ c78_45
def c78_49 := cl_ c78_48
def c78_52 := cr_ c78_49
def c78_53 := cr_ c78_48
def c78_54 := cr_ c78_43
def r78_54 := co_ c78_54
def c78_56 := cr_ c78_16
def r78_56 := co_ c78_56
def c78_58 := cr_ c78_3
def c78_61 := cr_ c78_58

theorem S_towpathlaw01_Book_lookTxn {b_ : Option Addr} {w : World} {R : Bool → World → Prop} (h : F_towpathlaw01_Book_lookTxn b_ R w) : C_towpathlaw01_Book_lookTxn b_ w R := by
 unfold F_towpathlaw01_Book_lookTxn at h
 unfold C_towpathlaw01_Book_lookTxn
 refine Calls.mono (calls_of_wpE (args := [Value.pointer b_]) (R := fun v w' => ∃ (r0 : Bool), v = Value.bool r0 ∧ R r0 w') Tryz.func78 (c := c78_0) (by kernel_rfl) 64 (by kernel_rfl) (by kernel_rfl) [(0, Value.pointer b_)] (by kernel_rfl) ?_) ?_
 · refine Zp c78_3 P1 [(0, .pointer b_)] ?_
   refine Zs c78_4 c78_58 ?_
   refine Zp c78_7 P1 [(0, .pointer b_), (3, .int .i64 0)] ?_
   refine Zb 0 c78_8 ?_
   obtain ⟨I, μ, h0, hr⟩ := h
   refine wpE_loop (x := c78_9) (by kernel_rfl) (fun m l w => ∃ (i : Int), l = [(0, Value.pointer b_), (3, Value.int .i64 i)] ∧ I i w ∧ μ i w = m) (l' := [(0, Value.pointer b_), (3, Value.int .i64 0)]) (Sub.mk (by kernel_rfl)) ⟨0, rfl, h0, rfl⟩ ?_
   rintro _ _ w1 ⟨i, rfl, hI, rfl⟩
   obtain ⟨again_, again__h, h⟩ : ∃ again_ : Int → World → Prop, (∀ i' w', again_ i' w' → I i' w' ∧ μ i' w' < μ i w1) ∧ F_towpathlaw01_Book_lookTxn_L0 b_ R again_ i w1 := ⟨_, fun _ _ h => h, hr i w1 hI⟩
   clear h0 hI
   unfold F_towpathlaw01_Book_lookTxn_L0 at h
   refine Zs c78_10 c78_16 ?_
   refine Zt r78_11 c78_13 ?_
   refine Zn P2 2 [(0, [], .pointer b_), (3, [], .int .i64 i), (6, [], .int .i64 i), (7, [], .pointer b_)] ?_
   obtain ⟨hp_31, h⟩ := h
   refine Zv (fun pp => [(0, [], .pointer b_), (3, [], .int .i64 i), (6, [], .int .i64 i), (7, [], .pointer pp)]) hp_31 ?_
   refine Zn P1 3 [(0, [], .pointer b_), (3, [], .int .i64 i), (6, [], .int .i64 i), (7, [], .pointer (some ⟨(pblk b_), (poff b_), none⟩)), (8, [], .pointer (some ⟨(pblk b_), (poff b_), none⟩))] ?_
   refine Zn P1 4 [(0, [], .pointer b_), (3, [], .int .i64 i), (6, [], .int .i64 i), (9, [], .pointer (some ⟨(pblk b_), (poff b_) + 7, none⟩))] ?_
   obtain ⟨v10, hc, h⟩ := h
   refine Zl 41 9 (pblk b_) ((poff b_) + 7) 41 10 hc ?_
   refine Zf P2 [(0, .pointer b_), (3, .int .i64 i), (12, .bool (decide (i < ((v10.len : Nat) : Int))))] ?_
   change WpE _ _ c78_13 _ _ _
   refine Zc 12 (decide (i < ((v10.len : Nat) : Int))) c78_14 c78_15 (fun hb => ?_) (fun hb => ?_)
   · replace h := h.1 hb
     refine wpE_skip (by kernel_rfl) ?_
     change WpE _ _ c78_16 _ _ _
     refine Zs c78_17 c78_56 ?_
     refine Zb 1 c78_18 ?_
     refine Zt r78_19 c78_21 ?_
     refine Zn P1 1 [(0, [], .pointer b_), (3, [], .int .i64 i), (15, [], .pointer b_)] ?_
     obtain ⟨hp_46, h⟩ := h
     refine Zv (fun pp => [(0, [], .pointer b_), (3, [], .int .i64 i), (15, [], .pointer pp)]) hp_46 ?_
     refine Zn P1 2 [(0, [], .pointer b_), (3, [], .int .i64 i), (15, [], .pointer (some ⟨(pblk b_), (poff b_), none⟩)), (16, [], .pointer (some ⟨(pblk b_), (poff b_), none⟩))] ?_
     refine Zn P1 3 [(0, [], .pointer b_), (3, [], .int .i64 i), (17, [], .pointer (some ⟨(pblk b_), (poff b_) + 7, none⟩))] ?_
     obtain ⟨v18, hc, h⟩ := h
     refine Zl 41 17 (pblk b_) ((poff b_) + 7) 41 18 hc ?_
     refine Zn P1 5 [(0, [], .pointer b_), (3, [], .int .i64 i), (18, [], sv_ v18), (19, [], .int .i64 i)] ?_
     obtain ⟨hp_47, h⟩ := h
     refine Zv (fun pp => [(0, [], .pointer b_), (3, [], .int .i64 i), (18, [], .slice pp v18.len v18.cap), (19, [], .int .i64 i)]) hp_47 ?_
     obtain ⟨h0, h1, h⟩ := h
     refine Zj 41 141 18 19 (pblk v18.ptr) (poff v18.ptr) v18.len v18.cap i 3 20 0 h0 h1 ?_
     refine Zn [] 6 [(0, [], .pointer b_), (3, [], .int .i64 i), (20, [], .pointer (some ⟨(pblk v18.ptr), (poff v18.ptr) + i.toNat * 3, none⟩))] ?_
     obtain ⟨v21, hc, h⟩ := h
     refine reg_loadN (t := 141) (a := (Operand.tmp 20)) (b := (pblk v18.ptr)) (o := ((poff v18.ptr) + i.toNat * 3)) (ty := 141) (dst := some 21) [sv_ v21.l, sv_ v21.long, Value.int .i64 v21.n] (by kernel_rfl) (by kernel_rfl) (by kernel_rfl) (k := 3) (by kernel_rfl) (by kernel_rfl) hc ?_
     refine Zn [] 7 [(0, [], .pointer b_), (3, [], .int .i64 i), (21, [], .agg #[sv_ v21.l, sv_ v21.long, .int .i64 v21.n])] ?_
     refine Zw (some 4) (fun bb => pv_ bb) (Obj.cells ([.slice none 0 0, .slice none 0 0, .int .i64 0]).toArray ty_towpathlaw01_heldTxn (0, 0)) (fun b_1 w2 hb hw => ?_)
     replace h := h b_1 w2 hb hw
     clear hb hw
     refine Zn [] 8 [(0, [], .pointer b_), (3, [], .int .i64 i), (4, [], pv_ b_1), (21, [], .agg #[sv_ v21.l, sv_ v21.long, .int .i64 v21.n])] ?_
     obtain ⟨hc, h⟩ := h
     refine Zo 141 4 21 b_1 0 3 [sv_ v21.l, sv_ v21.long, .int .i64 v21.n] hc (fun w3 hw => ?_)
     replace h := h w3 hw
     clear hw
     refine Ze [(0, .pointer b_), (3, .int .i64 i), (4, pv_ b_1)] ?_
     change WpE _ _ c78_21 _ _ _
     refine Zs c78_22 c78_31 ?_
     refine Zt r78_23 c78_25 ?_
     refine Zn P1 1 [(0, [], .pointer b_), (3, [], .int .i64 i), (4, [], pv_ b_1), (22, [], .pointer (some ⟨b_1, 1, none⟩))] ?_
     obtain ⟨v23, hc, h⟩ := h
     refine Zl 22 22 b_1 1 22 23 hc ?_
     refine Zn P2 4 [(0, [], .pointer b_), (3, [], .int .i64 i), (4, [], pv_ b_1), (24, [], .int .i64 ((v23.len : Nat) : Int)), (25, [], pv_ b_1)] ?_
     obtain ⟨v26, hc, h⟩ := h
     refine Zl 22 25 b_1 0 22 26 hc ?_
     refine Zf P3 [(0, .pointer b_), (3, .int .i64 i), (4, pv_ b_1), (29, .bool (((v23.len : Nat) : Int) != (IntKind.i64.wrap (((v26.len : Nat) : Int) + 70))))] ?_
     change WpE _ _ c78_25 _ _ _
     refine Zc 29 (((v23.len : Nat) : Int) != (IntKind.i64.wrap (((v26.len : Nat) : Int) + 70))) c78_26 c78_30 (fun hb => ?_) (fun hb => ?_)
     · replace h := h.1 hb
       refine Zp c78_29 P1 [(2, .bool false)] ?_
       refine wpE_ret (by kernel_rfl) ?_
       repeat (first | refine seqQ_ret ?_ | refine blockQ_ret ?_ | refine loopQ_ret ?_ | refine cutQ_ret ?_)
       exact retS (rs := [(ResultVar.tmp 2)]) (v := Value.bool false) (by kernel_rfl) (⟨by kernel_rfl, trivial⟩) ⟨false, rfl, h⟩
     · replace h := h.2 hb
       refine wpE_skip (by kernel_rfl) ?_
       change WpE _ _ c78_31 _ _ _
       refine Zp c78_34 P1 [(0, .pointer b_), (3, .int .i64 i), (4, pv_ b_1), (5, .int .i64 0)] ?_
       refine Zb 2 c78_35 ?_
       obtain ⟨I, μ, h0, hr⟩ := h
       refine wpE_loop (x := c78_36) (by kernel_rfl) (fun m l w => ∃ (k : Int), l = [(0, Value.pointer b_), (3, Value.int .i64 i), (4, pv_ b_1), (5, Value.int .i64 k)] ∧ I k w ∧ μ k w = m) (l' := [(0, Value.pointer b_), (3, Value.int .i64 i), (4, pv_ b_1), (5, Value.int .i64 0)]) (Sub.mk (by kernel_rfl)) ⟨0, rfl, h0, rfl⟩ ?_
       rintro _ _ w4 ⟨k, rfl, hI, rfl⟩
       obtain ⟨again_1, again_1_h, h⟩ : ∃ again_1 : Int → World → Prop, (∀ k' w', again_1 k' w' → I k' w' ∧ μ k' w' < μ k w4) ∧ F_towpathlaw01_Book_lookTxn_L1 R i again_ b_1 again_1 k w4 := ⟨_, fun _ _ h => h, hr k w4 hI⟩
       clear h0 hI
       unfold F_towpathlaw01_Book_lookTxn_L1 at h
       refine Zs c78_37 c78_43 ?_
       refine Zt r78_38 c78_40 ?_
       refine Zn P2 2 [(0, [], .pointer b_), (3, [], .int .i64 i), (4, [], pv_ b_1), (5, [], .int .i64 k), (30, [], .int .i64 k), (31, [], .pointer (some ⟨b_1, 1, none⟩))] ?_
       obtain ⟨v32, hc, h⟩ := h
       refine Zl 22 31 b_1 1 22 32 hc ?_
       refine Zf P2 [(0, .pointer b_), (3, .int .i64 i), (4, pv_ b_1), (5, .int .i64 k), (34, .bool (decide (k < ((v32.len : Nat) : Int))))] ?_
       change WpE _ _ c78_40 _ _ _
       refine Zc 34 (decide (k < ((v32.len : Nat) : Int))) c78_41 c78_42 (fun hb => ?_) (fun hb => ?_)
       · replace h := h.1 hb
         refine wpE_skip (by kernel_rfl) ?_
         change WpE _ _ c78_43 _ _ _
         refine Zs c78_44 c78_54 ?_
         refine Zb 3 c78_45 ?_
         refine wpE_seq_cut (x := c78_46) (y := c78_48) (by kernel_rfl) (fun l w => ∃ (t63 : Bool), l = [(0, Value.pointer b_), (3, Value.int .i64 i), (4, pv_ b_1), (5, Value.int .i64 k), (63, Value.bool t63)] ∧ F_towpathlaw01_Book_lookTxn_k2 R k again_1 t63 w) ?_ ?_
         · refine wpE_drawregion (id := 10) (ops := r78_46) (by kernel_rfl) (by kernel_rfl) (by kernel_rfl) ?_
           refine qreg_run P1 1 [(0, [], Value.pointer b_), (3, [], Value.int .i64 i), (4, [], pv_ b_1), (5, [], Value.int .i64 k), (37, [], Value.pointer (some ⟨b_1, 1, none⟩))] (by kernel_rfl) (by kernel_rfl) ?_
           obtain ⟨v38, hc, h⟩ := h
           refine qreg_load1 (t := 22) (a := (Operand.tmp 37)) (b := b_1) (o := 1) (ty := 22) (dst := some 38) (by kernel_rfl) (by kernel_rfl) (by kernel_rfl) hc ?_
           refine qreg_run P1 3 [(0, [], Value.pointer b_), (3, [], Value.int .i64 i), (4, [], pv_ b_1), (5, [], Value.int .i64 k), (38, [], sv_ v38), (39, [], Value.int .i64 k)] (by kernel_rfl) (by kernel_rfl) ?_
           obtain ⟨hp_54, h⟩ := h
           refine qreg_conv [(0, [], Value.pointer b_), (3, [], Value.int .i64 i), (4, [], pv_ b_1), (5, [], Value.int .i64 k), (38, [], Value.slice (some ⟨(pblk v38.ptr), (poff v38.ptr), none⟩) v38.len v38.cap), (39, [], Value.int .i64 k)] (congrArg (fun pp => ([(0, [], Value.pointer b_), (3, [], Value.int .i64 i), (4, [], pv_ b_1), (5, [], Value.int .i64 k), (38, [], Value.slice pp v38.len v38.cap), (39, [], Value.int .i64 k)] : GEnv)) hp_54) ?_
           obtain ⟨h0, h1, h⟩ := h
           refine qreg_indexS (t := 22) (e := 52) (x := (Operand.tmp 38)) (ix := (Operand.tmp 39)) (b := (pblk v38.ptr)) (o := (poff v38.ptr)) (l := v38.len) (c := v38.cap) (k := .i64) (j := k) (ty := 0) (dst := some 40) (sz := 2) (by kernel_rfl) (by kernel_rfl) (by kernel_rfl) (by kernel_rfl) (by kernel_rfl) h0 h1 ?_
           refine qreg_run [] 4 [(0, [], Value.pointer b_), (3, [], Value.int .i64 i), (4, [], pv_ b_1), (5, [], Value.int .i64 k), (40, [], Value.pointer (some ⟨(pblk v38.ptr), (poff v38.ptr) + k.toNat * 2, none⟩))] (by kernel_rfl) (by kernel_rfl) ?_
           obtain ⟨v41, hc, h⟩ := h
           refine qreg_loadN (t := 52) (a := (Operand.tmp 40)) (b := (pblk v38.ptr)) (o := ((poff v38.ptr) + k.toNat * 2)) (ty := 52) (dst := some 41) [Value.int .i64 v41.Number, sv_ v41.Writes] (by kernel_rfl) (by kernel_rfl) (by kernel_rfl) (k := 2) (by kernel_rfl) (by kernel_rfl) hc ?_
           refine qreg_run P1 6 [(0, [], Value.pointer b_), (3, [], Value.int .i64 i), (4, [], pv_ b_1), (5, [], Value.int .i64 k), (41, [], Value.agg #[Value.int .i64 v41.Number, sv_ v41.Writes]), (42, [], Value.pointer (some ⟨b_1, 2, none⟩))] (by kernel_rfl) (by kernel_rfl) ?_
           obtain ⟨v43, hc, h⟩ := h
           refine qreg_load1 (t := 3) (a := (Operand.tmp 42)) (b := b_1) (o := 2) (ty := 3) (dst := some 43) (by kernel_rfl) (by kernel_rfl) (by kernel_rfl) hc ?_
           refine qreg_run [] 7 [(0, [], Value.pointer b_), (3, [], Value.int .i64 i), (4, [], pv_ b_1), (5, [], Value.int .i64 k), (41, [], Value.agg #[Value.int .i64 v41.Number, sv_ v41.Writes]), (43, [], Value.int .i64 v43)] (by kernel_rfl) (by kernel_rfl) ?_
           obtain ⟨v44, hq, h⟩ := h
           refine qreg_enter (op := (Op.call (Call.mk (Callee.value (Operand.func 142)) #[(Operand.tmp 41), (Operand.tmp 43)] #[52, 3]))) (ty := 4) (dst := some 44) 142 #[Value.agg #[Value.int .i64 v41.Number, sv_ v41.Writes], Value.int .i64 v43] (Value.bool v44) (by kernel_rfl) (fun ww => by kernel_rfl) (fun w' he => Calls.mono (hq w' he) (by rintro _ w'' ⟨_, rfl, rfl, hE⟩; exact ⟨rfl, hE⟩)) ?_
           clear hq
           refine qreg_run P4 12 [(0, [], Value.pointer b_), (3, [], Value.int .i64 i), (4, [], pv_ b_1), (5, [], Value.int .i64 k), (46, [], Value.bool (!v44)), (47, [(46, false)], Value.int .i64 k), (48, [(46, false)], pv_ b_1)] (by kernel_rfl) (by kernel_rfl) ?_
           refine qreg_split 46 (!v44) (by kernel_rfl) (fun hb => ?_) (fun hb => ?_)
           · replace h := h.1 hb
             refine qreg_run [] 12 [(0, [], Value.pointer b_), (3, [], Value.int .i64 i), (4, [], pv_ b_1), (5, [], Value.int .i64 k), (46, [], Value.bool true), (47, [], undef), (48, [], undef)] (by kernel_rfl) (by kernel_rfl) ?_
             refine qreg_run [.skip, .skip, .skip, .skip, .skip, .skip, .skip, .skip, .skip, .skip, .skip, .skip, .skip, .skip, .plain] 27 [(0, [], Value.pointer b_), (3, [], Value.int .i64 i), (4, [], pv_ b_1), (5, [], Value.int .i64 k), (63, [], Value.bool true)] (by kernel_rfl) (by kernel_rfl) ?_
             refine qreg_end [(0, Value.pointer b_), (3, Value.int .i64 i), (4, pv_ b_1), (5, Value.int .i64 k), (63, Value.bool true)] (by kernel_rfl) (by kernel_rfl) (fun w7 hw => ?_)
             replace h := h w7 hw
             clear hw
             exact ⟨[(0, Value.pointer b_), (3, Value.int .i64 i), (4, pv_ b_1), (5, Value.int .i64 k), (63, Value.bool true)], Sub.mk (by kernel_rfl), true, rfl, h⟩
           · replace h := h.2 hb
             refine qreg_run [] 12 [(0, [], Value.pointer b_), (3, [], Value.int .i64 i), (4, [], pv_ b_1), (5, [], Value.int .i64 k), (46, [], Value.bool false), (47, [], Value.int .i64 k), (48, [], pv_ b_1)] (by kernel_rfl) (by kernel_rfl) ?_
             refine qreg_run [] 12 [(0, [], Value.pointer b_), (3, [], Value.int .i64 i), (4, [], pv_ b_1), (5, [], Value.int .i64 k), (46, [], Value.bool false), (47, [], Value.int .i64 k), (48, [], pv_ b_1)] (by kernel_rfl) (by kernel_rfl) ?_
             obtain ⟨v49, hc, h⟩ := h
             refine qreg_load1 (t := 22) (a := (Operand.tmp 48)) (b := b_1) (o := 0) (ty := 22) (dst := some 49) (by kernel_rfl) (by kernel_rfl) (by kernel_rfl) hc ?_
             refine qreg_run [.sure, .sure, .sure, .plain] 17 [(0, [], Value.pointer b_), (3, [], Value.int .i64 i), (4, [], pv_ b_1), (5, [], Value.int .i64 k), (46, [], Value.bool false), (52, [], Value.bool (decide (k < ((v49.len : Nat) : Int)))), (53, [(52, true)], pv_ b_1)] (by kernel_rfl) (by kernel_rfl) ?_
             refine qreg_split 52 (decide (k < ((v49.len : Nat) : Int))) (by kernel_rfl) (fun hb => ?_) (fun hb => ?_)
             · replace h := h.1 hb
               refine qreg_run [] 17 [(0, [], Value.pointer b_), (3, [], Value.int .i64 i), (4, [], pv_ b_1), (5, [], Value.int .i64 k), (46, [], Value.bool false), (52, [], Value.bool true), (53, [], pv_ b_1)] (by kernel_rfl) (by kernel_rfl) ?_
               refine qreg_run [] 17 [(0, [], Value.pointer b_), (3, [], Value.int .i64 i), (4, [], pv_ b_1), (5, [], Value.int .i64 k), (46, [], Value.bool false), (52, [], Value.bool true), (53, [], pv_ b_1)] (by kernel_rfl) (by kernel_rfl) ?_
               obtain ⟨v54, hc, h⟩ := h
               refine qreg_load1 (t := 22) (a := (Operand.tmp 53)) (b := b_1) (o := 0) (ty := 22) (dst := some 54) (by kernel_rfl) (by kernel_rfl) (by kernel_rfl) hc ?_
               refine qreg_run [.sure] 19 [(0, [], Value.pointer b_), (3, [], Value.int .i64 i), (4, [], pv_ b_1), (5, [], Value.int .i64 k), (46, [], Value.bool false), (52, [], Value.bool true), (54, [], sv_ v54), (55, [], Value.int .i64 k)] (by kernel_rfl) (by kernel_rfl) ?_
               obtain ⟨hp_55, h⟩ := h
               refine qreg_conv [(0, [], Value.pointer b_), (3, [], Value.int .i64 i), (4, [], pv_ b_1), (5, [], Value.int .i64 k), (46, [], Value.bool false), (52, [], Value.bool true), (54, [], Value.slice (some ⟨(pblk v54.ptr), (poff v54.ptr), none⟩) v54.len v54.cap), (55, [], Value.int .i64 k)] (congrArg (fun pp => ([(0, [], Value.pointer b_), (3, [], Value.int .i64 i), (4, [], pv_ b_1), (5, [], Value.int .i64 k), (46, [], Value.bool false), (52, [], Value.bool true), (54, [], Value.slice pp v54.len v54.cap), (55, [], Value.int .i64 k)] : GEnv)) hp_55) ?_
               obtain ⟨h0, h1, h⟩ := h
               refine qreg_indexS (t := 22) (e := 52) (x := (Operand.tmp 54)) (ix := (Operand.tmp 55)) (b := (pblk v54.ptr)) (o := (poff v54.ptr)) (l := v54.len) (c := v54.cap) (k := .i64) (j := k) (ty := 0) (dst := some 56) (sz := 2) (by kernel_rfl) (by kernel_rfl) (by kernel_rfl) (by kernel_rfl) (by kernel_rfl) h0 h1 ?_
               refine qreg_run [] 20 [(0, [], Value.pointer b_), (3, [], Value.int .i64 i), (4, [], pv_ b_1), (5, [], Value.int .i64 k), (46, [], Value.bool false), (52, [], Value.bool true), (56, [], Value.pointer (some ⟨(pblk v54.ptr), (poff v54.ptr) + k.toNat * 2, none⟩))] (by kernel_rfl) (by kernel_rfl) ?_
               obtain ⟨v57, hc, h⟩ := h
               refine qreg_loadN (t := 52) (a := (Operand.tmp 56)) (b := (pblk v54.ptr)) (o := ((poff v54.ptr) + k.toNat * 2)) (ty := 52) (dst := some 57) [Value.int .i64 v57.Number, sv_ v57.Writes] (by kernel_rfl) (by kernel_rfl) (by kernel_rfl) (k := 2) (by kernel_rfl) (by kernel_rfl) hc ?_
               refine qreg_run [.sure] 22 [(0, [], Value.pointer b_), (3, [], Value.int .i64 i), (4, [], pv_ b_1), (5, [], Value.int .i64 k), (46, [], Value.bool false), (52, [], Value.bool true), (57, [], Value.agg #[Value.int .i64 v57.Number, sv_ v57.Writes]), (58, [], Value.pointer (some ⟨b_1, 2, none⟩))] (by kernel_rfl) (by kernel_rfl) ?_
               obtain ⟨v59, hc, h⟩ := h
               refine qreg_load1 (t := 3) (a := (Operand.tmp 58)) (b := b_1) (o := 2) (ty := 3) (dst := some 59) (by kernel_rfl) (by kernel_rfl) (by kernel_rfl) hc ?_
               refine qreg_run [] 23 [(0, [], Value.pointer b_), (3, [], Value.int .i64 i), (4, [], pv_ b_1), (5, [], Value.int .i64 k), (46, [], Value.bool false), (52, [], Value.bool true), (57, [], Value.agg #[Value.int .i64 v57.Number, sv_ v57.Writes]), (59, [], Value.int .i64 v59)] (by kernel_rfl) (by kernel_rfl) ?_
               obtain ⟨v60, hq, h⟩ := h
               refine qreg_enter (op := (Op.call (Call.mk (Callee.value (Operand.func 142)) #[(Operand.tmp 57), (Operand.tmp 59)] #[52, 3]))) (ty := 4) (dst := some 60) 142 #[Value.agg #[Value.int .i64 v57.Number, sv_ v57.Writes], Value.int .i64 v59] (Value.bool v60) (by kernel_rfl) (fun ww => by kernel_rfl) (fun w' he => Calls.mono (hq w' he) (by rintro _ w'' ⟨_, rfl, rfl, hE⟩; exact ⟨rfl, hE⟩)) ?_
               clear hq
               refine qreg_run [.sure, .sure, .plain] 27 [(0, [], Value.pointer b_), (3, [], Value.int .i64 i), (4, [], pv_ b_1), (5, [], Value.int .i64 k), (63, [], Value.bool (!v60))] (by kernel_rfl) (by kernel_rfl) ?_
               refine qreg_end [(0, Value.pointer b_), (3, Value.int .i64 i), (4, pv_ b_1), (5, Value.int .i64 k), (63, Value.bool (!v60))] (by kernel_rfl) (by kernel_rfl) (fun w9 hw => ?_)
               replace h := h w9 hw
               clear hw
               exact ⟨[(0, Value.pointer b_), (3, Value.int .i64 i), (4, pv_ b_1), (5, Value.int .i64 k), (63, Value.bool (!v60))], Sub.mk (by kernel_rfl), (!v60), rfl, h⟩
             · replace h := h.2 hb
               refine qreg_run [] 17 [(0, [], Value.pointer b_), (3, [], Value.int .i64 i), (4, [], pv_ b_1), (5, [], Value.int .i64 k), (46, [], Value.bool false), (52, [], Value.bool false), (53, [], undef)] (by kernel_rfl) (by kernel_rfl) ?_
               refine qreg_run [.skip, .skip, .skip, .skip, .skip, .skip, .skip, .skip, .sure, .plain] 27 [(0, [], Value.pointer b_), (3, [], Value.int .i64 i), (4, [], pv_ b_1), (5, [], Value.int .i64 k), (63, [], Value.bool false)] (by kernel_rfl) (by kernel_rfl) ?_
               refine qreg_end [(0, Value.pointer b_), (3, Value.int .i64 i), (4, pv_ b_1), (5, Value.int .i64 k), (63, Value.bool false)] (by kernel_rfl) (by kernel_rfl) (fun w10 hw => ?_)
               replace h := h w10 hw
               clear hw
               exact ⟨[(0, Value.pointer b_), (3, Value.int .i64 i), (4, pv_ b_1), (5, Value.int .i64 k), (63, Value.bool false)], Sub.mk (by kernel_rfl), false, rfl, h⟩
         · rintro _ w5 ⟨t63, rfl, h⟩
           unfold F_towpathlaw01_Book_lookTxn_k2 at h
           refine Zc 63 t63 c78_49 c78_53 (fun hb => ?_) (fun hb => ?_)
           · replace h := h.1 hb
             refine Zp c78_52 P1 [(2, .bool false)] ?_
             refine wpE_ret (by kernel_rfl) ?_
             repeat (first | refine seqQ_ret ?_ | refine blockQ_ret ?_ | refine loopQ_ret ?_ | refine cutQ_ret ?_)
             exact retS (rs := [(ResultVar.tmp 2)]) (v := Value.bool false) (by kernel_rfl) (⟨by kernel_rfl, trivial⟩) ⟨false, rfl, h⟩
           · replace h := h.2 hb
             refine wpE_skip (by kernel_rfl) ?_
             change WpE _ _ c78_54 _ _ _
             refine Zr r78_54 ?_
             refine Zf P3 [(0, .pointer b_), (3, .int .i64 i), (4, pv_ b_1), (5, .int .i64 (IntKind.i64.wrap (k + 1)))] ?_
             have hb_ := again_1_h _ _ h
             exact ⟨_, hb_.2, [(0, Value.pointer b_), (3, Value.int .i64 i), (4, pv_ b_1), (5, Value.int .i64 (IntKind.i64.wrap (k + 1)))], Sub.mk (by kernel_rfl), (IntKind.i64.wrap (k + 1)), rfl, hb_.1, rfl⟩
       · replace h := h.2 hb
         refine wpE_exit (id := 2) (by kernel_rfl) ?_
         change WpE _ _ c78_56 _ _ _
         refine Zr r78_56 ?_
         refine Zf P3 [(0, .pointer b_), (3, .int .i64 (IntKind.i64.wrap (i + 1)))] ?_
         have hb_ := again__h _ _ h
         exact ⟨_, hb_.2, [(0, Value.pointer b_), (3, Value.int .i64 (IntKind.i64.wrap (i + 1)))], Sub.mk (by kernel_rfl), (IntKind.i64.wrap (i + 1)), rfl, hb_.1, rfl⟩
   · replace h := h.2 hb
     refine wpE_exit (id := 0) (by kernel_rfl) ?_
     change WpE _ _ c78_58 _ _ _
     refine Zp c78_61 P1 [(2, .bool true)] ?_
     refine wpE_ret (by kernel_rfl) ?_
     repeat (first | refine seqQ_ret ?_ | refine blockQ_ret ?_ | refine loopQ_ret ?_ | refine cutQ_ret ?_)
     exact retS (rs := [(ResultVar.tmp 2)]) (v := Value.bool true) (by kernel_rfl) (⟨by kernel_rfl, trivial⟩) ⟨true, rfl, h⟩
 · rintro e w' ⟨v, rfl, r0, rfl, h⟩; exact ⟨r0, rfl, h⟩

/-! ### (*towpath/towpathlaw01.Book).lookHeld (function 79) -/
def c79_0 := cb_ Tryz.f79
def c79_3 := cr_ c79_0
def c79_4 := cl_ c79_3
def c79_7 := cr_ c79_4
def c79_8 := cl_ c79_7
def c79_9 := cl_ c79_8
def c79_10 := cl_ c79_9
def c79_11 := cl_ c79_10
def r79_11 := co_ c79_11
def c79_13 := cr_ c79_10
def c79_14 := cl_ c79_13
def c79_15 := cr_ c79_13
def c79_16 := cr_ c79_9
def c79_58 := cr_ c79_3
def c79_61 := cr_ c79_58

theorem S_towpathlaw01_Book_lookHeld {b_ : Option Addr} {w : World} {R : Bool → World → Prop} (h : F_towpathlaw01_Book_lookHeld b_ R w) : C_towpathlaw01_Book_lookHeld b_ w R := by
 unfold F_towpathlaw01_Book_lookHeld at h
 unfold C_towpathlaw01_Book_lookHeld
 refine Calls.mono (calls_of_wpE (args := [Value.pointer b_]) (R := fun v w' => ∃ (r0 : Bool), v = Value.bool r0 ∧ R r0 w') Tryz.func79 (c := c79_0) (by kernel_rfl) 64 (by kernel_rfl) (by kernel_rfl) [(0, Value.pointer b_)] (by kernel_rfl) ?_) ?_
 · refine Zp c79_3 P1 [(0, .pointer b_)] ?_
   refine Zs c79_4 c79_58 ?_
   refine Zp c79_7 P1 [(0, .pointer b_), (3, .int .i64 0)] ?_
   refine Zb 0 c79_8 ?_
   obtain ⟨I, μ, h0, hr⟩ := h
   refine wpE_loop (x := c79_9) (by kernel_rfl) (fun m l w => ∃ (i : Int), l = [(0, Value.pointer b_), (3, Value.int .i64 i)] ∧ I i w ∧ μ i w = m) (l' := [(0, Value.pointer b_), (3, Value.int .i64 0)]) (Sub.mk (by kernel_rfl)) ⟨0, rfl, h0, rfl⟩ ?_
   rintro _ _ w1 ⟨i, rfl, hI, rfl⟩
   obtain ⟨again_, again__h, h⟩ : ∃ again_ : Int → World → Prop, (∀ i' w', again_ i' w' → I i' w' ∧ μ i' w' < μ i w1) ∧ F_towpathlaw01_Book_lookHeld_L0 b_ R again_ i w1 := ⟨_, fun _ _ h => h, hr i w1 hI⟩
   clear h0 hI
   unfold F_towpathlaw01_Book_lookHeld_L0 at h
   refine Zs c79_10 c79_16 ?_
   refine Zt r79_11 c79_13 ?_
   refine Zn P2 2 [(0, [], .pointer b_), (3, [], .int .i64 i), (6, [], .int .i64 i), (7, [], .pointer b_)] ?_
   obtain ⟨hp_7, h⟩ := h
   refine Zv (fun pp => [(0, [], .pointer b_), (3, [], .int .i64 i), (6, [], .int .i64 i), (7, [], .pointer pp)]) hp_7 ?_
   refine Zn P1 3 [(0, [], .pointer b_), (3, [], .int .i64 i), (6, [], .int .i64 i), (7, [], .pointer (some ⟨(pblk b_), (poff b_), none⟩)), (8, [], .pointer (some ⟨(pblk b_), (poff b_), none⟩))] ?_
   refine Zn P1 4 [(0, [], .pointer b_), (3, [], .int .i64 i), (6, [], .int .i64 i), (9, [], .pointer (some ⟨(pblk b_), (poff b_) + 8, none⟩))] ?_
   obtain ⟨v10, hc, h⟩ := h
   refine Zl 42 9 (pblk b_) ((poff b_) + 8) 42 10 hc ?_
   refine Zf P2 [(0, .pointer b_), (3, .int .i64 i), (12, .bool (decide (i < ((v10.len : Nat) : Int))))] ?_
   change WpE _ _ c79_13 _ _ _
   refine Zc 12 (decide (i < ((v10.len : Nat) : Int))) c79_14 c79_15 (fun hb => ?_) (fun hb => ?_)
   · replace h := h.1 hb
     exact h.elim
   · replace h := h.2 hb
     refine wpE_exit (id := 0) (by kernel_rfl) ?_
     change WpE _ _ c79_58 _ _ _
     refine Zp c79_61 P1 [(2, .bool true)] ?_
     refine wpE_ret (by kernel_rfl) ?_
     repeat (first | refine seqQ_ret ?_ | refine blockQ_ret ?_ | refine loopQ_ret ?_ | refine cutQ_ret ?_)
     exact retS (rs := [(ResultVar.tmp 2)]) (v := Value.bool true) (by kernel_rfl) (⟨by kernel_rfl, trivial⟩) ⟨true, rfl, h⟩
 · rintro e w' ⟨v, rfl, r0, rfl, h⟩; exact ⟨r0, rfl, h⟩

/-! ### (*towpath/towpathlaw01.Book).lookHeldList (function 80) -/
def c80_0 := cb_ Tryz.f80
def c80_3 := cr_ c80_0
def c80_4 := cl_ c80_3
def c80_7 := cr_ c80_4
def c80_8 := cl_ c80_7
def c80_9 := cl_ c80_8
def c80_10 := cl_ c80_9
def c80_11 := cl_ c80_10
def r80_11 := co_ c80_11
def c80_13 := cr_ c80_10
def c80_14 := cl_ c80_13
def c80_15 := cr_ c80_13
def c80_16 := cr_ c80_9
def c80_58 := cr_ c80_3
def c80_61 := cr_ c80_58

theorem S_towpathlaw01_Book_lookHeldList {b_ : Option Addr} {w : World} {R : Bool → World → Prop} (h : F_towpathlaw01_Book_lookHeldList b_ R w) : C_towpathlaw01_Book_lookHeldList b_ w R := by
 unfold F_towpathlaw01_Book_lookHeldList at h
 unfold C_towpathlaw01_Book_lookHeldList
 refine Calls.mono (calls_of_wpE (args := [Value.pointer b_]) (R := fun v w' => ∃ (r0 : Bool), v = Value.bool r0 ∧ R r0 w') Tryz.func80 (c := c80_0) (by kernel_rfl) 64 (by kernel_rfl) (by kernel_rfl) [(0, Value.pointer b_)] (by kernel_rfl) ?_) ?_
 · refine Zp c80_3 P1 [(0, .pointer b_)] ?_
   refine Zs c80_4 c80_58 ?_
   refine Zp c80_7 P1 [(0, .pointer b_), (3, .int .i64 0)] ?_
   refine Zb 0 c80_8 ?_
   obtain ⟨I, μ, h0, hr⟩ := h
   refine wpE_loop (x := c80_9) (by kernel_rfl) (fun m l w => ∃ (i : Int), l = [(0, Value.pointer b_), (3, Value.int .i64 i)] ∧ I i w ∧ μ i w = m) (l' := [(0, Value.pointer b_), (3, Value.int .i64 0)]) (Sub.mk (by kernel_rfl)) ⟨0, rfl, h0, rfl⟩ ?_
   rintro _ _ w1 ⟨i, rfl, hI, rfl⟩
   obtain ⟨again_, again__h, h⟩ : ∃ again_ : Int → World → Prop, (∀ i' w', again_ i' w' → I i' w' ∧ μ i' w' < μ i w1) ∧ F_towpathlaw01_Book_lookHeldList_L0 b_ R again_ i w1 := ⟨_, fun _ _ h => h, hr i w1 hI⟩
   clear h0 hI
   unfold F_towpathlaw01_Book_lookHeldList_L0 at h
   refine Zs c80_10 c80_16 ?_
   refine Zt r80_11 c80_13 ?_
   refine Zn P2 2 [(0, [], .pointer b_), (3, [], .int .i64 i), (6, [], .int .i64 i), (7, [], .pointer b_)] ?_
   obtain ⟨hp_7, h⟩ := h
   refine Zv (fun pp => [(0, [], .pointer b_), (3, [], .int .i64 i), (6, [], .int .i64 i), (7, [], .pointer pp)]) hp_7 ?_
   refine Zn P1 3 [(0, [], .pointer b_), (3, [], .int .i64 i), (6, [], .int .i64 i), (7, [], .pointer (some ⟨(pblk b_), (poff b_), none⟩)), (8, [], .pointer (some ⟨(pblk b_), (poff b_), none⟩))] ?_
   refine Zn P1 4 [(0, [], .pointer b_), (3, [], .int .i64 i), (6, [], .int .i64 i), (9, [], .pointer (some ⟨(pblk b_), (poff b_) + 9, none⟩))] ?_
   obtain ⟨v10, hc, h⟩ := h
   refine Zl 43 9 (pblk b_) ((poff b_) + 9) 43 10 hc ?_
   refine Zf P2 [(0, .pointer b_), (3, .int .i64 i), (12, .bool (decide (i < ((v10.len : Nat) : Int))))] ?_
   change WpE _ _ c80_13 _ _ _
   refine Zc 12 (decide (i < ((v10.len : Nat) : Int))) c80_14 c80_15 (fun hb => ?_) (fun hb => ?_)
   · replace h := h.1 hb
     exact h.elim
   · replace h := h.2 hb
     refine wpE_exit (id := 0) (by kernel_rfl) ?_
     change WpE _ _ c80_58 _ _ _
     refine Zp c80_61 P1 [(2, .bool true)] ?_
     refine wpE_ret (by kernel_rfl) ?_
     repeat (first | refine seqQ_ret ?_ | refine blockQ_ret ?_ | refine loopQ_ret ?_ | refine cutQ_ret ?_)
     exact retS (rs := [(ResultVar.tmp 2)]) (v := Value.bool true) (by kernel_rfl) (⟨by kernel_rfl, trivial⟩) ⟨true, rfl, h⟩
 · rintro e w' ⟨v, rfl, r0, rfl, h⟩; exact ⟨r0, rfl, h⟩

/-! ### (*towpath/towpathlaw01.Book).lookEvent (function 81) -/
def c81_0 := cb_ Tryz.f81
def c81_3 := cr_ c81_0
def c81_4 := cl_ c81_3
def c81_7 := cr_ c81_4
def c81_8 := cl_ c81_7
def c81_9 := cl_ c81_8
def c81_10 := cl_ c81_9
def c81_11 := cl_ c81_10
def r81_11 := co_ c81_11
def c81_13 := cr_ c81_10
def c81_14 := cl_ c81_13
def c81_15 := cr_ c81_13
def c81_16 := cr_ c81_9
def c81_58 := cr_ c81_3
def c81_61 := cr_ c81_58

theorem S_towpathlaw01_Book_lookEvent {b_ : Option Addr} {w : World} {R : Bool → World → Prop} (h : F_towpathlaw01_Book_lookEvent b_ R w) : C_towpathlaw01_Book_lookEvent b_ w R := by
 unfold F_towpathlaw01_Book_lookEvent at h
 unfold C_towpathlaw01_Book_lookEvent
 refine Calls.mono (calls_of_wpE (args := [Value.pointer b_]) (R := fun v w' => ∃ (r0 : Bool), v = Value.bool r0 ∧ R r0 w') Tryz.func81 (c := c81_0) (by kernel_rfl) 64 (by kernel_rfl) (by kernel_rfl) [(0, Value.pointer b_)] (by kernel_rfl) ?_) ?_
 · refine Zp c81_3 P1 [(0, .pointer b_)] ?_
   refine Zs c81_4 c81_58 ?_
   refine Zp c81_7 P1 [(0, .pointer b_), (3, .int .i64 0)] ?_
   refine Zb 0 c81_8 ?_
   obtain ⟨I, μ, h0, hr⟩ := h
   refine wpE_loop (x := c81_9) (by kernel_rfl) (fun m l w => ∃ (i : Int), l = [(0, Value.pointer b_), (3, Value.int .i64 i)] ∧ I i w ∧ μ i w = m) (l' := [(0, Value.pointer b_), (3, Value.int .i64 0)]) (Sub.mk (by kernel_rfl)) ⟨0, rfl, h0, rfl⟩ ?_
   rintro _ _ w1 ⟨i, rfl, hI, rfl⟩
   obtain ⟨again_, again__h, h⟩ : ∃ again_ : Int → World → Prop, (∀ i' w', again_ i' w' → I i' w' ∧ μ i' w' < μ i w1) ∧ F_towpathlaw01_Book_lookEvent_L0 b_ R again_ i w1 := ⟨_, fun _ _ h => h, hr i w1 hI⟩
   clear h0 hI
   unfold F_towpathlaw01_Book_lookEvent_L0 at h
   refine Zs c81_10 c81_16 ?_
   refine Zt r81_11 c81_13 ?_
   refine Zn P2 2 [(0, [], .pointer b_), (3, [], .int .i64 i), (6, [], .int .i64 i), (7, [], .pointer b_)] ?_
   obtain ⟨hp_7, h⟩ := h
   refine Zv (fun pp => [(0, [], .pointer b_), (3, [], .int .i64 i), (6, [], .int .i64 i), (7, [], .pointer pp)]) hp_7 ?_
   refine Zn P1 3 [(0, [], .pointer b_), (3, [], .int .i64 i), (6, [], .int .i64 i), (7, [], .pointer (some ⟨(pblk b_), (poff b_), none⟩)), (8, [], .pointer (some ⟨(pblk b_), (poff b_), none⟩))] ?_
   refine Zn P1 4 [(0, [], .pointer b_), (3, [], .int .i64 i), (6, [], .int .i64 i), (9, [], .pointer (some ⟨(pblk b_), (poff b_) + 10, none⟩))] ?_
   obtain ⟨v10, hc, h⟩ := h
   refine Zl 44 9 (pblk b_) ((poff b_) + 10) 44 10 hc ?_
   refine Zf P2 [(0, .pointer b_), (3, .int .i64 i), (12, .bool (decide (i < ((v10.len : Nat) : Int))))] ?_
   change WpE _ _ c81_13 _ _ _
   refine Zc 12 (decide (i < ((v10.len : Nat) : Int))) c81_14 c81_15 (fun hb => ?_) (fun hb => ?_)
   · replace h := h.1 hb
     exact h.elim
   · replace h := h.2 hb
     refine wpE_exit (id := 0) (by kernel_rfl) ?_
     change WpE _ _ c81_58 _ _ _
     refine Zp c81_61 P1 [(2, .bool true)] ?_
     refine wpE_ret (by kernel_rfl) ?_
     repeat (first | refine seqQ_ret ?_ | refine blockQ_ret ?_ | refine loopQ_ret ?_ | refine cutQ_ret ?_)
     exact retS (rs := [(ResultVar.tmp 2)]) (v := Value.bool true) (by kernel_rfl) (⟨by kernel_rfl, trivial⟩) ⟨true, rfl, h⟩
 · rintro e w' ⟨v, rfl, r0, rfl, h⟩; exact ⟨r0, rfl, h⟩

/-! ### (*towpath/towpathlaw01.Book).lookAnswer (function 82) -/
def c82_0 := cb_ Tryz.f82
def c82_3 := cr_ c82_0
def c82_4 := cl_ c82_3
def c82_7 := cr_ c82_4
def c82_8 := cl_ c82_7
def c82_9 := cl_ c82_8
def c82_10 := cl_ c82_9
def c82_11 := cl_ c82_10
def r82_11 := co_ c82_11
def c82_13 := cr_ c82_10
def c82_14 := cl_ c82_13
def c82_15 := cr_ c82_13
def c82_16 := cr_ c82_9
def c82_58 := cr_ c82_3
def c82_61 := cr_ c82_58

theorem S_towpathlaw01_Book_lookAnswer {b_ : Option Addr} {w : World} {R : Bool → World → Prop} (h : F_towpathlaw01_Book_lookAnswer b_ R w) : C_towpathlaw01_Book_lookAnswer b_ w R := by
 unfold F_towpathlaw01_Book_lookAnswer at h
 unfold C_towpathlaw01_Book_lookAnswer
 refine Calls.mono (calls_of_wpE (args := [Value.pointer b_]) (R := fun v w' => ∃ (r0 : Bool), v = Value.bool r0 ∧ R r0 w') Tryz.func82 (c := c82_0) (by kernel_rfl) 64 (by kernel_rfl) (by kernel_rfl) [(0, Value.pointer b_)] (by kernel_rfl) ?_) ?_
 · refine Zp c82_3 P1 [(0, .pointer b_)] ?_
   refine Zs c82_4 c82_58 ?_
   refine Zp c82_7 P1 [(0, .pointer b_), (3, .int .i64 0)] ?_
   refine Zb 0 c82_8 ?_
   obtain ⟨I, μ, h0, hr⟩ := h
   refine wpE_loop (x := c82_9) (by kernel_rfl) (fun m l w => ∃ (i : Int), l = [(0, Value.pointer b_), (3, Value.int .i64 i)] ∧ I i w ∧ μ i w = m) (l' := [(0, Value.pointer b_), (3, Value.int .i64 0)]) (Sub.mk (by kernel_rfl)) ⟨0, rfl, h0, rfl⟩ ?_
   rintro _ _ w1 ⟨i, rfl, hI, rfl⟩
   obtain ⟨again_, again__h, h⟩ : ∃ again_ : Int → World → Prop, (∀ i' w', again_ i' w' → I i' w' ∧ μ i' w' < μ i w1) ∧ F_towpathlaw01_Book_lookAnswer_L0 b_ R again_ i w1 := ⟨_, fun _ _ h => h, hr i w1 hI⟩
   clear h0 hI
   unfold F_towpathlaw01_Book_lookAnswer_L0 at h
   refine Zs c82_10 c82_16 ?_
   refine Zt r82_11 c82_13 ?_
   refine Zn P2 2 [(0, [], .pointer b_), (3, [], .int .i64 i), (6, [], .int .i64 i), (7, [], .pointer b_)] ?_
   obtain ⟨hp_7, h⟩ := h
   refine Zv (fun pp => [(0, [], .pointer b_), (3, [], .int .i64 i), (6, [], .int .i64 i), (7, [], .pointer pp)]) hp_7 ?_
   refine Zn P1 3 [(0, [], .pointer b_), (3, [], .int .i64 i), (6, [], .int .i64 i), (7, [], .pointer (some ⟨(pblk b_), (poff b_), none⟩)), (8, [], .pointer (some ⟨(pblk b_), (poff b_), none⟩))] ?_
   refine Zn P1 4 [(0, [], .pointer b_), (3, [], .int .i64 i), (6, [], .int .i64 i), (9, [], .pointer (some ⟨(pblk b_), (poff b_) + 11, none⟩))] ?_
   obtain ⟨v10, hc, h⟩ := h
   refine Zl 45 9 (pblk b_) ((poff b_) + 11) 45 10 hc ?_
   refine Zf P2 [(0, .pointer b_), (3, .int .i64 i), (12, .bool (decide (i < ((v10.len : Nat) : Int))))] ?_
   change WpE _ _ c82_13 _ _ _
   refine Zc 12 (decide (i < ((v10.len : Nat) : Int))) c82_14 c82_15 (fun hb => ?_) (fun hb => ?_)
   · replace h := h.1 hb
     exact h.elim
   · replace h := h.2 hb
     refine wpE_exit (id := 0) (by kernel_rfl) ?_
     change WpE _ _ c82_58 _ _ _
     refine Zp c82_61 P1 [(2, .bool true)] ?_
     refine wpE_ret (by kernel_rfl) ?_
     repeat (first | refine seqQ_ret ?_ | refine blockQ_ret ?_ | refine loopQ_ret ?_ | refine cutQ_ret ?_)
     exact retS (rs := [(ResultVar.tmp 2)]) (v := Value.bool true) (by kernel_rfl) (⟨by kernel_rfl, trivial⟩) ⟨true, rfl, h⟩
 · rintro e w' ⟨v, rfl, r0, rfl, h⟩; exact ⟨r0, rfl, h⟩

/-! ### towpath/towpathlaw01.SameWrites (function 83) -/
def c83_0 := cb_ Tryz.f83
def c83_3 := cr_ c83_0
def c83_4 := cl_ c83_3
def c83_7 := cr_ c83_4
def c83_8 := cl_ c83_7
def c83_11 := cr_ c83_8
def c83_12 := cr_ c83_7
def c83_13 := cr_ c83_3
def c83_14 := cl_ c83_13
def c83_17 := cr_ c83_14
def c83_18 := cl_ c83_17
def c83_19 := cl_ c83_18
def c83_20 := cl_ c83_19
def c83_23 := cr_ c83_20
def c83_24 := cl_ c83_23
def c83_25 := cr_ c83_23
def c83_26 := cr_ c83_19
def c83_27 := cl_ c83_26
def c83_28 := cl_ c83_27
def c83_29 := cl_ c83_28
def r83_29 := co_ c83_29
def c83_31 := cr_ c83_28
def c83_32 := cl_ c83_31
def c83_35 := cr_ c83_32
def c83_36 := cr_ c83_31
def c83_37 := cr_ c83_26
def r83_37 := co_ c83_37
def c83_39 := cr_ c83_13
def c83_42 := cr_ c83_39

theorem S_towpathlaw01_SameWrites {a_ : Slc} {b_ : Slc} {w : World} {R : Bool → World → Prop} (h : F_towpathlaw01_SameWrites a_ b_ R w) : C_towpathlaw01_SameWrites a_ b_ w R := by
 unfold F_towpathlaw01_SameWrites at h
 unfold C_towpathlaw01_SameWrites
 refine Calls.mono (calls_of_wpE (args := [sv_ a_, sv_ b_]) (R := fun v w' => ∃ (r0 : Bool), v = Value.bool r0 ∧ R r0 w') Tryz.func83 (c := c83_0) (by kernel_rfl) 26 (by kernel_rfl) (by kernel_rfl) [(0, sv_ a_), (1, sv_ b_)] (by kernel_rfl) ?_) ?_
 · refine Zp c83_3 P1 [(0, sv_ a_), (1, sv_ b_)] ?_
   refine Zs c83_4 c83_13 ?_
   refine Zp c83_7 (Pl 5) [(0, sv_ a_), (1, sv_ b_), (10, .bool (((a_.len : Nat) : Int) != ((b_.len : Nat) : Int)))] ?_
   refine Zc 10 (((a_.len : Nat) : Int) != ((b_.len : Nat) : Int)) c83_8 c83_12 (fun hb => ?_) (fun hb => ?_)
   · replace h := h.1 hb
     refine Zp c83_11 P1 [(4, .bool false)] ?_
     refine wpE_ret (by kernel_rfl) ?_
     repeat (first | refine seqQ_ret ?_ | refine blockQ_ret ?_ | refine loopQ_ret ?_ | refine cutQ_ret ?_)
     exact retS (rs := [(ResultVar.tmp 4)]) (v := Value.bool false) (by kernel_rfl) (⟨by kernel_rfl, trivial⟩) ⟨false, rfl, h⟩
   · replace h := h.2 hb
     refine wpE_skip (by kernel_rfl) ?_
     change WpE _ _ c83_13 _ _ _
     refine Zs c83_14 c83_39 ?_
     refine Zp c83_17 P1 [(0, sv_ a_), (1, sv_ b_), (5, .int .i64 0)] ?_
     refine Zb 0 c83_18 ?_
     obtain ⟨I, μ, h0, hr⟩ := h
     refine wpE_loop (x := c83_19) (by kernel_rfl) (fun m l w => ∃ (i : Int), l = [(0, sv_ a_), (1, sv_ b_), (5, Value.int .i64 i)] ∧ I i w ∧ μ i w = m) (l' := [(0, sv_ a_), (1, sv_ b_), (5, Value.int .i64 0)]) (Sub.mk (by kernel_rfl)) ⟨0, rfl, h0, rfl⟩ ?_
     rintro _ _ w1 ⟨i, rfl, hI, rfl⟩
     obtain ⟨again_, again__h, h⟩ : ∃ again_ : Int → World → Prop, (∀ i' w', again_ i' w' → I i' w' ∧ μ i' w' < μ i w1) ∧ F_towpathlaw01_SameWrites_L0 a_ b_ R again_ i w1 := ⟨_, fun _ _ h => h, hr i w1 hI⟩
     clear h0 hI
     unfold F_towpathlaw01_SameWrites_L0 at h
     refine Zs c83_20 c83_26 ?_
     refine Zp c83_23 P4 [(0, sv_ a_), (1, sv_ b_), (5, .int .i64 i), (14, .bool (decide (i < ((a_.len : Nat) : Int))))] ?_
     refine Zc 14 (decide (i < ((a_.len : Nat) : Int))) c83_24 c83_25 (fun hb => ?_) (fun hb => ?_)
     · replace h := h.1 hb
       refine wpE_skip (by kernel_rfl) ?_
       change WpE _ _ c83_26 _ _ _
       refine Zs c83_27 c83_37 ?_
       refine Zb 1 c83_28 ?_
       refine Zs c83_29 c83_31 ?_
       refine wpE_drawregion (id := 6) (ops := r83_29) (by kernel_rfl) (by kernel_rfl) (by kernel_rfl) ?_
       refine qreg_run P2 2 [(0, [], sv_ a_), (1, [], sv_ b_), (5, [], Value.int .i64 i), (17, [], sv_ a_), (18, [], Value.int .i64 i)] (by kernel_rfl) (by kernel_rfl) ?_
       obtain ⟨hp_14, h⟩ := h
       refine qreg_conv [(0, [], sv_ a_), (1, [], sv_ b_), (5, [], Value.int .i64 i), (17, [], Value.slice (some ⟨(pblk a_.ptr), (poff a_.ptr), none⟩) a_.len a_.cap), (18, [], Value.int .i64 i)] (congrArg (fun pp => ([(0, [], sv_ a_), (1, [], sv_ b_), (5, [], Value.int .i64 i), (17, [], Value.slice pp a_.len a_.cap), (18, [], Value.int .i64 i)] : GEnv)) hp_14) ?_
       obtain ⟨h0, h1, h⟩ := h
       refine qreg_indexS (t := 50) (e := 139) (x := (Operand.tmp 17)) (ix := (Operand.tmp 18)) (b := (pblk a_.ptr)) (o := (poff a_.ptr)) (l := a_.len) (c := a_.cap) (k := .i64) (j := i) (ty := 0) (dst := some 19) (sz := 3) (by kernel_rfl) (by kernel_rfl) (by kernel_rfl) (by kernel_rfl) (by kernel_rfl) h0 h1 ?_
       refine qreg_run [] 3 [(0, [], sv_ a_), (1, [], sv_ b_), (5, [], Value.int .i64 i), (19, [], Value.pointer (some ⟨(pblk a_.ptr), (poff a_.ptr) + i.toNat * 3, none⟩))] (by kernel_rfl) (by kernel_rfl) ?_
       obtain ⟨v20, hc, h⟩ := h
       refine qreg_loadN (t := 139) (a := (Operand.tmp 19)) (b := (pblk a_.ptr)) (o := ((poff a_.ptr) + i.toNat * 3)) (ty := 139) (dst := some 20) [Value.string v20.Key, Value.string v20.Val, Value.bool v20.Drop] (by kernel_rfl) (by kernel_rfl) (by kernel_rfl) (k := 3) (by kernel_rfl) (by kernel_rfl) hc ?_
       refine qreg_run P2 6 [(0, [], sv_ a_), (1, [], sv_ b_), (5, [], Value.int .i64 i), (20, [], Value.agg #[Value.string v20.Key, Value.string v20.Val, Value.bool v20.Drop]), (21, [], sv_ b_), (22, [], Value.int .i64 i)] (by kernel_rfl) (by kernel_rfl) ?_
       obtain ⟨hp_15, h⟩ := h
       refine qreg_conv [(0, [], sv_ a_), (1, [], sv_ b_), (5, [], Value.int .i64 i), (20, [], Value.agg #[Value.string v20.Key, Value.string v20.Val, Value.bool v20.Drop]), (21, [], Value.slice (some ⟨(pblk b_.ptr), (poff b_.ptr), none⟩) b_.len b_.cap), (22, [], Value.int .i64 i)] (congrArg (fun pp => ([(0, [], sv_ a_), (1, [], sv_ b_), (5, [], Value.int .i64 i), (20, [], Value.agg #[Value.string v20.Key, Value.string v20.Val, Value.bool v20.Drop]), (21, [], Value.slice pp b_.len b_.cap), (22, [], Value.int .i64 i)] : GEnv)) hp_15) ?_
       obtain ⟨h0, h1, h⟩ := h
       refine qreg_indexS (t := 50) (e := 139) (x := (Operand.tmp 21)) (ix := (Operand.tmp 22)) (b := (pblk b_.ptr)) (o := (poff b_.ptr)) (l := b_.len) (c := b_.cap) (k := .i64) (j := i) (ty := 0) (dst := some 23) (sz := 3) (by kernel_rfl) (by kernel_rfl) (by kernel_rfl) (by kernel_rfl) (by kernel_rfl) h0 h1 ?_
       refine qreg_run [] 7 [(0, [], sv_ a_), (1, [], sv_ b_), (5, [], Value.int .i64 i), (20, [], Value.agg #[Value.string v20.Key, Value.string v20.Val, Value.bool v20.Drop]), (23, [], Value.pointer (some ⟨(pblk b_.ptr), (poff b_.ptr) + i.toNat * 3, none⟩))] (by kernel_rfl) (by kernel_rfl) ?_
       obtain ⟨v24, hc, h⟩ := h
       refine qreg_loadN (t := 139) (a := (Operand.tmp 23)) (b := (pblk b_.ptr)) (o := ((poff b_.ptr) + i.toNat * 3)) (ty := 139) (dst := some 24) [Value.string v24.Key, Value.string v24.Val, Value.bool v24.Drop] (by kernel_rfl) (by kernel_rfl) (by kernel_rfl) (k := 3) (by kernel_rfl) (by kernel_rfl) hc ?_
       refine qreg_run [] 8 [(0, [], sv_ a_), (1, [], sv_ b_), (5, [], Value.int .i64 i), (20, [], Value.agg #[Value.string v20.Key, Value.string v20.Val, Value.bool v20.Drop]), (24, [], Value.agg #[Value.string v24.Key, Value.string v24.Val, Value.bool v24.Drop])] (by kernel_rfl) (by kernel_rfl) ?_
       refine qreg_val (op := (Op.binOp BinOp.neq 139 (Operand.tmp 20) (Operand.tmp 24) 139)) (ty := 4) (dst := some 25) (Value.bool (!(((v20.Key == v24.Key) && (v20.Val == v24.Val)) && (v20.Drop == v24.Drop)))) (by kernel_rfl) (fun ww => run_struct_neq (xs := [Value.string v20.Key, Value.string v20.Val, Value.bool v20.Drop]) (ys := [Value.string v24.Key, Value.string v24.Val, Value.bool v24.Drop]) (by kernel_rfl) (by kernel_rfl) (by kernel_rfl) (by kernel_rfl) (by kernel_rfl) ww) ?_
       refine qreg_end [(0, sv_ a_), (1, sv_ b_), (5, Value.int .i64 i), (25, Value.bool (!(((v20.Key == v24.Key) && (v20.Val == v24.Val)) && (v20.Drop == v24.Drop))))] (by kernel_rfl) (by kernel_rfl) (fun w2 hw => ?_)
       replace h := h w2 hw
       clear hw
       change WpE _ _ c83_31 _ _ _
       refine Zc 25 (!(((v20.Key == v24.Key) && (v20.Val == v24.Val)) && (v20.Drop == v24.Drop))) c83_32 c83_36 (fun hb => ?_) (fun hb => ?_)
       · replace h := h.1 hb
         refine Zp c83_35 P1 [(4, .bool false)] ?_
         refine wpE_ret (by kernel_rfl) ?_
         repeat (first | refine seqQ_ret ?_ | refine blockQ_ret ?_ | refine loopQ_ret ?_ | refine cutQ_ret ?_)
         exact retS (rs := [(ResultVar.tmp 4)]) (v := Value.bool false) (by kernel_rfl) (⟨by kernel_rfl, trivial⟩) ⟨false, rfl, h⟩
       · replace h := h.2 hb
         refine wpE_skip (by kernel_rfl) ?_
         change WpE _ _ c83_37 _ _ _
         refine Zr r83_37 ?_
         refine Zf P3 [(0, sv_ a_), (1, sv_ b_), (5, .int .i64 (IntKind.i64.wrap (i + 1)))] ?_
         have hb_ := again__h _ _ h
         exact ⟨_, hb_.2, [(0, sv_ a_), (1, sv_ b_), (5, Value.int .i64 (IntKind.i64.wrap (i + 1)))], Sub.mk (by kernel_rfl), (IntKind.i64.wrap (i + 1)), rfl, hb_.1, rfl⟩
     · replace h := h.2 hb
       refine wpE_exit (id := 0) (by kernel_rfl) ?_
       change WpE _ _ c83_39 _ _ _
       refine Zp c83_42 P1 [(4, .bool true)] ?_
       refine wpE_ret (by kernel_rfl) ?_
       repeat (first | refine seqQ_ret ?_ | refine blockQ_ret ?_ | refine loopQ_ret ?_ | refine cutQ_ret ?_)
       exact retS (rs := [(ResultVar.tmp 4)]) (v := Value.bool true) (by kernel_rfl) (⟨by kernel_rfl, trivial⟩) ⟨true, rfl, h⟩
 · rintro e w' ⟨v, rfl, r0, rfl, h⟩; exact ⟨r0, rfl, h⟩

/-! ### (*towpath/towpathlaw01.Book).Writes (function 84) -/
def c84_0 := cb_ Tryz.f84
def r84_0 := co_ c84_0

theorem S_towpathlaw01_Book_Writes {b_ : Option Addr} {l_ : Slc} {w : World} {R : World → Prop} (h : F_towpathlaw01_Book_Writes b_ l_ R w) : C_towpathlaw01_Book_Writes b_ l_ w R := by
 unfold F_towpathlaw01_Book_Writes at h
 unfold C_towpathlaw01_Book_Writes
 refine Calls.mono (calls_of_wpE (args := [Value.pointer b_, sv_ l_]) (R := fun v w' => v = Value.tuple #[] ∧ R w') Tryz.func84 (c := c84_0) (by kernel_rfl) 7 (by kernel_rfl) (by kernel_rfl) [(0, Value.pointer b_), (1, sv_ l_)] (by kernel_rfl) ?_) ?_
 · refine Zr r84_0 ?_
   refine Zn P2 2 [(4, [], .pointer b_), (5, [], sv_ l_)] ?_
   refine Zm 147 #[.pointer b_, sv_ l_] (some 6) (Calls.mono h ?_)
   rintro _ w1 ⟨rfl, h⟩
   refine ⟨_, rfl, ?_⟩
   refine Ze [] ?_
   repeat (first | refine seqQ_exit ?_ | refine loopQ_exit ?_ | refine cutQ_exit ?_ | refine blockQ_hit ?_ | refine blockQ_miss (by kernel_rfl) ?_)
   refine retQ_normal ?_
   repeat (first | refine seqQ_ret ?_ | refine blockQ_ret ?_ | refine loopQ_ret ?_ | refine cutQ_ret ?_)
   exact retT (rs := []) (vs := []) (by kernel_rfl) (trivial) (by kernel_rfl) ⟨rfl, h⟩
 · rintro e w' ⟨v, rfl, rfl, h⟩; exact ⟨rfl, h⟩

/-! ### (*towpath/towpathlaw01.Book).keepByte (function 114) -/
def c114_0 := cb_ Tryz.f114
def c114_1 := cl_ c114_0
def r114_1 := co_ c114_1
def c114_3 := cr_ c114_0
def r114_3 := co_ c114_3
def o_towpathlaw01_Book_keepByte_3 : List Nat := [0, 1, 2, 3, 4, 5, 6, 7, 8, 9, 10, 11, 12, 13, 14, 15]

theorem S_towpathlaw01_Book_keepByte {b_ : Option Addr} {l_ : Slc} {w : World} {R : World → Prop} (h : F_towpathlaw01_Book_keepByte b_ l_ R w) : C_towpathlaw01_Book_keepByte b_ l_ w R := by
 unfold F_towpathlaw01_Book_keepByte at h
 unfold C_towpathlaw01_Book_keepByte
 refine Calls.mono (calls_of_wpE (args := [Value.pointer b_, sv_ l_]) (R := fun v w' => v = Value.tuple #[] ∧ R w') Tryz.func114 (c := c114_0) (by kernel_rfl) 26 (by kernel_rfl) (by kernel_rfl) [(0, Value.pointer b_), (1, sv_ l_)] (by kernel_rfl) ?_) ?_
 · refine Zt r114_1 c114_3 ?_
   refine Zn P1 1 [(0, [], .pointer b_), (1, [], sv_ l_), (4, [], .pointer b_)] ?_
   obtain ⟨hp_1, h⟩ := h
   refine Zv (fun pp => [(0, [], .pointer b_), (1, [], sv_ l_), (4, [], .pointer pp)]) hp_1 ?_
   refine Zn P1 2 [(0, [], .pointer b_), (1, [], sv_ l_), (4, [], .pointer (some ⟨(pblk b_), (poff b_), none⟩)), (5, [], .pointer (some ⟨(pblk b_), (poff b_), none⟩))] ?_
   refine Zn P1 3 [(0, [], .pointer b_), (1, [], sv_ l_), (4, [], .pointer (some ⟨(pblk b_), (poff b_), none⟩)), (6, [], .pointer (some ⟨(pblk b_), (poff b_), none⟩))] ?_
   obtain ⟨v7, hc, h⟩ := h
   refine Zl 3 6 (pblk b_) (poff b_) 3 7 hc ?_
   refine Zn P3 7 [(0, [], .pointer b_), (1, [], sv_ l_), (8, [], .int .i64 (IntKind.i64.wrap (v7 + 1))), (10, [], .pointer (some ⟨(pblk b_), (poff b_), none⟩))] ?_
   obtain ⟨hc, h⟩ := h
   refine Zo 3 10 8 (pblk b_) (poff b_) 1 [.int .i64 (IntKind.i64.wrap (v7 + 1))] hc (fun w1 hw => ?_)
   replace h := h w1 hw
   clear hw
   refine Ze [(0, .pointer b_), (1, sv_ l_)] ?_
   change WpE _ _ c114_3 _ _ _
   refine wpE_mixregion (id := 1) (ops := r114_3) o_towpathlaw01_Book_keepByte_3 (by kernel_rfl) (by kernel_rfl) (by kernel_rfl) (by kernel_rfl) (fun w2 hw => ?_)
   replace h := h w2 hw
   clear hw
   refine mreg_run P2 2 [(0, [], Value.pointer b_), (1, [], sv_ l_), (11, [], Value.pointer b_), (12, [], Value.pointer b_)] (by kernel_rfl) (by kernel_rfl) ?_
   obtain ⟨hp_2, h⟩ := h
   refine mreg_conv [(0, [], Value.pointer b_), (1, [], sv_ l_), (11, [], Value.pointer b_), (12, [], Value.pointer (some ⟨(pblk b_), (poff b_), none⟩))] (congrArg (fun pp => ([(0, [], Value.pointer b_), (1, [], sv_ l_), (11, [], Value.pointer b_), (12, [], Value.pointer pp)] : GEnv)) hp_2) ?_
   refine mreg_run P1 3 [(0, [], Value.pointer b_), (1, [], sv_ l_), (11, [], Value.pointer b_), (12, [], Value.pointer (some ⟨(pblk b_), (poff b_), none⟩)), (13, [], Value.pointer (some ⟨(pblk b_), (poff b_), none⟩))] (by kernel_rfl) (by kernel_rfl) ?_
   refine mreg_run P1 4 [(0, [], Value.pointer b_), (1, [], sv_ l_), (11, [], Value.pointer b_), (14, [], Value.pointer (some ⟨(pblk b_), (poff b_) + 1, none⟩))] (by kernel_rfl) (by kernel_rfl) ?_
   obtain ⟨v15, hc, h⟩ := h
   refine mreg_load1 (i := 4) (by kernel_rfl) (t := 35) (a := (Operand.tmp 14)) (b := (pblk b_)) (o := ((poff b_) + 1)) (ty := 35) (dst := some 15) (by kernel_rfl) (by kernel_rfl) (by kernel_rfl) hc ?_
   refine mreg_run P2 7 [(11, [], Value.pointer b_), (15, [], sv_ v15), (16, [], sv_ l_), (17, [], Value.pointer b_)] (by kernel_rfl) (by kernel_rfl) ?_
   obtain ⟨hp_3, h⟩ := h
   refine mreg_conv [(11, [], Value.pointer b_), (15, [], sv_ v15), (16, [], sv_ l_), (17, [], Value.pointer (some ⟨(pblk b_), (poff b_), none⟩))] (congrArg (fun pp => ([(11, [], Value.pointer b_), (15, [], sv_ v15), (16, [], sv_ l_), (17, [], Value.pointer pp)] : GEnv)) hp_3) ?_
   refine mreg_run P1 8 [(11, [], Value.pointer b_), (15, [], sv_ v15), (16, [], sv_ l_), (17, [], Value.pointer (some ⟨(pblk b_), (poff b_), none⟩)), (18, [], Value.pointer (some ⟨(pblk b_), (poff b_), none⟩))] (by kernel_rfl) (by kernel_rfl) ?_
   refine mreg_run P1 9 [(11, [], Value.pointer b_), (15, [], sv_ v15), (16, [], sv_ l_), (19, [], Value.pointer (some ⟨(pblk b_), (poff b_), none⟩))] (by kernel_rfl) (by kernel_rfl) ?_
   obtain ⟨v20, hc, h⟩ := h
   refine mreg_load1 (i := 9) (by kernel_rfl) (t := 3) (a := (Operand.tmp 19)) (b := (pblk b_)) (o := (poff b_)) (ty := 3) (dst := some 20) (by kernel_rfl) (by kernel_rfl) (by kernel_rfl) hc ?_
   refine mreg_run P1 11 [(11, [], Value.pointer b_), (15, [], sv_ v15), (21, [], Value.agg #[sv_ l_, Value.slice none 0 0, Value.int .i64 v20])] (by kernel_rfl) (by kernel_rfl) ?_
   refine mreg_new (op := (Op.buildSlice 35 1 #[(0, (Operand.tmp 21))])) (ty := 35) (dst := some 22) 11 [10, 5, 9, 8, 7, 6] [(4, fun w' => w'.cell? ⟨(pblk b_), (poff b_) + 1, none⟩ = some (sv_ v15))] (fun bb => Value.slice (some ⟨bb, 0, none⟩) 1 1) (Obj.cells ([sv_ l_, Value.slice none 0 0, Value.int .i64 v20]).toArray ty_towpathlaw01_heldByte (0, 0)) (by kernel_rfl) (by kernel_rfl) (by kernel_rfl) (by kernel_rfl) (by kernel_rfl) (by kernel_rfl) (fun b_1 w3 hb hw => ?_)
   replace h := h b_1 w3 hb hw
   clear hb hw
   obtain ⟨hk0, h⟩ := h
   refine ⟨⟨hk0, trivial⟩, ?_⟩
   refine mreg_run [] 12 [(11, [], Value.pointer b_), (15, [], sv_ v15), (22, [], Value.slice (some ⟨b_1, 0, none⟩) 1 1)] (by kernel_rfl) (by kernel_rfl) ?_
   obtain ⟨src, hs, h⟩ := h
   refine mreg_append (t := 35) (tx := 35) (e := 143) (a := (Operand.tmp 15)) (xo := (Operand.tmp 22)) (s := v15) (x := (Slc.mk (some ⟨b_1, 0, none⟩) 1 1)) (sz := 3) (by_ := 56) (zs := [Value.slice none 0 0, Value.slice none 0 0, Value.int .i64 0]) (ty := 35) (dst := some 23) 12 [4, 11, 3, 10, 2, 5, 9, 1, 8, 7, 6] [] src (by kernel_rfl) (by kernel_rfl) (by kernel_rfl) (by kernel_rfl) (by kernel_rfl) (by kernel_rfl) (by kernel_rfl) (by kernel_rfl) (by kernel_rfl) (by kernel_rfl) (by kernel_rfl) (by kernel_rfl) (by kernel_rfl) hs (AppendW.mono h (fun v23 w4 h => ?_))
   refine ⟨trivial, ?_⟩
   refine mreg_run [] 13 [(11, [], Value.pointer b_), (23, [], sv_ v23)] (by kernel_rfl) (by kernel_rfl) ?_
   obtain ⟨hp_4, h⟩ := h
   refine mreg_conv [(11, [], Value.pointer (some ⟨(pblk b_), (poff b_), none⟩)), (23, [], sv_ v23)] (congrArg (fun pp => ([(11, [], Value.pointer pp), (23, [], sv_ v23)] : GEnv)) hp_4) ?_
   refine mreg_run P1 14 [(11, [], Value.pointer (some ⟨(pblk b_), (poff b_), none⟩)), (23, [], sv_ v23), (24, [], Value.pointer (some ⟨(pblk b_), (poff b_), none⟩))] (by kernel_rfl) (by kernel_rfl) ?_
   refine mreg_run P1 15 [(23, [], sv_ v23), (25, [], Value.pointer (some ⟨(pblk b_), (poff b_) + 1, none⟩))] (by kernel_rfl) (by kernel_rfl) ?_
   obtain ⟨hc, h⟩ := h
   refine mreg_store (t := 35) (a := (Operand.tmp 25)) (x := (Operand.tmp 23)) (b := (pblk b_)) (o := ((poff b_) + 1)) (k := 1) (ty := 0) (dst := none) 15 [0, 1, 2, 3, 4, 5, 6, 7, 8, 9, 10, 11, 12, 14, 13] [] [sv_ v23] (by kernel_rfl) (by kernel_rfl) (by kernel_rfl) (by kernel_rfl) (by kernel_rfl) (by kernel_rfl) (by kernel_rfl) (by kernel_rfl) (by kernel_rfl) (by kernel_rfl) hc (fun w5 hw => ?_)
   replace h := h w5 hw
   clear hw
   refine ⟨trivial, ?_⟩
   refine mreg_end [] (by kernel_rfl) (by kernel_rfl) (by kernel_rfl) ?_
   repeat (first | refine seqQ_exit ?_ | refine loopQ_exit ?_ | refine cutQ_exit ?_ | refine blockQ_hit ?_ | refine blockQ_miss (by kernel_rfl) ?_)
   refine retQ_normal ?_
   repeat (first | refine seqQ_ret ?_ | refine blockQ_ret ?_ | refine loopQ_ret ?_ | refine cutQ_ret ?_)
   exact retT (rs := []) (vs := []) (by kernel_rfl) (trivial) (by kernel_rfl) ⟨rfl, h⟩
 · rintro e w' ⟨v, rfl, rfl, h⟩; exact ⟨rfl, h⟩

/-! ### towpath/towpathlaw01.markByte (function 125) -/
def c125_0 := cb_ Tryz.f125
def c125_3 := cr_ c125_0
def c125_6 := cr_ c125_3

theorem S_towpathlaw01_markByte {n_ : Int} {w : World} {R : Int → World → Prop} (h : F_towpathlaw01_markByte n_ R w) : C_towpathlaw01_markByte n_ w R := by
 unfold F_towpathlaw01_markByte at h
 unfold C_towpathlaw01_markByte
 refine Calls.mono (calls_of_wpE (args := [Value.int .i64 n_]) (R := fun v w' => ∃ (r0 : Int), v = Value.int .u8 r0 ∧ R r0 w') Tryz.func125 (c := c125_0) (by kernel_rfl) 7 (by kernel_rfl) (by kernel_rfl) [(0, Value.int .i64 n_)] (by kernel_rfl) ?_) ?_
 · refine Zp c125_3 P1 [(0, .int .i64 n_)] ?_
   refine Zp c125_6 (Pl 5) [(2, .int .u8 (IntKind.u8.wrap (IntKind.i64.wrap (1 + (Int.tmod n_ 255)))))] ?_
   refine wpE_ret (by kernel_rfl) ?_
   repeat (first | refine seqQ_ret ?_ | refine blockQ_ret ?_ | refine loopQ_ret ?_ | refine cutQ_ret ?_)
   exact retS (rs := [(ResultVar.tmp 2)]) (v := Value.int .u8 (IntKind.u8.wrap (IntKind.i64.wrap (1 + (Int.tmod n_ 255))))) (by kernel_rfl) (⟨by kernel_rfl, trivial⟩) ⟨(IntKind.u8.wrap (IntKind.i64.wrap (1 + (Int.tmod n_ 255)))), rfl, h⟩
 · rintro e w' ⟨v, rfl, r0, rfl, h⟩; exact ⟨r0, rfl, h⟩

/-! ### towpath/towpathlaw01.markWrite (function 128) -/
def c128_0 := cb_ Tryz.f128
def c128_1 := cl_ c128_0
def r128_1 := co_ c128_1
def c128_3 := cr_ c128_0
def c128_4 := cl_ c128_3
def r128_4 := co_ c128_4
def c128_6 := cr_ c128_3

theorem S_towpathlaw01_markWrite {n_ : Int} {w : World} {R : T_api_Write → World → Prop} (h : F_towpathlaw01_markWrite n_ R w) : C_towpathlaw01_markWrite n_ w R := by
 unfold F_towpathlaw01_markWrite at h
 unfold C_towpathlaw01_markWrite
 refine Calls.mono (calls_of_wpE (args := [Value.int .i64 n_]) (R := fun v w' => ∃ (r0 : T_api_Write), v = Value.agg #[Value.string r0.Key, Value.string r0.Val, Value.bool r0.Drop] ∧ R r0 w') Tryz.func128 (c := c128_0) (by kernel_rfl) 6 (by kernel_rfl) (by kernel_rfl) [(0, Value.int .i64 n_)] (by kernel_rfl) ?_) ?_
 · refine Zt r128_1 c128_3 ?_
   refine Zn [] 0 [(0, [], .int .i64 n_)] ?_
   refine Zw (some 2) (fun bb => pv_ bb) (Obj.cells ([.string ByteArray.empty, .string ByteArray.empty, .bool false]).toArray ty_api_Write (0, 0)) (fun b_ w1 hb hw => ?_)
   replace h := h b_ w1 hb hw
   clear hb hw
   refine Ze [(0, .int .i64 n_), (2, pv_ b_)] ?_
   change WpE _ _ c128_3 _ _ _
   refine Zt r128_4 c128_6 ?_
   refine Zn P1 1 [(2, [], pv_ b_), (3, [], .int .i64 n_)] ?_
   refine Zm 186 #[.int .i64 n_] (some 4) (Calls.mono h ?_)
   rintro _ w2 ⟨v4, rfl, h⟩
   refine ⟨_, rfl, ?_⟩
   refine Zn P1 3 [(2, [], pv_ b_), (5, [], .agg #[.string v4, .string ByteArray.empty, .bool false])] ?_
   obtain ⟨hc, h⟩ := h
   refine Zo 139 2 5 b_ 0 3 [.string v4, .string ByteArray.empty, .bool false] hc (fun w3 hw => ?_)
   replace h := h w3 hw
   clear hw
   refine Ze [(2, pv_ b_)] ?_
   change WpE _ _ c128_6 _ _ _
   refine wpE_ret (by kernel_rfl) ?_
   obtain ⟨res, hc_res, h⟩ := h
   repeat (first | refine seqQ_ret ?_ | refine blockQ_ret ?_ | refine loopQ_ret ?_ | refine cutQ_ret ?_)
   exact retS (rs := [(ResultVar.cell 2 139)]) (v := Value.agg #[Value.string res.Key, Value.string res.Val, Value.bool res.Drop]) (by kernel_rfl) (⟨b_, 0, [Value.string res.Key, Value.string res.Val, Value.bool res.Drop], by kernel_rfl, hc_res, (sizeP_of (k := 3) (by kernel_rfl) (by kernel_rfl)), .inl ⟨by kernel_rfl, rfl⟩, trivial⟩) ⟨res, rfl, h⟩
 · rintro e w' ⟨v, rfl, r0, rfl, h⟩; exact ⟨r0, rfl, h⟩

/-! ### towpath/towpathlaw01.markTxn (function 131) -/
def c131_0 := cb_ Tryz.f131
def c131_1 := cl_ c131_0
def r131_1 := co_ c131_1
def c131_3 := cr_ c131_0
def c131_4 := cl_ c131_3
def r131_4 := co_ c131_4
def c131_6 := cr_ c131_3

theorem S_towpathlaw01_markTxn {n_ : Int} {w : World} {R : T_api_Txn → World → Prop} (h : F_towpathlaw01_markTxn n_ R w) : C_towpathlaw01_markTxn n_ w R := by
 unfold F_towpathlaw01_markTxn at h
 unfold C_towpathlaw01_markTxn
 refine Calls.mono (calls_of_wpE (args := [Value.int .i64 n_]) (R := fun v w' => ∃ (r0 : T_api_Txn), v = Value.agg #[Value.int .i64 r0.Number, sv_ r0.Writes] ∧ R r0 w') Tryz.func131 (c := c131_0) (by kernel_rfl) 6 (by kernel_rfl) (by kernel_rfl) [(0, Value.int .i64 n_)] (by kernel_rfl) ?_) ?_
 · refine Zt r131_1 c131_3 ?_
   refine Zn [] 0 [(0, [], .int .i64 n_)] ?_
   refine Zw (some 2) (fun bb => pv_ bb) (Obj.cells ([.int .i64 0, .slice none 0 0]).toArray ty_api_Txn (0, 0)) (fun b_ w1 hb hw => ?_)
   replace h := h b_ w1 hb hw
   clear hb hw
   refine Ze [(0, .int .i64 n_), (2, pv_ b_)] ?_
   change WpE _ _ c131_3 _ _ _
   refine Zt r131_4 c131_6 ?_
   refine Zn P3 3 [(2, [], pv_ b_), (5, [], .agg #[.int .i64 (IntKind.i64.wrap ((-1000) - n_)), .slice none 0 0])] ?_
   obtain ⟨hc, h⟩ := h
   refine Zo 52 2 5 b_ 0 2 [.int .i64 (IntKind.i64.wrap ((-1000) - n_)), .slice none 0 0] hc (fun w2 hw => ?_)
   replace h := h w2 hw
   clear hw
   refine Ze [(2, pv_ b_)] ?_
   change WpE _ _ c131_6 _ _ _
   refine wpE_ret (by kernel_rfl) ?_
   obtain ⟨res, hc_res, h⟩ := h
   repeat (first | refine seqQ_ret ?_ | refine blockQ_ret ?_ | refine loopQ_ret ?_ | refine cutQ_ret ?_)
   exact retS (rs := [(ResultVar.cell 2 52)]) (v := Value.agg #[Value.int .i64 res.Number, sv_ res.Writes]) (by kernel_rfl) (⟨b_, 0, [Value.int .i64 res.Number, sv_ res.Writes], by kernel_rfl, hc_res, (sizeP_of (k := 2) (by kernel_rfl) (by kernel_rfl)), .inl ⟨by kernel_rfl, rfl⟩, trivial⟩) ⟨res, rfl, h⟩
 · rintro e w' ⟨v, rfl, r0, rfl, h⟩; exact ⟨r0, rfl, h⟩

/-! ### towpath/towpathlaw01.isByte (function 136) -/
def c136_0 := cb_ Tryz.f136
def c136_3 := cr_ c136_0
def c136_6 := cr_ c136_3

theorem S_towpathlaw01_isByte {x : Int} {n_ : Int} {w : World} {R : Bool → World → Prop} (h : F_towpathlaw01_isByte x n_ R w) : C_towpathlaw01_isByte x n_ w R := by
 unfold F_towpathlaw01_isByte at h
 unfold C_towpathlaw01_isByte
 refine Calls.mono (calls_of_wpE (args := [Value.int .u8 x, Value.int .i64 n_]) (R := fun v w' => ∃ (r0 : Bool), v = Value.bool r0 ∧ R r0 w') Tryz.func136 (c := c136_0) (by kernel_rfl) 11 (by kernel_rfl) (by kernel_rfl) [(0, Value.int .u8 x), (1, Value.int .i64 n_)] (by kernel_rfl) ?_) ?_
 · refine Zp c136_3 P1 [(0, .int .u8 x), (1, .int .i64 n_)] ?_
   refine Zp c136_6 (Pl 7) [(4, .bool (x == (IntKind.u8.wrap (IntKind.i64.wrap (1 + (Int.tmod n_ 255))))))] ?_
   refine wpE_ret (by kernel_rfl) ?_
   repeat (first | refine seqQ_ret ?_ | refine blockQ_ret ?_ | refine loopQ_ret ?_ | refine cutQ_ret ?_)
   exact retS (rs := [(ResultVar.tmp 4)]) (v := Value.bool (x == (IntKind.u8.wrap (IntKind.i64.wrap (1 + (Int.tmod n_ 255)))))) (by kernel_rfl) (⟨by kernel_rfl, trivial⟩) ⟨(x == (IntKind.u8.wrap (IntKind.i64.wrap (1 + (Int.tmod n_ 255))))), rfl, h⟩
 · rintro e w' ⟨v, rfl, r0, rfl, h⟩; exact ⟨r0, rfl, h⟩

/-! ### towpath/towpathlaw01.isWrite (function 139) -/
def c139_0 := cb_ Tryz.f139
def c139_1 := cl_ c139_0
def r139_1 := co_ c139_1
def c139_3 := cr_ c139_0
def c139_4 := cl_ c139_3
def r139_4 := co_ c139_4
def c139_6 := cr_ c139_3
def o_towpathlaw01_isWrite_4 : List Nat := [0, 1, 2, 3, 4, 5]

theorem S_towpathlaw01_isWrite {x : T_api_Write} {n_ : Int} {w : World} {R : Bool → World → Prop} (h : F_towpathlaw01_isWrite x n_ R w) : C_towpathlaw01_isWrite x n_ w R := by
 unfold F_towpathlaw01_isWrite at h
 unfold C_towpathlaw01_isWrite
 refine Calls.mono (calls_of_wpE (args := [Value.agg #[Value.string x.Key, Value.string x.Val, Value.bool x.Drop], Value.int .i64 n_]) (R := fun v w' => ∃ (r0 : Bool), v = Value.bool r0 ∧ R r0 w') Tryz.func139 (c := c139_0) (by kernel_rfl) 10 (by kernel_rfl) (by kernel_rfl) [(0, Value.agg #[Value.string x.Key, Value.string x.Val, Value.bool x.Drop]), (1, Value.int .i64 n_)] (by kernel_rfl) ?_) ?_
 · refine Zt r139_1 c139_3 ?_
   refine Zn [] 0 [(0, [], .agg #[.string x.Key, .string x.Val, .bool x.Drop]), (1, [], .int .i64 n_)] ?_
   refine Zw (some 2) (fun bb => pv_ bb) (Obj.cells ([.string x.Key, .string x.Val, .bool x.Drop]).toArray ty_api_Write (0, 0)) (fun b_ w1 hb hw => ?_)
   replace h := h b_ w1 hb hw
   clear hb hw
   refine Zf P1 [(1, .int .i64 n_), (2, pv_ b_)] ?_
   change WpE _ _ c139_3 _ _ _
   refine Zs c139_4 c139_6 ?_
   refine wpE_mixregion (id := 1) (ops := r139_4) o_towpathlaw01_isWrite_4 (by kernel_rfl) (by kernel_rfl) (by kernel_rfl) (by kernel_rfl) (fun w2 hw => ?_)
   replace h := h w2 hw
   clear hw
   refine mreg_run [] 0 [(1, [], Value.int .i64 n_), (2, [], pv_ b_)] (by kernel_rfl) (by kernel_rfl) ?_
   obtain ⟨v5, hc, h⟩ := h
   refine mreg_loadN (i := 0) (by kernel_rfl) (t := 139) (a := (Operand.tmp 2)) (b := b_) (o := 0) (ty := 139) (dst := some 5) [Value.string v5.Key, Value.string v5.Val, Value.bool v5.Drop] (by kernel_rfl) (by kernel_rfl) (by kernel_rfl) (k := 3) (by kernel_rfl) (by kernel_rfl) hc ?_
   refine mreg_run P1 2 [(5, [], Value.agg #[Value.string v5.Key, Value.string v5.Val, Value.bool v5.Drop]), (6, [], Value.int .i64 n_)] (by kernel_rfl) (by kernel_rfl) ?_
   refine mreg_enter (op := (Op.call (Call.mk (Callee.value (Operand.func 186)) #[(Operand.tmp 6)] #[3]))) (ty := 9) (dst := some 7) 2 [1] [(0, fun w' => CellsAt w' b_ 0 [Value.string v5.Key, Value.string v5.Val, Value.bool v5.Drop])] 186 #[Value.int .i64 n_] (by kernel_rfl) (by kernel_rfl) (by kernel_rfl) (by kernel_rfl) (by kernel_rfl) (fun ww => by kernel_rfl) (Calls.mono h ?_)
   rintro _ w3 ⟨v7, rfl, h⟩
   obtain ⟨hk0, h⟩ := h
   refine ⟨_, rfl, ⟨hk0, trivial⟩, ?_⟩
   refine mreg_run P1 4 [(5, [], Value.agg #[Value.string v5.Key, Value.string v5.Val, Value.bool v5.Drop]), (8, [], Value.agg #[Value.string v7, Value.string ByteArray.empty, Value.bool false])] (by kernel_rfl) (by kernel_rfl) ?_
   refine mreg_val (i := 4) (by kernel_rfl) (op := (Op.binOp BinOp.eql 139 (Operand.tmp 5) (Operand.tmp 8) 139)) (ty := 4) (dst := some 9) (Value.bool (((v5.Key == v7) && (v5.Val == ByteArray.empty)) && (v5.Drop == false))) (by kernel_rfl) (fun ww => run_struct_eql (xs := [Value.string v5.Key, Value.string v5.Val, Value.bool v5.Drop]) (ys := [Value.string v7, Value.string ByteArray.empty, Value.bool false]) (by kernel_rfl) (by kernel_rfl) (by kernel_rfl) (by kernel_rfl) (by kernel_rfl) ww) ?_
   refine mreg_run P1 6 [(4, [], Value.bool (((v5.Key == v7) && (v5.Val == ByteArray.empty)) && (v5.Drop == false)))] (by kernel_rfl) (by kernel_rfl) ?_
   refine mreg_end [(4, Value.bool (((v5.Key == v7) && (v5.Val == ByteArray.empty)) && (v5.Drop == false)))] (by kernel_rfl) (by kernel_rfl) (by kernel_rfl) ?_
   change WpE _ _ c139_6 _ _ _
   refine wpE_ret (by kernel_rfl) ?_
   repeat (first | refine seqQ_ret ?_ | refine blockQ_ret ?_ | refine loopQ_ret ?_ | refine cutQ_ret ?_)
   exact retS (rs := [(ResultVar.tmp 4)]) (v := Value.bool (((v5.Key == v7) && (v5.Val == ByteArray.empty)) && (v5.Drop == false))) (by kernel_rfl) (⟨by kernel_rfl, trivial⟩) ⟨(((v5.Key == v7) && (v5.Val == ByteArray.empty)) && (v5.Drop == false)), rfl, h⟩
 · rintro e w' ⟨v, rfl, r0, rfl, h⟩; exact ⟨r0, rfl, h⟩

/-! ### towpath/towpathlaw01.isTxn (function 142) -/
def c142_0 := cb_ Tryz.f142
def c142_1 := cl_ c142_0
def r142_1 := co_ c142_1
def c142_3 := cr_ c142_0
def c142_4 := cl_ c142_3
def r142_4 := co_ c142_4
def c142_6 := cr_ c142_3

theorem S_towpathlaw01_isTxn {x : T_api_Txn} {n_ : Int} {w : World} {R : Bool → World → Prop} (h : F_towpathlaw01_isTxn x n_ R w) : C_towpathlaw01_isTxn x n_ w R := by
 unfold F_towpathlaw01_isTxn at h
 unfold C_towpathlaw01_isTxn
 refine Calls.mono (calls_of_wpE (args := [Value.agg #[Value.int .i64 x.Number, sv_ x.Writes], Value.int .i64 n_]) (R := fun v w' => ∃ (r0 : Bool), v = Value.bool r0 ∧ R r0 w') Tryz.func142 (c := c142_0) (by kernel_rfl) 16 (by kernel_rfl) (by kernel_rfl) [(0, Value.agg #[Value.int .i64 x.Number, sv_ x.Writes]), (1, Value.int .i64 n_)] (by kernel_rfl) ?_) ?_
 · refine Zt r142_1 c142_3 ?_
   refine Zn [] 0 [(0, [], .agg #[.int .i64 x.Number, sv_ x.Writes]), (1, [], .int .i64 n_)] ?_
   refine Zw (some 2) (fun bb => pv_ bb) (Obj.cells ([.int .i64 x.Number, sv_ x.Writes]).toArray ty_api_Txn (0, 0)) (fun b_ w1 hb hw => ?_)
   replace h := h b_ w1 hb hw
   clear hb hw
   refine Zf P1 [(1, .int .i64 n_), (2, pv_ b_)] ?_
   change WpE _ _ c142_3 _ _ _
   refine Zt r142_4 c142_6 ?_
   refine Zn P1 1 [(1, [], .int .i64 n_), (2, [], pv_ b_), (5, [], pv_ b_)] ?_
   obtain ⟨v6, hc, h⟩ := h
   refine Zl 3 5 b_ 0 3 6 hc ?_
   refine Zn (Pl 5) 7 [(10, [], .bool (v6 == (IntKind.i64.wrap ((-1000) - n_)))), (11, [(10, true)], .pointer (some ⟨b_, 1, none⟩))] ?_
   refine reg_split 10 (v6 == (IntKind.i64.wrap ((-1000) - n_))) (by kernel_rfl) (fun hb => ?_) (fun hb => ?_)
   · replace h := h.1 hb
     refine Zn [] 7 [(10, [], .bool true), (11, [], .pointer (some ⟨b_, 1, none⟩))] ?_
     refine Zn [] 7 [(10, [], .bool true), (11, [], .pointer (some ⟨b_, 1, none⟩))] ?_
     obtain ⟨v12, hc, h⟩ := h
     refine Zl 50 11 b_ 1 50 12 hc ?_
     refine Zf [.sure, .sure, .plain, .plain] [(4, .bool (((v12.len : Nat) : Int) == 0))] ?_
     change WpE _ _ c142_6 _ _ _
     refine wpE_ret (by kernel_rfl) ?_
     repeat (first | refine seqQ_ret ?_ | refine blockQ_ret ?_ | refine loopQ_ret ?_ | refine cutQ_ret ?_)
     exact retS (rs := [(ResultVar.tmp 4)]) (v := Value.bool (((v12.len : Nat) : Int) == 0)) (by kernel_rfl) (⟨by kernel_rfl, trivial⟩) ⟨(((v12.len : Nat) : Int) == 0), rfl, h⟩
   · replace h := h.2 hb
     refine Zn [] 7 [(10, [], .bool false), (11, [], undef)] ?_
     refine Zf [.skip, .skip, .skip, .plain, .plain] [(4, .bool false)] ?_
     change WpE _ _ c142_6 _ _ _
     refine wpE_ret (by kernel_rfl) ?_
     repeat (first | refine seqQ_ret ?_ | refine blockQ_ret ?_ | refine loopQ_ret ?_ | refine cutQ_ret ?_)
     exact retS (rs := [(ResultVar.tmp 4)]) (v := Value.bool false) (by kernel_rfl) (⟨by kernel_rfl, trivial⟩) ⟨false, rfl, h⟩
 · rintro e w' ⟨v, rfl, r0, rfl, h⟩; exact ⟨r0, rfl, h⟩
end
end Go.Proofs.YtpdegdnigcnjiaaGreatDoor
