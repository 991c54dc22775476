/- WRITTEN BY PROGRAM (dec.py): for each Go function the clean formula F, the call's contract C, and the proof S that F gives C. -/
import Derived.Test.YtpdegdnigcnjiaaGreatDoorRows
import Derived.Test.YtpdegdnigcnjiaaGreatDoorGF
namespace Go.Proofs.YtpdegdnigcnjiaaGreatDoor
open Go
set_option linter.unusedVariables false
set_option maxRecDepth 100000
set_option maxHeartbeats 4000000
noncomputable section

/-! ### (*towpath/towpathlaw01.Book).lookTxn (function 78) -/
def c78_0 := cb_ Tryz.f78
def c78_3 := cr_ c78_0
def c78_4 := cl_ c78_3
def c78_7 := cr_ c78_4
def c78_8 := cl_ c78_7
def c78_9 := cl_ c78_8
def c78_10 := cl_ c78_9
def c78_11 := cl_ c78_10
def r78_11 := co_ c78_11
def c78_13 := cr_ c78_10
def c78_14 := cl_ c78_13
def c78_15 := cr_ c78_13
def c78_16 := cr_ c78_9
def c78_17 := cl_ c78_16
def c78_18 := cl_ c78_17
def c78_19 := cl_ c78_18
def r78_19 := co_ c78_19
def c78_21 := cr_ c78_18
def c78_22 := cl_ c78_21
def c78_23 := cl_ c78_22
def r78_23 := co_ c78_23
def c78_25 := cr_ c78_22
def c78_26 := cl_ c78_25
def c78_29 := cr_ c78_26
def c78_30 := cr_ c78_25
def c78_31 := cr_ c78_21
def c78_34 := cr_ c78_31
def c78_35 := cl_ c78_34
def c78_36 := cl_ c78_35
def c78_37 := cl_ c78_36
def c78_38 := cl_ c78_37
def r78_38 := co_ c78_38
def c78_40 := cr_ c78_37
def c78_41 := cl_ c78_40
def c78_42 := cr_ c78_40
def c78_43 := cr_ c78_36
def c78_44 := cl_ c78_43
def c78_45 := cl_ c78_44
def c78_46 := cl_ c78_45
def r78_46 := co_ c78_46
def c78_48 := cr_ c78_45
def c78_49 := cl_ c78_48
def c78_52 := cr_ c78_49
def c78_53 := cr_ c78_48
def c78_54 := cr_ c78_43
def r78_54 := co_ c78_54
def c78_56 := cr_ c78_16
def r78_56 := co_ c78_56
def c78_58 := cr_ c78_3
def c78_61 := cr_ c78_58

theorem S_towpathlaw01_Book_lookTxn {b_ : Option Addr} {w : World} {R : Bool → World → Prop} (h : F_towpathlaw01_Book_lookTxn b_ R w) : C_towpathlaw01_Book_lookTxn b_ w R := by
 unfold F_towpathlaw01_Book_lookTxn at h
 unfold C_towpathlaw01_Book_lookTxn
 refine Calls.mono (calls_of_wpE (args := [Value.pointer b_]) (R := fun v w' => ∃ (r0 : Bool), v = Value.bool r0 ∧ R r0 w') Tryz.func78 (c := c78_0) (by kernel_rfl) 64 (by kernel_rfl) (by kernel_rfl) [(0, Value.pointer b_)] (by kernel_rfl) ?_) ?_
 · refine Zp c78_3 P1 [(0, .pointer b_)] ?_
   refine Zs c78_4 c78_58 ?_
   refine Zp c78_7 P1 [(0, .pointer b_), (3, .int .i64 0)] ?_
   refine Zb 0 c78_8 ?_
   obtain ⟨I, μ, h0, hr⟩ := h
   refine wpE_loop (x := c78_9) (by kernel_rfl) (fun m l w => ∃ (i : Int), l = [(0, Value.pointer b_), (3, Value.int .i64 i)] ∧ I i w ∧ μ i w = m) (l' := [(0, Value.pointer b_), (3, Value.int .i64 0)]) (Sub.mk (by kernel_rfl)) ⟨0, rfl, h0, rfl⟩ ?_
   rintro _ _ w1 ⟨i, rfl, hI, rfl⟩
   obtain ⟨again_, again__h, h⟩ : ∃ again_ : Int → World → Prop, (∀ i' w', again_ i' w' → I i' w' ∧ μ i' w' < μ i w1) ∧ F_towpathlaw01_Book_lookTxn_L0 b_ R again_ i w1 := ⟨_, fun _ _ h => h, hr i w1 hI⟩
   clear h0 hI
   unfold F_towpathlaw01_Book_lookTxn_L0 at h
   refine Zs c78_10 c78_16 ?_
   refine Zt r78_11 c78_13 ?_
   refine Zn P2 2 [(0, [], .pointer b_), (3, [], .int .i64 i), (6, [], .int .i64 i), (7, [], .pointer b_)] ?_
   obtain ⟨hp_31, h⟩ := h
   refine Zv (fun pp => [(0, [], .pointer b_), (3, [], .int .i64 i), (6, [], .int .i64 i), (7, [], .pointer pp)]) hp_31 ?_
   refine Zn P1 3 [(0, [], .pointer b_), (3, [], .int .i64 i), (6, [], .int .i64 i), (7, [], .pointer (some ⟨(pblk b_), (poff b_), none⟩)), (8, [], .pointer (some ⟨(pblk b_), (poff b_), none⟩))] ?_
   refine Zn P1 4 [(0, [], .pointer b_), (3, [], .int .i64 i), (6, [], .int .i64 i), (9, [], .pointer (some ⟨(pblk b_), (poff b_) + 7, none⟩))] ?_
   obtain ⟨v10, hc, h⟩ := h
   refine Zl 41 9 (pblk b_) ((poff b_) + 7) 41 10 hc ?_
   refine Zf P2 [(0, .pointer b_), (3, .int .i64 i), (12, .bool (decide (i < ((v10.len : Nat) : Int))))] ?_
   change WpE _ _ c78_13 _ _ _
   refine Zc 12 (decide (i < ((v10.len : Nat) : Int))) c78_14 c78_15 (fun hb => ?_) (fun hb => ?_)
   · replace h := h.1 hb
     refine wpE_skip (by kernel_rfl) ?_
     change WpE _ _ c78_16 _ _ _
     refine Zs c78_17 c78_56 ?_
     refine Zb 1 c78_18 ?_
     refine Zt r78_19 c78_21 ?_
     refine Zn P1 1 [(0, [], .pointer b_), (3, [], .int .i64 i), (15, [], .pointer b_)] ?_
     obtain ⟨hp_46, h⟩ := h
     refine Zv (fun pp => [(0, [], .pointer b_), (3, [], .int .i64 i), (15, [], .pointer pp)]) hp_46 ?_
     refine Zn P1 2 [(0, [], .pointer b_), (3, [], .int .i64 i), (15, [], .pointer (some ⟨(pblk b_), (poff b_), none⟩)), (16, [], .pointer (some ⟨(pblk b_), (poff b_), none⟩))] ?_
     refine Zn P1 3 [(0, [], .pointer b_), (3, [], .int .i64 i), (17, [], .pointer (some ⟨(pblk b_), (poff b_) + 7, none⟩))] ?_
     obtain ⟨v18, hc, h⟩ := h
     refine Zl 41 17 (pblk b_) ((poff b_) + 7) 41 18 hc ?_
     refine Zn P1 5 [(0, [], .pointer b_), (3, [], .int .i64 i), (18, [], sv_ v18), (19, [], .int .i64 i)] ?_
     obtain ⟨hp_47, h⟩ := h
     refine Zv (fun pp => [(0, [], .pointer b_), (3, [], .int .i64 i), (18, [], .slice pp v18.len v18.cap), (19, [], .int .i64 i)]) hp_47 ?_
     obtain ⟨h0, h1, h⟩ := h
     refine Zj 41 141 18 19 (pblk v18.ptr) (poff v18.ptr) v18.len v18.cap i 3 20 0 h0 h1 ?_
     refine Zn [] 6 [(0, [], .pointer b_), (3, [], .int .i64 i), (20, [], .pointer (some ⟨(pblk v18.ptr), (poff v18.ptr) + i.toNat * 3, none⟩))] ?_
     obtain ⟨v21, hc, h⟩ := h
     refine reg_loadN (t := 141) (a := (Operand.tmp 20)) (b := (pblk v18.ptr)) (o := ((poff v18.ptr) + i.toNat * 3)) (ty := 141) (dst := some 21) [sv_ v21.l, sv_ v21.long, Value.int .i64 v21.n] (by kernel_rfl) (by kernel_rfl) (by kernel_rfl) (k := 3) (by kernel_rfl) (by kernel_rfl) hc ?_
     refine Zn [] 7 [(0, [], .pointer b_), (3, [], .int .i64 i), (21, [], .agg #[sv_ v21.l, sv_ v21.long, .int .i64 v21.n])] ?_
     refine Zw (some 4) (fun bb => pv_ bb) (Obj.cells ([.slice none 0 0, .slice none 0 0, .int .i64 0]).toArray ty_towpathlaw01_heldTxn (0, 0)) (fun b_1 w2 hb hw => ?_)
     replace h := h b_1 w2 hb hw
     clear hb hw
     refine Zn [] 8 [(0, [], .pointer b_), (3, [], .int .i64 i), (4, [], pv_ b_1), (21, [], .agg #[sv_ v21.l, sv_ v21.long, .int .i64 v21.n])] ?_
     obtain ⟨hc, h⟩ := h
     refine Zo 141 4 21 b_1 0 3 [sv_ v21.l, sv_ v21.long, .int .i64 v21.n] hc (fun w3 hw => ?_)
     replace h := h w3 hw
     clear hw
     refine Ze [(0, .pointer b_), (3, .int .i64 i), (4, pv_ b_1)] ?_
     change WpE _ _ c78_21 _ _ _
     refine Zs c78_22 c78_31 ?_
     refine Zt r78_23 c78_25 ?_
     refine Zn P1 1 [(0, [], .pointer b_), (3, [], .int .i64 i), (4, [], pv_ b_1), (22, [], .pointer (some ⟨b_1, 1, none⟩))] ?_
     obtain ⟨v23, hc, h⟩ := h
     refine Zl 22 22 b_1 1 22 23 hc ?_
     refine Zn P2 4 [(0, [], .pointer b_), (3, [], .int .i64 i), (4, [], pv_ b_1), (24, [], .int .i64 ((v23.len : Nat) : Int)), (25, [], pv_ b_1)] ?_
     obtain ⟨v26, hc, h⟩ := h
     refine Zl 22 25 b_1 0 22 26 hc ?_
     refine Zf P3 [(0, .pointer b_), (3, .int .i64 i), (4, pv_ b_1), (29, .bool (((v23.len : Nat) : Int) != (IntKind.i64.wrap (((v26.len : Nat) : Int) + 70))))] ?_
     change WpE _ _ c78_25 _ _ _
     refine Zc 29 (((v23.len : Nat) : Int) != (IntKind.i64.wrap (((v26.len : Nat) : Int) + 70))) c78_26 c78_30 (fun hb => ?_) (fun hb => ?_)
     · replace h := h.1 hb
       refine Zp c78_29 P1 [(2, .bool false)] ?_
       refine wpE_ret (by kernel_rfl) ?_
       repeat (first | refine seqQ_ret ?_ | refine blockQ_ret ?_ | refine loopQ_ret ?_ | refine cutQ_ret ?_)
       exact retS (rs := [(ResultVar.tmp 2)]) (v := Value.bool false) (by kernel_rfl) (⟨by kernel_rfl, trivial⟩) ⟨false, rfl, h⟩
     · replace h := h.2 hb
       refine wpE_skip (by kernel_rfl) ?_
       change WpE _ _ c78_31 _ _ _
       refine Zp c78_34 P1 [(0, .pointer b_), (3, .int .i64 i), (4, pv_ b_1), (5, .int .i64 0)] ?_
       refine Zb 2 c78_35 ?_
       obtain ⟨I, μ, h0, hr⟩ := h
       refine wpE_loop (x := c78_36) (by kernel_rfl) (fun m l w => ∃ (k_ : Int), l = [(0, Value.pointer b_), (3, Value.int .i64 i), (4, pv_ b_1), (5, Value.int .i64 k_)] ∧ I k_ w ∧ μ k_ w = m) (l' := [(0, Value.pointer b_), (3, Value.int .i64 i), (4, pv_ b_1), (5, Value.int .i64 0)]) (Sub.mk (by kernel_rfl)) ⟨0, rfl, h0, rfl⟩ ?_
       rintro _ _ w4 ⟨k_, rfl, hI, rfl⟩
       obtain ⟨again_1, again_1_h, h⟩ : ∃ again_1 : Int → World → Prop, (∀ k_' w', again_1 k_' w' → I k_' w' ∧ μ k_' w' < μ k_ w4) ∧ F_towpathlaw01_Book_lookTxn_L1 R i again_ b_1 again_1 k_ w4 := ⟨_, fun _ _ h => h, hr k_ w4 hI⟩
       clear h0 hI
       unfold F_towpathlaw01_Book_lookTxn_L1 at h
       refine Zs c78_37 c78_43 ?_
       refine Zt r78_38 c78_40 ?_
       refine Zn P2 2 [(0, [], .pointer b_), (3, [], .int .i64 i), (4, [], pv_ b_1), (5, [], .int .i64 k_), (30, [], .int .i64 k_), (31, [], .pointer (some ⟨b_1, 1, none⟩))] ?_
       obtain ⟨v32, hc, h⟩ := h
       refine Zl 22 31 b_1 1 22 32 hc ?_
       refine Zf P2 [(0, .pointer b_), (3, .int .i64 i), (4, pv_ b_1), (5, .int .i64 k_), (34, .bool (decide (k_ < ((v32.len : Nat) : Int))))] ?_
       change WpE _ _ c78_40 _ _ _
       refine Zc 34 (decide (k_ < ((v32.len : Nat) : Int))) c78_41 c78_42 (fun hb => ?_) (fun hb => ?_)
       · replace h := h.1 hb
         refine wpE_skip (by kernel_rfl) ?_
         change WpE _ _ c78_43 _ _ _
         refine Zs c78_44 c78_54 ?_
         refine Zb 3 c78_45 ?_
         refine wpE_seq_cut (x := c78_46) (y := c78_48) (by kernel_rfl) (fun l w => ∃ (t63 : Bool), l = [(0, Value.pointer b_), (3, Value.int .i64 i), (4, pv_ b_1), (5, Value.int .i64 k_), (63, Value.bool t63)] ∧ F_towpathlaw01_Book_lookTxn_k2 R k_ again_1 t63 w) ?_ ?_
         · refine wpE_drawregion (id := 10) (ops := r78_46) (by kernel_rfl) (by kernel_rfl) (by kernel_rfl) ?_
           refine qreg_run P1 1 [(0, [], Value.pointer b_), (3, [], Value.int .i64 i), (4, [], pv_ b_1), (5, [], Value.int .i64 k_), (37, [], Value.pointer (some ⟨b_1, 1, none⟩))] (by kernel_rfl) (by kernel_rfl) ?_
           obtain ⟨v38, hc, h⟩ := h
           refine qreg_load1 (t := 22) (a := (Operand.tmp 37)) (b := b_1) (o := 1) (ty := 22) (dst := some 38) (by kernel_rfl) (by kernel_rfl) (by kernel_rfl) hc ?_
           refine qreg_run P1 3 [(0, [], Value.pointer b_), (3, [], Value.int .i64 i), (4, [], pv_ b_1), (5, [], Value.int .i64 k_), (38, [], sv_ v38), (39, [], Value.int .i64 k_)] (by kernel_rfl) (by kernel_rfl) ?_
           obtain ⟨hp_54, h⟩ := h
           refine qreg_conv [(0, [], Value.pointer b_), (3, [], Value.int .i64 i), (4, [], pv_ b_1), (5, [], Value.int .i64 k_), (38, [], Value.slice (some ⟨(pblk v38.ptr), (poff v38.ptr), none⟩) v38.len v38.cap), (39, [], Value.int .i64 k_)] (congrArg (fun pp => ([(0, [], Value.pointer b_), (3, [], Value.int .i64 i), (4, [], pv_ b_1), (5, [], Value.int .i64 k_), (38, [], Value.slice pp v38.len v38.cap), (39, [], Value.int .i64 k_)] : GEnv)) hp_54) ?_
           obtain ⟨h0, h1, h⟩ := h
           refine qreg_indexS (t := 22) (e := 52) (x := (Operand.tmp 38)) (ix := (Operand.tmp 39)) (b := (pblk v38.ptr)) (o := (poff v38.ptr)) (l := v38.len) (c := v38.cap) (k := .i64) (j := k_) (ty := 0) (dst := some 40) (sz := 2) (by kernel_rfl) (by kernel_rfl) (by kernel_rfl) (by kernel_rfl) (by kernel_rfl) h0 h1 ?_
           refine qreg_run [] 4 [(0, [], Value.pointer b_), (3, [], Value.int .i64 i), (4, [], pv_ b_1), (5, [], Value.int .i64 k_), (40, [], Value.pointer (some ⟨(pblk v38.ptr), (poff v38.ptr) + k_.toNat * 2, none⟩))] (by kernel_rfl) (by kernel_rfl) ?_
           obtain ⟨v41, hc, h⟩ := h
           refine qreg_loadN (t := 52) (a := (Operand.tmp 40)) (b := (pblk v38.ptr)) (o := ((poff v38.ptr) + k_.toNat * 2)) (ty := 52) (dst := some 41) [Value.int .i64 v41.Number, sv_ v41.Writes] (by kernel_rfl) (by kernel_rfl) (by kernel_rfl) (k := 2) (by kernel_rfl) (by kernel_rfl) hc ?_
           refine qreg_run P1 6 [(0, [], Value.pointer b_), (3, [], Value.int .i64 i), (4, [], pv_ b_1), (5, [], Value.int .i64 k_), (41, [], Value.agg #[Value.int .i64 v41.Number, sv_ v41.Writes]), (42, [], Value.pointer (some ⟨b_1, 2, none⟩))] (by kernel_rfl) (by kernel_rfl) ?_
           obtain ⟨v43, hc, h⟩ := h
           refine qreg_load1 (t := 3) (a := (Operand.tmp 42)) (b := b_1) (o := 2) (ty := 3) (dst := some 43) (by kernel_rfl) (by kernel_rfl) (by kernel_rfl) hc ?_
           refine qreg_run [] 7 [(0, [], Value.pointer b_), (3, [], Value.int .i64 i), (4, [], pv_ b_1), (5, [], Value.int .i64 k_), (41, [], Value.agg #[Value.int .i64 v41.Number, sv_ v41.Writes]), (43, [], Value.int .i64 v43)] (by kernel_rfl) (by kernel_rfl) ?_
           obtain ⟨v44, hq, h⟩ := h
           refine qreg_enter (op := (Op.call (Call.mk (Callee.value (Operand.func 142)) #[(Operand.tmp 41), (Operand.tmp 43)] #[52, 3]))) (ty := 4) (dst := some 44) 142 #[Value.agg #[Value.int .i64 v41.Number, sv_ v41.Writes], Value.int .i64 v43] (Value.bool v44) (by kernel_rfl) (fun ww => by kernel_rfl) (fun w' he => Calls.mono (hq w' he) (by rintro _ w'' ⟨_, rfl, rfl, hE⟩; exact ⟨rfl, hE⟩)) ?_
           clear hq
           refine qreg_run P4 12 [(0, [], Value.pointer b_), (3, [], Value.int .i64 i), (4, [], pv_ b_1), (5, [], Value.int .i64 k_), (46, [], Value.bool (!v44)), (47, [(46, false)], Value.int .i64 k_), (48, [(46, false)], pv_ b_1)] (by kernel_rfl) (by kernel_rfl) ?_
           refine qreg_split 46 (!v44) (by kernel_rfl) (fun hb => ?_) (fun hb => ?_)
           · replace h := h.1 hb
             refine qreg_run [] 12 [(0, [], Value.pointer b_), (3, [], Value.int .i64 i), (4, [], pv_ b_1), (5, [], Value.int .i64 k_), (46, [], Value.bool true), (47, [], undef), (48, [], undef)] (by kernel_rfl) (by kernel_rfl) ?_
             refine qreg_run [.skip, .skip, .skip, .skip, .skip, .skip, .skip, .skip, .skip, .skip, .skip, .skip, .skip, .skip, .plain] 27 [(0, [], Value.pointer b_), (3, [], Value.int .i64 i), (4, [], pv_ b_1), (5, [], Value.int .i64 k_), (63, [], Value.bool true)] (by kernel_rfl) (by kernel_rfl) ?_
             refine qreg_end [(0, Value.pointer b_), (3, Value.int .i64 i), (4, pv_ b_1), (5, Value.int .i64 k_), (63, Value.bool true)] (by kernel_rfl) (by kernel_rfl) (fun w7 hw => ?_)
             replace h := h w7 hw
             clear hw
             exact ⟨[(0, Value.pointer b_), (3, Value.int .i64 i), (4, pv_ b_1), (5, Value.int .i64 k_), (63, Value.bool true)], Sub.mk (by kernel_rfl), true, rfl, h⟩
           · replace h := h.2 hb
             refine qreg_run [] 12 [(0, [], Value.pointer b_), (3, [], Value.int .i64 i), (4, [], pv_ b_1), (5, [], Value.int .i64 k_), (46, [], Value.bool false), (47, [], Value.int .i64 k_), (48, [], pv_ b_1)] (by kernel_rfl) (by kernel_rfl) ?_
             refine qreg_run [] 12 [(0, [], Value.pointer b_), (3, [], Value.int .i64 i), (4, [], pv_ b_1), (5, [], Value.int .i64 k_), (46, [], Value.bool false), (47, [], Value.int .i64 k_), (48, [], pv_ b_1)] (by kernel_rfl) (by kernel_rfl) ?_
             obtain ⟨v49, hc, h⟩ := h
             refine qreg_load1 (t := 22) (a := (Operand.tmp 48)) (b := b_1) (o := 0) (ty := 22) (dst := some 49) (by kernel_rfl) (by kernel_rfl) (by kernel_rfl) hc ?_
             refine qreg_run [.sure, .sure, .sure, .plain] 17 [(0, [], Value.pointer b_), (3, [], Value.int .i64 i), (4, [], pv_ b_1), (5, [], Value.int .i64 k_), (46, [], Value.bool false), (52, [], Value.bool (decide (k_ < ((v49.len : Nat) : Int)))), (53, [(52, true)], pv_ b_1)] (by kernel_rfl) (by kernel_rfl) ?_
             refine qreg_split 52 (decide (k_ < ((v49.len : Nat) : Int))) (by kernel_rfl) (fun hb => ?_) (fun hb => ?_)
             · replace h := h.1 hb
               refine qreg_run [] 17 [(0, [], Value.pointer b_), (3, [], Value.int .i64 i), (4, [], pv_ b_1), (5, [], Value.int .i64 k_), (46, [], Value.bool false), (52, [], Value.bool true), (53, [], pv_ b_1)] (by kernel_rfl) (by kernel_rfl) ?_
               refine qreg_run [] 17 [(0, [], Value.pointer b_), (3, [], Value.int .i64 i), (4, [], pv_ b_1), (5, [], Value.int .i64 k_), (46, [], Value.bool false), (52, [], Value.bool true), (53, [], pv_ b_1)] (by kernel_rfl) (by kernel_rfl) ?_
               obtain ⟨v54, hc, h⟩ := h
               refine qreg_load1 (t := 22) (a := (Operand.tmp 53)) (b := b_1) (o := 0) (ty := 22) (dst := some 54) (by kernel_rfl) (by kernel_rfl) (by kernel_rfl) hc ?_
               refine qreg_run [.sure] 19 [(0, [], Value.pointer b_), (3, [], Value.int .i64 i), (4, [], pv_ b_1), (5, [], Value.int .i64 k_), (46, [], Value.bool false), (52, [], Value.bool true), (54, [], sv_ v54), (55, [], Value.int .i64 k_)] (by kernel_rfl) (by kernel_rfl) ?_
               obtain ⟨hp_55, h⟩ := h
               refine qreg_conv [(0, [], Value.pointer b_), (3, [], Value.int .i64 i), (4, [], pv_ b_1), (5, [], Value.int .i64 k_), (46, [], Value.bool false), (52, [], Value.bool true), (54, [], Value.slice (some ⟨(pblk v54.ptr), (poff v54.ptr), none⟩) v54.len v54.cap), (55, [], Value.int .i64 k_)] (congrArg (fun pp => ([(0, [], Value.pointer b_), (3, [], Value.int .i64 i), (4, [], pv_ b_1), (5, [], Value.int .i64 k_), (46, [], Value.bool false), (52, [], Value.bool true), (54, [], Value.slice pp v54.len v54.cap), (55, [], Value.int .i64 k_)] : GEnv)) hp_55) ?_
               obtain ⟨h0, h1, h⟩ := h
               refine qreg_indexS (t := 22) (e := 52) (x := (Operand.tmp 54)) (ix := (Operand.tmp 55)) (b := (pblk v54.ptr)) (o := (poff v54.ptr)) (l := v54.len) (c := v54.cap) (k := .i64) (j := k_) (ty := 0) (dst := some 56) (sz := 2) (by kernel_rfl) (by kernel_rfl) (by kernel_rfl) (by kernel_rfl) (by kernel_rfl) h0 h1 ?_
               refine qreg_run [] 20 [(0, [], Value.pointer b_), (3, [], Value.int .i64 i), (4, [], pv_ b_1), (5, [], Value.int .i64 k_), (46, [], Value.bool false), (52, [], Value.bool true), (56, [], Value.pointer (some ⟨(pblk v54.ptr), (poff v54.ptr) + k_.toNat * 2, none⟩))] (by kernel_rfl) (by kernel_rfl) ?_
               obtain ⟨v57, hc, h⟩ := h
               refine qreg_loadN (t := 52) (a := (Operand.tmp 56)) (b := (pblk v54.ptr)) (o := ((poff v54.ptr) + k_.toNat * 2)) (ty := 52) (dst := some 57) [Value.int .i64 v57.Number, sv_ v57.Writes] (by kernel_rfl) (by kernel_rfl) (by kernel_rfl) (k := 2) (by kernel_rfl) (by kernel_rfl) hc ?_
               refine qreg_run [.sure] 22 [(0, [], Value.pointer b_), (3, [], Value.int .i64 i), (4, [], pv_ b_1), (5, [], Value.int .i64 k_), (46, [], Value.bool false), (52, [], Value.bool true), (57, [], Value.agg #[Value.int .i64 v57.Number, sv_ v57.Writes]), (58, [], Value.pointer (some ⟨b_1, 2, none⟩))] (by kernel_rfl) (by kernel_rfl) ?_
               obtain ⟨v59, hc, h⟩ := h
               refine qreg_load1 (t := 3) (a := (Operand.tmp 58)) (b := b_1) (o := 2) (ty := 3) (dst := some 59) (by kernel_rfl) (by kernel_rfl) (by kernel_rfl) hc ?_
               refine qreg_run [] 23 [(0, [], Value.pointer b_), (3, [], Value.int .i64 i), (4, [], pv_ b_1), (5, [], Value.int .i64 k_), (46, [], Value.bool false), (52, [], Value.bool true), (57, [], Value.agg #[Value.int .i64 v57.Number, sv_ v57.Writes]), (59, [], Value.int .i64 v59)] (by kernel_rfl) (by kernel_rfl) ?_
               obtain ⟨v60, hq, h⟩ := h
               refine qreg_enter (op := (Op.call (Call.mk (Callee.value (Operand.func 142)) #[(Operand.tmp 57), (Operand.tmp 59)] #[52, 3]))) (ty := 4) (dst := some 60) 142 #[Value.agg #[Value.int .i64 v57.Number, sv_ v57.Writes], Value.int .i64 v59] (Value.bool v60) (by kernel_rfl) (fun ww => by kernel_rfl) (fun w' he => Calls.mono (hq w' he) (by rintro _ w'' ⟨_, rfl, rfl, hE⟩; exact ⟨rfl, hE⟩)) ?_
               clear hq
               refine qreg_run [.sure, .sure, .plain] 27 [(0, [], Value.pointer b_), (3, [], Value.int .i64 i), (4, [], pv_ b_1), (5, [], Value.int .i64 k_), (63, [], Value.bool (!v60))] (by kernel_rfl) (by kernel_rfl) ?_
               refine qreg_end [(0, Value.pointer b_), (3, Value.int .i64 i), (4, pv_ b_1), (5, Value.int .i64 k_), (63, Value.bool (!v60))] (by kernel_rfl) (by kernel_rfl) (fun w9 hw => ?_)
               replace h := h w9 hw
               clear hw
               exact ⟨[(0, Value.pointer b_), (3, Value.int .i64 i), (4, pv_ b_1), (5, Value.int .i64 k_), (63, Value.bool (!v60))], Sub.mk (by kernel_rfl), (!v60), rfl, h⟩
             · replace h := h.2 hb
               refine qreg_run [] 17 [(0, [], Value.pointer b_), (3, [], Value.int .i64 i), (4, [], pv_ b_1), (5, [], Value.int .i64 k_), (46, [], Value.bool false), (52, [], Value.bool false), (53, [], undef)] (by kernel_rfl) (by kernel_rfl) ?_
               refine qreg_run [.skip, .skip, .skip, .skip, .skip, .skip, .skip, .skip, .sure, .plain] 27 [(0, [], Value.pointer b_), (3, [], Value.int .i64 i), (4, [], pv_ b_1), (5, [], Value.int .i64 k_), (63, [], Value.bool false)] (by kernel_rfl) (by kernel_rfl) ?_
               refine qreg_end [(0, Value.pointer b_), (3, Value.int .i64 i), (4, pv_ b_1), (5, Value.int .i64 k_), (63, Value.bool false)] (by kernel_rfl) (by kernel_rfl) (fun w10 hw => ?_)
               replace h := h w10 hw
               clear hw
               exact ⟨[(0, Value.pointer b_), (3, Value.int .i64 i), (4, pv_ b_1), (5, Value.int .i64 k_), (63, Value.bool false)], Sub.mk (by kernel_rfl), false, rfl, h⟩
         · rintro _ w5 ⟨t63, rfl, h⟩
           unfold F_towpathlaw01_Book_lookTxn_k2 at h
           refine Zc 63 t63 c78_49 c78_53 (fun hb => ?_) (fun hb => ?_)
           · replace h := h.1 hb
             refine Zp c78_52 P1 [(2, .bool false)] ?_
             refine wpE_ret (by kernel_rfl) ?_
             repeat (first | refine seqQ_ret ?_ | refine blockQ_ret ?_ | refine loopQ_ret ?_ | refine cutQ_ret ?_)
             exact retS (rs := [(ResultVar.tmp 2)]) (v := Value.bool false) (by kernel_rfl) (⟨by kernel_rfl, trivial⟩) ⟨false, rfl, h⟩
           · replace h := h.2 hb
             refine wpE_skip (by kernel_rfl) ?_
             change WpE _ _ c78_54 _ _ _
             refine Zr r78_54 ?_
             refine Zf P3 [(0, .pointer b_), (3, .int .i64 i), (4, pv_ b_1), (5, .int .i64 (IntKind.i64.wrap (k_ + 1)))] ?_
             have hb_ := again_1_h _ _ h
             exact ⟨_, hb_.2, [(0, Value.pointer b_), (3, Value.int .i64 i), (4, pv_ b_1), (5, Value.int .i64 (IntKind.i64.wrap (k_ + 1)))], Sub.mk (by kernel_rfl), (IntKind.i64.wrap (k_ + 1)), rfl, hb_.1, rfl⟩
       · replace h := h.2 hb
         refine wpE_exit (id := 2) (by kernel_rfl) ?_
         change WpE _ _ c78_56 _ _ _
         refine Zr r78_56 ?_
         refine Zf P3 [(0, .pointer b_), (3, .int .i64 (IntKind.i64.wrap (i + 1)))] ?_
         have hb_ := again__h _ _ h
         exact ⟨_, hb_.2, [(0, Value.pointer b_), (3, Value.int .i64 (IntKind.i64.wrap (i + 1)))], Sub.mk (by kernel_rfl), (IntKind.i64.wrap (i + 1)), rfl, hb_.1, rfl⟩
   · replace h := h.2 hb
     refine wpE_exit (id := 0) (by kernel_rfl) ?_
     change WpE _ _ c78_58 _ _ _
     refine Zp c78_61 P1 [(2, .bool true)] ?_
     refine wpE_ret (by kernel_rfl) ?_
     repeat (first | refine seqQ_ret ?_ | refine blockQ_ret ?_ | refine loopQ_ret ?_ | refine cutQ_ret ?_)
     exact retS (rs := [(ResultVar.tmp 2)]) (v := Value.bool true) (by kernel_rfl) (⟨by kernel_rfl, trivial⟩) ⟨true, rfl, h⟩
 · rintro e w' ⟨v, rfl, r0, rfl, h⟩; exact ⟨r0, rfl, h⟩

/-! ### (*towpath/towpathlaw01.Book).lookHeld (function 79) -/
def c79_0 := cb_ Tryz.f79
def c79_3 := cr_ c79_0
def c79_4 := cl_ c79_3
def c79_7 := cr_ c79_4
def c79_8 := cl_ c79_7
def c79_9 := cl_ c79_8
def c79_10 := cl_ c79_9
def c79_11 := cl_ c79_10
def r79_11 := co_ c79_11
def c79_13 := cr_ c79_10
def c79_14 := cl_ c79_13
def c79_15 := cr_ c79_13
def c79_16 := cr_ c79_9
def c79_58 := cr_ c79_3
def c79_61 := cr_ c79_58

theorem S_towpathlaw01_Book_lookHeld {b_ : Option Addr} {w : World} {R : Bool → World → Prop} (h : F_towpathlaw01_Book_lookHeld b_ R w) : C_towpathlaw01_Book_lookHeld b_ w R := by
 unfold F_towpathlaw01_Book_lookHeld at h
 unfold C_towpathlaw01_Book_lookHeld
 refine Calls.mono (calls_of_wpE (args := [Value.pointer b_]) (R := fun v w' => ∃ (r0 : Bool), v = Value.bool r0 ∧ R r0 w') Tryz.func79 (c := c79_0) (by kernel_rfl) 64 (by kernel_rfl) (by kernel_rfl) [(0, Value.pointer b_)] (by kernel_rfl) ?_) ?_
 · refine Zp c79_3 P1 [(0, .pointer b_)] ?_
   refine Zs c79_4 c79_58 ?_
   refine Zp c79_7 P1 [(0, .pointer b_), (3, .int .i64 0)] ?_
   refine Zb 0 c79_8 ?_
   obtain ⟨I, μ, h0, hr⟩ := h
   refine wpE_loop (x := c79_9) (by kernel_rfl) (fun m l w => ∃ (i : Int), l = [(0, Value.pointer b_), (3, Value.int .i64 i)] ∧ I i w ∧ μ i w = m) (l' := [(0, Value.pointer b_), (3, Value.int .i64 0)]) (Sub.mk (by kernel_rfl)) ⟨0, rfl, h0, rfl⟩ ?_
   rintro _ _ w1 ⟨i, rfl, hI, rfl⟩
   obtain ⟨again_, again__h, h⟩ : ∃ again_ : Int → World → Prop, (∀ i' w', again_ i' w' → I i' w' ∧ μ i' w' < μ i w1) ∧ F_towpathlaw01_Book_lookHeld_L0 b_ R again_ i w1 := ⟨_, fun _ _ h => h, hr i w1 hI⟩
   clear h0 hI
   unfold F_towpathlaw01_Book_lookHeld_L0 at h
   refine Zs c79_10 c79_16 ?_
   refine Zt r79_11 c79_13 ?_
   refine Zn P2 2 [(0, [], .pointer b_), (3, [], .int .i64 i), (6, [], .int .i64 i), (7, [], .pointer b_)] ?_
   obtain ⟨hp_7, h⟩ := h
   refine Zv (fun pp => [(0, [], .pointer b_), (3, [], .int .i64 i), (6, [], .int .i64 i), (7, [], .pointer pp)]) hp_7 ?_
   refine Zn P1 3 [(0, [], .pointer b_), (3, [], .int .i64 i), (6, [], .int .i64 i), (7, [], .pointer (some ⟨(pblk b_), (poff b_), none⟩)), (8, [], .pointer (some ⟨(pblk b_), (poff b_), none⟩))] ?_
   refine Zn P1 4 [(0, [], .pointer b_), (3, [], .int .i64 i), (6, [], .int .i64 i), (9, [], .pointer (some ⟨(pblk b_), (poff b_) + 8, none⟩))] ?_
   obtain ⟨v10, hc, h⟩ := h
   refine Zl 42 9 (pblk b_) ((poff b_) + 8) 42 10 hc ?_
   refine Zf P2 [(0, .pointer b_), (3, .int .i64 i), (12, .bool (decide (i < ((v10.len : Nat) : Int))))] ?_
   change WpE _ _ c79_13 _ _ _
   refine Zc 12 (decide (i < ((v10.len : Nat) : Int))) c79_14 c79_15 (fun hb => ?_) (fun hb => ?_)
   · replace h := h.1 hb
     exact h.elim
   · replace h := h.2 hb
     refine wpE_exit (id := 0) (by kernel_rfl) ?_
     change WpE _ _ c79_58 _ _ _
     refine Zp c79_61 P1 [(2, .bool true)] ?_
     refine wpE_ret (by kernel_rfl) ?_
     repeat (first | refine seqQ_ret ?_ | refine blockQ_ret ?_ | refine loopQ_ret ?_ | refine cutQ_ret ?_)
     exact retS (rs := [(ResultVar.tmp 2)]) (v := Value.bool true) (by kernel_rfl) (⟨by kernel_rfl, trivial⟩) ⟨true, rfl, h⟩
 · rintro e w' ⟨v, rfl, r0, rfl, h⟩; exact ⟨r0, rfl, h⟩

/-! ### (*towpath/towpathlaw01.Book).lookHeldList (function 80) -/
def c80_0 := cb_ Tryz.f80
def c80_3 := cr_ c80_0
def c80_4 := cl_ c80_3
def c80_7 := cr_ c80_4
def c80_8 := cl_ c80_7
def c80_9 := cl_ c80_8
def c80_10 := cl_ c80_9
def c80_11 := cl_ c80_10
def r80_11 := co_ c80_11
def c80_13 := cr_ c80_10
def c80_14 := cl_ c80_13
def c80_15 := cr_ c80_13
def c80_16 := cr_ c80_9
def c80_58 := cr_ c80_3
def c80_61 := cr_ c80_58

theorem S_towpathlaw01_Book_lookHeldList {b_ : Option Addr} {w : World} {R : Bool → World → Prop} (h : F_towpathlaw01_Book_lookHeldList b_ R w) : C_towpathlaw01_Book_lookHeldList b_ w R := by
 unfold F_towpathlaw01_Book_lookHeldList at h
 unfold C_towpathlaw01_Book_lookHeldList
 refine Calls.mono (calls_of_wpE (args := [Value.pointer b_]) (R := fun v w' => ∃ (r0 : Bool), v = Value.bool r0 ∧ R r0 w') Tryz.func80 (c := c80_0) (by kernel_rfl) 64 (by kernel_rfl) (by kernel_rfl) [(0, Value.pointer b_)] (by kernel_rfl) ?_) ?_
 · refine Zp c80_3 P1 [(0, .pointer b_)] ?_
   refine Zs c80_4 c80_58 ?_
   refine Zp c80_7 P1 [(0, .pointer b_), (3, .int .i64 0)] ?_
   refine Zb 0 c80_8 ?_
   obtain ⟨I, μ, h0, hr⟩ := h
   refine wpE_loop (x := c80_9) (by kernel_rfl) (fun m l w => ∃ (i : Int), l = [(0, Value.pointer b_), (3, Value.int .i64 i)] ∧ I i w ∧ μ i w = m) (l' := [(0, Value.pointer b_), (3, Value.int .i64 0)]) (Sub.mk (by kernel_rfl)) ⟨0, rfl, h0, rfl⟩ ?_
   rintro _ _ w1 ⟨i, rfl, hI, rfl⟩
   obtain ⟨again_, again__h, h⟩ : ∃ again_ : Int → World → Prop, (∀ i' w', again_ i' w' → I i' w' ∧ μ i' w' < μ i w1) ∧ F_towpathlaw01_Book_lookHeldList_L0 b_ R again_ i w1 := ⟨_, fun _ _ h => h, hr i w1 hI⟩
   clear h0 hI
   unfold F_towpathlaw01_Book_lookHeldList_L0 at h
   refine Zs c80_10 c80_16 ?_
   refine Zt r80_11 c80_13 ?_
   refine Zn P2 2 [(0, [], .pointer b_), (3, [], .int .i64 i), (6, [], .int .i64 i), (7, [], .pointer b_)] ?_
   obtain ⟨hp_7, h⟩ := h
   refine Zv (fun pp => [(0, [], .pointer b_), (3, [], .int .i64 i), (6, [], .int .i64 i), (7, [], .pointer pp)]) hp_7 ?_
   refine Zn P1 3 [(0, [], .pointer b_), (3, [], .int .i64 i), (6, [], .int .i64 i), (7, [], .pointer (some ⟨(pblk b_), (poff b_), none⟩)), (8, [], .pointer (some ⟨(pblk b_), (poff b_), none⟩))] ?_
   refine Zn P1 4 [(0, [], .pointer b_), (3, [], .int .i64 i), (6, [], .int .i64 i), (9, [], .pointer (some ⟨(pblk b_), (poff b_) + 9, none⟩))] ?_
   obtain ⟨v10, hc, h⟩ := h
   refine Zl 43 9 (pblk b_) ((poff b_) + 9) 43 10 hc ?_
   refine Zf P2 [(0, .pointer b_), (3, .int .i64 i), (12, .bool (decide (i < ((v10.len : Nat) : Int))))] ?_
   change WpE _ _ c80_13 _ _ _
   refine Zc 12 (decide (i < ((v10.len : Nat) : Int))) c80_14 c80_15 (fun hb => ?_) (fun hb => ?_)
   · replace h := h.1 hb
     exact h.elim
   · replace h := h.2 hb
     refine wpE_exit (id := 0) (by kernel_rfl) ?_
     change WpE _ _ c80_58 _ _ _
     refine Zp c80_61 P1 [(2, .bool true)] ?_
     refine wpE_ret (by kernel_rfl) ?_
     repeat (first | refine seqQ_ret ?_ | refine blockQ_ret ?_ | refine loopQ_ret ?_ | refine cutQ_ret ?_)
     exact retS (rs := [(ResultVar.tmp 2)]) (v := Value.bool true) (by kernel_rfl) (⟨by kernel_rfl, trivial⟩) ⟨true, rfl, h⟩
 · rintro e w' ⟨v, rfl, r0, rfl, h⟩; exact ⟨r0, rfl, h⟩

/-! ### (*towpath/towpathlaw01.Book).lookEvent (function 81) -/
def c81_0 := cb_ Tryz.f81
def c81_3 := cr_ c81_0
def c81_4 := cl_ c81_3
def c81_7 := cr_ c81_4
def c81_8 := cl_ c81_7
def c81_9 := cl_ c81_8
def c81_10 := cl_ c81_9
def c81_11 := cl_ c81_10
def r81_11 := co_ c81_11
def c81_13 := cr_ c81_10
def c81_14 := cl_ c81_13
def c81_15 := cr_ c81_13
def c81_16 := cr_ c81_9
def c81_58 := cr_ c81_3
def c81_61 := cr_ c81_58

theorem S_towpathlaw01_Book_lookEvent {b_ : Option Addr} {w : World} {R : Bool → World → Prop} (h : F_towpathlaw01_Book_lookEvent b_ R w) : C_towpathlaw01_Book_lookEvent b_ w R := by
 unfold F_towpathlaw01_Book_lookEvent at h
 unfold C_towpathlaw01_Book_lookEvent
 refine Calls.mono (calls_of_wpE (args := [Value.pointer b_]) (R := fun v w' => ∃ (r0 : Bool), v = Value.bool r0 ∧ R r0 w') Tryz.func81 (c := c81_0) (by kernel_rfl) 64 (by kernel_rfl) (by kernel_rfl) [(0, Value.pointer b_)] (by kernel_rfl) ?_) ?_
 · refine Zp c81_3 P1 [(0, .pointer b_)] ?_
   refine Zs c81_4 c81_58 ?_
   refine Zp c81_7 P1 [(0, .pointer b_), (3, .int .i64 0)] ?_
   refine Zb 0 c81_8 ?_
   obtain ⟨I, μ, h0, hr⟩ := h
   refine wpE_loop (x := c81_9) (by kernel_rfl) (fun m l w => ∃ (i : Int), l = [(0, Value.pointer b_), (3, Value.int .i64 i)] ∧ I i w ∧ μ i w = m) (l' := [(0, Value.pointer b_), (3, Value.int .i64 0)]) (Sub.mk (by kernel_rfl)) ⟨0, rfl, h0, rfl⟩ ?_
   rintro _ _ w1 ⟨i, rfl, hI, rfl⟩
   obtain ⟨again_, again__h, h⟩ : ∃ again_ : Int → World → Prop, (∀ i' w', again_ i' w' → I i' w' ∧ μ i' w' < μ i w1) ∧ F_towpathlaw01_Book_lookEvent_L0 b_ R again_ i w1 := ⟨_, fun _ _ h => h, hr i w1 hI⟩
   clear h0 hI
   unfold F_towpathlaw01_Book_lookEvent_L0 at h
   refine Zs c81_10 c81_16 ?_
   refine Zt r81_11 c81_13 ?_
   refine Zn P2 2 [(0, [], .pointer b_), (3, [], .int .i64 i), (6, [], .int .i64 i), (7, [], .pointer b_)] ?_
   obtain ⟨hp_7, h⟩ := h
   refine Zv (fun pp => [(0, [], .pointer b_), (3, [], .int .i64 i), (6, [], .int .i64 i), (7, [], .pointer pp)]) hp_7 ?_
   refine Zn P1 3 [(0, [], .pointer b_), (3, [], .int .i64 i), (6, [], .int .i64 i), (7, [], .pointer (some ⟨(pblk b_), (poff b_), none⟩)), (8, [], .pointer (some ⟨(pblk b_), (poff b_), none⟩))] ?_
   refine Zn P1 4 [(0, [], .pointer b_), (3, [], .int .i64 i), (6, [], .int .i64 i), (9, [], .pointer (some ⟨(pblk b_), (poff b_) + 10, none⟩))] ?_
   obtain ⟨v10, hc, h⟩ := h
   refine Zl 44 9 (pblk b_) ((poff b_) + 10) 44 10 hc ?_
   refine Zf P2 [(0, .pointer b_), (3, .int .i64 i), (12, .bool (decide (i < ((v10.len : Nat) : Int))))] ?_
   change WpE _ _ c81_13 _ _ _
   refine Zc 12 (decide (i < ((v10.len : Nat) : Int))) c81_14 c81_15 (fun hb => ?_) (fun hb => ?_)
   · replace h := h.1 hb
     exact h.elim
   · replace h := h.2 hb
     refine wpE_exit (id := 0) (by kernel_rfl) ?_
     change WpE _ _ c81_58 _ _ _
     refine Zp c81_61 P1 [(2, .bool true)] ?_
     refine wpE_ret (by kernel_rfl) ?_
     repeat (first | refine seqQ_ret ?_ | refine blockQ_ret ?_ | refine loopQ_ret ?_ | refine cutQ_ret ?_)
     exact retS (rs := [(ResultVar.tmp 2)]) (v := Value.bool true) (by kernel_rfl) (⟨by kernel_rfl, trivial⟩) ⟨true, rfl, h⟩
 · rintro e w' ⟨v, rfl, r0, rfl, h⟩; exact ⟨r0, rfl, h⟩

/-! ### (*towpath/towpathlaw01.Book).lookAnswer (function 82) -/
def c82_0 := cb_ Tryz.f82
def c82_3 := cr_ c82_0
def c82_4 := cl_ c82_3
def c82_7 := cr_ c82_4
def c82_8 := cl_ c82_7
def c82_9 := cl_ c82_8
def c82_10 := cl_ c82_9
def c82_11 := cl_ c82_10
def r82_11 := co_ c82_11
def c82_13 := cr_ c82_10
def c82_14 := cl_ c82_13
def c82_15 := cr_ c82_13
def c82_16 := cr_ c82_9
def c82_58 := cr_ c82_3
def c82_61 := cr_ c82_58

theorem S_towpathlaw01_Book_lookAnswer {b_ : Option Addr} {w : World} {R : Bool → World → Prop} (h : F_towpathlaw01_Book_lookAnswer b_ R w) : C_towpathlaw01_Book_lookAnswer b_ w R := by
 unfold F_towpathlaw01_Book_lookAnswer at h
 unfold C_towpathlaw01_Book_lookAnswer
 refine Calls.mono (calls_of_wpE (args := [Value.pointer b_]) (R := fun v w' => ∃ (r0 : Bool), v = Value.bool r0 ∧ R r0 w') Tryz.func82 (c := c82_0) (by kernel_rfl) 64 (by kernel_rfl) (by kernel_rfl) [(0, Value.pointer b_)] (by kernel_rfl) ?_) ?_
 · refine Zp c82_3 P1 [(0, .pointer b_)] ?_
   refine Zs c82_4 c82_58 ?_
   refine Zp c82_7 P1 [(0, .pointer b_), (3, .int .i64 0)] ?_
   refine Zb 0 c82_8 ?_
   obtain ⟨I, μ, h0, hr⟩ := h
   refine wpE_loop (x := c82_9) (by kernel_rfl) (fun m l w => ∃ (i : Int), l = [(0, Value.pointer b_), (3, Value.int .i64 i)] ∧ I i w ∧ μ i w = m) (l' := [(0, Value.pointer b_), (3, Value.int .i64 0)]) (Sub.mk (by kernel_rfl)) ⟨0, rfl, h0, rfl⟩ ?_
   rintro _ _ w1 ⟨i, rfl, hI, rfl⟩
   obtain ⟨again_, again__h, h⟩ : ∃ again_ : Int → World → Prop, (∀ i' w', again_ i' w' → I i' w' ∧ μ i' w' < μ i w1) ∧ F_towpathlaw01_Book_lookAnswer_L0 b_ R again_ i w1 := ⟨_, fun _ _ h => h, hr i w1 hI⟩
   clear h0 hI
   unfold F_towpathlaw01_Book_lookAnswer_L0 at h
   refine Zs c82_10 c82_16 ?_
   refine Zt r82_11 c82_13 ?_
   refine Zn P2 2 [(0, [], .pointer b_), (3, [], .int .i64 i), (6, [], .int .i64 i), (7, [], .pointer b_)] ?_
   obtain ⟨hp_7, h⟩ := h
   refine Zv (fun pp => [(0, [], .pointer b_), (3, [], .int .i64 i), (6, [], .int .i64 i), (7, [], .pointer pp)]) hp_7 ?_
   refine Zn P1 3 [(0, [], .pointer b_), (3, [], .int .i64 i), (6, [], .int .i64 i), (7, [], .pointer (some ⟨(pblk b_), (poff b_), none⟩)), (8, [], .pointer (some ⟨(pblk b_), (poff b_), none⟩))] ?_
   refine Zn P1 4 [(0, [], .pointer b_), (3, [], .int .i64 i), (6, [], .int .i64 i), (9, [], .pointer (some ⟨(pblk b_), (poff b_) + 11, none⟩))] ?_
   obtain ⟨v10, hc, h⟩ := h
   refine Zl 45 9 (pblk b_) ((poff b_) + 11) 45 10 hc ?_
   refine Zf P2 [(0, .pointer b_), (3, .int .i64 i), (12, .bool (decide (i < ((v10.len : Nat) : Int))))] ?_
   change WpE _ _ c82_13 _ _ _
   refine Zc 12 (decide (i < ((v10.len : Nat) : Int))) c82_14 c82_15 (fun hb => ?_) (fun hb => ?_)
   · replace h := h.1 hb
     exact h.elim
   · replace h := h.2 hb
     refine wpE_exit (id := 0) (by kernel_rfl) ?_
     change WpE _ _ c82_58 _ _ _
     refine Zp c82_61 P1 [(2, .bool true)] ?_
     refine wpE_ret (by kernel_rfl) ?_
     repeat (first | refine seqQ_ret ?_ | refine blockQ_ret ?_ | refine loopQ_ret ?_ | refine cutQ_ret ?_)
     exact retS (rs := [(ResultVar.tmp 2)]) (v := Value.bool true) (by kernel_rfl) (⟨by kernel_rfl, trivial⟩) ⟨true, rfl, h⟩
 · rintro e w' ⟨v, rfl, r0, rfl, h⟩; exact ⟨r0, rfl, h⟩

/-! ### towpath/towpathlaw01.SameWrites (function 83) -/
def c83_0 := cb_ Tryz.f83
def c83_3 := cr_ c83_0
def c83_4 := cl_ c83_3
def c83_7 := cr_ c83_4
def c83_8 := cl_ c83_7
def c83_11 := cr_ c83_8
def c83_12 := cr_ c83_7
def c83_13 := cr_ c83_3
def c83_14 := cl_ c83_13
def c83_17 := cr_ c83_14
def c83_18 := cl_ c83_17
def c83_19 := cl_ c83_18
def c83_20 := cl_ c83_19
def c83_23 := cr_ c83_20
def c83_24 := cl_ c83_23
def c83_25 := cr_ c83_23
def c83_26 := cr_ c83_19
def c83_27 := cl_ c83_26
def c83_28 := cl_ c83_27
def c83_29 := cl_ c83_28
def r83_29 := co_ c83_29
def c83_31 := cr_ c83_28
def c83_32 := cl_ c83_31
def c83_35 := cr_ c83_32
def c83_36 := cr_ c83_31
def c83_37 := cr_ c83_26
def r83_37 := co_ c83_37
def c83_39 := cr_ c83_13
def c83_42 := cr_ c83_39

theorem S_towpathlaw01_SameWrites {a_ : Slc} {b_ : Slc} {w : World} {R : Bool → World → Prop} (h : F_towpathlaw01_SameWrites a_ b_ R w) : C_towpathlaw01_SameWrites a_ b_ w R := by
 unfold F_towpathlaw01_SameWrites at h
 unfold C_towpathlaw01_SameWrites
 refine Calls.mono (calls_of_wpE (args := [sv_ a_, sv_ b_]) (R := fun v w' => ∃ (r0 : Bool), v = Value.bool r0 ∧ R r0 w') Tryz.func83 (c := c83_0) (by kernel_rfl) 26 (by kernel_rfl) (by kernel_rfl) [(0, sv_ a_), (1, sv_ b_)] (by kernel_rfl) ?_) ?_
 · refine Zp c83_3 P1 [(0, sv_ a_), (1, sv_ b_)] ?_
   refine Zs c83_4 c83_13 ?_
   refine Zp c83_7 (Pl 5) [(0, sv_ a_), (1, sv_ b_), (10, .bool (((a_.len : Nat) : Int) != ((b_.len : Nat) : Int)))] ?_
   refine Zc 10 (((a_.len : Nat) : Int) != ((b_.len : Nat) : Int)) c83_8 c83_12 (fun hb => ?_) (fun hb => ?_)
   · replace h := h.1 hb
     refine Zp c83_11 P1 [(4, .bool false)] ?_
     refine wpE_ret (by kernel_rfl) ?_
     repeat (first | refine seqQ_ret ?_ | refine blockQ_ret ?_ | refine loopQ_ret ?_ | refine cutQ_ret ?_)
     exact retS (rs := [(ResultVar.tmp 4)]) (v := Value.bool false) (by kernel_rfl) (⟨by kernel_rfl, trivial⟩) ⟨false, rfl, h⟩
   · replace h := h.2 hb
     refine wpE_skip (by kernel_rfl) ?_
     change WpE _ _ c83_13 _ _ _
     refine Zs c83_14 c83_39 ?_
     refine Zp c83_17 P1 [(0, sv_ a_), (1, sv_ b_), (5, .int .i64 0)] ?_
     refine Zb 0 c83_18 ?_
     obtain ⟨I, μ, h0, hr⟩ := h
     refine wpE_loop (x := c83_19) (by kernel_rfl) (fun m l w => ∃ (i : Int), l = [(0, sv_ a_), (1, sv_ b_), (5, Value.int .i64 i)] ∧ I i w ∧ μ i w = m) (l' := [(0, sv_ a_), (1, sv_ b_), (5, Value.int .i64 0)]) (Sub.mk (by kernel_rfl)) ⟨0, rfl, h0, rfl⟩ ?_
     rintro _ _ w1 ⟨i, rfl, hI, rfl⟩
     obtain ⟨again_, again__h, h⟩ : ∃ again_ : Int → World → Prop, (∀ i' w', again_ i' w' → I i' w' ∧ μ i' w' < μ i w1) ∧ F_towpathlaw01_SameWrites_L0 a_ b_ R again_ i w1 := ⟨_, fun _ _ h => h, hr i w1 hI⟩
     clear h0 hI
     unfold F_towpathlaw01_SameWrites_L0 at h
     refine Zs c83_20 c83_26 ?_
     refine Zp c83_23 P4 [(0, sv_ a_), (1, sv_ b_), (5, .int .i64 i), (14, .bool (decide (i < ((a_.len : Nat) : Int))))] ?_
     refine Zc 14 (decide (i < ((a_.len : Nat) : Int))) c83_24 c83_25 (fun hb => ?_) (fun hb => ?_)
     · replace h := h.1 hb
       refine wpE_skip (by kernel_rfl) ?_
       change WpE _ _ c83_26 _ _ _
       refine Zs c83_27 c83_37 ?_
       refine Zb 1 c83_28 ?_
       refine Zs c83_29 c83_31 ?_
       refine wpE_drawregion (id := 6) (ops := r83_29) (by kernel_rfl) (by kernel_rfl) (by kernel_rfl) ?_
       refine qreg_run P2 2 [(0, [], sv_ a_), (1, [], sv_ b_), (5, [], Value.int .i64 i), (17, [], sv_ a_), (18, [], Value.int .i64 i)] (by kernel_rfl) (by kernel_rfl) ?_
       obtain ⟨hp_14, h⟩ := h
       refine qreg_conv [(0, [], sv_ a_), (1, [], sv_ b_), (5, [], Value.int .i64 i), (17, [], Value.slice (some ⟨(pblk a_.ptr), (poff a_.ptr), none⟩) a_.len a_.cap), (18, [], Value.int .i64 i)] (congrArg (fun pp => ([(0, [], sv_ a_), (1, [], sv_ b_), (5, [], Value.int .i64 i), (17, [], Value.slice pp a_.len a_.cap), (18, [], Value.int .i64 i)] : GEnv)) hp_14) ?_
       obtain ⟨h0, h1, h⟩ := h
       refine qreg_indexS (t := 50) (e := 139) (x := (Operand.tmp 17)) (ix := (Operand.tmp 18)) (b := (pblk a_.ptr)) (o := (poff a_.ptr)) (l := a_.len) (c := a_.cap) (k := .i64) (j := i) (ty := 0) (dst := some 19) (sz := 3) (by kernel_rfl) (by kernel_rfl) (by kernel_rfl) (by kernel_rfl) (by kernel_rfl) h0 h1 ?_
       refine qreg_run [] 3 [(0, [], sv_ a_), (1, [], sv_ b_), (5, [], Value.int .i64 i), (19, [], Value.pointer (some ⟨(pblk a_.ptr), (poff a_.ptr) + i.toNat * 3, none⟩))] (by kernel_rfl) (by kernel_rfl) ?_
       obtain ⟨v20, hc, h⟩ := h
       refine qreg_loadN (t := 139) (a := (Operand.tmp 19)) (b := (pblk a_.ptr)) (o := ((poff a_.ptr) + i.toNat * 3)) (ty := 139) (dst := some 20) [Value.string v20.Key, Value.string v20.Val, Value.bool v20.Drop] (by kernel_rfl) (by kernel_rfl) (by kernel_rfl) (k := 3) (by kernel_rfl) (by kernel_rfl) hc ?_
       refine qreg_run P2 6 [(0, [], sv_ a_), (1, [], sv_ b_), (5, [], Value.int .i64 i), (20, [], Value.agg #[Value.string v20.Key, Value.string v20.Val, Value.bool v20.Drop]), (21, [], sv_ b_), (22, [], Value.int .i64 i)] (by kernel_rfl) (by kernel_rfl) ?_
       obtain ⟨hp_15, h⟩ := h
       refine qreg_conv [(0, [], sv_ a_), (1, [], sv_ b_), (5, [], Value.int .i64 i), (20, [], Value.agg #[Value.string v20.Key, Value.string v20.Val, Value.bool v20.Drop]), (21, [], Value.slice (some ⟨(pblk b_.ptr), (poff b_.ptr), none⟩) b_.len b_.cap), (22, [], Value.int .i64 i)] (congrArg (fun pp => ([(0, [], sv_ a_), (1, [], sv_ b_), (5, [], Value.int .i64 i), (20, [], Value.agg #[Value.string v20.Key, Value.string v20.Val, Value.bool v20.Drop]), (21, [], Value.slice pp b_.len b_.cap), (22, [], Value.int .i64 i)] : GEnv)) hp_15) ?_
       obtain ⟨h0, h1, h⟩ := h
       refine qreg_indexS (t := 50) (e := 139) (x := (Operand.tmp 21)) (ix := (Operand.tmp 22)) (b := (pblk b_.ptr)) (o := (poff b_.ptr)) (l := b_.len) (c := b_.cap) (k := .i64) (j := i) (ty := 0) (dst := some 23) (sz := 3) (by kernel_rfl) (by kernel_rfl) (by kernel_rfl) (by kernel_rfl) (by kernel_rfl) h0 h1 ?_
       refine qreg_run [] 7 [(0, [], sv_ a_), (1, [], sv_ b_), (5, [], Value.int .i64 i), (20, [], Value.agg #[Value.string v20.Key, Value.string v20.Val, Value.bool v20.Drop]), (23, [], Value.pointer (some ⟨(pblk b_.ptr), (poff b_.ptr) + i.toNat * 3, none⟩))] (by kernel_rfl) (by kernel_rfl) ?_
       obtain ⟨v24, hc, h⟩ := h
       refine qreg_loadN (t := 139) (a := (Operand.tmp 23)) (b := (pblk b_.ptr)) (o := ((poff b_.ptr) + i.toNat * 3)) (ty := 139) (dst := some 24) [Value.string v24.Key, Value.string v24.Val, Value.bool v24.Drop] (by kernel_rfl) (by kernel_rfl) (by kernel_rfl) (k := 3) (by kernel_rfl) (by kernel_rfl) hc ?_
       refine qreg_run [] 8 [(0, [], sv_ a_), (1, [], sv_ b_), (5, [], Value.int .i64 i), (20, [], Value.agg #[Value.string v20.Key, Value.string v20.Val, Value.bool v20.Drop]), (24, [], Value.agg #[Value.string v24.Key, Value.string v24.Val, Value.bool v24.Drop])] (by kernel_rfl) (by kernel_rfl) ?_
       refine qreg_val (op := (Op.binOp BinOp.neq 139 (Operand.tmp 20) (Operand.tmp 24) 139)) (ty := 4) (dst := some 25) (Value.bool (!(((v20.Key == v24.Key) && (v20.Val == v24.Val)) && (v20.Drop == v24.Drop)))) (by kernel_rfl) (fun ww => run_struct_neq (xs := [Value.string v20.Key, Value.string v20.Val, Value.bool v20.Drop]) (ys := [Value.string v24.Key, Value.string v24.Val, Value.bool v24.Drop]) (by kernel_rfl) (by kernel_rfl) (by kernel_rfl) (by kernel_rfl) (by kernel_rfl) ww) ?_
       refine qreg_end [(0, sv_ a_), (1, sv_ b_), (5, Value.int .i64 i), (25, Value.bool (!(((v20.Key == v24.Key) && (v20.Val == v24.Val)) && (v20.Drop == v24.Drop))))] (by kernel_rfl) (by kernel_rfl) (fun w2 hw => ?_)
       replace h := h w2 hw
       clear hw
       change WpE _ _ c83_31 _ _ _
       refine Zc 25 (!(((v20.Key == v24.Key) && (v20.Val == v24.Val)) && (v20.Drop == v24.Drop))) c83_32 c83_36 (fun hb => ?_) (fun hb => ?_)
       · replace h := h.1 hb
         refine Zp c83_35 P1 [(4, .bool false)] ?_
         refine wpE_ret (by kernel_rfl) ?_
         repeat (first | refine seqQ_ret ?_ | refine blockQ_ret ?_ | refine loopQ_ret ?_ | refine cutQ_ret ?_)
         exact retS (rs := [(ResultVar.tmp 4)]) (v := Value.bool false) (by kernel_rfl) (⟨by kernel_rfl, trivial⟩) ⟨false, rfl, h⟩
       · replace h := h.2 hb
         refine wpE_skip (by kernel_rfl) ?_
         change WpE _ _ c83_37 _ _ _
         refine Zr r83_37 ?_
         refine Zf P3 [(0, sv_ a_), (1, sv_ b_), (5, .int .i64 (IntKind.i64.wrap (i + 1)))] ?_
         have hb_ := again__h _ _ h
         exact ⟨_, hb_.2, [(0, sv_ a_), (1, sv_ b_), (5, Value.int .i64 (IntKind.i64.wrap (i + 1)))], Sub.mk (by kernel_rfl), (IntKind.i64.wrap (i + 1)), rfl, hb_.1, rfl⟩
     · replace h := h.2 hb
       refine wpE_exit (id := 0) (by kernel_rfl) ?_
       change WpE _ _ c83_39 _ _ _
       refine Zp c83_42 P1 [(4, .bool true)] ?_
       refine wpE_ret (by kernel_rfl) ?_
       repeat (first | refine seqQ_ret ?_ | refine blockQ_ret ?_ | refine loopQ_ret ?_ | refine cutQ_ret ?_)
       exact retS (rs := [(ResultVar.tmp 4)]) (v := Value.bool true) (by kernel_rfl) (⟨by kernel_rfl, trivial⟩) ⟨true, rfl, h⟩
 · rintro e w' ⟨v, rfl, r0, rfl, h⟩; exact ⟨r0, rfl, h⟩

/-! ### (*towpath/towpathlaw01.Book).Writes (function 84) -/
def c84_0 := cb_ Tryz.f84
def r84_0 := co_ c84_0

theorem S_towpathlaw01_Book_Writes {b_ : Option Addr} {l_ : Slc} {w : World} {R : World → Prop} (h : F_towpathlaw01_Book_Writes b_ l_ R w) : C_towpathlaw01_Book_Writes b_ l_ w R := by
 unfold F_towpathlaw01_Book_Writes at h
 unfold C_towpathlaw01_Book_Writes
 refine Calls.mono (calls_of_wpE (args := [Value.pointer b_, sv_ l_]) (R := fun v w' => v = Value.tuple #[] ∧ R w') Tryz.func84 (c := c84_0) (by kernel_rfl) 7 (by kernel_rfl) (by kernel_rfl) [(0, Value.pointer b_), (1, sv_ l_)] (by kernel_rfl) ?_) ?_
 · refine Zr r84_0 ?_
   refine Zn P2 2 [(4, [], .pointer b_), (5, [], sv_ l_)] ?_
   refine Zm 147 #[.pointer b_, sv_ l_] (some 6) (Calls.mono h ?_)
   rintro _ w1 ⟨rfl, h⟩
   refine ⟨_, rfl, ?_⟩
   refine Ze [] ?_
   repeat (first | refine seqQ_exit ?_ | refine loopQ_exit ?_ | refine cutQ_exit ?_ | refine blockQ_hit ?_ | refine blockQ_miss (by kernel_rfl) ?_)
   refine retQ_normal ?_
   repeat (first | refine seqQ_ret ?_ | refine blockQ_ret ?_ | refine loopQ_ret ?_ | refine cutQ_ret ?_)
   exact retT (rs := []) (vs := []) (by kernel_rfl) (trivial) (by kernel_rfl) ⟨rfl, h⟩
 · rintro e w' ⟨v, rfl, rfl, h⟩; exact ⟨rfl, h⟩

/-! ### (*towpath/towpathlaw01.Book).keepInt (function 85) -/
def c85_0 := cb_ Tryz.f85
def c85_1 := cl_ c85_0
def r85_1 := co_ c85_1
def c85_3 := cr_ c85_0
def r85_3 := co_ c85_3
def o_towpathlaw01_Book_keepInt_3 : List Nat := [0, 1, 2, 3, 4, 5, 6, 7, 8, 9, 10, 11, 12, 13, 14, 15]

theorem S_towpathlaw01_Book_keepInt {b_ : Option Addr} {l_ : Slc} {w : World} {R : World → Prop} (h : F_towpathlaw01_Book_keepInt b_ l_ R w) : C_towpathlaw01_Book_keepInt b_ l_ w R := by
 unfold F_towpathlaw01_Book_keepInt at h
 unfold C_towpathlaw01_Book_keepInt
 refine Calls.mono (calls_of_wpE (args := [Value.pointer b_, sv_ l_]) (R := fun v w' => v = Value.tuple #[] ∧ R w') Tryz.func85 (c := c85_0) (by kernel_rfl) 26 (by kernel_rfl) (by kernel_rfl) [(0, Value.pointer b_), (1, sv_ l_)] (by kernel_rfl) ?_) ?_
 · refine Zt r85_1 c85_3 ?_
   refine Zn P1 1 [(0, [], .pointer b_), (1, [], sv_ l_), (4, [], .pointer b_)] ?_
   obtain ⟨hp_1, h⟩ := h
   refine Zv (fun pp => [(0, [], .pointer b_), (1, [], sv_ l_), (4, [], .pointer pp)]) hp_1 ?_
   refine Zn P1 2 [(0, [], .pointer b_), (1, [], sv_ l_), (4, [], .pointer (some ⟨(pblk b_), (poff b_), none⟩)), (5, [], .pointer (some ⟨(pblk b_), (poff b_), none⟩))] ?_
   refine Zn P1 3 [(0, [], .pointer b_), (1, [], sv_ l_), (4, [], .pointer (some ⟨(pblk b_), (poff b_), none⟩)), (6, [], .pointer (some ⟨(pblk b_), (poff b_), none⟩))] ?_
   obtain ⟨v7, hc, h⟩ := h
   refine Zl 3 6 (pblk b_) (poff b_) 3 7 hc ?_
   refine Zn P3 7 [(0, [], .pointer b_), (1, [], sv_ l_), (8, [], .int .i64 (IntKind.i64.wrap (v7 + 1))), (10, [], .pointer (some ⟨(pblk b_), (poff b_), none⟩))] ?_
   obtain ⟨hc, h⟩ := h
   refine Zo 3 10 8 (pblk b_) (poff b_) 1 [.int .i64 (IntKind.i64.wrap (v7 + 1))] hc (fun w1 hw => ?_)
   replace h := h w1 hw
   clear hw
   refine Ze [(0, .pointer b_), (1, sv_ l_)] ?_
   change WpE _ _ c85_3 _ _ _
   refine wpE_mixregion (id := 1) (ops := r85_3) o_towpathlaw01_Book_keepInt_3 (by kernel_rfl) (by kernel_rfl) (by kernel_rfl) (by kernel_rfl) (fun w2 hw => ?_)
   replace h := h w2 hw
   clear hw
   refine mreg_run P2 2 [(0, [], Value.pointer b_), (1, [], sv_ l_), (11, [], Value.pointer b_), (12, [], Value.pointer b_)] (by kernel_rfl) (by kernel_rfl) ?_
   obtain ⟨hp_2, h⟩ := h
   refine mreg_conv [(0, [], Value.pointer b_), (1, [], sv_ l_), (11, [], Value.pointer b_), (12, [], Value.pointer (some ⟨(pblk b_), (poff b_), none⟩))] (congrArg (fun pp => ([(0, [], Value.pointer b_), (1, [], sv_ l_), (11, [], Value.pointer b_), (12, [], Value.pointer pp)] : GEnv)) hp_2) ?_
   refine mreg_run P1 3 [(0, [], Value.pointer b_), (1, [], sv_ l_), (11, [], Value.pointer b_), (12, [], Value.pointer (some ⟨(pblk b_), (poff b_), none⟩)), (13, [], Value.pointer (some ⟨(pblk b_), (poff b_), none⟩))] (by kernel_rfl) (by kernel_rfl) ?_
   refine mreg_run P1 4 [(0, [], Value.pointer b_), (1, [], sv_ l_), (11, [], Value.pointer b_), (14, [], Value.pointer (some ⟨(pblk b_), (poff b_) + 2, none⟩))] (by kernel_rfl) (by kernel_rfl) ?_
   obtain ⟨v15, hc, h⟩ := h
   refine mreg_load1 (i := 4) (by kernel_rfl) (t := 36) (a := (Operand.tmp 14)) (b := (pblk b_)) (o := ((poff b_) + 2)) (ty := 36) (dst := some 15) (by kernel_rfl) (by kernel_rfl) (by kernel_rfl) hc ?_
   refine mreg_run P2 7 [(11, [], Value.pointer b_), (15, [], sv_ v15), (16, [], sv_ l_), (17, [], Value.pointer b_)] (by kernel_rfl) (by kernel_rfl) ?_
   obtain ⟨hp_3, h⟩ := h
   refine mreg_conv [(11, [], Value.pointer b_), (15, [], sv_ v15), (16, [], sv_ l_), (17, [], Value.pointer (some ⟨(pblk b_), (poff b_), none⟩))] (congrArg (fun pp => ([(11, [], Value.pointer b_), (15, [], sv_ v15), (16, [], sv_ l_), (17, [], Value.pointer pp)] : GEnv)) hp_3) ?_
   refine mreg_run P1 8 [(11, [], Value.pointer b_), (15, [], sv_ v15), (16, [], sv_ l_), (17, [], Value.pointer (some ⟨(pblk b_), (poff b_), none⟩)), (18, [], Value.pointer (some ⟨(pblk b_), (poff b_), none⟩))] (by kernel_rfl) (by kernel_rfl) ?_
   refine mreg_run P1 9 [(11, [], Value.pointer b_), (15, [], sv_ v15), (16, [], sv_ l_), (19, [], Value.pointer (some ⟨(pblk b_), (poff b_), none⟩))] (by kernel_rfl) (by kernel_rfl) ?_
   obtain ⟨v20, hc, h⟩ := h
   refine mreg_load1 (i := 9) (by kernel_rfl) (t := 3) (a := (Operand.tmp 19)) (b := (pblk b_)) (o := (poff b_)) (ty := 3) (dst := some 20) (by kernel_rfl) (by kernel_rfl) (by kernel_rfl) hc ?_
   refine mreg_run P1 11 [(11, [], Value.pointer b_), (15, [], sv_ v15), (21, [], Value.agg #[sv_ l_, Value.slice none 0 0, Value.int .i64 v20])] (by kernel_rfl) (by kernel_rfl) ?_
   refine mreg_new (op := (Op.buildSlice 36 1 #[(0, (Operand.tmp 21))])) (ty := 36) (dst := some 22) 11 [10, 5, 9, 8, 7, 6] [(4, fun w' => w'.cell? ⟨(pblk b_), (poff b_) + 2, none⟩ = some (sv_ v15))] (fun bb => Value.slice (some ⟨bb, 0, none⟩) 1 1) (Obj.cells ([sv_ l_, Value.slice none 0 0, Value.int .i64 v20]).toArray ty_towpathlaw01_heldInt (0, 0)) (by kernel_rfl) (by kernel_rfl) (by kernel_rfl) (by kernel_rfl) (by kernel_rfl) (by kernel_rfl) (fun b_1 w3 hb hw => ?_)
   replace h := h b_1 w3 hb hw
   clear hb hw
   obtain ⟨hk0, h⟩ := h
   refine ⟨⟨hk0, trivial⟩, ?_⟩
   refine mreg_run [] 12 [(11, [], Value.pointer b_), (15, [], sv_ v15), (22, [], Value.slice (some ⟨b_1, 0, none⟩) 1 1)] (by kernel_rfl) (by kernel_rfl) ?_
   obtain ⟨src, hs, h⟩ := h
   refine mreg_append (t := 36) (tx := 36) (e := 146) (a := (Operand.tmp 15)) (xo := (Operand.tmp 22)) (s := v15) (x := (Slc.mk (some ⟨b_1, 0, none⟩) 1 1)) (sz := 3) (by_ := 56) (zs := [Value.slice none 0 0, Value.slice none 0 0, Value.int .i64 0]) (ty := 36) (dst := some 23) 12 [4, 11, 3, 10, 2, 5, 9, 1, 8, 7, 6] [] src (by kernel_rfl) (by kernel_rfl) (by kernel_rfl) (by kernel_rfl) (by kernel_rfl) (by kernel_rfl) (by kernel_rfl) (by kernel_rfl) (by kernel_rfl) (by kernel_rfl) (by kernel_rfl) (by kernel_rfl) (by kernel_rfl) hs (AppendW.mono h (fun v23 w4 h => ?_))
   refine ⟨trivial, ?_⟩
   refine mreg_run [] 13 [(11, [], Value.pointer b_), (23, [], sv_ v23)] (by kernel_rfl) (by kernel_rfl) ?_
   obtain ⟨hp_4, h⟩ := h
   refine mreg_conv [(11, [], Value.pointer (some ⟨(pblk b_), (poff b_), none⟩)), (23, [], sv_ v23)] (congrArg (fun pp => ([(11, [], Value.pointer pp), (23, [], sv_ v23)] : GEnv)) hp_4) ?_
   refine mreg_run P1 14 [(11, [], Value.pointer (some ⟨(pblk b_), (poff b_), none⟩)), (23, [], sv_ v23), (24, [], Value.pointer (some ⟨(pblk b_), (poff b_), none⟩))] (by kernel_rfl) (by kernel_rfl) ?_
   refine mreg_run P1 15 [(23, [], sv_ v23), (25, [], Value.pointer (some ⟨(pblk b_), (poff b_) + 2, none⟩))] (by kernel_rfl) (by kernel_rfl) ?_
   obtain ⟨hc, h⟩ := h
   refine mreg_store (t := 36) (a := (Operand.tmp 25)) (x := (Operand.tmp 23)) (b := (pblk b_)) (o := ((poff b_) + 2)) (k := 1) (ty := 0) (dst := none) 15 [0, 1, 2, 3, 4, 5, 6, 7, 8, 9, 10, 11, 12, 14, 13] [] [sv_ v23] (by kernel_rfl) (by kernel_rfl) (by kernel_rfl) (by kernel_rfl) (by kernel_rfl) (by kernel_rfl) (by kernel_rfl) (by kernel_rfl) (by kernel_rfl) (by kernel_rfl) hc (fun w5 hw => ?_)
   replace h := h w5 hw
   clear hw
   refine ⟨trivial, ?_⟩
   refine mreg_end [] (by kernel_rfl) (by kernel_rfl) (by kernel_rfl) ?_
   repeat (first | refine seqQ_exit ?_ | refine loopQ_exit ?_ | refine cutQ_exit ?_ | refine blockQ_hit ?_ | refine blockQ_miss (by kernel_rfl) ?_)
   refine retQ_normal ?_
   repeat (first | refine seqQ_ret ?_ | refine blockQ_ret ?_ | refine loopQ_ret ?_ | refine cutQ_ret ?_)
   exact retT (rs := []) (vs := []) (by kernel_rfl) (trivial) (by kernel_rfl) ⟨rfl, h⟩
 · rintro e w' ⟨v, rfl, rfl, h⟩; exact ⟨rfl, h⟩

/-! ### towpath/towpathlaw01.WritesSize (function 120) -/
def c120_0 := cb_ Tryz.f120
def c120_3 := cr_ c120_0
def c120_6 := cr_ c120_3
def c120_7 := cl_ c120_6
def c120_10 := cr_ c120_7
def c120_11 := cl_ c120_10
def c120_12 := cl_ c120_11
def c120_13 := cl_ c120_12
def c120_16 := cr_ c120_13
def c120_17 := cl_ c120_16
def c120_18 := cr_ c120_16
def c120_19 := cr_ c120_12
def c120_20 := cl_ c120_19
def c120_21 := cl_ c120_20
def r120_21 := co_ c120_21
def c120_23 := cr_ c120_19
def r120_23 := co_ c120_23
def c120_25 := cr_ c120_6
def c120_28 := cr_ c120_25

theorem S_towpathlaw01_WritesSize {l_ : Slc} {w : World} {R : Int → World → Prop} (h : F_towpathlaw01_WritesSize l_ R w) : C_towpathlaw01_WritesSize l_ w R := by
 unfold F_towpathlaw01_WritesSize at h
 unfold C_towpathlaw01_WritesSize
 refine Calls.mono (calls_of_wpE (args := [sv_ l_]) (R := fun v w' => ∃ (r0 : Int), v = Value.int .i64 r0 ∧ R r0 w') Tryz.func120 (c := c120_0) (by kernel_rfl) 33 (by kernel_rfl) (by kernel_rfl) [(0, sv_ l_)] (by kernel_rfl) ?_) ?_
 · refine Zp c120_3 P1 [(0, sv_ l_)] ?_
   refine Zp c120_6 P3 [(0, sv_ l_), (3, .int .i64 ((l_.len : Nat) : Int))] ?_
   refine Zs c120_7 c120_25 ?_
   refine Zp c120_10 P1 [(0, sv_ l_), (3, .int .i64 ((l_.len : Nat) : Int)), (4, .int .i64 0)] ?_
   refine Zb 0 c120_11 ?_
   obtain ⟨I, μ, h0, hr⟩ := h
   refine wpE_loop (x := c120_12) (by kernel_rfl) (fun m l w => ∃ (n_ : Int) (i : Int), l = [(0, sv_ l_), (3, Value.int .i64 n_), (4, Value.int .i64 i)] ∧ I n_ i w ∧ μ n_ i w = m) (l' := [(0, sv_ l_), (3, Value.int .i64 ((l_.len : Nat) : Int)), (4, Value.int .i64 0)]) (Sub.mk (by kernel_rfl)) ⟨((l_.len : Nat) : Int), 0, rfl, h0, rfl⟩ ?_
   rintro _ _ w1 ⟨n_, i, rfl, hI, rfl⟩
   obtain ⟨again_, again__h, h⟩ : ∃ again_ : Int → Int → World → Prop, (∀ n_' i' w', again_ n_' i' w' → I n_' i' w' ∧ μ n_' i' w' < μ n_ i w1) ∧ F_towpathlaw01_WritesSize_L0 l_ R again_ n_ i w1 := ⟨_, fun _ _ _ h => h, hr n_ i w1 hI⟩
   clear h0 hI
   unfold F_towpathlaw01_WritesSize_L0 at h
   refine Zs c120_13 c120_19 ?_
   refine Zp c120_16 [.plain, .plain, .plain, .plain, .plain, .plain, .plain, .pick] [(0, sv_ l_), (3, .int .i64 n_), (4, .int .i64 i), (14, .bool ((decide (i < ((l_.len : Nat) : Int))) && (decide (n_ ≤ 1048576))))] ?_
   refine Zc 14 ((decide (i < ((l_.len : Nat) : Int))) && (decide (n_ ≤ 1048576))) c120_17 c120_18 (fun hb => ?_) (fun hb => ?_)
   · replace h := h.1 hb
     refine wpE_skip (by kernel_rfl) ?_
     change WpE _ _ c120_19 _ _ _
     refine Zs c120_20 c120_23 ?_
     refine Zb 1 c120_21 ?_
     refine wpE_drawregion (id := 5) (ops := r120_21) (by kernel_rfl) (by kernel_rfl) (by kernel_rfl) ?_
     refine qreg_run P3 3 [(0, [], sv_ l_), (3, [], Value.int .i64 n_), (4, [], Value.int .i64 i), (17, [], Value.int .i64 n_), (18, [], sv_ l_), (19, [], Value.int .i64 i)] (by kernel_rfl) (by kernel_rfl) ?_
     obtain ⟨hp_6, h⟩ := h
     refine qreg_conv [(0, [], sv_ l_), (3, [], Value.int .i64 n_), (4, [], Value.int .i64 i), (17, [], Value.int .i64 n_), (18, [], Value.slice (some ⟨(pblk l_.ptr), (poff l_.ptr), none⟩) l_.len l_.cap), (19, [], Value.int .i64 i)] (congrArg (fun pp => ([(0, [], sv_ l_), (3, [], Value.int .i64 n_), (4, [], Value.int .i64 i), (17, [], Value.int .i64 n_), (18, [], Value.slice pp l_.len l_.cap), (19, [], Value.int .i64 i)] : GEnv)) hp_6) ?_
     obtain ⟨h0, h1, h⟩ := h
     refine qreg_indexS (t := 50) (e := 139) (x := (Operand.tmp 18)) (ix := (Operand.tmp 19)) (b := (pblk l_.ptr)) (o := (poff l_.ptr)) (l := l_.len) (c := l_.cap) (k := .i64) (j := i) (ty := 0) (dst := some 20) (sz := 3) (by kernel_rfl) (by kernel_rfl) (by kernel_rfl) (by kernel_rfl) (by kernel_rfl) h0 h1 ?_
     refine qreg_run P1 5 [(0, [], sv_ l_), (3, [], Value.int .i64 n_), (4, [], Value.int .i64 i), (17, [], Value.int .i64 n_), (21, [], Value.pointer (some ⟨(pblk l_.ptr), (poff l_.ptr) + i.toNat * 3, none⟩))] (by kernel_rfl) (by kernel_rfl) ?_
     obtain ⟨v22, hc, h⟩ := h
     refine qreg_load1 (t := 9) (a := (Operand.tmp 21)) (b := (pblk l_.ptr)) (o := ((poff l_.ptr) + i.toNat * 3)) (ty := 9) (dst := some 22) (by kernel_rfl) (by kernel_rfl) (by kernel_rfl) hc ?_
     refine qreg_run P4 10 [(0, [], sv_ l_), (3, [], Value.int .i64 n_), (4, [], Value.int .i64 i), (24, [], Value.int .i64 (IntKind.i64.wrap (n_ + ((v22.size : Nat) : Int)))), (25, [], sv_ l_), (26, [], Value.int .i64 i)] (by kernel_rfl) (by kernel_rfl) ?_
     obtain ⟨hp_7, h⟩ := h
     refine qreg_conv [(0, [], sv_ l_), (3, [], Value.int .i64 n_), (4, [], Value.int .i64 i), (24, [], Value.int .i64 (IntKind.i64.wrap (n_ + ((v22.size : Nat) : Int)))), (25, [], Value.slice (some ⟨(pblk l_.ptr), (poff l_.ptr), none⟩) l_.len l_.cap), (26, [], Value.int .i64 i)] (congrArg (fun pp => ([(0, [], sv_ l_), (3, [], Value.int .i64 n_), (4, [], Value.int .i64 i), (24, [], Value.int .i64 (IntKind.i64.wrap (n_ + ((v22.size : Nat) : Int)))), (25, [], Value.slice pp l_.len l_.cap), (26, [], Value.int .i64 i)] : GEnv)) hp_7) ?_
     obtain ⟨h0, h1, h⟩ := h
     refine qreg_indexS (t := 50) (e := 139) (x := (Operand.tmp 25)) (ix := (Operand.tmp 26)) (b := (pblk l_.ptr)) (o := (poff l_.ptr)) (l := l_.len) (c := l_.cap) (k := .i64) (j := i) (ty := 0) (dst := some 27) (sz := 3) (by kernel_rfl) (by kernel_rfl) (by kernel_rfl) (by kernel_rfl) (by kernel_rfl) h0 h1 ?_
     refine qreg_run P1 12 [(0, [], sv_ l_), (3, [], Value.int .i64 n_), (4, [], Value.int .i64 i), (24, [], Value.int .i64 (IntKind.i64.wrap (n_ + ((v22.size : Nat) : Int)))), (28, [], Value.pointer (some ⟨(pblk l_.ptr), ((poff l_.ptr) + i.toNat * 3) + 1, none⟩))] (by kernel_rfl) (by kernel_rfl) ?_
     obtain ⟨v29, hc, h⟩ := h
     refine qreg_load1 (t := 9) (a := (Operand.tmp 28)) (b := (pblk l_.ptr)) (o := (((poff l_.ptr) + i.toNat * 3) + 1)) (ty := 9) (dst := some 29) (by kernel_rfl) (by kernel_rfl) (by kernel_rfl) hc ?_
     refine qreg_run P3 16 [(0, [], sv_ l_), (3, [], Value.int .i64 (IntKind.i64.wrap ((IntKind.i64.wrap (n_ + ((v22.size : Nat) : Int))) + ((v29.size : Nat) : Int)))), (4, [], Value.int .i64 i)] (by kernel_rfl) (by kernel_rfl) ?_
     refine qreg_end [(0, sv_ l_), (3, Value.int .i64 (IntKind.i64.wrap ((IntKind.i64.wrap (n_ + ((v22.size : Nat) : Int))) + ((v29.size : Nat) : Int)))), (4, Value.int .i64 i)] (by kernel_rfl) (by kernel_rfl) (fun w2 hw => ?_)
     replace h := h w2 hw
     clear hw
     change WpE _ _ c120_23 _ _ _
     refine Zr r120_23 ?_
     refine Zf P3 [(0, sv_ l_), (3, .int .i64 (IntKind.i64.wrap ((IntKind.i64.wrap (n_ + ((v22.size : Nat) : Int))) + ((v29.size : Nat) : Int)))), (4, .int .i64 (IntKind.i64.wrap (i + 1)))] ?_
     have hb_ := again__h _ _ _ h
     exact ⟨_, hb_.2, [(0, sv_ l_), (3, Value.int .i64 (IntKind.i64.wrap ((IntKind.i64.wrap (n_ + ((v22.size : Nat) : Int))) + ((v29.size : Nat) : Int)))), (4, Value.int .i64 (IntKind.i64.wrap (i + 1)))], Sub.mk (by kernel_rfl), (IntKind.i64.wrap ((IntKind.i64.wrap (n_ + ((v22.size : Nat) : Int))) + ((v29.size : Nat) : Int))), (IntKind.i64.wrap (i + 1)), rfl, hb_.1, rfl⟩
   · replace h := h.2 hb
     refine wpE_exit (id := 0) (by kernel_rfl) ?_
     change WpE _ _ c120_25 _ _ _
     refine Zp c120_28 P2 [(2, .int .i64 n_)] ?_
     refine wpE_ret (by kernel_rfl) ?_
     repeat (first | refine seqQ_ret ?_ | refine blockQ_ret ?_ | refine loopQ_ret ?_ | refine cutQ_ret ?_)
     exact retS (rs := [(ResultVar.tmp 2)]) (v := Value.int .i64 n_) (by kernel_rfl) (⟨by kernel_rfl, trivial⟩) ⟨n_, rfl, h⟩
 · rintro e w' ⟨v, rfl, r0, rfl, h⟩; exact ⟨r0, rfl, h⟩

/-! ### towpath/towpathlaw01.TwinWrites (function 121) -/
def c121_0 := cb_ Tryz.f121
def c121_3 := cr_ c121_0
def c121_4 := cl_ c121_3
def r121_4 := co_ c121_4
def c121_6 := cr_ c121_3
def c121_7 := cl_ c121_6
def c121_10 := cr_ c121_7
def c121_11 := cl_ c121_10
def c121_12 := cl_ c121_11
def c121_13 := cl_ c121_12
def c121_16 := cr_ c121_13
def c121_17 := cl_ c121_16
def c121_18 := cr_ c121_16
def c121_19 := cr_ c121_12
def c121_20 := cl_ c121_19
def c121_21 := cl_ c121_20
def r121_21 := co_ c121_21
def c121_23 := cr_ c121_19
def r121_23 := co_ c121_23
def c121_25 := cr_ c121_6
def c121_26 := cl_ c121_25
def r121_26 := co_ c121_26
def c121_28 := cr_ c121_25

theorem S_towpathlaw01_TwinWrites {l_ : Slc} {w : World} {R : Slc → World → Prop} (h : F_towpathlaw01_TwinWrites l_ R w) : C_towpathlaw01_TwinWrites l_ w R := by
 unfold F_towpathlaw01_TwinWrites at h
 unfold C_towpathlaw01_TwinWrites
 refine Calls.mono (calls_of_wpE (args := [sv_ l_]) (R := fun v w' => ∃ (r0 : Slc), v = sv_ r0 ∧ R r0 w') Tryz.func121 (c := c121_0) (by kernel_rfl) 29 (by kernel_rfl) (by kernel_rfl) [(0, sv_ l_)] (by kernel_rfl) ?_) ?_
 · refine Zp c121_3 P1 [(0, sv_ l_)] ?_
   refine Zt r121_4 c121_6 ?_
   refine Zn P3 3 [(0, [], sv_ l_), (7, [], .int .i64 (IntKind.i64.wrap (((l_.len : Nat) : Int) + 1)))] ?_
   obtain ⟨h0, h1, h2, h⟩ := h
   refine reg_makeSlice (t := 50) (e := 139) (lo := (Operand.const (Value.int Go.IntKind.i64 0))) (co := (Operand.tmp 7)) (l := 0) (c := (IntKind.i64.wrap (((l_.len : Nat) : Int) + 1))) (sz := 3) (by_ := 40) (zs := [Value.string ByteArray.empty, Value.string ByteArray.empty, Value.bool false]) (ty := 50) (dst := some 8) (by kernel_rfl) (by kernel_rfl) (by kernel_rfl) (by kernel_rfl) (by kernel_rfl) (by kernel_rfl) (by kernel_rfl) (by kernel_rfl) (by kernel_rfl) h0 h1 h2 (fun b_ w1 hb hw => ?_)
   replace h := h b_ w1 hb hw
   clear hb hw
   refine Zf P1 [(0, sv_ l_), (3, .slice (some ⟨b_, 0, none⟩) 0 ((IntKind.i64.wrap (((l_.len : Nat) : Int) + 1)).toNat))] ?_
   change WpE _ _ c121_6 _ _ _
   refine Zs c121_7 c121_25 ?_
   refine Zp c121_10 P1 [(0, sv_ l_), (3, .slice (some ⟨b_, 0, none⟩) 0 ((IntKind.i64.wrap (((l_.len : Nat) : Int) + 1)).toNat)), (4, .int .i64 0)] ?_
   refine Zb 0 c121_11 ?_
   obtain ⟨I, μ, h0, hr⟩ := h
   refine wpE_loop (x := c121_12) (by kernel_rfl) (fun m l w => ∃ (t_ : Slc) (i : Int), l = [(0, sv_ l_), (3, sv_ t_), (4, Value.int .i64 i)] ∧ I t_ i w ∧ μ t_ i w = m) (l' := [(0, sv_ l_), (3, Value.slice (some ⟨b_, 0, none⟩) 0 ((IntKind.i64.wrap (((l_.len : Nat) : Int) + 1)).toNat)), (4, Value.int .i64 0)]) (Sub.mk (by kernel_rfl)) ⟨(Slc.mk (some ⟨b_, 0, none⟩) 0 ((IntKind.i64.wrap (((l_.len : Nat) : Int) + 1)).toNat)), 0, rfl, h0, rfl⟩ ?_
   rintro _ _ w2 ⟨t_, i, rfl, hI, rfl⟩
   obtain ⟨again_, again__h, h⟩ : ∃ again_ : Slc → Int → World → Prop, (∀ t_' i' w', again_ t_' i' w' → I t_' i' w' ∧ μ t_' i' w' < μ t_ i w2) ∧ F_towpathlaw01_TwinWrites_L0 l_ R again_ t_ i w2 := ⟨_, fun _ _ _ h => h, hr t_ i w2 hI⟩
   clear h0 hI
   unfold F_towpathlaw01_TwinWrites_L0 at h
   refine Zs c121_13 c121_19 ?_
   refine Zp c121_16 P4 [(0, sv_ l_), (3, sv_ t_), (4, .int .i64 i), (12, .bool (decide (i < ((l_.len : Nat) : Int))))] ?_
   refine Zc 12 (decide (i < ((l_.len : Nat) : Int))) c121_17 c121_18 (fun hb => ?_) (fun hb => ?_)
   · replace h := h.1 hb
     refine wpE_skip (by kernel_rfl) ?_
     change WpE _ _ c121_19 _ _ _
     refine Zs c121_20 c121_23 ?_
     refine Zb 1 c121_21 ?_
     refine Zr r121_21 ?_
     refine Zn P3 3 [(0, [], sv_ l_), (3, [], sv_ t_), (4, [], .int .i64 i), (15, [], sv_ t_), (16, [], sv_ l_), (17, [], .int .i64 i)] ?_
     obtain ⟨hp_3, h⟩ := h
     refine Zv (fun pp => [(0, [], sv_ l_), (3, [], sv_ t_), (4, [], .int .i64 i), (15, [], sv_ t_), (16, [], .slice pp l_.len l_.cap), (17, [], .int .i64 i)]) hp_3 ?_
     obtain ⟨h0, h1, h⟩ := h
     refine Zj 50 139 16 17 (pblk l_.ptr) (poff l_.ptr) l_.len l_.cap i 3 18 0 h0 h1 ?_
     refine Zn [] 4 [(0, [], sv_ l_), (3, [], sv_ t_), (4, [], .int .i64 i), (15, [], sv_ t_), (18, [], .pointer (some ⟨(pblk l_.ptr), (poff l_.ptr) + i.toNat * 3, none⟩))] ?_
     obtain ⟨v19, hc, h⟩ := h
     refine reg_loadN (t := 139) (a := (Operand.tmp 18)) (b := (pblk l_.ptr)) (o := ((poff l_.ptr) + i.toNat * 3)) (ty := 139) (dst := some 19) [Value.string v19.Key, Value.string v19.Val, Value.bool v19.Drop] (by kernel_rfl) (by kernel_rfl) (by kernel_rfl) (k := 3) (by kernel_rfl) (by kernel_rfl) hc ?_
     refine Zn [] 5 [(0, [], sv_ l_), (3, [], sv_ t_), (4, [], .int .i64 i), (15, [], sv_ t_), (19, [], .agg #[.string v19.Key, .string v19.Val, .bool v19.Drop])] ?_
     refine Zw (some 20) (fun bb => .slice (some ⟨bb, 0, none⟩) 1 1) (Obj.cells ([.string v19.Key, .string v19.Val, .bool v19.Drop]).toArray ty_api_Write (0, 0)) (fun b_1 w3 hb hw => ?_)
     replace h := h b_1 w3 hb hw
     clear hb hw
     refine Zn [] 6 [(0, [], sv_ l_), (3, [], sv_ t_), (4, [], .int .i64 i), (15, [], sv_ t_), (20, [], .slice (some ⟨b_1, 0, none⟩) 1 1)] ?_
     obtain ⟨src, hs, h⟩ := h
     refine reg_append (t := 50) (tx := 50) (e := 139) (a := (Operand.tmp 15)) (xo := (Operand.tmp 20)) (s := t_) (x := (Slc.mk (some ⟨b_1, 0, none⟩) 1 1)) (sz := 3) (by_ := 40) (zs := [Value.string ByteArray.empty, Value.string ByteArray.empty, Value.bool false]) (ty := 50) (dst := some 21)  src (by kernel_rfl) (by kernel_rfl) (by kernel_rfl) (by kernel_rfl) (by kernel_rfl) (by kernel_rfl) (by kernel_rfl) (by kernel_rfl) (by kernel_rfl) hs (AppendW.mono h (fun t_1 w4 h => ?_))
     refine Zf P1 [(0, sv_ l_), (3, sv_ t_1), (4, .int .i64 i)] ?_
     change WpE _ _ c121_23 _ _ _
     refine Zr r121_23 ?_
     refine Zf P3 [(0, sv_ l_), (3, sv_ t_1), (4, .int .i64 (IntKind.i64.wrap (i + 1)))] ?_
     have hb_ := again__h _ _ _ h
     exact ⟨_, hb_.2, [(0, sv_ l_), (3, sv_ t_1), (4, Value.int .i64 (IntKind.i64.wrap (i + 1)))], Sub.mk (by kernel_rfl), t_1, (IntKind.i64.wrap (i + 1)), rfl, hb_.1, rfl⟩
   · replace h := h.2 hb
     refine wpE_exit (id := 0) (by kernel_rfl) ?_
     change WpE _ _ c121_25 _ _ _
     refine Zt r121_26 c121_28 ?_
     refine Zn P2 2 [(0, [], sv_ l_), (22, [], sv_ t_), (23, [], .agg #[.string (ByteArray.mk #[115, 112, 97, 114, 101]), .string ByteArray.empty, .bool false])] ?_
     refine Zw (some 24) (fun bb => .slice (some ⟨bb, 0, none⟩) 1 1) (Obj.cells ([.string (ByteArray.mk #[115, 112, 97, 114, 101]), .string ByteArray.empty, .bool false]).toArray ty_api_Write (0, 0)) (fun b_2 w5 hb hw => ?_)
     replace h := h b_2 w5 hb hw
     clear hb hw
     refine Zn [] 3 [(0, [], sv_ l_), (22, [], sv_ t_), (24, [], .slice (some ⟨b_2, 0, none⟩) 1 1)] ?_
     obtain ⟨src, hs, h⟩ := h
     refine reg_append (t := 50) (tx := 50) (e := 139) (a := (Operand.tmp 22)) (xo := (Operand.tmp 24)) (s := t_) (x := (Slc.mk (some ⟨b_2, 0, none⟩) 1 1)) (sz := 3) (by_ := 40) (zs := [Value.string ByteArray.empty, Value.string ByteArray.empty, Value.bool false]) (ty := 50) (dst := some 25)  src (by kernel_rfl) (by kernel_rfl) (by kernel_rfl) (by kernel_rfl) (by kernel_rfl) (by kernel_rfl) (by kernel_rfl) (by kernel_rfl) (by kernel_rfl) hs (AppendW.mono h (fun v25 w6 h => ?_))
     refine Zn P2 6 [(25, [], sv_ v25), (27, [], .int .i64 ((l_.len : Nat) : Int))] ?_
     obtain ⟨h0, h1, h⟩ := h
     refine reg_sliceHi (t := 50) (e := 139) (x := (Operand.tmp 25)) (hi := (Operand.tmp 27)) (p := v25.ptr) (l := v25.len) (c := v25.cap) (sz := 3) (k := .i64) (j := ((l_.len : Nat) : Int)) (ty := 50) (dst := some 28) (by kernel_rfl) (by kernel_rfl) (by kernel_rfl) (by kernel_rfl) (by kernel_rfl) h0 h1 ?_
     refine Zf P1 [(2, .slice v25.ptr (((l_.len : Nat) : Int).toNat) v25.cap)] ?_
     change WpE _ _ c121_28 _ _ _
     refine wpE_ret (by kernel_rfl) ?_
     repeat (first | refine seqQ_ret ?_ | refine blockQ_ret ?_ | refine loopQ_ret ?_ | refine cutQ_ret ?_)
     exact retS (rs := [(ResultVar.tmp 2)]) (v := Value.slice v25.ptr (((l_.len : Nat) : Int).toNat) v25.cap) (by kernel_rfl) (⟨by kernel_rfl, trivial⟩) ⟨(Slc.mk v25.ptr (((l_.len : Nat) : Int).toNat) v25.cap), rfl, h⟩
 · rintro e w' ⟨v, rfl, r0, rfl, h⟩; exact ⟨r0, rfl, h⟩
end
end Go.Proofs.YtpdegdnigcnjiaaGreatDoor
