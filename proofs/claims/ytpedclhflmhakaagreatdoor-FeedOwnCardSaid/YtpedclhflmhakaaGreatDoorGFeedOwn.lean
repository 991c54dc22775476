/- WRITTEN BY PROGRAM (dec.py): for each Go function the clean formula F, the call's contract C, and the proof S that F gives C. -/
import Derived.Test.YtpedclhflmhakaaGreatDoorRows
import Derived.Test.YtpedclhflmhakaaGreatDoorGF
namespace Go.Proofs.YtpedclhflmhakaaGreatDoor
open Go
set_option linter.unusedVariables false
set_option maxRecDepth 100000
set_option maxHeartbeats 4000000
noncomputable section

/-! ### towpath/towpathlaw16.FeedOwn (function 3) -/
def c3_0 := cb_ Tryz.f3
def c3_3 := cr_ c3_0
def c3_4 := cl_ c3_3
def r3_4 := co_ c3_4
def c3_6 := cr_ c3_3
def c3_7 := cl_ c3_6
def c3_10 := cr_ c3_7
def c3_11 := cl_ c3_10
def c3_12 := cl_ c3_11
def c3_13 := cl_ c3_12
def c3_16 := cr_ c3_13
def c3_17 := cl_ c3_16
def c3_18 := cr_ c3_16
def c3_19 := cr_ c3_12
def c3_20 := cl_ c3_19
def c3_21 := cl_ c3_20
def c3_22 := cl_ c3_21
def r3_22 := co_ c3_22
def c3_24 := cr_ c3_21
def c3_25 := cl_ c3_24
def r3_25 := co_ c3_25
def c3_27 := cr_ c3_24
def c3_28 := cl_ c3_27
def c3_31 := cr_ c3_28
def c3_32 := cl_ c3_31
def c3_33 := cl_ c3_32
def r3_33 := co_ c3_33
def c3_35 := cr_ c3_32
def c3_36 := cr_ c3_31
def c3_37 := cr_ c3_27
def c3_38 := cl_ c3_37
def r3_38 := co_ c3_38
def c3_40 := cr_ c3_37
def c3_43 := cr_ c3_40
def c3_44 := cl_ c3_43
def c3_45 := cl_ c3_44
def c3_46 := cl_ c3_45
def c3_49 := cr_ c3_46
def c3_50 := cl_ c3_49
def c3_51 := cr_ c3_49
def c3_52 := cr_ c3_45
def c3_53 := cl_ c3_52
def c3_54 := cl_ c3_53
def c3_55 := cl_ c3_54
def r3_55 := co_ c3_55
def c3_57 := cr_ c3_54
def c3_58 := cl_ c3_57
def r3_58 := co_ c3_58
def c3_60 := cr_ c3_57
def c3_61 := cl_ c3_60
def c3_62 := cl_ c3_61
def r3_62 := co_ c3_62
def c3_64 := cr_ c3_61
def c3_65 := cl_ c3_64
def c3_68 := cr_ c3_65
def c3_69 := cr_ c3_64
def c3_70 := cr_ c3_60
def r3_70 := co_ c3_70
def c3_72 := cr_ c3_52
def r3_72 := co_ c3_72
def c3_74 := cr_ c3_19
def r3_74 := co_ c3_74
def c3_76 := cr_ c3_6
def c3_77 := cl_ c3_76
def r3_77 := co_ c3_77
def c3_79 := cr_ c3_76
def o_towpathlaw16_FeedOwn_62 : List Nat := [0, 1, 2, 3, 4, 5, 6, 7, 8, 9, 10]

theorem S_towpathlaw16_FeedOwn {l_ : Slc} {w : World} {R : Bool → World → Prop} (h : F_towpathlaw16_FeedOwn l_ R w) : C_towpathlaw16_FeedOwn l_ w R := by
 unfold F_towpathlaw16_FeedOwn at h
 unfold C_towpathlaw16_FeedOwn
 refine Calls.mono (calls_of_wpE (args := [sv_ l_]) (R := fun v w' => ∃ (r0 : Bool), v = Value.bool r0 ∧ R r0 w') Tryz.func3 (c := c3_0) (by kernel_rfl) 72 (by kernel_rfl) (by kernel_rfl) [(0, sv_ l_)] (by kernel_rfl) ?_) ?_
 · refine Zp c3_3 P1 [(0, sv_ l_)] ?_
   refine Zt r3_4 c3_6 ?_
   refine Zn [] 0 [(0, [], sv_ l_)] ?_
   refine Zw (some 3) (fun bb => pv_ bb) (Obj.cells ([.int .i64 0, .slice none 0 0, .slice none 0 0, .slice none 0 0, .slice none 0 0, .slice none 0 0, .slice none 0 0, .slice none 0 0, .slice none 0 0, .slice none 0 0, .slice none 0 0, .slice none 0 0]).toArray ty_towpathlaw01_Book (0, 0)) (fun b_ w1 hb hw => ?_)
   replace h := h b_ w1 hb hw
   clear hb hw
   refine Ze [(0, sv_ l_), (3, pv_ b_)] ?_
   change WpE _ _ c3_6 _ _ _
   refine Zs c3_7 c3_76 ?_
   refine Zp c3_10 P1 [(0, sv_ l_), (3, pv_ b_), (4, .int .i64 0)] ?_
   refine Zb 0 c3_11 ?_
   obtain ⟨I, μ, h0, hr⟩ := h
   refine wpE_loop (x := c3_12) (by kernel_rfl) (fun m l w => ∃ (i : Int), l = [(0, sv_ l_), (3, pv_ b_), (4, Value.int .i64 i)] ∧ I i w ∧ μ i w = m) (l' := [(0, sv_ l_), (3, pv_ b_), (4, Value.int .i64 0)]) (Sub.mk (by kernel_rfl)) ⟨0, rfl, h0, rfl⟩ ?_
   rintro _ _ w2 ⟨i, rfl, hI, rfl⟩
   obtain ⟨again_, again__h, h⟩ : ∃ again_ : Int → World → Prop, (∀ i' w', again_ i' w' → I i' w' ∧ μ i' w' < μ i w2) ∧ F_towpathlaw16_FeedOwn_L0 l_ R b_ again_ i w2 := ⟨_, fun _ _ h => h, hr i w2 hI⟩
   clear h0 hI
   unfold F_towpathlaw16_FeedOwn_L0 at h
   refine Zs c3_13 c3_19 ?_
   refine Zp c3_16 P2 [(0, sv_ l_), (3, pv_ b_), (4, .int .i64 i), (13, .bool (decide (i < 2)))] ?_
   refine Zc 13 (decide (i < 2)) c3_17 c3_18 (fun hb => ?_) (fun hb => ?_)
   · replace h := h.1 hb
     refine wpE_skip (by kernel_rfl) ?_
     change WpE _ _ c3_19 _ _ _
     refine Zs c3_20 c3_74 ?_
     refine Zb 1 c3_21 ?_
     refine Zt r3_22 c3_24 ?_
     refine Zn P1 1 [(0, [], sv_ l_), (3, [], pv_ b_), (4, [], .int .i64 i), (17, [], sv_ l_)] ?_
     refine Zm 5 #[sv_ l_] (some 18) (Calls.mono h ?_)
     rintro _ w3 ⟨s, e, rfl, h⟩
     refine ⟨_, rfl, ?_⟩
     refine Zf (Pl 5) [(0, sv_ l_), (3, pv_ b_), (4, .int .i64 i), (5, .pointer s), (6, .int .i64 e)] ?_
     change WpE _ _ c3_24 _ _ _
     refine Zt r3_25 c3_27 ?_
     refine Zn P1 1 [(0, [], sv_ l_), (3, [], pv_ b_), (4, [], .int .i64 i), (6, [], .int .i64 e), (22, [], .pointer s)] ?_
     refine Zm 6 #[.pointer s, .int .i64 0, .slice none 0 0, .int .i64 64] (some 23) (Calls.mono h ?_)
     rintro _ w4 ⟨f, g, rfl, h⟩
     refine ⟨_, rfl, ?_⟩
     refine Zf (Pl 5) [(0, sv_ l_), (3, pv_ b_), (4, .int .i64 i), (6, .int .i64 e), (7, .pointer f), (8, .int .i64 g)] ?_
     change WpE _ _ c3_27 _ _ _
     refine Zs c3_28 c3_37 ?_
     refine Zp c3_31 [.plain, .plain, .plain, .plain, .plain, .pick] [(0, sv_ l_), (3, pv_ b_), (4, .int .i64 i), (7, .pointer f), (31, .bool ((e != 0) || (g != 0)))] ?_
     refine Zc 31 ((e != 0) || (g != 0)) c3_32 c3_36 (fun hb => ?_) (fun hb => ?_)
     · replace h := h.1 hb
       refine Zt r3_33 c3_35 ?_
       refine Zn [] 0 [] ?_
       refine Zm 7 #[] (some 32) (Calls.mono h ?_)
       rintro _ w5 ⟨v32, rfl, h⟩
       refine ⟨_, rfl, ?_⟩
       refine Zf P1 [(2, .bool v32)] ?_
       change WpE _ _ c3_35 _ _ _
       refine wpE_ret (by kernel_rfl) ?_
       repeat (first | refine seqQ_ret ?_ | refine blockQ_ret ?_ | refine loopQ_ret ?_ | refine cutQ_ret ?_)
       exact retS (rs := [(ResultVar.tmp 2)]) (v := Value.bool v32) (by kernel_rfl) (⟨by kernel_rfl, trivial⟩) ⟨v32, rfl, h⟩
     · replace h := h.2 hb
       refine wpE_skip (by kernel_rfl) ?_
       change WpE _ _ c3_37 _ _ _
       refine Zt r3_38 c3_40 ?_
       refine Zn P3 3 [(0, [], sv_ l_), (3, [], pv_ b_), (4, [], .int .i64 i), (7, [], .pointer f), (33, [], .pointer f), (35, [], .int .i64 ((l_.len : Nat) : Int))] ?_
       refine Zm 8 #[.pointer f, .int .i64 ((l_.len : Nat) : Int)] (some 36) (Calls.mono h ?_)
       rintro _ w6 ⟨v36, rfl, h⟩
       refine ⟨_, rfl, ?_⟩
       refine Ze [(0, sv_ l_), (3, pv_ b_), (4, .int .i64 i), (7, .pointer f)] ?_
       change WpE _ _ c3_40 _ _ _
       refine Zp c3_43 P1 [(0, sv_ l_), (3, pv_ b_), (4, .int .i64 i), (7, .pointer f), (9, .int .i64 0)] ?_
       refine Zb 2 c3_44 ?_
       obtain ⟨I, μ, h0, hr⟩ := h
       refine wpE_loop (x := c3_45) (by kernel_rfl) (fun m l w => ∃ (n_ : Int), l = [(0, sv_ l_), (3, pv_ b_), (4, Value.int .i64 i), (7, Value.pointer f), (9, Value.int .i64 n_)] ∧ I n_ w ∧ μ n_ w = m) (l' := [(0, sv_ l_), (3, pv_ b_), (4, Value.int .i64 i), (7, Value.pointer f), (9, Value.int .i64 0)]) (Sub.mk (by kernel_rfl)) ⟨0, rfl, h0, rfl⟩ ?_
       rintro _ _ w7 ⟨n_, rfl, hI, rfl⟩
       obtain ⟨again_1, again_1_h, h⟩ : ∃ again_1 : Int → World → Prop, (∀ n_' w', again_1 n_' w' → I n_' w' ∧ μ n_' w' < μ n_ w7) ∧ F_towpathlaw16_FeedOwn_L1 l_ R b_ i again_ f again_1 n_ w7 := ⟨_, fun _ _ h => h, hr n_ w7 hI⟩
       clear h0 hI
       unfold F_towpathlaw16_FeedOwn_L1 at h
       refine Zs c3_46 c3_52 ?_
       refine Zp c3_49 [.plain, .plain, .plain, .plain, .plain, .plain, .plain, .pick] [(0, sv_ l_), (3, pv_ b_), (4, .int .i64 i), (7, .pointer f), (9, .int .i64 n_), (44, .bool ((decide (n_ < ((l_.len : Nat) : Int))) && (decide (n_ < 40))))] ?_
       refine Zc 44 ((decide (n_ < ((l_.len : Nat) : Int))) && (decide (n_ < 40))) c3_50 c3_51 (fun hb => ?_) (fun hb => ?_)
       · replace h := h.1 hb
         refine wpE_skip (by kernel_rfl) ?_
         change WpE _ _ c3_52 _ _ _
         refine Zs c3_53 c3_72 ?_
         refine Zb 3 c3_54 ?_
         refine Zt r3_55 c3_57 ?_
         refine Zn P1 1 [(0, [], sv_ l_), (3, [], pv_ b_), (4, [], .int .i64 i), (7, [], .pointer f), (9, [], .int .i64 n_), (47, [], .pointer f)] ?_
         refine Zm 9 #[.pointer f] (some 48) (Calls.mono h ?_)
         rintro _ w8 ⟨v48, v48_1, rfl, h⟩
         refine ⟨_, rfl, ?_⟩
         refine Ze [(0, sv_ l_), (3, pv_ b_), (4, .int .i64 i), (7, .pointer f), (9, .int .i64 n_)] ?_
         change WpE _ _ c3_57 _ _ _
         refine Zt r3_58 c3_60 ?_
         refine Zn P2 2 [(0, [], sv_ l_), (3, [], pv_ b_), (4, [], .int .i64 i), (7, [], .pointer f), (9, [], .int .i64 n_), (50, [], .pointer f), (51, [], .int .i64 n_)] ?_
         refine Zm 10 #[.pointer f, .int .i64 n_] (some 52) (Calls.mono h ?_)
         rintro _ w9 ⟨v52, e1, rfl, h⟩
         refine ⟨_, rfl, ?_⟩
         refine Zn P3 6 [(0, [], sv_ l_), (3, [], pv_ b_), (4, [], .int .i64 i), (7, [], .pointer f), (9, [], .int .i64 n_), (53, [], .agg #[.int .i64 v52.Number, sv_ v52.Writes]), (54, [], .int .i64 e1)] ?_
         refine Zw (some 10) (fun bb => pv_ bb) (Obj.cells ([.int .i64 0, .slice none 0 0]).toArray ty_api_Txn (0, 0)) (fun b_1 w10 hb hw => ?_)
         replace h := h b_1 w10 hb hw
         clear hb hw
         refine Zn [] 7 [(0, [], sv_ l_), (3, [], pv_ b_), (4, [], .int .i64 i), (7, [], .pointer f), (9, [], .int .i64 n_), (10, [], pv_ b_1), (53, [], .agg #[.int .i64 v52.Number, sv_ v52.Writes]), (54, [], .int .i64 e1)] ?_
         obtain ⟨hc, h⟩ := h
         refine Zo 49 10 53 b_1 0 2 [.int .i64 v52.Number, sv_ v52.Writes] hc (fun w11 hw => ?_)
         replace h := h w11 hw
         clear hw
         refine Zf P1 [(0, sv_ l_), (3, pv_ b_), (4, .int .i64 i), (7, .pointer f), (9, .int .i64 n_), (10, pv_ b_1), (11, .int .i64 e1)] ?_
         change WpE _ _ c3_60 _ _ _
         refine Zs c3_61 c3_70 ?_
         refine wpE_seq_cut (x := c3_62) (y := c3_64) (by kernel_rfl) (fun l w => ∃ (t65 : Bool), l = [(0, sv_ l_), (3, pv_ b_), (4, Value.int .i64 i), (7, Value.pointer f), (9, Value.int .i64 n_), (10, pv_ b_1), (65, Value.bool t65)] ∧ F_towpathlaw16_FeedOwn_k2 R b_ n_ again_1 b_1 t65 w) ?_ ?_
         · refine wpE_mixregion (id := 15) (ops := r3_62) o_towpathlaw16_FeedOwn_62 (by kernel_rfl) (by kernel_rfl) (by kernel_rfl) (by kernel_rfl) (fun w14 hw => ?_)
           replace h := h w14 hw
           clear hw
           refine mreg_run P3 3 [(0, [], sv_ l_), (3, [], pv_ b_), (4, [], Value.int .i64 i), (7, [], Value.pointer f), (9, [], Value.int .i64 n_), (10, [], pv_ b_1), (57, [], Value.bool (e1 != 0))] (by kernel_rfl) (by kernel_rfl) ?_
           refine mreg_split 57 (e1 != 0) (by kernel_rfl) (fun hb => ?_) (fun hb => ?_)
           · replace h := h.1 hb
             refine mreg_run [] 3 [(0, [], sv_ l_), (3, [], pv_ b_), (4, [], Value.int .i64 i), (7, [], Value.pointer f), (9, [], Value.int .i64 n_), (10, [], pv_ b_1), (57, [], Value.bool true)] (by kernel_rfl) (by kernel_rfl) ?_
             refine mreg_run [.skip, .skip, .skip, .skip, .skip, .skip, .skip, .plain] 11 [(0, [], sv_ l_), (3, [], pv_ b_), (4, [], Value.int .i64 i), (7, [], Value.pointer f), (9, [], Value.int .i64 n_), (10, [], pv_ b_1), (65, [], Value.bool true)] (by kernel_rfl) (by kernel_rfl) ?_
             refine mreg_end [(0, sv_ l_), (3, pv_ b_), (4, Value.int .i64 i), (7, Value.pointer f), (9, Value.int .i64 n_), (10, pv_ b_1), (65, Value.bool true)] (by kernel_rfl) (by kernel_rfl) (by kernel_rfl) ?_
             exact ⟨[(0, sv_ l_), (3, pv_ b_), (4, Value.int .i64 i), (7, Value.pointer f), (9, Value.int .i64 n_), (10, pv_ b_1), (65, Value.bool true)], Sub.mk (by kernel_rfl), true, rfl, h⟩
           · replace h := h.2 hb
             refine mreg_run [] 3 [(0, [], sv_ l_), (3, [], pv_ b_), (4, [], Value.int .i64 i), (7, [], Value.pointer f), (9, [], Value.int .i64 n_), (10, [], pv_ b_1), (57, [], Value.bool false)] (by kernel_rfl) (by kernel_rfl) ?_
             refine mreg_run [] 3 [(0, [], sv_ l_), (3, [], pv_ b_), (4, [], Value.int .i64 i), (7, [], Value.pointer f), (9, [], Value.int .i64 n_), (10, [], pv_ b_1), (57, [], Value.bool false)] (by kernel_rfl) (by kernel_rfl) ?_
             obtain ⟨v58, hc, h⟩ := h
             refine mreg_loadN (i := 3) (by kernel_rfl) (t := 49) (a := (Operand.tmp 10)) (b := b_1) (o := 0) (ty := 49) (dst := some 58) [Value.int .i64 v58.Number, sv_ v58.Writes] (by kernel_rfl) (by kernel_rfl) (by kernel_rfl) (k := 2) (by kernel_rfl) (by kernel_rfl) hc ?_
             refine mreg_run [.sure, .sure] 6 [(0, [], sv_ l_), (3, [], pv_ b_), (4, [], Value.int .i64 i), (7, [], Value.pointer f), (9, [], Value.int .i64 n_), (10, [], pv_ b_1), (57, [], Value.bool false), (58, [], Value.agg #[Value.int .i64 v58.Number, sv_ v58.Writes]), (59, [], sv_ l_), (60, [], Value.int .i64 n_)] (by kernel_rfl) (by kernel_rfl) ?_
             obtain ⟨hp_31, h⟩ := h
             refine mreg_conv [(0, [], sv_ l_), (3, [], pv_ b_), (4, [], Value.int .i64 i), (7, [], Value.pointer f), (9, [], Value.int .i64 n_), (10, [], pv_ b_1), (57, [], Value.bool false), (58, [], Value.agg #[Value.int .i64 v58.Number, sv_ v58.Writes]), (59, [], Value.slice (some ⟨(pblk l_.ptr), (poff l_.ptr), none⟩) l_.len l_.cap), (60, [], Value.int .i64 n_)] (congrArg (fun pp => ([(0, [], sv_ l_), (3, [], pv_ b_), (4, [], Value.int .i64 i), (7, [], Value.pointer f), (9, [], Value.int .i64 n_), (10, [], pv_ b_1), (57, [], Value.bool false), (58, [], Value.agg #[Value.int .i64 v58.Number, sv_ v58.Writes]), (59, [], Value.slice pp l_.len l_.cap), (60, [], Value.int .i64 n_)] : GEnv)) hp_31) ?_
             obtain ⟨h0, h1, h⟩ := h
             refine mreg_indexS (i := 6) (by kernel_rfl) (t := 22) (e := 49) (x := (Operand.tmp 59)) (ix := (Operand.tmp 60)) (b := (pblk l_.ptr)) (o := (poff l_.ptr)) (l := l_.len) (c := l_.cap) (k := .i64) (j := n_) (ty := 0) (dst := some 61) (sz := 2) (by kernel_rfl) (by kernel_rfl) (by kernel_rfl) (by kernel_rfl) (by kernel_rfl) h0 h1 ?_
             refine mreg_run [] 7 [(0, [], sv_ l_), (3, [], pv_ b_), (4, [], Value.int .i64 i), (7, [], Value.pointer f), (9, [], Value.int .i64 n_), (10, [], pv_ b_1), (57, [], Value.bool false), (58, [], Value.agg #[Value.int .i64 v58.Number, sv_ v58.Writes]), (61, [], Value.pointer (some ⟨(pblk l_.ptr), (poff l_.ptr) + n_.toNat * 2, none⟩))] (by kernel_rfl) (by kernel_rfl) ?_
             obtain ⟨v62, hc, h⟩ := h
             refine mreg_loadN (i := 7) (by kernel_rfl) (t := 49) (a := (Operand.tmp 61)) (b := (pblk l_.ptr)) (o := ((poff l_.ptr) + n_.toNat * 2)) (ty := 49) (dst := some 62) [Value.int .i64 v62.Number, sv_ v62.Writes] (by kernel_rfl) (by kernel_rfl) (by kernel_rfl) (k := 2) (by kernel_rfl) (by kernel_rfl) hc ?_
             refine mreg_run [] 8 [(0, [], sv_ l_), (3, [], pv_ b_), (4, [], Value.int .i64 i), (7, [], Value.pointer f), (9, [], Value.int .i64 n_), (10, [], pv_ b_1), (57, [], Value.bool false), (58, [], Value.agg #[Value.int .i64 v58.Number, sv_ v58.Writes]), (62, [], Value.agg #[Value.int .i64 v62.Number, sv_ v62.Writes])] (by kernel_rfl) (by kernel_rfl) ?_
             refine mreg_enter (op := (Op.call (Call.mk (Callee.value (Operand.func 11)) #[(Operand.tmp 58), (Operand.tmp 62)] #[49, 49]))) (ty := 4) (dst := some 63) 8 [2, 3, 7, 1, 6, 0, 4, 5] [] 11 #[Value.agg #[Value.int .i64 v58.Number, sv_ v58.Writes], Value.agg #[Value.int .i64 v62.Number, sv_ v62.Writes]] (by kernel_rfl) (by kernel_rfl) (by kernel_rfl) (by kernel_rfl) (by kernel_rfl) (fun ww => by kernel_rfl) (Calls.mono h ?_)
             rintro _ w15 ⟨v63, rfl, h⟩
             refine ⟨_, rfl, trivial, ?_⟩
             refine mreg_run [.sure, .plain] 11 [(0, [], sv_ l_), (3, [], pv_ b_), (4, [], Value.int .i64 i), (7, [], Value.pointer f), (9, [], Value.int .i64 n_), (10, [], pv_ b_1), (65, [], Value.bool (!v63))] (by kernel_rfl) (by kernel_rfl) ?_
             refine mreg_end [(0, sv_ l_), (3, pv_ b_), (4, Value.int .i64 i), (7, Value.pointer f), (9, Value.int .i64 n_), (10, pv_ b_1), (65, Value.bool (!v63))] (by kernel_rfl) (by kernel_rfl) (by kernel_rfl) ?_
             exact ⟨[(0, sv_ l_), (3, pv_ b_), (4, Value.int .i64 i), (7, Value.pointer f), (9, Value.int .i64 n_), (10, pv_ b_1), (65, Value.bool (!v63))], Sub.mk (by kernel_rfl), (!v63), rfl, h⟩
         · rintro _ w12 ⟨t65, rfl, h⟩
           unfold F_towpathlaw16_FeedOwn_k2 at h
           refine Zc 65 t65 c3_65 c3_69 (fun hb => ?_) (fun hb => ?_)
           · replace h := h.1 hb
             refine Zp c3_68 P1 [(2, .bool false)] ?_
             refine wpE_ret (by kernel_rfl) ?_
             repeat (first | refine seqQ_ret ?_ | refine blockQ_ret ?_ | refine loopQ_ret ?_ | refine cutQ_ret ?_)
             exact retS (rs := [(ResultVar.tmp 2)]) (v := Value.bool false) (by kernel_rfl) (⟨by kernel_rfl, trivial⟩) ⟨false, rfl, h⟩
           · replace h := h.2 hb
             refine wpE_skip (by kernel_rfl) ?_
             change WpE _ _ c3_70 _ _ _
             refine Zr r3_70 ?_
             refine Zn [] 0 [(0, [], sv_ l_), (3, [], pv_ b_), (4, [], .int .i64 i), (7, [], .pointer f), (9, [], .int .i64 n_), (10, [], pv_ b_1)] ?_
             obtain ⟨v66, hc, h⟩ := h
             refine reg_loadN (t := 49) (a := (Operand.tmp 10)) (b := b_1) (o := 0) (ty := 49) (dst := some 66) [Value.int .i64 v66.Number, sv_ v66.Writes] (by kernel_rfl) (by kernel_rfl) (by kernel_rfl) (k := 2) (by kernel_rfl) (by kernel_rfl) hc ?_
             refine Zn [] 1 [(0, [], sv_ l_), (3, [], pv_ b_), (4, [], .int .i64 i), (7, [], .pointer f), (9, [], .int .i64 n_), (66, [], .agg #[.int .i64 v66.Number, sv_ v66.Writes])] ?_
             refine Zm 12 #[pv_ b_, .agg #[.int .i64 v66.Number, sv_ v66.Writes]] (some 67) (Calls.mono h ?_)
             rintro _ w13 ⟨rfl, h⟩
             refine ⟨_, rfl, ?_⟩
             refine Ze [(0, sv_ l_), (3, pv_ b_), (4, .int .i64 i), (7, .pointer f), (9, .int .i64 n_)] ?_
             change WpE _ _ c3_72 _ _ _
             refine Zr r3_72 ?_
             refine Zf P3 [(0, sv_ l_), (3, pv_ b_), (4, .int .i64 i), (7, .pointer f), (9, .int .i64 (IntKind.i64.wrap (n_ + 1)))] ?_
             have hb_ := again_1_h _ _ h
             exact ⟨_, hb_.2, [(0, sv_ l_), (3, pv_ b_), (4, Value.int .i64 i), (7, Value.pointer f), (9, Value.int .i64 (IntKind.i64.wrap (n_ + 1)))], Sub.mk (by kernel_rfl), (IntKind.i64.wrap (n_ + 1)), rfl, hb_.1, rfl⟩
       · replace h := h.2 hb
         refine wpE_exit (id := 2) (by kernel_rfl) ?_
         change WpE _ _ c3_74 _ _ _
         refine Zr r3_74 ?_
         refine Zf P3 [(0, sv_ l_), (3, pv_ b_), (4, .int .i64 (IntKind.i64.wrap (i + 1)))] ?_
         have hb_ := again__h _ _ h
         exact ⟨_, hb_.2, [(0, sv_ l_), (3, pv_ b_), (4, Value.int .i64 (IntKind.i64.wrap (i + 1)))], Sub.mk (by kernel_rfl), (IntKind.i64.wrap (i + 1)), rfl, hb_.1, rfl⟩
   · replace h := h.2 hb
     refine wpE_exit (id := 0) (by kernel_rfl) ?_
     change WpE _ _ c3_76 _ _ _
     refine Zt r3_77 c3_79 ?_
     refine Zn [] 0 [(3, [], pv_ b_)] ?_
     refine Zm 13 #[pv_ b_] (some 68) (Calls.mono h ?_)
     rintro _ w16 ⟨v68, rfl, h⟩
     refine ⟨_, rfl, ?_⟩
     refine Zn P1 2 [(69, [], .bool v68)] ?_
     refine reg_split 69 v68 (by kernel_rfl) (fun hb => ?_) (fun hb => ?_)
     · replace h := h.1 hb
       refine Zn [] 2 [(69, [], .bool true)] ?_
       refine Zn [] 2 [(69, [], .bool true)] ?_
       refine Zm 7 #[] (some 70) (Calls.mono h ?_)
       rintro _ w17 ⟨v70, rfl, h⟩
       refine ⟨_, rfl, ?_⟩
       refine Zf P2 [(2, .bool v70)] ?_
       change WpE _ _ c3_79 _ _ _
       refine wpE_ret (by kernel_rfl) ?_
       repeat (first | refine seqQ_ret ?_ | refine blockQ_ret ?_ | refine loopQ_ret ?_ | refine cutQ_ret ?_)
       exact retS (rs := [(ResultVar.tmp 2)]) (v := Value.bool v70) (by kernel_rfl) (⟨by kernel_rfl, trivial⟩) ⟨v70, rfl, h⟩
     · replace h := h.2 hb
       refine Zn [] 2 [(69, [], .bool false)] ?_
       refine Zf [.skip, .plain, .plain] [(2, .bool false)] ?_
       change WpE _ _ c3_79 _ _ _
       refine wpE_ret (by kernel_rfl) ?_
       repeat (first | refine seqQ_ret ?_ | refine blockQ_ret ?_ | refine loopQ_ret ?_ | refine cutQ_ret ?_)
       exact retS (rs := [(ResultVar.tmp 2)]) (v := Value.bool false) (by kernel_rfl) (⟨by kernel_rfl, trivial⟩) ⟨false, rfl, h⟩
 · rintro e w' ⟨v, rfl, r0, rfl, h⟩; exact ⟨r0, rfl, h⟩
end
end Go.Proofs.YtpedclhflmhakaaGreatDoor
