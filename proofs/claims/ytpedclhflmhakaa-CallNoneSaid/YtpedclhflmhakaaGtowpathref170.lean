/- WRITTEN BY PROGRAM (dec.py): for each Go function the clean formula F, the call's contract C, and the proof S that F gives C. -/
import Derived.Test.YtpedclhflmhakaaRows
import Derived.Test.YtpedclhflmhakaaGF
namespace Go.Proofs.Ytpedclhflmhakaa
open Go
set_option linter.unusedVariables false
set_option maxRecDepth 100000
set_option maxHeartbeats 4000000
noncomputable section

/-! ### (*towpath/towpathref17.Task).Begin (function 68) -/
def c68_0 := cb_ Try.f68
def c68_3 := cr_ c68_0
def c68_4 := cl_ c68_3
def c68_5 := cl_ c68_4
def c68_6 := cl_ c68_5
def r68_6 := co_ c68_6
def c68_8 := cr_ c68_5
def c68_9 := cl_ c68_8
def c68_12 := cr_ c68_9
def c68_13 := cr_ c68_8
def c68_14 := cl_ c68_13
def r68_14 := co_ c68_14
def c68_16 := cr_ c68_13
def c68_17 := cl_ c68_16
def c68_20 := cr_ c68_17
def c68_21 := cr_ c68_16
def c68_22 := cl_ c68_21
def r68_22 := co_ c68_22
def c68_24 := cr_ c68_21
def c68_25 := cl_ c68_24
def c68_28 := cr_ c68_25
def c68_29 := cr_ c68_24
def c68_30 := cr_ c68_3
def c68_31 := cl_ c68_30
def r68_31 := co_ c68_31
def c68_33 := cr_ c68_30
def c68_34 := cl_ c68_33
def r68_34 := co_ c68_34
def c68_36 := cr_ c68_33
def c68_37 := cl_ c68_36
def c68_38 := cl_ c68_37
def r68_38 := co_ c68_38
def c68_40 := cr_ c68_37
def c68_41 := cl_ c68_40
def c68_42 := cl_ c68_41
def r68_42 := co_ c68_42
def c68_44 := cr_ c68_41
def c68_45 := cl_ c68_44
def r68_45 := co_ c68_45
def c68_47 := cr_ c68_44
def c68_48 := cl_ c68_47
def r68_48 := co_ c68_48
def c68_50 := cr_ c68_47
def c68_53 := cr_ c68_50
def c68_54 := cr_ c68_40
def c68_55 := cr_ c68_36
def c68_56 := cl_ c68_55
def c68_59 := cr_ c68_56
def c68_60 := cl_ c68_59
def c68_61 := cl_ c68_60
def c68_62 := cl_ c68_61
def c68_63 := cl_ c68_62
def r68_63 := co_ c68_63
def c68_65 := cr_ c68_62
def c68_66 := cl_ c68_65
def c68_67 := cr_ c68_65
def c68_68 := cr_ c68_61
def c68_69 := cl_ c68_68
def c68_70 := cl_ c68_69
def c68_71 := cl_ c68_70
def r68_71 := co_ c68_71
def c68_73 := cr_ c68_70
def r68_73 := co_ c68_73
def c68_75 := cr_ c68_68
def r68_75 := co_ c68_75
def c68_77 := cr_ c68_55
def c68_80 := cr_ c68_77
def o_towpathref17_Task_Begin_42 : List Nat := [0, 1, 2, 3, 4, 5, 6, 7, 8, 9, 10, 11, 12, 13, 14]
def o_towpathref17_Task_Begin_73 : List Nat := [0, 1, 2, 3, 4, 5, 6, 7, 8, 9, 10, 11, 12, 13, 14]

theorem S_towpathref17_Task_Begin {t_ : Option Addr} {mark : Int} {least : Int} {beyond : Slc} {w : World} {R : Int → World → Prop} (h : F_towpathref17_Task_Begin t_ mark least beyond R w) : C_towpathref17_Task_Begin t_ mark least beyond w R := by
 unfold F_towpathref17_Task_Begin at h
 unfold C_towpathref17_Task_Begin
 refine Calls.mono (calls_of_wpE (args := [Value.pointer t_, Value.int .i64 mark, Value.int .i64 least, sv_ beyond]) (R := fun v w' => ∃ (r0 : Int), v = Value.int .i64 r0 ∧ R r0 w') Try.func68 (c := c68_0) (by kernel_rfl) 116 (by kernel_rfl) (by kernel_rfl) [(0, Value.pointer t_), (1, Value.int .i64 mark), (2, Value.int .i64 least), (3, sv_ beyond)] (by kernel_rfl) ?_) ?_
 · refine Zp c68_3 P1 [(0, .pointer t_), (1, .int .i64 mark), (2, .int .i64 least), (3, sv_ beyond)] ?_
   refine Zs c68_4 c68_30 ?_
   refine Zb 0 c68_5 ?_
   refine Zt r68_6 c68_8 ?_
   refine Zn P1 1 [(0, [], .pointer t_), (1, [], .int .i64 mark), (2, [], .int .i64 least), (3, [], sv_ beyond), (13, [], .pointer t_)] ?_
   refine reg_val (op := (Op.binOp BinOp.eql 87 (Operand.tmp 13) (Operand.const (Value.pointer none)) 87)) (ty := 4) (dst := some 14) (Value.bool t_.isNone) (by kernel_rfl) (fun ww => run_ptr_eql_R (p := t_) (by kernel_rfl) (by kernel_rfl) (by kernel_rfl) ww) ?_
   refine Zf P1 [(0, .pointer t_), (1, .int .i64 mark), (2, .int .i64 least), (3, sv_ beyond), (12, .bool t_.isNone)] ?_
   change WpE _ _ c68_8 _ _ _
   refine Zc 12 t_.isNone c68_9 c68_13 (fun hb => ?_) (fun hb => ?_)
   · replace h := h.1 hb
     refine Zp c68_12 P1 [(8, .int .i64 2)] ?_
     refine wpE_ret (by kernel_rfl) ?_
     repeat (first | refine seqQ_ret ?_ | refine blockQ_ret ?_ | refine loopQ_ret ?_ | refine cutQ_ret ?_)
     exact retS (rs := [(ResultVar.tmp 8)]) (v := Value.int .i64 2) (by kernel_rfl) (⟨by kernel_rfl, trivial⟩) ⟨2, rfl, h⟩
   · replace h := h.2 hb
     refine Zt r68_14 c68_16 ?_
     refine Zn P1 1 [(0, [], .pointer t_), (1, [], .int .i64 mark), (2, [], .int .i64 least), (3, [], sv_ beyond), (16, [], .pointer t_)] ?_
     obtain ⟨hp_3, h⟩ := h
     refine Zv (fun pp => [(0, [], .pointer t_), (1, [], .int .i64 mark), (2, [], .int .i64 least), (3, [], sv_ beyond), (16, [], .pointer pp)]) hp_3 ?_
     refine Zn P1 2 [(0, [], .pointer t_), (1, [], .int .i64 mark), (2, [], .int .i64 least), (3, [], sv_ beyond), (16, [], .pointer (some ⟨(pblk t_), (poff t_), none⟩)), (17, [], .pointer (some ⟨(pblk t_), (poff t_), none⟩))] ?_
     refine Zn P1 3 [(0, [], .pointer t_), (1, [], .int .i64 mark), (2, [], .int .i64 least), (3, [], sv_ beyond), (18, [], .pointer (some ⟨(pblk t_), (poff t_) + 8, none⟩))] ?_
     obtain ⟨v19, hc, h⟩ := h
     refine Zl 4 18 (pblk t_) ((poff t_) + 8) 4 19 hc ?_
     refine Zf P1 [(0, .pointer t_), (1, .int .i64 mark), (2, .int .i64 least), (3, sv_ beyond), (15, .bool v19)] ?_
     change WpE _ _ c68_16 _ _ _
     refine Zc 15 v19 c68_17 c68_21 (fun hb => ?_) (fun hb => ?_)
     · replace h := h.1 hb
       refine Zp c68_20 P1 [(8, .int .i64 10)] ?_
       refine wpE_ret (by kernel_rfl) ?_
       repeat (first | refine seqQ_ret ?_ | refine blockQ_ret ?_ | refine loopQ_ret ?_ | refine cutQ_ret ?_)
       exact retS (rs := [(ResultVar.tmp 8)]) (v := Value.int .i64 10) (by kernel_rfl) (⟨by kernel_rfl, trivial⟩) ⟨10, rfl, h⟩
     · replace h := h.2 hb
       refine wpE_seq_cut (x := c68_22) (y := c68_24) (by kernel_rfl) (fun l w => ∃ (t20 : Bool), l = [(0, Value.pointer t_), (1, Value.int .i64 mark), (2, Value.int .i64 least), (3, sv_ beyond), (20, Value.bool t20)] ∧ F_towpathref17_Task_Begin_k0 t_ mark least beyond R t20 w) ?_ ?_
       · refine Zr r68_22 ?_
         refine Zn [.plain, .plain, .plain, .plain, .plain, .pick, .plain, .plain, .plain, .pick, .plain, .plain, .plain, .plain, .pick, .plain, .plain, .plain, .plain] 19 [(0, [], .pointer t_), (1, [], .int .i64 mark), (2, [], .int .i64 least), (3, [], sv_ beyond), (36, [], .bool ((((decide (mark < 0)) || (decide (mark > 65536))) || (decide (least < 0))) || (decide (least > mark)))), (37, [(36, false)], sv_ beyond), (39, [(36, false)], .int .i64 (IntKind.i64.wrap (mark + 1)))] ?_
         refine reg_split 36 ((((decide (mark < 0)) || (decide (mark > 65536))) || (decide (least < 0))) || (decide (least > mark))) (by kernel_rfl) (fun hb => ?_) (fun hb => ?_)
         · replace h := h.1 hb
           refine Zn [] 19 [(0, [], .pointer t_), (1, [], .int .i64 mark), (2, [], .int .i64 least), (3, [], sv_ beyond), (36, [], .bool true), (37, [], undef), (39, [], undef)] ?_
           refine Zf [.skip, .skip, .plain, .plain] [(0, .pointer t_), (1, .int .i64 mark), (2, .int .i64 least), (3, sv_ beyond), (20, .bool true)] ?_
           exact ⟨[(0, Value.pointer t_), (1, Value.int .i64 mark), (2, Value.int .i64 least), (3, sv_ beyond), (20, Value.bool true)], Sub.mk (by kernel_rfl), true, rfl, h⟩
         · replace h := h.2 hb
           refine Zn [] 19 [(0, [], .pointer t_), (1, [], .int .i64 mark), (2, [], .int .i64 least), (3, [], sv_ beyond), (36, [], .bool false), (37, [], sv_ beyond), (39, [], .int .i64 (IntKind.i64.wrap (mark + 1)))] ?_
           refine Zn [] 19 [(0, [], .pointer t_), (1, [], .int .i64 mark), (2, [], .int .i64 least), (3, [], sv_ beyond), (36, [], .bool false), (37, [], sv_ beyond), (39, [], .int .i64 (IntKind.i64.wrap (mark + 1)))] ?_
           refine Zm 97 #[sv_ beyond, .int .i64 (IntKind.i64.wrap (mark + 1))] (some 40) (Calls.mono h ?_)
           rintro _ w20 ⟨v40, rfl, h⟩
           refine ⟨_, rfl, ?_⟩
           refine Zf [.sure, .plain, .plain] [(0, .pointer t_), (1, .int .i64 mark), (2, .int .i64 least), (3, sv_ beyond), (20, .bool (!v40))] ?_
           exact ⟨[(0, Value.pointer t_), (1, Value.int .i64 mark), (2, Value.int .i64 least), (3, sv_ beyond), (20, Value.bool (!v40))], Sub.mk (by kernel_rfl), (!v40), rfl, h⟩
       · rintro _ w1 ⟨t20, rfl, h⟩
         unfold F_towpathref17_Task_Begin_k0 at h
         refine Zc 20 t20 c68_25 c68_29 (fun hb => ?_) (fun hb => ?_)
         · replace h := h.1 hb
           refine Zp c68_28 P1 [(8, .int .i64 1)] ?_
           refine wpE_ret (by kernel_rfl) ?_
           repeat (first | refine seqQ_ret ?_ | refine blockQ_ret ?_ | refine loopQ_ret ?_ | refine cutQ_ret ?_)
           exact retS (rs := [(ResultVar.tmp 8)]) (v := Value.int .i64 1) (by kernel_rfl) (⟨by kernel_rfl, trivial⟩) ⟨1, rfl, h⟩
         · replace h := h.2 hb
           refine wpE_skip (by kernel_rfl) ?_
           change WpE _ _ c68_30 _ _ _
           refine Zt r68_31 c68_33 ?_
           refine Zn P1 1 [(0, [], .pointer t_), (1, [], .int .i64 mark), (2, [], .int .i64 least), (3, [], sv_ beyond), (43, [], .pointer t_)] ?_
           obtain ⟨hp_5, h⟩ := h
           refine Zv (fun pp => [(0, [], .pointer t_), (1, [], .int .i64 mark), (2, [], .int .i64 least), (3, [], sv_ beyond), (43, [], .pointer pp)]) hp_5 ?_
           refine Zn P1 2 [(0, [], .pointer t_), (1, [], .int .i64 mark), (2, [], .int .i64 least), (3, [], sv_ beyond), (43, [], .pointer (some ⟨(pblk t_), (poff t_), none⟩)), (44, [], .pointer (some ⟨(pblk t_), (poff t_), none⟩))] ?_
           refine Zn P1 3 [(0, [], .pointer t_), (1, [], .int .i64 mark), (2, [], .int .i64 least), (3, [], sv_ beyond), (45, [], .pointer (some ⟨(pblk t_), (poff t_) + 8, none⟩))] ?_
           obtain ⟨hc, h⟩ := h
           refine reg_store (t := 4) (a := (Operand.tmp 45)) (x := (Operand.const (Value.bool true))) (b := (pblk t_)) (o := ((poff t_) + 8)) (ty := 0) (dst := none) [Value.bool true] (by kernel_rfl) (by kernel_rfl) (by kernel_rfl) (k := 1) (by kernel_rfl) (by kernel_rfl) (by kernel_rfl) hc (fun w2 hw => ?_)
           replace h := h w2 hw
           clear hw
           refine Ze [(0, .pointer t_), (1, .int .i64 mark), (2, .int .i64 least), (3, sv_ beyond)] ?_
           change WpE _ _ c68_33 _ _ _
           refine Zt r68_34 c68_36 ?_
           refine Zn P2 2 [(0, [], .pointer t_), (1, [], .int .i64 mark), (2, [], .int .i64 least), (3, [], sv_ beyond), (46, [], .pointer t_), (47, [], .int .i64 mark)] ?_
           obtain ⟨hp_7, h⟩ := h
           refine Zv (fun pp => [(0, [], .pointer t_), (1, [], .int .i64 mark), (2, [], .int .i64 least), (3, [], sv_ beyond), (46, [], .pointer pp), (47, [], .int .i64 mark)]) hp_7 ?_
           refine Zn P1 3 [(0, [], .pointer t_), (1, [], .int .i64 mark), (2, [], .int .i64 least), (3, [], sv_ beyond), (46, [], .pointer (some ⟨(pblk t_), (poff t_), none⟩)), (47, [], .int .i64 mark), (48, [], .pointer (some ⟨(pblk t_), (poff t_), none⟩))] ?_
           refine Zn P1 4 [(0, [], .pointer t_), (1, [], .int .i64 mark), (2, [], .int .i64 least), (3, [], sv_ beyond), (47, [], .int .i64 mark), (49, [], .pointer (some ⟨(pblk t_), (poff t_) + 9, none⟩))] ?_
           obtain ⟨hc, h⟩ := h
           refine Zo 3 49 47 (pblk t_) ((poff t_) + 9) 1 [.int .i64 mark] hc (fun w3 hw => ?_)
           replace h := h w3 hw
           clear hw
           refine Ze [(0, .pointer t_), (1, .int .i64 mark), (2, .int .i64 least), (3, sv_ beyond)] ?_
           change WpE _ _ c68_36 _ _ _
           refine Zs c68_37 c68_55 ?_
           refine Zt r68_38 c68_40 ?_
           refine Zn P1 1 [(0, [], .pointer t_), (1, [], .int .i64 mark), (2, [], .int .i64 least), (3, [], sv_ beyond), (50, [], .pointer t_)] ?_
           obtain ⟨hp_19, h⟩ := h
           refine Zv (fun pp => [(0, [], .pointer t_), (1, [], .int .i64 mark), (2, [], .int .i64 least), (3, [], sv_ beyond), (50, [], .pointer pp)]) hp_19 ?_
           refine Zn P1 2 [(0, [], .pointer t_), (1, [], .int .i64 mark), (2, [], .int .i64 least), (3, [], sv_ beyond), (50, [], .pointer (some ⟨(pblk t_), (poff t_), none⟩)), (51, [], .pointer (some ⟨(pblk t_), (poff t_), none⟩))] ?_
           refine Zn P2 4 [(0, [], .pointer t_), (1, [], .int .i64 mark), (2, [], .int .i64 least), (3, [], sv_ beyond), (53, [], .pointer (some ⟨(pblk t_), (poff t_) + 5, none⟩))] ?_
           obtain ⟨v54, hc, h⟩ := h
           refine Zl 63 53 (pblk t_) ((poff t_) + 5) 63 54 hc ?_
           refine Zf P1 [(0, .pointer t_), (1, .int .i64 mark), (2, .int .i64 least), (3, sv_ beyond), (55, .bool (v54 == 1))] ?_
           change WpE _ _ c68_40 _ _ _
           refine Zc 55 (v54 == 1) c68_41 c68_54 (fun hb => ?_) (fun hb => ?_)
           · replace h := h.1 hb
             refine Zs c68_42 c68_44 ?_
             refine wpE_mixregion (id := 10) (ops := r68_42) o_towpathref17_Task_Begin_42 (by kernel_rfl) (by kernel_rfl) (by kernel_rfl) (by kernel_rfl) (fun w4 hw => ?_)
             replace h := h w4 hw
             clear hw
             refine mreg_run P1 1 [(0, [], Value.pointer t_), (1, [], Value.int .i64 mark), (2, [], Value.int .i64 least), (3, [], sv_ beyond), (57, [], Value.pointer t_)] (by kernel_rfl) (by kernel_rfl) ?_
             obtain ⟨hp_22, h⟩ := h
             refine mreg_conv [(0, [], Value.pointer t_), (1, [], Value.int .i64 mark), (2, [], Value.int .i64 least), (3, [], sv_ beyond), (57, [], Value.pointer (some ⟨(pblk t_), (poff t_), none⟩))] (congrArg (fun pp => ([(0, [], Value.pointer t_), (1, [], Value.int .i64 mark), (2, [], Value.int .i64 least), (3, [], sv_ beyond), (57, [], Value.pointer pp)] : GEnv)) hp_22) ?_
             refine mreg_run P1 2 [(0, [], Value.pointer t_), (1, [], Value.int .i64 mark), (2, [], Value.int .i64 least), (3, [], sv_ beyond), (57, [], Value.pointer (some ⟨(pblk t_), (poff t_), none⟩)), (58, [], Value.pointer (some ⟨(pblk t_), (poff t_), none⟩))] (by kernel_rfl) (by kernel_rfl) ?_
             refine mreg_run P1 3 [(0, [], Value.pointer t_), (1, [], Value.int .i64 mark), (2, [], Value.int .i64 least), (3, [], sv_ beyond), (59, [], Value.pointer (some ⟨(pblk t_), (poff t_) + 1, none⟩))] (by kernel_rfl) (by kernel_rfl) ?_
             obtain ⟨v60, hc, h⟩ := h
             refine mreg_loadN (i := 3) (by kernel_rfl) (t := 69) (a := (Operand.tmp 59)) (b := (pblk t_)) (o := ((poff t_) + 1)) (ty := 69) (dst := some 60) [Value.int .i64 v60.Lanes, Value.int .i64 v60.Shards, Value.int .i64 v60.Window, Value.int .i64 v60.Queue] (by kernel_rfl) (by kernel_rfl) (by kernel_rfl) (k := 4) (by kernel_rfl) (by kernel_rfl) hc ?_
             refine mreg_run P1 5 [(0, [], Value.pointer t_), (1, [], Value.int .i64 mark), (2, [], Value.int .i64 least), (3, [], sv_ beyond), (60, [], Value.agg #[Value.int .i64 v60.Lanes, Value.int .i64 v60.Shards, Value.int .i64 v60.Window, Value.int .i64 v60.Queue]), (61, [], Value.pointer t_)] (by kernel_rfl) (by kernel_rfl) ?_
             obtain ⟨hp_23, h⟩ := h
             refine mreg_conv [(0, [], Value.pointer t_), (1, [], Value.int .i64 mark), (2, [], Value.int .i64 least), (3, [], sv_ beyond), (60, [], Value.agg #[Value.int .i64 v60.Lanes, Value.int .i64 v60.Shards, Value.int .i64 v60.Window, Value.int .i64 v60.Queue]), (61, [], Value.pointer (some ⟨(pblk t_), (poff t_), none⟩))] (congrArg (fun pp => ([(0, [], Value.pointer t_), (1, [], Value.int .i64 mark), (2, [], Value.int .i64 least), (3, [], sv_ beyond), (60, [], Value.agg #[Value.int .i64 v60.Lanes, Value.int .i64 v60.Shards, Value.int .i64 v60.Window, Value.int .i64 v60.Queue]), (61, [], Value.pointer pp)] : GEnv)) hp_23) ?_
             refine mreg_run P1 6 [(0, [], Value.pointer t_), (1, [], Value.int .i64 mark), (2, [], Value.int .i64 least), (3, [], sv_ beyond), (60, [], Value.agg #[Value.int .i64 v60.Lanes, Value.int .i64 v60.Shards, Value.int .i64 v60.Window, Value.int .i64 v60.Queue]), (61, [], Value.pointer (some ⟨(pblk t_), (poff t_), none⟩)), (62, [], Value.pointer (some ⟨(pblk t_), (poff t_), none⟩))] (by kernel_rfl) (by kernel_rfl) ?_
             refine mreg_run P2 8 [(0, [], Value.pointer t_), (1, [], Value.int .i64 mark), (2, [], Value.int .i64 least), (3, [], sv_ beyond), (60, [], Value.agg #[Value.int .i64 v60.Lanes, Value.int .i64 v60.Shards, Value.int .i64 v60.Window, Value.int .i64 v60.Queue]), (64, [], Value.pointer (some ⟨(pblk t_), (poff t_) + 6, none⟩))] (by kernel_rfl) (by kernel_rfl) ?_
             obtain ⟨v65, hc, h⟩ := h
             refine mreg_load1 (i := 8) (by kernel_rfl) (t := 9) (a := (Operand.tmp 64)) (b := (pblk t_)) (o := ((poff t_) + 6)) (ty := 9) (dst := some 65) (by kernel_rfl) (by kernel_rfl) (by kernel_rfl) hc ?_
             refine mreg_run [] 9 [(0, [], Value.pointer t_), (1, [], Value.int .i64 mark), (2, [], Value.int .i64 least), (3, [], sv_ beyond), (60, [], Value.agg #[Value.int .i64 v60.Lanes, Value.int .i64 v60.Shards, Value.int .i64 v60.Window, Value.int .i64 v60.Queue]), (65, [], Value.string v65)] (by kernel_rfl) (by kernel_rfl) ?_
             refine mreg_enter (op := (Op.call (Call.mk (Callee.value (Operand.func 98)) #[(Operand.tmp 60), (Operand.tmp 65)] #[69, 9]))) (ty := 34) (dst := some 66) 9 [3, 8, 2, 7, 1, 6, 0, 5, 4] [] 98 #[Value.agg #[Value.int .i64 v60.Lanes, Value.int .i64 v60.Shards, Value.int .i64 v60.Window, Value.int .i64 v60.Queue], Value.string v65] (by kernel_rfl) (by kernel_rfl) (by kernel_rfl) (by kernel_rfl) (by kernel_rfl) (fun ww => by kernel_rfl) (Calls.mono h ?_)
             rintro _ w5 ⟨k_, v66_1, rfl, h⟩
             refine ⟨_, rfl, trivial, ?_⟩
             refine mreg_run [.plain, .plain, .plain, .plain, .plain] 15 [(0, [], Value.pointer t_), (1, [], Value.int .i64 mark), (2, [], Value.int .i64 least), (3, [], sv_ beyond), (9, [], Value.int .i64 k_)] (by kernel_rfl) (by kernel_rfl) ?_
             refine mreg_end [(0, Value.pointer t_), (1, Value.int .i64 mark), (2, Value.int .i64 least), (3, sv_ beyond), (9, Value.int .i64 k_)] (by kernel_rfl) (by kernel_rfl) (by kernel_rfl) ?_
             change WpE _ _ c68_44 _ _ _
             refine Zt r68_45 c68_47 ?_
             refine Zn P2 2 [(0, [], .pointer t_), (1, [], .int .i64 mark), (2, [], .int .i64 least), (3, [], sv_ beyond), (69, [], .pointer t_), (70, [], .int .i64 k_)] ?_
             refine Zw (some 71) (fun bb => .slice (some ⟨bb, 0, none⟩) 1 1) (Obj.cells ([.int .i64 k_]).toArray ty_int (0, 0)) (fun b_ w6 hb hw => ?_)
             replace h := h b_ w6 hb hw
             clear hb hw
             refine Zn [] 3 [(0, [], .pointer t_), (1, [], .int .i64 mark), (2, [], .int .i64 least), (3, [], sv_ beyond), (69, [], .pointer t_), (71, [], .slice (some ⟨b_, 0, none⟩) 1 1)] ?_
             obtain ⟨hp_25, h⟩ := h
             refine Zv (fun pp => [(0, [], .pointer t_), (1, [], .int .i64 mark), (2, [], .int .i64 least), (3, [], sv_ beyond), (69, [], .pointer pp), (71, [], .slice (some ⟨b_, 0, none⟩) 1 1)]) hp_25 ?_
             refine Zn P1 4 [(0, [], .pointer t_), (1, [], .int .i64 mark), (2, [], .int .i64 least), (3, [], sv_ beyond), (69, [], .pointer (some ⟨(pblk t_), (poff t_), none⟩)), (71, [], .slice (some ⟨b_, 0, none⟩) 1 1), (72, [], .pointer (some ⟨(pblk t_), (poff t_), none⟩))] ?_
             refine Zn P1 5 [(0, [], .pointer t_), (1, [], .int .i64 mark), (2, [], .int .i64 least), (3, [], sv_ beyond), (71, [], .slice (some ⟨b_, 0, none⟩) 1 1), (73, [], .pointer (some ⟨(pblk t_), (poff t_) + 10, none⟩))] ?_
             obtain ⟨hc, h⟩ := h
             refine Zo 23 73 71 (pblk t_) ((poff t_) + 10) 1 [.slice (some ⟨b_, 0, none⟩) 1 1] hc (fun w7 hw => ?_)
             replace h := h w7 hw
             clear hw
             refine Ze [(0, .pointer t_), (1, .int .i64 mark), (2, .int .i64 least), (3, sv_ beyond)] ?_
             change WpE _ _ c68_47 _ _ _
             refine Zt r68_48 c68_50 ?_
             refine Zn (Pl 5) 5 [(74, [], .pointer t_), (75, [], .pointer t_), (76, [], .int .i64 mark), (77, [], .int .i64 least), (78, [], sv_ beyond)] ?_
             refine Zm 99 #[.pointer t_, .int .i64 mark, .int .i64 least, sv_ beyond] (some 79) (Calls.mono h ?_)
             rintro _ w8 ⟨v79, rfl, h⟩
             refine ⟨_, rfl, ?_⟩
             refine Zn [] 6 [(74, [], .pointer t_), (79, [], .agg #[.int .u8 v79.Kind, .int .i64 v79.From, .int .i64 v79.Number, .string v79.Write.Key, .string v79.Write.Val, .bool v79.Write.Drop, .string v79.Key, .string v79.End, sv_ v79.Beyond])] ?_
             refine Zw (some 80) (fun bb => .slice (some ⟨bb, 0, none⟩) 1 1) (Obj.cells ([.int .u8 v79.Kind, .int .i64 v79.From, .int .i64 v79.Number, .string v79.Write.Key, .string v79.Write.Val, .bool v79.Write.Drop, .string v79.Key, .string v79.End, sv_ v79.Beyond]).toArray ty_api_Req (0, 0)) (fun b_1 w9 hb hw => ?_)
             replace h := h b_1 w9 hb hw
             clear hb hw
             refine Zn [] 7 [(74, [], .pointer t_), (80, [], .slice (some ⟨b_1, 0, none⟩) 1 1)] ?_
             obtain ⟨hp_27, h⟩ := h
             refine Zv (fun pp => [(74, [], .pointer pp), (80, [], .slice (some ⟨b_1, 0, none⟩) 1 1)]) hp_27 ?_
             refine Zn P1 8 [(74, [], .pointer (some ⟨(pblk t_), (poff t_), none⟩)), (80, [], .slice (some ⟨b_1, 0, none⟩) 1 1), (81, [], .pointer (some ⟨(pblk t_), (poff t_), none⟩))] ?_
             refine Zn P1 9 [(80, [], .slice (some ⟨b_1, 0, none⟩) 1 1), (82, [], .pointer (some ⟨(pblk t_), (poff t_) + 11, none⟩))] ?_
             obtain ⟨hc, h⟩ := h
             refine Zo 134 82 80 (pblk t_) ((poff t_) + 11) 1 [.slice (some ⟨b_1, 0, none⟩) 1 1] hc (fun w10 hw => ?_)
             replace h := h w10 hw
             clear hw
             refine Ze [] ?_
             change WpE _ _ c68_50 _ _ _
             refine Zp c68_53 P1 [(8, .int .i64 0)] ?_
             refine wpE_ret (by kernel_rfl) ?_
             repeat (first | refine seqQ_ret ?_ | refine blockQ_ret ?_ | refine loopQ_ret ?_ | refine cutQ_ret ?_)
             exact retS (rs := [(ResultVar.tmp 8)]) (v := Value.int .i64 0) (by kernel_rfl) (⟨by kernel_rfl, trivial⟩) ⟨0, rfl, h⟩
           · replace h := h.2 hb
             refine wpE_skip (by kernel_rfl) ?_
             change WpE _ _ c68_55 _ _ _
             refine Zs c68_56 c68_77 ?_
             refine Zp c68_59 P1 [(0, .pointer t_), (1, .int .i64 mark), (2, .int .i64 least), (3, sv_ beyond), (11, .int .i64 0)] ?_
             refine Zb 1 c68_60 ?_
             obtain ⟨I, μ, h0, hr⟩ := h
             refine wpE_loop (x := c68_61) (by kernel_rfl) (fun m l w => ∃ (i : Int), l = [(0, Value.pointer t_), (1, Value.int .i64 mark), (2, Value.int .i64 least), (3, sv_ beyond), (11, Value.int .i64 i)] ∧ I i w ∧ μ i w = m) (l' := [(0, Value.pointer t_), (1, Value.int .i64 mark), (2, Value.int .i64 least), (3, sv_ beyond), (11, Value.int .i64 0)]) (Sub.mk (by kernel_rfl)) ⟨0, rfl, h0, rfl⟩ ?_
             rintro _ _ w11 ⟨i, rfl, hI, rfl⟩
             obtain ⟨again_, again__h, h⟩ : ∃ again_ : Int → World → Prop, (∀ i' w', again_ i' w' → I i' w' ∧ μ i' w' < μ i w11) ∧ F_towpathref17_Task_Begin_L1 t_ mark least beyond R again_ i w11 := ⟨_, fun _ _ h => h, hr i w11 hI⟩
             clear h0 hI
             unfold F_towpathref17_Task_Begin_L1 at h
             refine Zs c68_62 c68_68 ?_
             refine Zt r68_63 c68_65 ?_
             refine Zn P2 2 [(0, [], .pointer t_), (1, [], .int .i64 mark), (2, [], .int .i64 least), (3, [], sv_ beyond), (11, [], .int .i64 i), (83, [], .int .i64 i), (84, [], .pointer t_)] ?_
             obtain ⟨hp_47, h⟩ := h
             refine Zv (fun pp => [(0, [], .pointer t_), (1, [], .int .i64 mark), (2, [], .int .i64 least), (3, [], sv_ beyond), (11, [], .int .i64 i), (83, [], .int .i64 i), (84, [], .pointer pp)]) hp_47 ?_
             refine Zn P1 3 [(0, [], .pointer t_), (1, [], .int .i64 mark), (2, [], .int .i64 least), (3, [], sv_ beyond), (11, [], .int .i64 i), (83, [], .int .i64 i), (84, [], .pointer (some ⟨(pblk t_), (poff t_), none⟩)), (85, [], .pointer (some ⟨(pblk t_), (poff t_), none⟩))] ?_
             refine Zn P2 5 [(0, [], .pointer t_), (1, [], .int .i64 mark), (2, [], .int .i64 least), (3, [], sv_ beyond), (11, [], .int .i64 i), (83, [], .int .i64 i), (87, [], .pointer (some ⟨(pblk t_), (poff t_) + 2, none⟩))] ?_
             obtain ⟨v88, hc, h⟩ := h
             refine Zl 3 87 (pblk t_) ((poff t_) + 2) 3 88 hc ?_
             refine Zf P1 [(0, .pointer t_), (1, .int .i64 mark), (2, .int .i64 least), (3, sv_ beyond), (11, .int .i64 i), (89, .bool (decide (i < v88)))] ?_
             change WpE _ _ c68_65 _ _ _
             refine Zc 89 (decide (i < v88)) c68_66 c68_67 (fun hb => ?_) (fun hb => ?_)
             · replace h := h.1 hb
               refine wpE_skip (by kernel_rfl) ?_
               change WpE _ _ c68_68 _ _ _
               refine Zs c68_69 c68_75 ?_
               refine Zb 2 c68_70 ?_
               refine Zt r68_71 c68_73 ?_
               refine Zn P2 2 [(0, [], .pointer t_), (1, [], .int .i64 mark), (2, [], .int .i64 least), (3, [], sv_ beyond), (11, [], .int .i64 i), (92, [], .pointer t_), (93, [], .pointer t_)] ?_
               obtain ⟨hp_56, h⟩ := h
               refine Zv (fun pp => [(0, [], .pointer t_), (1, [], .int .i64 mark), (2, [], .int .i64 least), (3, [], sv_ beyond), (11, [], .int .i64 i), (92, [], .pointer t_), (93, [], .pointer pp)]) hp_56 ?_
               refine Zn P1 3 [(0, [], .pointer t_), (1, [], .int .i64 mark), (2, [], .int .i64 least), (3, [], sv_ beyond), (11, [], .int .i64 i), (92, [], .pointer t_), (93, [], .pointer (some ⟨(pblk t_), (poff t_), none⟩)), (94, [], .pointer (some ⟨(pblk t_), (poff t_), none⟩))] ?_
               refine Zn P1 4 [(0, [], .pointer t_), (1, [], .int .i64 mark), (2, [], .int .i64 least), (3, [], sv_ beyond), (11, [], .int .i64 i), (92, [], .pointer t_), (95, [], .pointer (some ⟨(pblk t_), (poff t_) + 10, none⟩))] ?_
               obtain ⟨v96, hc, h⟩ := h
               refine Zl 23 95 (pblk t_) ((poff t_) + 10) 23 96 hc ?_
               refine Zn P1 6 [(0, [], .pointer t_), (1, [], .int .i64 mark), (2, [], .int .i64 least), (3, [], sv_ beyond), (11, [], .int .i64 i), (92, [], .pointer t_), (96, [], sv_ v96), (97, [], .int .i64 i)] ?_
               refine Zw (some 98) (fun bb => .slice (some ⟨bb, 0, none⟩) 1 1) (Obj.cells ([.int .i64 i]).toArray ty_int (0, 0)) (fun b_2 w12 hb hw => ?_)
               replace h := h b_2 w12 hb hw
               clear hb hw
               refine Zn [] 7 [(0, [], .pointer t_), (1, [], .int .i64 mark), (2, [], .int .i64 least), (3, [], sv_ beyond), (11, [], .int .i64 i), (92, [], .pointer t_), (96, [], sv_ v96), (98, [], .slice (some ⟨b_2, 0, none⟩) 1 1)] ?_
               obtain ⟨src, hs, h⟩ := h
               refine reg_append (t := 23) (tx := 23) (e := 3) (a := (Operand.tmp 96)) (xo := (Operand.tmp 98)) (s := v96) (x := (Slc.mk (some ⟨b_2, 0, none⟩) 1 1)) (sz := 1) (by_ := 8) (zs := [Value.int .i64 0]) (ty := 23) (dst := some 99)  src (by kernel_rfl) (by kernel_rfl) (by kernel_rfl) (by kernel_rfl) (by kernel_rfl) (by kernel_rfl) (by kernel_rfl) (by kernel_rfl) (by kernel_rfl) hs (AppendW.mono h (fun v99 w13 h => ?_))
               refine Zn [] 8 [(0, [], .pointer t_), (1, [], .int .i64 mark), (2, [], .int .i64 least), (3, [], sv_ beyond), (11, [], .int .i64 i), (92, [], .pointer t_), (99, [], sv_ v99)] ?_
               obtain ⟨hp_57, h⟩ := h
               refine Zv (fun pp => [(0, [], .pointer t_), (1, [], .int .i64 mark), (2, [], .int .i64 least), (3, [], sv_ beyond), (11, [], .int .i64 i), (92, [], .pointer pp), (99, [], sv_ v99)]) hp_57 ?_
               refine Zn P1 9 [(0, [], .pointer t_), (1, [], .int .i64 mark), (2, [], .int .i64 least), (3, [], sv_ beyond), (11, [], .int .i64 i), (92, [], .pointer (some ⟨(pblk t_), (poff t_), none⟩)), (99, [], sv_ v99), (100, [], .pointer (some ⟨(pblk t_), (poff t_), none⟩))] ?_
               refine Zn P1 10 [(0, [], .pointer t_), (1, [], .int .i64 mark), (2, [], .int .i64 least), (3, [], sv_ beyond), (11, [], .int .i64 i), (99, [], sv_ v99), (101, [], .pointer (some ⟨(pblk t_), (poff t_) + 10, none⟩))] ?_
               obtain ⟨hc, h⟩ := h
               refine Zo 23 101 99 (pblk t_) ((poff t_) + 10) 1 [sv_ v99] hc (fun w14 hw => ?_)
               replace h := h w14 hw
               clear hw
               refine Ze [(0, .pointer t_), (1, .int .i64 mark), (2, .int .i64 least), (3, sv_ beyond), (11, .int .i64 i)] ?_
               change WpE _ _ c68_73 _ _ _
               refine wpE_mixregion (id := 18) (ops := r68_73) o_towpathref17_Task_Begin_73 (by kernel_rfl) (by kernel_rfl) (by kernel_rfl) (by kernel_rfl) (fun w15 hw => ?_)
               replace h := h w15 hw
               clear hw
               refine mreg_run P2 2 [(0, [], Value.pointer t_), (1, [], Value.int .i64 mark), (2, [], Value.int .i64 least), (3, [], sv_ beyond), (11, [], Value.int .i64 i), (102, [], Value.pointer t_), (103, [], Value.pointer t_)] (by kernel_rfl) (by kernel_rfl) ?_
               obtain ⟨hp_58, h⟩ := h
               refine mreg_conv [(0, [], Value.pointer t_), (1, [], Value.int .i64 mark), (2, [], Value.int .i64 least), (3, [], sv_ beyond), (11, [], Value.int .i64 i), (102, [], Value.pointer t_), (103, [], Value.pointer (some ⟨(pblk t_), (poff t_), none⟩))] (congrArg (fun pp => ([(0, [], Value.pointer t_), (1, [], Value.int .i64 mark), (2, [], Value.int .i64 least), (3, [], sv_ beyond), (11, [], Value.int .i64 i), (102, [], Value.pointer t_), (103, [], Value.pointer pp)] : GEnv)) hp_58) ?_
               refine mreg_run P1 3 [(0, [], Value.pointer t_), (1, [], Value.int .i64 mark), (2, [], Value.int .i64 least), (3, [], sv_ beyond), (11, [], Value.int .i64 i), (102, [], Value.pointer t_), (103, [], Value.pointer (some ⟨(pblk t_), (poff t_), none⟩)), (104, [], Value.pointer (some ⟨(pblk t_), (poff t_), none⟩))] (by kernel_rfl) (by kernel_rfl) ?_
               refine mreg_run P1 4 [(0, [], Value.pointer t_), (1, [], Value.int .i64 mark), (2, [], Value.int .i64 least), (3, [], sv_ beyond), (11, [], Value.int .i64 i), (102, [], Value.pointer t_), (105, [], Value.pointer (some ⟨(pblk t_), (poff t_) + 11, none⟩))] (by kernel_rfl) (by kernel_rfl) ?_
               obtain ⟨v106, hc, h⟩ := h
               refine mreg_load1 (i := 4) (by kernel_rfl) (t := 134) (a := (Operand.tmp 105)) (b := (pblk t_)) (o := ((poff t_) + 11)) (ty := 134) (dst := some 106) (by kernel_rfl) (by kernel_rfl) (by kernel_rfl) hc ?_
               refine mreg_run P4 9 [(0, [], Value.pointer t_), (1, [], Value.int .i64 mark), (2, [], Value.int .i64 least), (3, [], sv_ beyond), (11, [], Value.int .i64 i), (102, [], Value.pointer t_), (106, [], sv_ v106), (107, [], Value.pointer t_), (108, [], Value.int .i64 mark), (109, [], Value.int .i64 least), (110, [], sv_ beyond)] (by kernel_rfl) (by kernel_rfl) ?_
               refine mreg_enter (op := (Op.call (Call.mk (Callee.value (Operand.func 99)) #[(Operand.tmp 107), (Operand.tmp 108), (Operand.tmp 109), (Operand.tmp 110)] #[87, 3, 3, 23]))) (ty := 80) (dst := some 111) 9 [5, 6, 7, 8] [(4, fun w' => w'.cell? ⟨(pblk t_), (poff t_) + 11, none⟩ = some (sv_ v106))] 99 #[Value.pointer t_, Value.int .i64 mark, Value.int .i64 least, sv_ beyond] (by kernel_rfl) (by kernel_rfl) (by kernel_rfl) (by kernel_rfl) (by kernel_rfl) (fun ww => by kernel_rfl) (Calls.mono h ?_)
               rintro _ w16 ⟨v111, rfl, h⟩
               obtain ⟨hk0, h⟩ := h
               refine ⟨_, rfl, ⟨hk0, trivial⟩, ?_⟩
               refine mreg_run [] 10 [(0, [], Value.pointer t_), (1, [], Value.int .i64 mark), (2, [], Value.int .i64 least), (3, [], sv_ beyond), (11, [], Value.int .i64 i), (102, [], Value.pointer t_), (106, [], sv_ v106), (111, [], Value.agg #[Value.int .u8 v111.Kind, Value.int .i64 v111.From, Value.int .i64 v111.Number, Value.string v111.Write.Key, Value.string v111.Write.Val, Value.bool v111.Write.Drop, Value.string v111.Key, Value.string v111.End, sv_ v111.Beyond])] (by kernel_rfl) (by kernel_rfl) ?_
               refine mreg_new (op := (Op.buildSlice 134 1 #[(0, (Operand.tmp 111))])) (ty := 134) (dst := some 112) 10 [9, 5, 6, 7, 8] [(4, fun w' => w'.cell? ⟨(pblk t_), (poff t_) + 11, none⟩ = some (sv_ v106))] (fun bb => Value.slice (some ⟨bb, 0, none⟩) 1 1) (Obj.cells ([Value.int .u8 v111.Kind, Value.int .i64 v111.From, Value.int .i64 v111.Number, Value.string v111.Write.Key, Value.string v111.Write.Val, Value.bool v111.Write.Drop, Value.string v111.Key, Value.string v111.End, sv_ v111.Beyond]).toArray ty_api_Req (0, 0)) (by kernel_rfl) (by kernel_rfl) (by kernel_rfl) (by kernel_rfl) (by kernel_rfl) (by kernel_rfl) (fun b_3 w17 hb hw => ?_)
               replace h := h b_3 w17 hb hw
               clear hb hw
               obtain ⟨hk0, h⟩ := h
               refine ⟨⟨hk0, trivial⟩, ?_⟩
               refine mreg_run [] 11 [(0, [], Value.pointer t_), (1, [], Value.int .i64 mark), (2, [], Value.int .i64 least), (3, [], sv_ beyond), (11, [], Value.int .i64 i), (102, [], Value.pointer t_), (106, [], sv_ v106), (112, [], Value.slice (some ⟨b_3, 0, none⟩) 1 1)] (by kernel_rfl) (by kernel_rfl) ?_
               obtain ⟨src, hs, h⟩ := h
               refine mreg_append (t := 134) (tx := 134) (e := 80) (a := (Operand.tmp 106)) (xo := (Operand.tmp 112)) (s := v106) (x := (Slc.mk (some ⟨b_3, 0, none⟩) 1 1)) (sz := 9) (by_ := 120) (zs := [Value.int .u8 0, Value.int .i64 0, Value.int .i64 0, Value.string ByteArray.empty, Value.string ByteArray.empty, Value.bool false, Value.string ByteArray.empty, Value.string ByteArray.empty, Value.slice none 0 0]) (ty := 134) (dst := some 113) 11 [4, 9, 10, 3, 5, 6, 7, 8, 2, 1] [] src (by kernel_rfl) (by kernel_rfl) (by kernel_rfl) (by kernel_rfl) (by kernel_rfl) (by kernel_rfl) (by kernel_rfl) (by kernel_rfl) (by kernel_rfl) (by kernel_rfl) (by kernel_rfl) (by kernel_rfl) (by kernel_rfl) hs (AppendW.mono h (fun v113 w18 h => ?_))
               refine ⟨trivial, ?_⟩
               refine mreg_run [] 12 [(0, [], Value.pointer t_), (1, [], Value.int .i64 mark), (2, [], Value.int .i64 least), (3, [], sv_ beyond), (11, [], Value.int .i64 i), (102, [], Value.pointer t_), (113, [], sv_ v113)] (by kernel_rfl) (by kernel_rfl) ?_
               obtain ⟨hp_59, h⟩ := h
               refine mreg_conv [(0, [], Value.pointer t_), (1, [], Value.int .i64 mark), (2, [], Value.int .i64 least), (3, [], sv_ beyond), (11, [], Value.int .i64 i), (102, [], Value.pointer (some ⟨(pblk t_), (poff t_), none⟩)), (113, [], sv_ v113)] (congrArg (fun pp => ([(0, [], Value.pointer t_), (1, [], Value.int .i64 mark), (2, [], Value.int .i64 least), (3, [], sv_ beyond), (11, [], Value.int .i64 i), (102, [], Value.pointer pp), (113, [], sv_ v113)] : GEnv)) hp_59) ?_
               refine mreg_run P1 13 [(0, [], Value.pointer t_), (1, [], Value.int .i64 mark), (2, [], Value.int .i64 least), (3, [], sv_ beyond), (11, [], Value.int .i64 i), (102, [], Value.pointer (some ⟨(pblk t_), (poff t_), none⟩)), (113, [], sv_ v113), (114, [], Value.pointer (some ⟨(pblk t_), (poff t_), none⟩))] (by kernel_rfl) (by kernel_rfl) ?_
               refine mreg_run P1 14 [(0, [], Value.pointer t_), (1, [], Value.int .i64 mark), (2, [], Value.int .i64 least), (3, [], sv_ beyond), (11, [], Value.int .i64 i), (113, [], sv_ v113), (115, [], Value.pointer (some ⟨(pblk t_), (poff t_) + 11, none⟩))] (by kernel_rfl) (by kernel_rfl) ?_
               obtain ⟨hc, h⟩ := h
               refine mreg_store (t := 134) (a := (Operand.tmp 115)) (x := (Operand.tmp 113)) (b := (pblk t_)) (o := ((poff t_) + 11)) (k := 1) (ty := 0) (dst := none) 14 [0, 1, 2, 3, 4, 5, 6, 7, 8, 9, 10, 11, 13, 12] [] [sv_ v113] (by kernel_rfl) (by kernel_rfl) (by kernel_rfl) (by kernel_rfl) (by kernel_rfl) (by kernel_rfl) (by kernel_rfl) (by kernel_rfl) (by kernel_rfl) (by kernel_rfl) hc (fun w19 hw => ?_)
               replace h := h w19 hw
               clear hw
               refine ⟨trivial, ?_⟩
               refine mreg_end [(0, Value.pointer t_), (1, Value.int .i64 mark), (2, Value.int .i64 least), (3, sv_ beyond), (11, Value.int .i64 i)] (by kernel_rfl) (by kernel_rfl) (by kernel_rfl) ?_
               change WpE _ _ c68_75 _ _ _
               refine Zr r68_75 ?_
               refine Zf P3 [(0, .pointer t_), (1, .int .i64 mark), (2, .int .i64 least), (3, sv_ beyond), (11, .int .i64 (IntKind.i64.wrap (i + 1)))] ?_
               have hb_ := again__h _ _ h
               exact ⟨_, hb_.2, [(0, Value.pointer t_), (1, Value.int .i64 mark), (2, Value.int .i64 least), (3, sv_ beyond), (11, Value.int .i64 (IntKind.i64.wrap (i + 1)))], Sub.mk (by kernel_rfl), (IntKind.i64.wrap (i + 1)), rfl, hb_.1, rfl⟩
             · replace h := h.2 hb
               refine wpE_exit (id := 1) (by kernel_rfl) ?_
               change WpE _ _ c68_77 _ _ _
               refine Zp c68_80 P1 [(8, .int .i64 0)] ?_
               refine wpE_ret (by kernel_rfl) ?_
               repeat (first | refine seqQ_ret ?_ | refine blockQ_ret ?_ | refine loopQ_ret ?_ | refine cutQ_ret ?_)
               exact retS (rs := [(ResultVar.tmp 8)]) (v := Value.int .i64 0) (by kernel_rfl) (⟨by kernel_rfl, trivial⟩) ⟨0, rfl, h⟩
 · rintro e w' ⟨v, rfl, r0, rfl, h⟩; exact ⟨r0, rfl, h⟩

/-! ### (*towpath/towpathref17.Task).Got (function 70) -/
def c70_0 := cb_ Try.f70
def c70_1 := cl_ c70_0
def r70_1 := co_ c70_1
def c70_3 := cr_ c70_0
def c70_4 := cl_ c70_3
def c70_5 := cl_ c70_4
def c70_6 := cl_ c70_5
def r70_6 := co_ c70_6
def c70_8 := cr_ c70_5
def c70_9 := cl_ c70_8
def c70_12 := cr_ c70_9
def c70_13 := cr_ c70_8
def c70_14 := cl_ c70_13
def r70_14 := co_ c70_14
def c70_16 := cr_ c70_13
def c70_17 := cl_ c70_16
def c70_20 := cr_ c70_17
def c70_21 := cr_ c70_16
def c70_22 := cl_ c70_21
def r70_22 := co_ c70_22
def c70_24 := cr_ c70_21
def c70_25 := cl_ c70_24
def c70_28 := cr_ c70_25
def c70_29 := cr_ c70_24
def c70_30 := cr_ c70_3
def c70_31 := cl_ c70_30
def r70_31 := co_ c70_31
def c70_33 := cr_ c70_30
def c70_36 := cr_ c70_33
def o_towpathref17_Task_Got_31 : List Nat := [0, 1, 2, 3, 4, 5, 6, 7, 8, 9, 10]

theorem S_towpathref17_Task_Got {t_ : Option Addr} {r : T_api_Resp} {w : World} {R : Int → World → Prop} (h : F_towpathref17_Task_Got t_ r R w) : C_towpathref17_Task_Got t_ r w R := by
 unfold F_towpathref17_Task_Got at h
 unfold C_towpathref17_Task_Got
 refine Calls.mono (calls_of_wpE (args := [Value.pointer t_, Value.agg #[Value.int .i64 r.To, Value.bool r.OK, sv_ r.Entries, sv_ r.Held, Value.int .i64 r.Count]]) (R := fun v w' => ∃ (r0 : Int), v = Value.int .i64 r0 ∧ R r0 w') Try.func70 (c := c70_0) (by kernel_rfl) 37 (by kernel_rfl) (by kernel_rfl) [(0, Value.pointer t_), (1, Value.agg #[Value.int .i64 r.To, Value.bool r.OK, sv_ r.Entries, sv_ r.Held, Value.int .i64 r.Count])] (by kernel_rfl) ?_) ?_
 · refine Zt r70_1 c70_3 ?_
   refine Zn [] 0 [(0, [], .pointer t_), (1, [], .agg #[.int .i64 r.To, .bool r.OK, sv_ r.Entries, sv_ r.Held, .int .i64 r.Count])] ?_
   refine Zw (some 3) (fun bb => pv_ bb) (Obj.cells ([.int .i64 r.To, .bool r.OK, sv_ r.Entries, sv_ r.Held, .int .i64 r.Count]).toArray ty_api_Resp (0, 0)) (fun b_ w1 hb hw => ?_)
   replace h := h b_ w1 hb hw
   clear hb hw
   refine Zf P1 [(0, .pointer t_), (3, pv_ b_)] ?_
   change WpE _ _ c70_3 _ _ _
   refine Zs c70_4 c70_30 ?_
   refine Zb 0 c70_5 ?_
   refine Zt r70_6 c70_8 ?_
   refine Zn P1 1 [(0, [], .pointer t_), (3, [], pv_ b_), (6, [], .pointer t_)] ?_
   refine reg_val (op := (Op.binOp BinOp.eql 87 (Operand.tmp 6) (Operand.const (Value.pointer none)) 87)) (ty := 4) (dst := some 7) (Value.bool t_.isNone) (by kernel_rfl) (fun ww => run_ptr_eql_R (p := t_) (by kernel_rfl) (by kernel_rfl) (by kernel_rfl) ww) ?_
   refine Zf P1 [(0, .pointer t_), (3, pv_ b_), (5, .bool t_.isNone)] ?_
   change WpE _ _ c70_8 _ _ _
   refine Zc 5 t_.isNone c70_9 c70_13 (fun hb => ?_) (fun hb => ?_)
   · replace h := h.1 hb
     refine Zp c70_12 P1 [(4, .int .i64 2)] ?_
     refine wpE_ret (by kernel_rfl) ?_
     repeat (first | refine seqQ_ret ?_ | refine blockQ_ret ?_ | refine loopQ_ret ?_ | refine cutQ_ret ?_)
     exact retS (rs := [(ResultVar.tmp 4)]) (v := Value.int .i64 2) (by kernel_rfl) (⟨by kernel_rfl, trivial⟩) ⟨2, rfl, h⟩
   · replace h := h.2 hb
     refine Zs c70_14 c70_16 ?_
     refine wpE_drawregion (id := 3) (ops := r70_14) (by kernel_rfl) (by kernel_rfl) (by kernel_rfl) ?_
     refine qreg_run P1 1 [(0, [], Value.pointer t_), (3, [], pv_ b_), (9, [], Value.pointer t_)] (by kernel_rfl) (by kernel_rfl) ?_
     obtain ⟨hp_8, h⟩ := h
     refine qreg_conv [(0, [], Value.pointer t_), (3, [], pv_ b_), (9, [], Value.pointer (some ⟨(pblk t_), (poff t_), none⟩))] (congrArg (fun pp => ([(0, [], Value.pointer t_), (3, [], pv_ b_), (9, [], Value.pointer pp)] : GEnv)) hp_8) ?_
     refine qreg_run P1 2 [(0, [], Value.pointer t_), (3, [], pv_ b_), (9, [], Value.pointer (some ⟨(pblk t_), (poff t_), none⟩)), (10, [], Value.pointer (some ⟨(pblk t_), (poff t_), none⟩))] (by kernel_rfl) (by kernel_rfl) ?_
     refine qreg_run P1 3 [(0, [], Value.pointer t_), (3, [], pv_ b_), (11, [], Value.pointer (some ⟨(pblk t_), (poff t_) + 13, none⟩))] (by kernel_rfl) (by kernel_rfl) ?_
     obtain ⟨v12, hc, h⟩ := h
     refine qreg_load1 (t := 101) (a := (Operand.tmp 11)) (b := (pblk t_)) (o := ((poff t_) + 13)) (ty := 101) (dst := some 12) (by kernel_rfl) (by kernel_rfl) (by kernel_rfl) hc ?_
     refine qreg_run P2 6 [(0, [], Value.pointer t_), (3, [], pv_ b_), (13, [], Value.int .i64 ((v12.len : Nat) : Int)), (14, [], Value.pointer t_)] (by kernel_rfl) (by kernel_rfl) ?_
     obtain ⟨hp_9, h⟩ := h
     refine qreg_conv [(0, [], Value.pointer t_), (3, [], pv_ b_), (13, [], Value.int .i64 ((v12.len : Nat) : Int)), (14, [], Value.pointer (some ⟨(pblk t_), (poff t_), none⟩))] (congrArg (fun pp => ([(0, [], Value.pointer t_), (3, [], pv_ b_), (13, [], Value.int .i64 ((v12.len : Nat) : Int)), (14, [], Value.pointer pp)] : GEnv)) hp_9) ?_
     refine qreg_run P1 7 [(0, [], Value.pointer t_), (3, [], pv_ b_), (13, [], Value.int .i64 ((v12.len : Nat) : Int)), (14, [], Value.pointer (some ⟨(pblk t_), (poff t_), none⟩)), (15, [], Value.pointer (some ⟨(pblk t_), (poff t_), none⟩))] (by kernel_rfl) (by kernel_rfl) ?_
     refine qreg_run P1 8 [(0, [], Value.pointer t_), (3, [], pv_ b_), (13, [], Value.int .i64 ((v12.len : Nat) : Int)), (16, [], Value.pointer (some ⟨(pblk t_), (poff t_) + 12, none⟩))] (by kernel_rfl) (by kernel_rfl) ?_
     obtain ⟨v17, hc, h⟩ := h
     refine qreg_load1 (t := 3) (a := (Operand.tmp 16)) (b := (pblk t_)) (o := ((poff t_) + 12)) (ty := 3) (dst := some 17) (by kernel_rfl) (by kernel_rfl) (by kernel_rfl) hc ?_
     refine qreg_run P2 11 [(0, [], Value.pointer t_), (3, [], pv_ b_), (8, [], Value.bool (decide (((v12.len : Nat) : Int) ≥ v17)))] (by kernel_rfl) (by kernel_rfl) ?_
     refine qreg_end [(0, Value.pointer t_), (3, pv_ b_), (8, Value.bool (decide (((v12.len : Nat) : Int) ≥ v17)))] (by kernel_rfl) (by kernel_rfl) (fun w2 hw => ?_)
     replace h := h w2 hw
     clear hw
     change WpE _ _ c70_16 _ _ _
     refine Zc 8 (decide (((v12.len : Nat) : Int) ≥ v17)) c70_17 c70_21 (fun hb => ?_) (fun hb => ?_)
     · replace h := h.1 hb
       refine Zp c70_20 P1 [(4, .int .i64 9)] ?_
       refine wpE_ret (by kernel_rfl) ?_
       repeat (first | refine seqQ_ret ?_ | refine blockQ_ret ?_ | refine loopQ_ret ?_ | refine cutQ_ret ?_)
       exact retS (rs := [(ResultVar.tmp 4)]) (v := Value.int .i64 9) (by kernel_rfl) (⟨by kernel_rfl, trivial⟩) ⟨9, rfl, h⟩
     · replace h := h.2 hb
       refine Zs c70_22 c70_24 ?_
       refine wpE_drawregion (id := 5) (ops := r70_22) (by kernel_rfl) (by kernel_rfl) (by kernel_rfl) ?_
       refine qreg_run P1 1 [(0, [], Value.pointer t_), (3, [], pv_ b_), (20, [], pv_ b_)] (by kernel_rfl) (by kernel_rfl) ?_
       obtain ⟨v21, hc, h⟩ := h
       refine qreg_load1 (t := 3) (a := (Operand.tmp 20)) (b := b_) (o := 0) (ty := 3) (dst := some 21) (by kernel_rfl) (by kernel_rfl) (by kernel_rfl) hc ?_
       refine qreg_run P1 3 [(0, [], Value.pointer t_), (3, [], pv_ b_), (21, [], Value.int .i64 v21), (22, [], Value.pointer t_)] (by kernel_rfl) (by kernel_rfl) ?_
       obtain ⟨hp_11, h⟩ := h
       refine qreg_conv [(0, [], Value.pointer t_), (3, [], pv_ b_), (21, [], Value.int .i64 v21), (22, [], Value.pointer (some ⟨(pblk t_), (poff t_), none⟩))] (congrArg (fun pp => ([(0, [], Value.pointer t_), (3, [], pv_ b_), (21, [], Value.int .i64 v21), (22, [], Value.pointer pp)] : GEnv)) hp_11) ?_
       refine qreg_run P1 4 [(0, [], Value.pointer t_), (3, [], pv_ b_), (21, [], Value.int .i64 v21), (22, [], Value.pointer (some ⟨(pblk t_), (poff t_), none⟩)), (23, [], Value.pointer (some ⟨(pblk t_), (poff t_), none⟩))] (by kernel_rfl) (by kernel_rfl) ?_
       refine qreg_run P1 5 [(0, [], Value.pointer t_), (3, [], pv_ b_), (21, [], Value.int .i64 v21), (24, [], Value.pointer (some ⟨(pblk t_), (poff t_), none⟩))] (by kernel_rfl) (by kernel_rfl) ?_
       obtain ⟨v25, hc, h⟩ := h
       refine qreg_load1 (t := 3) (a := (Operand.tmp 24)) (b := (pblk t_)) (o := (poff t_)) (ty := 3) (dst := some 25) (by kernel_rfl) (by kernel_rfl) (by kernel_rfl) hc ?_
       refine qreg_run P2 8 [(0, [], Value.pointer t_), (3, [], pv_ b_), (19, [], Value.bool (v21 != v25))] (by kernel_rfl) (by kernel_rfl) ?_
       refine qreg_end [(0, Value.pointer t_), (3, pv_ b_), (19, Value.bool (v21 != v25))] (by kernel_rfl) (by kernel_rfl) (fun w3 hw => ?_)
       replace h := h w3 hw
       clear hw
       change WpE _ _ c70_24 _ _ _
       refine Zc 19 (v21 != v25) c70_25 c70_29 (fun hb => ?_) (fun hb => ?_)
       · replace h := h.1 hb
         refine Zp c70_28 P1 [(4, .int .i64 1)] ?_
         refine wpE_ret (by kernel_rfl) ?_
         repeat (first | refine seqQ_ret ?_ | refine blockQ_ret ?_ | refine loopQ_ret ?_ | refine cutQ_ret ?_)
         exact retS (rs := [(ResultVar.tmp 4)]) (v := Value.int .i64 1) (by kernel_rfl) (⟨by kernel_rfl, trivial⟩) ⟨1, rfl, h⟩
       · replace h := h.2 hb
         refine wpE_skip (by kernel_rfl) ?_
         change WpE _ _ c70_30 _ _ _
         refine Zs c70_31 c70_33 ?_
         refine wpE_mixregion (id := 7) (ops := r70_31) o_towpathref17_Task_Got_31 (by kernel_rfl) (by kernel_rfl) (by kernel_rfl) (by kernel_rfl) (fun w4 hw => ?_)
         replace h := h w4 hw
         clear hw
         refine mreg_run P2 2 [(3, [], pv_ b_), (27, [], Value.pointer t_), (28, [], Value.pointer t_)] (by kernel_rfl) (by kernel_rfl) ?_
         obtain ⟨hp_14, h⟩ := h
         refine mreg_conv [(3, [], pv_ b_), (27, [], Value.pointer t_), (28, [], Value.pointer (some ⟨(pblk t_), (poff t_), none⟩))] (congrArg (fun pp => ([(3, [], pv_ b_), (27, [], Value.pointer t_), (28, [], Value.pointer pp)] : GEnv)) hp_14) ?_
         refine mreg_run P1 3 [(3, [], pv_ b_), (27, [], Value.pointer t_), (28, [], Value.pointer (some ⟨(pblk t_), (poff t_), none⟩)), (29, [], Value.pointer (some ⟨(pblk t_), (poff t_), none⟩))] (by kernel_rfl) (by kernel_rfl) ?_
         refine mreg_run P1 4 [(3, [], pv_ b_), (27, [], Value.pointer t_), (30, [], Value.pointer (some ⟨(pblk t_), (poff t_) + 13, none⟩))] (by kernel_rfl) (by kernel_rfl) ?_
         obtain ⟨v31, hc, h⟩ := h
         refine mreg_load1 (i := 4) (by kernel_rfl) (t := 101) (a := (Operand.tmp 30)) (b := (pblk t_)) (o := ((poff t_) + 13)) (ty := 101) (dst := some 31) (by kernel_rfl) (by kernel_rfl) (by kernel_rfl) hc ?_
         refine mreg_run [] 5 [(3, [], pv_ b_), (27, [], Value.pointer t_), (31, [], sv_ v31)] (by kernel_rfl) (by kernel_rfl) ?_
         obtain ⟨v32, hc, h⟩ := h
         refine mreg_loadN (i := 5) (by kernel_rfl) (t := 95) (a := (Operand.tmp 3)) (b := b_) (o := 0) (ty := 95) (dst := some 32) [Value.int .i64 v32.To, Value.bool v32.OK, sv_ v32.Entries, sv_ v32.Held, Value.int .i64 v32.Count] (by kernel_rfl) (by kernel_rfl) (by kernel_rfl) (k := 5) (by kernel_rfl) (by kernel_rfl) hc ?_
         refine mreg_run [] 6 [(27, [], Value.pointer t_), (31, [], sv_ v31), (32, [], Value.agg #[Value.int .i64 v32.To, Value.bool v32.OK, sv_ v32.Entries, sv_ v32.Held, Value.int .i64 v32.Count])] (by kernel_rfl) (by kernel_rfl) ?_
         refine mreg_new (op := (Op.buildSlice 101 1 #[(0, (Operand.tmp 32))])) (ty := 101) (dst := some 33) 6 [5] [(4, fun w' => w'.cell? ⟨(pblk t_), (poff t_) + 13, none⟩ = some (sv_ v31))] (fun bb => Value.slice (some ⟨bb, 0, none⟩) 1 1) (Obj.cells ([Value.int .i64 v32.To, Value.bool v32.OK, sv_ v32.Entries, sv_ v32.Held, Value.int .i64 v32.Count]).toArray ty_api_Resp (0, 0)) (by kernel_rfl) (by kernel_rfl) (by kernel_rfl) (by kernel_rfl) (by kernel_rfl) (by kernel_rfl) (fun b_1 w5 hb hw => ?_)
         replace h := h b_1 w5 hb hw
         clear hb hw
         obtain ⟨hk0, h⟩ := h
         refine ⟨⟨hk0, trivial⟩, ?_⟩
         refine mreg_run [] 7 [(27, [], Value.pointer t_), (31, [], sv_ v31), (33, [], Value.slice (some ⟨b_1, 0, none⟩) 1 1)] (by kernel_rfl) (by kernel_rfl) ?_
         obtain ⟨src, hs, h⟩ := h
         refine mreg_append (t := 101) (tx := 101) (e := 95) (a := (Operand.tmp 31)) (xo := (Operand.tmp 33)) (s := v31) (x := (Slc.mk (some ⟨b_1, 0, none⟩) 1 1)) (sz := 5) (by_ := 72) (zs := [Value.int .i64 0, Value.bool false, Value.slice none 0 0, Value.slice none 0 0, Value.int .i64 0]) (ty := 101) (dst := some 34) 7 [4, 6, 3, 5, 2, 1] [] src (by kernel_rfl) (by kernel_rfl) (by kernel_rfl) (by kernel_rfl) (by kernel_rfl) (by kernel_rfl) (by kernel_rfl) (by kernel_rfl) (by kernel_rfl) (by kernel_rfl) (by kernel_rfl) (by kernel_rfl) (by kernel_rfl) hs (AppendW.mono h (fun v34 w6 h => ?_))
         refine ⟨trivial, ?_⟩
         refine mreg_run [] 8 [(27, [], Value.pointer t_), (34, [], sv_ v34)] (by kernel_rfl) (by kernel_rfl) ?_
         obtain ⟨hp_15, h⟩ := h
         refine mreg_conv [(27, [], Value.pointer (some ⟨(pblk t_), (poff t_), none⟩)), (34, [], sv_ v34)] (congrArg (fun pp => ([(27, [], Value.pointer pp), (34, [], sv_ v34)] : GEnv)) hp_15) ?_
         refine mreg_run P1 9 [(27, [], Value.pointer (some ⟨(pblk t_), (poff t_), none⟩)), (34, [], sv_ v34), (35, [], Value.pointer (some ⟨(pblk t_), (poff t_), none⟩))] (by kernel_rfl) (by kernel_rfl) ?_
         refine mreg_run P1 10 [(34, [], sv_ v34), (36, [], Value.pointer (some ⟨(pblk t_), (poff t_) + 13, none⟩))] (by kernel_rfl) (by kernel_rfl) ?_
         obtain ⟨hc, h⟩ := h
         refine mreg_store (t := 101) (a := (Operand.tmp 36)) (x := (Operand.tmp 34)) (b := (pblk t_)) (o := ((poff t_) + 13)) (k := 1) (ty := 0) (dst := none) 10 [0, 1, 2, 3, 4, 5, 6, 7, 9, 8] [] [sv_ v34] (by kernel_rfl) (by kernel_rfl) (by kernel_rfl) (by kernel_rfl) (by kernel_rfl) (by kernel_rfl) (by kernel_rfl) (by kernel_rfl) (by kernel_rfl) (by kernel_rfl) hc (fun w7 hw => ?_)
         replace h := h w7 hw
         clear hw
         refine ⟨trivial, ?_⟩
         refine mreg_end [] (by kernel_rfl) (by kernel_rfl) (by kernel_rfl) ?_
         change WpE _ _ c70_33 _ _ _
         refine Zp c70_36 P1 [(4, .int .i64 0)] ?_
         refine wpE_ret (by kernel_rfl) ?_
         repeat (first | refine seqQ_ret ?_ | refine blockQ_ret ?_ | refine loopQ_ret ?_ | refine cutQ_ret ?_)
         exact retS (rs := [(ResultVar.tmp 4)]) (v := Value.int .i64 0) (by kernel_rfl) (⟨by kernel_rfl, trivial⟩) ⟨0, rfl, h⟩
 · rintro e w' ⟨v, rfl, r0, rfl, h⟩; exact ⟨r0, rfl, h⟩

/-! ### (*towpath/towpathref17.Task).Sent (function 72) -/
def c72_0 := cb_ Try.f72
def c72_3 := cr_ c72_0
def c72_4 := cl_ c72_3
def c72_5 := cl_ c72_4
def r72_5 := co_ c72_5
def c72_7 := cr_ c72_4
def c72_8 := cl_ c72_7
def c72_11 := cr_ c72_8
def c72_12 := cr_ c72_7
def c72_13 := cr_ c72_3
def c72_14 := cl_ c72_13
def c72_15 := cl_ c72_14
def r72_15 := co_ c72_15
def c72_17 := cr_ c72_14
def c72_18 := cl_ c72_17
def c72_21 := cr_ c72_18
def c72_22 := cr_ c72_17
def c72_23 := cr_ c72_13
def c72_24 := cl_ c72_23
def r72_24 := co_ c72_24
def c72_26 := cr_ c72_23
def c72_29 := cr_ c72_26

theorem S_towpathref17_Task_Sent {t_ : Option Addr} {w : World} {R : Int → World → Prop} (h : F_towpathref17_Task_Sent t_ R w) : C_towpathref17_Task_Sent t_ w R := by
 unfold F_towpathref17_Task_Sent at h
 unfold C_towpathref17_Task_Sent
 refine Calls.mono (calls_of_wpE (args := [Value.pointer t_]) (R := fun v w' => ∃ (r0 : Int), v = Value.int .i64 r0 ∧ R r0 w') Try.func72 (c := c72_0) (by kernel_rfl) 22 (by kernel_rfl) (by kernel_rfl) [(0, Value.pointer t_)] (by kernel_rfl) ?_) ?_
 · refine Zp c72_3 P1 [(0, .pointer t_)] ?_
   refine Zs c72_4 c72_13 ?_
   refine Zt r72_5 c72_7 ?_
   refine Zn P1 1 [(0, [], .pointer t_), (3, [], .pointer t_)] ?_
   refine reg_val (op := (Op.binOp BinOp.eql 87 (Operand.tmp 3) (Operand.const (Value.pointer none)) 87)) (ty := 4) (dst := some 4) (Value.bool t_.isNone) (by kernel_rfl) (fun ww => run_ptr_eql_R (p := t_) (by kernel_rfl) (by kernel_rfl) (by kernel_rfl) ww) ?_
   refine Ze [(0, .pointer t_), (4, .bool t_.isNone)] ?_
   change WpE _ _ c72_7 _ _ _
   refine Zc 4 t_.isNone c72_8 c72_12 (fun hb => ?_) (fun hb => ?_)
   · replace h := h.1 hb
     refine Zp c72_11 P1 [(2, .int .i64 2)] ?_
     refine wpE_ret (by kernel_rfl) ?_
     repeat (first | refine seqQ_ret ?_ | refine blockQ_ret ?_ | refine loopQ_ret ?_ | refine cutQ_ret ?_)
     exact retS (rs := [(ResultVar.tmp 2)]) (v := Value.int .i64 2) (by kernel_rfl) (⟨by kernel_rfl, trivial⟩) ⟨2, rfl, h⟩
   · replace h := h.2 hb
     refine wpE_skip (by kernel_rfl) ?_
     change WpE _ _ c72_13 _ _ _
     refine Zs c72_14 c72_23 ?_
     refine Zs c72_15 c72_17 ?_
     refine wpE_drawregion (id := 3) (ops := r72_15) (by kernel_rfl) (by kernel_rfl) (by kernel_rfl) ?_
     refine qreg_run P1 1 [(0, [], Value.pointer t_), (5, [], Value.pointer t_)] (by kernel_rfl) (by kernel_rfl) ?_
     obtain ⟨hp_6, h⟩ := h
     refine qreg_conv [(0, [], Value.pointer t_), (5, [], Value.pointer (some ⟨(pblk t_), (poff t_), none⟩))] (congrArg (fun pp => ([(0, [], Value.pointer t_), (5, [], Value.pointer pp)] : GEnv)) hp_6) ?_
     refine qreg_run P1 2 [(0, [], Value.pointer t_), (5, [], Value.pointer (some ⟨(pblk t_), (poff t_), none⟩)), (6, [], Value.pointer (some ⟨(pblk t_), (poff t_), none⟩))] (by kernel_rfl) (by kernel_rfl) ?_
     refine qreg_run P1 3 [(0, [], Value.pointer t_), (7, [], Value.pointer (some ⟨(pblk t_), (poff t_) + 12, none⟩))] (by kernel_rfl) (by kernel_rfl) ?_
     obtain ⟨v8, hc, h⟩ := h
     refine qreg_load1 (t := 3) (a := (Operand.tmp 7)) (b := (pblk t_)) (o := ((poff t_) + 12)) (ty := 3) (dst := some 8) (by kernel_rfl) (by kernel_rfl) (by kernel_rfl) hc ?_
     refine qreg_run P1 5 [(0, [], Value.pointer t_), (8, [], Value.int .i64 v8), (9, [], Value.pointer t_)] (by kernel_rfl) (by kernel_rfl) ?_
     obtain ⟨hp_7, h⟩ := h
     refine qreg_conv [(0, [], Value.pointer t_), (8, [], Value.int .i64 v8), (9, [], Value.pointer (some ⟨(pblk t_), (poff t_), none⟩))] (congrArg (fun pp => ([(0, [], Value.pointer t_), (8, [], Value.int .i64 v8), (9, [], Value.pointer pp)] : GEnv)) hp_7) ?_
     refine qreg_run P1 6 [(0, [], Value.pointer t_), (8, [], Value.int .i64 v8), (9, [], Value.pointer (some ⟨(pblk t_), (poff t_), none⟩)), (10, [], Value.pointer (some ⟨(pblk t_), (poff t_), none⟩))] (by kernel_rfl) (by kernel_rfl) ?_
     refine qreg_run P1 7 [(0, [], Value.pointer t_), (8, [], Value.int .i64 v8), (11, [], Value.pointer (some ⟨(pblk t_), (poff t_) + 11, none⟩))] (by kernel_rfl) (by kernel_rfl) ?_
     obtain ⟨v12, hc, h⟩ := h
     refine qreg_load1 (t := 134) (a := (Operand.tmp 11)) (b := (pblk t_)) (o := ((poff t_) + 11)) (ty := 134) (dst := some 12) (by kernel_rfl) (by kernel_rfl) (by kernel_rfl) hc ?_
     refine qreg_run P2 10 [(0, [], Value.pointer t_), (14, [], Value.bool (decide (v8 ≥ ((v12.len : Nat) : Int))))] (by kernel_rfl) (by kernel_rfl) ?_
     refine qreg_end [(0, Value.pointer t_), (14, Value.bool (decide (v8 ≥ ((v12.len : Nat) : Int))))] (by kernel_rfl) (by kernel_rfl) (fun w1 hw => ?_)
     replace h := h w1 hw
     clear hw
     change WpE _ _ c72_17 _ _ _
     refine Zc 14 (decide (v8 ≥ ((v12.len : Nat) : Int))) c72_18 c72_22 (fun hb => ?_) (fun hb => ?_)
     · replace h := h.1 hb
       refine Zp c72_21 P1 [(2, .int .i64 9)] ?_
       refine wpE_ret (by kernel_rfl) ?_
       repeat (first | refine seqQ_ret ?_ | refine blockQ_ret ?_ | refine loopQ_ret ?_ | refine cutQ_ret ?_)
       exact retS (rs := [(ResultVar.tmp 2)]) (v := Value.int .i64 9) (by kernel_rfl) (⟨by kernel_rfl, trivial⟩) ⟨9, rfl, h⟩
     · replace h := h.2 hb
       refine wpE_skip (by kernel_rfl) ?_
       change WpE _ _ c72_23 _ _ _
       refine Zt r72_24 c72_26 ?_
       refine Zn P1 1 [(15, [], .pointer t_)] ?_
       obtain ⟨hp_9, h⟩ := h
       refine Zv (fun pp => [(15, [], .pointer pp)]) hp_9 ?_
       refine Zn P1 2 [(15, [], .pointer (some ⟨(pblk t_), (poff t_), none⟩)), (16, [], .pointer (some ⟨(pblk t_), (poff t_), none⟩))] ?_
       refine Zn P1 3 [(15, [], .pointer (some ⟨(pblk t_), (poff t_), none⟩)), (17, [], .pointer (some ⟨(pblk t_), (poff t_) + 12, none⟩))] ?_
       obtain ⟨v18, hc, h⟩ := h
       refine Zl 3 17 (pblk t_) ((poff t_) + 12) 3 18 hc ?_
       refine Zn P3 7 [(19, [], .int .i64 (IntKind.i64.wrap (v18 + 1))), (21, [], .pointer (some ⟨(pblk t_), (poff t_) + 12, none⟩))] ?_
       obtain ⟨hc, h⟩ := h
       refine Zo 3 21 19 (pblk t_) ((poff t_) + 12) 1 [.int .i64 (IntKind.i64.wrap (v18 + 1))] hc (fun w2 hw => ?_)
       replace h := h w2 hw
       clear hw
       refine Ze [] ?_
       change WpE _ _ c72_26 _ _ _
       refine Zp c72_29 P1 [(2, .int .i64 0)] ?_
       refine wpE_ret (by kernel_rfl) ?_
       repeat (first | refine seqQ_ret ?_ | refine blockQ_ret ?_ | refine loopQ_ret ?_ | refine cutQ_ret ?_)
       exact retS (rs := [(ResultVar.tmp 2)]) (v := Value.int .i64 0) (by kernel_rfl) (⟨by kernel_rfl, trivial⟩) ⟨0, rfl, h⟩
 · rintro e w' ⟨v, rfl, r0, rfl, h⟩; exact ⟨r0, rfl, h⟩

/-! ### (*towpath/towpathref17.Task).Next (function 73) -/
def c73_0 := cb_ Try.f73
def c73_1 := cl_ c73_0
def r73_1 := co_ c73_1
def c73_3 := cr_ c73_0
def c73_4 := cl_ c73_3
def c73_5 := cl_ c73_4
def r73_5 := co_ c73_5
def c73_7 := cr_ c73_4
def c73_8 := cl_ c73_7
def c73_9 := cl_ c73_8
def r73_9 := co_ c73_9
def c73_11 := cr_ c73_8
def c73_12 := cr_ c73_7
def c73_13 := cr_ c73_3
def c73_14 := cl_ c73_13
def r73_14 := co_ c73_14
def c73_16 := cr_ c73_13

theorem S_towpathref17_Task_Next {t_ : Option Addr} {w : World} {R : Int → T_api_Req → Bool → World → Prop} (h : F_towpathref17_Task_Next t_ R w) : C_towpathref17_Task_Next t_ w R := by
 unfold F_towpathref17_Task_Next at h
 unfold C_towpathref17_Task_Next
 refine Calls.mono (calls_of_wpE (args := [Value.pointer t_]) (R := fun v w' => ∃ (r0 : Int) (r1 : T_api_Req) (r2 : Bool), v = Value.tuple #[Value.int .i64 r0, Value.agg #[Value.int .u8 r1.Kind, Value.int .i64 r1.From, Value.int .i64 r1.Number, Value.string r1.Write.Key, Value.string r1.Write.Val, Value.bool r1.Write.Drop, Value.string r1.Key, Value.string r1.End, sv_ r1.Beyond], Value.bool r2] ∧ R r0 r1 r2 w') Try.func73 (c := c73_0) (by kernel_rfl) 40 (by kernel_rfl) (by kernel_rfl) [(0, Value.pointer t_)] (by kernel_rfl) ?_) ?_
 · refine Zt r73_1 c73_3 ?_
   refine Zn P1 1 [(0, [], .pointer t_)] ?_
   refine Zw (some 3) (fun bb => pv_ bb) (Obj.cells ([.int .u8 0, .int .i64 0, .int .i64 0, .string ByteArray.empty, .string ByteArray.empty, .bool false, .string ByteArray.empty, .string ByteArray.empty, .slice none 0 0]).toArray ty_api_Req (0, 0)) (fun b_ w1 hb hw => ?_)
   replace h := h b_ w1 hb hw
   clear hb hw
   refine Zf P1 [(0, .pointer t_), (3, pv_ b_)] ?_
   change WpE _ _ c73_3 _ _ _
   refine Zs c73_4 c73_13 ?_
   refine wpE_seq_cut (x := c73_5) (y := c73_7) (by kernel_rfl) (fun l w => ∃ (t18 : Bool), l = [(0, Value.pointer t_), (3, pv_ b_), (18, Value.bool t18)] ∧ F_towpathref17_Task_Next_k0 t_ R b_ t18 w) ?_ ?_
   · refine wpE_drawregion (id := 1) (ops := r73_5) (by kernel_rfl) (by kernel_rfl) (by kernel_rfl) ?_
     refine qreg_run P1 1 [(0, [], Value.pointer t_), (3, [], pv_ b_), (5, [], Value.pointer t_)] (by kernel_rfl) (by kernel_rfl) ?_
     refine qreg_val (op := (Op.binOp BinOp.eql 87 (Operand.tmp 5) (Operand.const (Value.pointer none)) 87)) (ty := 4) (dst := some 6) (Value.bool t_.isNone) (by kernel_rfl) (fun ww => run_ptr_eql_R (p := t_) (by kernel_rfl) (by kernel_rfl) (by kernel_rfl) ww) ?_
     refine qreg_run P2 4 [(0, [], Value.pointer t_), (3, [], pv_ b_), (7, [], Value.bool t_.isNone), (8, [(7, false)], Value.pointer t_)] (by kernel_rfl) (by kernel_rfl) ?_
     refine qreg_split 7 t_.isNone (by kernel_rfl) (fun hb => ?_) (fun hb => ?_)
     · replace h := h.1 hb
       refine qreg_run [] 4 [(0, [], Value.pointer t_), (3, [], pv_ b_), (7, [], Value.bool true), (8, [], undef)] (by kernel_rfl) (by kernel_rfl) ?_
       refine qreg_run [.skip, .skip, .skip, .skip, .skip, .skip, .skip, .skip, .skip, .plain] 14 [(0, [], Value.pointer t_), (3, [], pv_ b_), (18, [], Value.bool true)] (by kernel_rfl) (by kernel_rfl) ?_
       refine qreg_end [(0, Value.pointer t_), (3, pv_ b_), (18, Value.bool true)] (by kernel_rfl) (by kernel_rfl) (fun w6 hw => ?_)
       replace h := h w6 hw
       clear hw
       exact ⟨[(0, Value.pointer t_), (3, pv_ b_), (18, Value.bool true)], Sub.mk (by kernel_rfl), true, rfl, h⟩
     · replace h := h.2 hb
       refine qreg_run [] 4 [(0, [], Value.pointer t_), (3, [], pv_ b_), (7, [], Value.bool false), (8, [], Value.pointer t_)] (by kernel_rfl) (by kernel_rfl) ?_
       refine qreg_run [] 4 [(0, [], Value.pointer t_), (3, [], pv_ b_), (7, [], Value.bool false), (8, [], Value.pointer t_)] (by kernel_rfl) (by kernel_rfl) ?_
       obtain ⟨hp_12, h⟩ := h
       refine qreg_conv [(0, [], Value.pointer t_), (3, [], pv_ b_), (7, [], Value.bool false), (8, [], Value.pointer (some ⟨(pblk t_), (poff t_), none⟩))] (congrArg (fun pp => ([(0, [], Value.pointer t_), (3, [], pv_ b_), (7, [], Value.bool false), (8, [], Value.pointer pp)] : GEnv)) hp_12) ?_
       refine qreg_run [.sure] 5 [(0, [], Value.pointer t_), (3, [], pv_ b_), (7, [], Value.bool false), (8, [], Value.pointer (some ⟨(pblk t_), (poff t_), none⟩)), (9, [], Value.pointer (some ⟨(pblk t_), (poff t_), none⟩))] (by kernel_rfl) (by kernel_rfl) ?_
       refine qreg_run [.sure] 6 [(0, [], Value.pointer t_), (3, [], pv_ b_), (7, [], Value.bool false), (10, [], Value.pointer (some ⟨(pblk t_), (poff t_) + 12, none⟩))] (by kernel_rfl) (by kernel_rfl) ?_
       obtain ⟨v11, hc, h⟩ := h
       refine qreg_load1 (t := 3) (a := (Operand.tmp 10)) (b := (pblk t_)) (o := ((poff t_) + 12)) (ty := 3) (dst := some 11) (by kernel_rfl) (by kernel_rfl) (by kernel_rfl) hc ?_
       refine qreg_run [.sure] 8 [(0, [], Value.pointer t_), (3, [], pv_ b_), (7, [], Value.bool false), (11, [], Value.int .i64 v11), (12, [], Value.pointer t_)] (by kernel_rfl) (by kernel_rfl) ?_
       obtain ⟨hp_13, h⟩ := h
       refine qreg_conv [(0, [], Value.pointer t_), (3, [], pv_ b_), (7, [], Value.bool false), (11, [], Value.int .i64 v11), (12, [], Value.pointer (some ⟨(pblk t_), (poff t_), none⟩))] (congrArg (fun pp => ([(0, [], Value.pointer t_), (3, [], pv_ b_), (7, [], Value.bool false), (11, [], Value.int .i64 v11), (12, [], Value.pointer pp)] : GEnv)) hp_13) ?_
       refine qreg_run [.sure] 9 [(0, [], Value.pointer t_), (3, [], pv_ b_), (7, [], Value.bool false), (11, [], Value.int .i64 v11), (12, [], Value.pointer (some ⟨(pblk t_), (poff t_), none⟩)), (13, [], Value.pointer (some ⟨(pblk t_), (poff t_), none⟩))] (by kernel_rfl) (by kernel_rfl) ?_
       refine qreg_run [.sure] 10 [(0, [], Value.pointer t_), (3, [], pv_ b_), (7, [], Value.bool false), (11, [], Value.int .i64 v11), (14, [], Value.pointer (some ⟨(pblk t_), (poff t_) + 11, none⟩))] (by kernel_rfl) (by kernel_rfl) ?_
       obtain ⟨v15, hc, h⟩ := h
       refine qreg_load1 (t := 134) (a := (Operand.tmp 14)) (b := (pblk t_)) (o := ((poff t_) + 11)) (ty := 134) (dst := some 15) (by kernel_rfl) (by kernel_rfl) (by kernel_rfl) hc ?_
       refine qreg_run [.sure, .sure, .plain] 14 [(0, [], Value.pointer t_), (3, [], pv_ b_), (18, [], Value.bool (decide (v11 ≥ ((v15.len : Nat) : Int))))] (by kernel_rfl) (by kernel_rfl) ?_
       refine qreg_end [(0, Value.pointer t_), (3, pv_ b_), (18, Value.bool (decide (v11 ≥ ((v15.len : Nat) : Int))))] (by kernel_rfl) (by kernel_rfl) (fun w7 hw => ?_)
       replace h := h w7 hw
       clear hw
       exact ⟨[(0, Value.pointer t_), (3, pv_ b_), (18, Value.bool (decide (v11 ≥ ((v15.len : Nat) : Int))))], Sub.mk (by kernel_rfl), (decide (v11 ≥ ((v15.len : Nat) : Int))), rfl, h⟩
   · rintro _ w2 ⟨t18, rfl, h⟩
     unfold F_towpathref17_Task_Next_k0 at h
     refine Zc 18 t18 c73_8 c73_12 (fun hb => ?_) (fun hb => ?_)
     · replace h := h.1 hb
       refine Zt r73_9 c73_11 ?_
       refine Zn P2 2 [(2, [], .int .i64 0), (3, [], pv_ b_), (19, [], .agg #[.int .u8 0, .int .i64 0, .int .i64 0, .string ByteArray.empty, .string ByteArray.empty, .bool false, .string ByteArray.empty, .string ByteArray.empty, .slice none 0 0])] ?_
       obtain ⟨hc, h⟩ := h
       refine Zo 80 3 19 b_ 0 9 [.int .u8 0, .int .i64 0, .int .i64 0, .string ByteArray.empty, .string ByteArray.empty, .bool false, .string ByteArray.empty, .string ByteArray.empty, .slice none 0 0] hc (fun w3 hw => ?_)
       replace h := h w3 hw
       clear hw
       refine Zf P1 [(2, .int .i64 0), (3, pv_ b_), (4, .bool false)] ?_
       change WpE _ _ c73_11 _ _ _
       refine wpE_ret (by kernel_rfl) ?_
       obtain ⟨res, hc_res, h⟩ := h
       repeat (first | refine seqQ_ret ?_ | refine blockQ_ret ?_ | refine loopQ_ret ?_ | refine cutQ_ret ?_)
       exact retT (rs := [(ResultVar.tmp 2), (ResultVar.cell 3 80), (ResultVar.tmp 4)]) (vs := [Value.int .i64 0, Value.agg #[Value.int .u8 res.Kind, Value.int .i64 res.From, Value.int .i64 res.Number, Value.string res.Write.Key, Value.string res.Write.Val, Value.bool res.Write.Drop, Value.string res.Key, Value.string res.End, sv_ res.Beyond], Value.bool false]) (by kernel_rfl) (⟨by kernel_rfl, ⟨b_, 0, [Value.int .u8 res.Kind, Value.int .i64 res.From, Value.int .i64 res.Number, Value.string res.Write.Key, Value.string res.Write.Val, Value.bool res.Write.Drop, Value.string res.Key, Value.string res.End, sv_ res.Beyond], by kernel_rfl, hc_res, (sizeP_of (k := 9) (by kernel_rfl) (by kernel_rfl)), .inl ⟨by kernel_rfl, rfl⟩, ⟨by kernel_rfl, trivial⟩⟩⟩) (by kernel_rfl) ⟨0, res, false, rfl, h⟩
     · replace h := h.2 hb
       refine wpE_skip (by kernel_rfl) ?_
       change WpE _ _ c73_13 _ _ _
       refine Zs c73_14 c73_16 ?_
       refine wpE_tailregion (id := 3) (ops := r73_14) (by kernel_rfl) 21 (by kernel_rfl) (by kernel_rfl) (fun w4 hw => ?_)
       replace h := h w4 hw
       clear hw
       refine qreg_run P1 1 [(0, [], Value.pointer t_), (3, [], pv_ b_), (20, [], Value.pointer t_)] (by kernel_rfl) (by kernel_rfl) ?_
       obtain ⟨hp_6, h⟩ := h
       refine qreg_conv [(0, [], Value.pointer t_), (3, [], pv_ b_), (20, [], Value.pointer (some ⟨(pblk t_), (poff t_), none⟩))] (congrArg (fun pp => ([(0, [], Value.pointer t_), (3, [], pv_ b_), (20, [], Value.pointer pp)] : GEnv)) hp_6) ?_
       refine qreg_run P1 2 [(0, [], Value.pointer t_), (3, [], pv_ b_), (20, [], Value.pointer (some ⟨(pblk t_), (poff t_), none⟩)), (21, [], Value.pointer (some ⟨(pblk t_), (poff t_), none⟩))] (by kernel_rfl) (by kernel_rfl) ?_
       refine qreg_run P1 3 [(0, [], Value.pointer t_), (3, [], pv_ b_), (22, [], Value.pointer (some ⟨(pblk t_), (poff t_) + 10, none⟩))] (by kernel_rfl) (by kernel_rfl) ?_
       obtain ⟨v23, hc, h⟩ := h
       refine qreg_load1 (t := 23) (a := (Operand.tmp 22)) (b := (pblk t_)) (o := ((poff t_) + 10)) (ty := 23) (dst := some 23) (by kernel_rfl) (by kernel_rfl) (by kernel_rfl) hc ?_
       refine qreg_run P1 5 [(0, [], Value.pointer t_), (3, [], pv_ b_), (23, [], sv_ v23), (24, [], Value.pointer t_)] (by kernel_rfl) (by kernel_rfl) ?_
       obtain ⟨hp_7, h⟩ := h
       refine qreg_conv [(0, [], Value.pointer t_), (3, [], pv_ b_), (23, [], sv_ v23), (24, [], Value.pointer (some ⟨(pblk t_), (poff t_), none⟩))] (congrArg (fun pp => ([(0, [], Value.pointer t_), (3, [], pv_ b_), (23, [], sv_ v23), (24, [], Value.pointer pp)] : GEnv)) hp_7) ?_
       refine qreg_run P1 6 [(0, [], Value.pointer t_), (3, [], pv_ b_), (23, [], sv_ v23), (24, [], Value.pointer (some ⟨(pblk t_), (poff t_), none⟩)), (25, [], Value.pointer (some ⟨(pblk t_), (poff t_), none⟩))] (by kernel_rfl) (by kernel_rfl) ?_
       refine qreg_run P1 7 [(0, [], Value.pointer t_), (3, [], pv_ b_), (23, [], sv_ v23), (26, [], Value.pointer (some ⟨(pblk t_), (poff t_) + 12, none⟩))] (by kernel_rfl) (by kernel_rfl) ?_
       obtain ⟨v27, hc, h⟩ := h
       refine qreg_load1 (t := 3) (a := (Operand.tmp 26)) (b := (pblk t_)) (o := ((poff t_) + 12)) (ty := 3) (dst := some 27) (by kernel_rfl) (by kernel_rfl) (by kernel_rfl) hc ?_
       refine qreg_run [] 8 [(0, [], Value.pointer t_), (3, [], pv_ b_), (23, [], sv_ v23), (27, [], Value.int .i64 v27)] (by kernel_rfl) (by kernel_rfl) ?_
       obtain ⟨hp_8, h⟩ := h
       refine qreg_conv [(0, [], Value.pointer t_), (3, [], pv_ b_), (23, [], Value.slice (some ⟨(pblk v23.ptr), (poff v23.ptr), none⟩) v23.len v23.cap), (27, [], Value.int .i64 v27)] (congrArg (fun pp => ([(0, [], Value.pointer t_), (3, [], pv_ b_), (23, [], Value.slice pp v23.len v23.cap), (27, [], Value.int .i64 v27)] : GEnv)) hp_8) ?_
       obtain ⟨h0, h1, h⟩ := h
       refine qreg_indexS1 (t := 23) (e := 3) (x := (Operand.tmp 23)) (ix := (Operand.tmp 27)) (b := (pblk v23.ptr)) (o := (poff v23.ptr)) (l := v23.len) (c := v23.cap) (k := .i64) (j := v27) (ty := 0) (dst := some 28) (by kernel_rfl) (by kernel_rfl) (by kernel_rfl) (by kernel_rfl) (by kernel_rfl) h0 h1 ?_
       refine qreg_run [] 9 [(0, [], Value.pointer t_), (3, [], pv_ b_), (28, [], Value.pointer (some ⟨(pblk v23.ptr), (poff v23.ptr) + v27.toNat, none⟩))] (by kernel_rfl) (by kernel_rfl) ?_
       obtain ⟨v29, hc, h⟩ := h
       refine qreg_load1 (t := 3) (a := (Operand.tmp 28)) (b := (pblk v23.ptr)) (o := ((poff v23.ptr) + v27.toNat)) (ty := 3) (dst := some 29) (by kernel_rfl) (by kernel_rfl) (by kernel_rfl) hc ?_
       refine qreg_run P1 11 [(0, [], Value.pointer t_), (3, [], pv_ b_), (29, [], Value.int .i64 v29), (30, [], Value.pointer t_)] (by kernel_rfl) (by kernel_rfl) ?_
       obtain ⟨hp_9, h⟩ := h
       refine qreg_conv [(0, [], Value.pointer t_), (3, [], pv_ b_), (29, [], Value.int .i64 v29), (30, [], Value.pointer (some ⟨(pblk t_), (poff t_), none⟩))] (congrArg (fun pp => ([(0, [], Value.pointer t_), (3, [], pv_ b_), (29, [], Value.int .i64 v29), (30, [], Value.pointer pp)] : GEnv)) hp_9) ?_
       refine qreg_run P1 12 [(0, [], Value.pointer t_), (3, [], pv_ b_), (29, [], Value.int .i64 v29), (30, [], Value.pointer (some ⟨(pblk t_), (poff t_), none⟩)), (31, [], Value.pointer (some ⟨(pblk t_), (poff t_), none⟩))] (by kernel_rfl) (by kernel_rfl) ?_
       refine qreg_run P1 13 [(0, [], Value.pointer t_), (3, [], pv_ b_), (29, [], Value.int .i64 v29), (32, [], Value.pointer (some ⟨(pblk t_), (poff t_) + 11, none⟩))] (by kernel_rfl) (by kernel_rfl) ?_
       obtain ⟨v33, hc, h⟩ := h
       refine qreg_load1 (t := 134) (a := (Operand.tmp 32)) (b := (pblk t_)) (o := ((poff t_) + 11)) (ty := 134) (dst := some 33) (by kernel_rfl) (by kernel_rfl) (by kernel_rfl) hc ?_
       refine qreg_run P1 15 [(3, [], pv_ b_), (29, [], Value.int .i64 v29), (33, [], sv_ v33), (34, [], Value.pointer t_)] (by kernel_rfl) (by kernel_rfl) ?_
       obtain ⟨hp_10, h⟩ := h
       refine qreg_conv [(3, [], pv_ b_), (29, [], Value.int .i64 v29), (33, [], sv_ v33), (34, [], Value.pointer (some ⟨(pblk t_), (poff t_), none⟩))] (congrArg (fun pp => ([(3, [], pv_ b_), (29, [], Value.int .i64 v29), (33, [], sv_ v33), (34, [], Value.pointer pp)] : GEnv)) hp_10) ?_
       refine qreg_run P1 16 [(3, [], pv_ b_), (29, [], Value.int .i64 v29), (33, [], sv_ v33), (34, [], Value.pointer (some ⟨(pblk t_), (poff t_), none⟩)), (35, [], Value.pointer (some ⟨(pblk t_), (poff t_), none⟩))] (by kernel_rfl) (by kernel_rfl) ?_
       refine qreg_run P1 17 [(3, [], pv_ b_), (29, [], Value.int .i64 v29), (33, [], sv_ v33), (36, [], Value.pointer (some ⟨(pblk t_), (poff t_) + 12, none⟩))] (by kernel_rfl) (by kernel_rfl) ?_
       obtain ⟨v37, hc, h⟩ := h
       refine qreg_load1 (t := 3) (a := (Operand.tmp 36)) (b := (pblk t_)) (o := ((poff t_) + 12)) (ty := 3) (dst := some 37) (by kernel_rfl) (by kernel_rfl) (by kernel_rfl) hc ?_
       refine qreg_run [] 18 [(3, [], pv_ b_), (29, [], Value.int .i64 v29), (33, [], sv_ v33), (37, [], Value.int .i64 v37)] (by kernel_rfl) (by kernel_rfl) ?_
       obtain ⟨hp_11, h⟩ := h
       refine qreg_conv [(3, [], pv_ b_), (29, [], Value.int .i64 v29), (33, [], Value.slice (some ⟨(pblk v33.ptr), (poff v33.ptr), none⟩) v33.len v33.cap), (37, [], Value.int .i64 v37)] (congrArg (fun pp => ([(3, [], pv_ b_), (29, [], Value.int .i64 v29), (33, [], Value.slice pp v33.len v33.cap), (37, [], Value.int .i64 v37)] : GEnv)) hp_11) ?_
       obtain ⟨h0, h1, h⟩ := h
       refine qreg_indexS (t := 134) (e := 80) (x := (Operand.tmp 33)) (ix := (Operand.tmp 37)) (b := (pblk v33.ptr)) (o := (poff v33.ptr)) (l := v33.len) (c := v33.cap) (k := .i64) (j := v37) (ty := 0) (dst := some 38) (sz := 9) (by kernel_rfl) (by kernel_rfl) (by kernel_rfl) (by kernel_rfl) (by kernel_rfl) h0 h1 ?_
       refine qreg_run [] 19 [(3, [], pv_ b_), (29, [], Value.int .i64 v29), (38, [], Value.pointer (some ⟨(pblk v33.ptr), (poff v33.ptr) + v37.toNat * 9, none⟩))] (by kernel_rfl) (by kernel_rfl) ?_
       obtain ⟨v39, hc, h⟩ := h
       refine qreg_loadN (t := 80) (a := (Operand.tmp 38)) (b := (pblk v33.ptr)) (o := ((poff v33.ptr) + v37.toNat * 9)) (ty := 80) (dst := some 39) [Value.int .u8 v39.Kind, Value.int .i64 v39.From, Value.int .i64 v39.Number, Value.string v39.Write.Key, Value.string v39.Write.Val, Value.bool v39.Write.Drop, Value.string v39.Key, Value.string v39.End, sv_ v39.Beyond] (by kernel_rfl) (by kernel_rfl) (by kernel_rfl) (k := 9) (by kernel_rfl) (by kernel_rfl) hc ?_
       refine qreg_run P1 21 [(2, [], Value.int .i64 v29), (3, [], pv_ b_), (39, [], Value.agg #[Value.int .u8 v39.Kind, Value.int .i64 v39.From, Value.int .i64 v39.Number, Value.string v39.Write.Key, Value.string v39.Write.Val, Value.bool v39.Write.Drop, Value.string v39.Key, Value.string v39.End, sv_ v39.Beyond])] (by kernel_rfl) (by kernel_rfl) ?_
       refine qreg_tail (by kernel_rfl) ?_
       refine Zn [] 21 [(2, [], .int .i64 v29), (3, [], pv_ b_), (39, [], .agg #[.int .u8 v39.Kind, .int .i64 v39.From, .int .i64 v39.Number, .string v39.Write.Key, .string v39.Write.Val, .bool v39.Write.Drop, .string v39.Key, .string v39.End, sv_ v39.Beyond])] ?_
       obtain ⟨hc, h⟩ := h
       refine Zo 80 3 39 b_ 0 9 [.int .u8 v39.Kind, .int .i64 v39.From, .int .i64 v39.Number, .string v39.Write.Key, .string v39.Write.Val, .bool v39.Write.Drop, .string v39.Key, .string v39.End, sv_ v39.Beyond] hc (fun w5 hw => ?_)
       replace h := h w5 hw
       clear hw
       refine Zf P1 [(2, .int .i64 v29), (3, pv_ b_), (4, .bool true)] ?_
       change WpE _ _ c73_16 _ _ _
       refine wpE_ret (by kernel_rfl) ?_
       obtain ⟨res1, hc_res1, h⟩ := h
       repeat (first | refine seqQ_ret ?_ | refine blockQ_ret ?_ | refine loopQ_ret ?_ | refine cutQ_ret ?_)
       exact retT (rs := [(ResultVar.tmp 2), (ResultVar.cell 3 80), (ResultVar.tmp 4)]) (vs := [Value.int .i64 v29, Value.agg #[Value.int .u8 res1.Kind, Value.int .i64 res1.From, Value.int .i64 res1.Number, Value.string res1.Write.Key, Value.string res1.Write.Val, Value.bool res1.Write.Drop, Value.string res1.Key, Value.string res1.End, sv_ res1.Beyond], Value.bool true]) (by kernel_rfl) (⟨by kernel_rfl, ⟨b_, 0, [Value.int .u8 res1.Kind, Value.int .i64 res1.From, Value.int .i64 res1.Number, Value.string res1.Write.Key, Value.string res1.Write.Val, Value.bool res1.Write.Drop, Value.string res1.Key, Value.string res1.End, sv_ res1.Beyond], by kernel_rfl, hc_res1, (sizeP_of (k := 9) (by kernel_rfl) (by kernel_rfl)), .inl ⟨by kernel_rfl, rfl⟩, ⟨by kernel_rfl, trivial⟩⟩⟩) (by kernel_rfl) ⟨v29, res1, true, rfl, h⟩
 · rintro e w' ⟨v, rfl, r0, r1, r2, rfl, h⟩; exact ⟨r0, r1, r2, rfl, h⟩

/-! ### (*towpath/towpathref17.Task).All (function 74) -/
def c74_0 := cb_ Try.f74
def c74_3 := cr_ c74_0
def c74_4 := cl_ c74_3
def r74_4 := co_ c74_4
def c74_6 := cr_ c74_3

theorem S_towpathref17_Task_All {t_ : Option Addr} {w : World} {R : Bool → World → Prop} (h : F_towpathref17_Task_All t_ R w) : C_towpathref17_Task_All t_ w R := by
 unfold F_towpathref17_Task_All at h
 unfold C_towpathref17_Task_All
 refine Calls.mono (calls_of_wpE (args := [Value.pointer t_]) (R := fun v w' => ∃ (r0 : Bool), v = Value.bool r0 ∧ R r0 w') Try.func74 (c := c74_0) (by kernel_rfl) 35 (by kernel_rfl) (by kernel_rfl) [(0, Value.pointer t_)] (by kernel_rfl) ?_) ?_
 · refine Zp c74_3 P1 [(0, .pointer t_)] ?_
   refine Zs c74_4 c74_6 ?_
   refine wpE_drawregion (id := 1) (ops := r74_4) (by kernel_rfl) (by kernel_rfl) (by kernel_rfl) ?_
   refine qreg_run P1 1 [(0, [], Value.pointer t_), (3, [], Value.pointer t_)] (by kernel_rfl) (by kernel_rfl) ?_
   refine qreg_val (op := (Op.binOp BinOp.neq 87 (Operand.tmp 3) (Operand.const (Value.pointer none)) 87)) (ty := 4) (dst := some 4) (Value.bool (!t_.isNone)) (by kernel_rfl) (fun ww => run_ptr_neq_R (p := t_) (by kernel_rfl) (by kernel_rfl) (by kernel_rfl) ww) ?_
   refine qreg_run P2 4 [(0, [], Value.pointer t_), (5, [], Value.bool (!t_.isNone)), (6, [(5, true)], Value.pointer t_)] (by kernel_rfl) (by kernel_rfl) ?_
   refine qreg_split 5 (!t_.isNone) (by kernel_rfl) (fun hb => ?_) (fun hb => ?_)
   · replace h := h.1 hb
     refine qreg_run [] 4 [(0, [], Value.pointer t_), (5, [], Value.bool true), (6, [], Value.pointer t_)] (by kernel_rfl) (by kernel_rfl) ?_
     refine qreg_run [] 4 [(0, [], Value.pointer t_), (5, [], Value.bool true), (6, [], Value.pointer t_)] (by kernel_rfl) (by kernel_rfl) ?_
     obtain ⟨hp_0, h⟩ := h
     refine qreg_conv [(0, [], Value.pointer t_), (5, [], Value.bool true), (6, [], Value.pointer (some ⟨(pblk t_), (poff t_), none⟩))] (congrArg (fun pp => ([(0, [], Value.pointer t_), (5, [], Value.bool true), (6, [], Value.pointer pp)] : GEnv)) hp_0) ?_
     refine qreg_run [.sure] 5 [(0, [], Value.pointer t_), (5, [], Value.bool true), (6, [], Value.pointer (some ⟨(pblk t_), (poff t_), none⟩)), (7, [], Value.pointer (some ⟨(pblk t_), (poff t_), none⟩))] (by kernel_rfl) (by kernel_rfl) ?_
     refine qreg_run [.sure] 6 [(0, [], Value.pointer t_), (5, [], Value.bool true), (8, [], Value.pointer (some ⟨(pblk t_), (poff t_) + 8, none⟩))] (by kernel_rfl) (by kernel_rfl) ?_
     obtain ⟨v9, hc, h⟩ := h
     refine qreg_load1 (t := 4) (a := (Operand.tmp 8)) (b := (pblk t_)) (o := ((poff t_) + 8)) (ty := 4) (dst := some 9) (by kernel_rfl) (by kernel_rfl) (by kernel_rfl) hc ?_
     refine qreg_run P3 10 [(0, [], Value.pointer t_), (11, [], Value.bool v9), (12, [(11, true)], Value.pointer t_)] (by kernel_rfl) (by kernel_rfl) ?_
     refine qreg_split 11 v9 (by kernel_rfl) (fun hb => ?_) (fun hb => ?_)
     · replace h := h.1 hb
       refine qreg_run [] 10 [(0, [], Value.pointer t_), (11, [], Value.bool true), (12, [], Value.pointer t_)] (by kernel_rfl) (by kernel_rfl) ?_
       refine qreg_run [] 10 [(0, [], Value.pointer t_), (11, [], Value.bool true), (12, [], Value.pointer t_)] (by kernel_rfl) (by kernel_rfl) ?_
       obtain ⟨hp_1, h⟩ := h
       refine qreg_conv [(0, [], Value.pointer t_), (11, [], Value.bool true), (12, [], Value.pointer (some ⟨(pblk t_), (poff t_), none⟩))] (congrArg (fun pp => ([(0, [], Value.pointer t_), (11, [], Value.bool true), (12, [], Value.pointer pp)] : GEnv)) hp_1) ?_
       refine qreg_run [.sure] 11 [(0, [], Value.pointer t_), (11, [], Value.bool true), (12, [], Value.pointer (some ⟨(pblk t_), (poff t_), none⟩)), (13, [], Value.pointer (some ⟨(pblk t_), (poff t_), none⟩))] (by kernel_rfl) (by kernel_rfl) ?_
       refine qreg_run [.sure] 12 [(0, [], Value.pointer t_), (11, [], Value.bool true), (14, [], Value.pointer (some ⟨(pblk t_), (poff t_) + 12, none⟩))] (by kernel_rfl) (by kernel_rfl) ?_
       obtain ⟨v15, hc, h⟩ := h
       refine qreg_load1 (t := 3) (a := (Operand.tmp 14)) (b := (pblk t_)) (o := ((poff t_) + 12)) (ty := 3) (dst := some 15) (by kernel_rfl) (by kernel_rfl) (by kernel_rfl) hc ?_
       refine qreg_run [.sure] 14 [(0, [], Value.pointer t_), (11, [], Value.bool true), (15, [], Value.int .i64 v15), (16, [], Value.pointer t_)] (by kernel_rfl) (by kernel_rfl) ?_
       obtain ⟨hp_2, h⟩ := h
       refine qreg_conv [(0, [], Value.pointer t_), (11, [], Value.bool true), (15, [], Value.int .i64 v15), (16, [], Value.pointer (some ⟨(pblk t_), (poff t_), none⟩))] (congrArg (fun pp => ([(0, [], Value.pointer t_), (11, [], Value.bool true), (15, [], Value.int .i64 v15), (16, [], Value.pointer pp)] : GEnv)) hp_2) ?_
       refine qreg_run [.sure] 15 [(0, [], Value.pointer t_), (11, [], Value.bool true), (15, [], Value.int .i64 v15), (16, [], Value.pointer (some ⟨(pblk t_), (poff t_), none⟩)), (17, [], Value.pointer (some ⟨(pblk t_), (poff t_), none⟩))] (by kernel_rfl) (by kernel_rfl) ?_
       refine qreg_run [.sure] 16 [(0, [], Value.pointer t_), (11, [], Value.bool true), (15, [], Value.int .i64 v15), (18, [], Value.pointer (some ⟨(pblk t_), (poff t_) + 11, none⟩))] (by kernel_rfl) (by kernel_rfl) ?_
       obtain ⟨v19, hc, h⟩ := h
       refine qreg_load1 (t := 134) (a := (Operand.tmp 18)) (b := (pblk t_)) (o := ((poff t_) + 11)) (ty := 134) (dst := some 19) (by kernel_rfl) (by kernel_rfl) (by kernel_rfl) hc ?_
       refine qreg_run [.sure, .sure, .plain, .plain, .plain] 22 [(0, [], Value.pointer t_), (23, [], Value.bool (v15 == ((v19.len : Nat) : Int))), (24, [(23, true)], Value.pointer t_)] (by kernel_rfl) (by kernel_rfl) ?_
       refine qreg_split 23 (v15 == ((v19.len : Nat) : Int)) (by kernel_rfl) (fun hb => ?_) (fun hb => ?_)
       · replace h := h.1 hb
         refine qreg_run [] 22 [(0, [], Value.pointer t_), (23, [], Value.bool true), (24, [], Value.pointer t_)] (by kernel_rfl) (by kernel_rfl) ?_
         refine qreg_run [] 22 [(0, [], Value.pointer t_), (23, [], Value.bool true), (24, [], Value.pointer t_)] (by kernel_rfl) (by kernel_rfl) ?_
         obtain ⟨hp_3, h⟩ := h
         refine qreg_conv [(0, [], Value.pointer t_), (23, [], Value.bool true), (24, [], Value.pointer (some ⟨(pblk t_), (poff t_), none⟩))] (congrArg (fun pp => ([(0, [], Value.pointer t_), (23, [], Value.bool true), (24, [], Value.pointer pp)] : GEnv)) hp_3) ?_
         refine qreg_run [.sure] 23 [(0, [], Value.pointer t_), (23, [], Value.bool true), (24, [], Value.pointer (some ⟨(pblk t_), (poff t_), none⟩)), (25, [], Value.pointer (some ⟨(pblk t_), (poff t_), none⟩))] (by kernel_rfl) (by kernel_rfl) ?_
         refine qreg_run [.sure] 24 [(0, [], Value.pointer t_), (23, [], Value.bool true), (26, [], Value.pointer (some ⟨(pblk t_), (poff t_) + 13, none⟩))] (by kernel_rfl) (by kernel_rfl) ?_
         obtain ⟨v27, hc, h⟩ := h
         refine qreg_load1 (t := 101) (a := (Operand.tmp 26)) (b := (pblk t_)) (o := ((poff t_) + 13)) (ty := 101) (dst := some 27) (by kernel_rfl) (by kernel_rfl) (by kernel_rfl) hc ?_
         refine qreg_run [.sure, .sure] 27 [(23, [], Value.bool true), (28, [], Value.int .i64 ((v27.len : Nat) : Int)), (29, [], Value.pointer t_)] (by kernel_rfl) (by kernel_rfl) ?_
         obtain ⟨hp_4, h⟩ := h
         refine qreg_conv [(23, [], Value.bool true), (28, [], Value.int .i64 ((v27.len : Nat) : Int)), (29, [], Value.pointer (some ⟨(pblk t_), (poff t_), none⟩))] (congrArg (fun pp => ([(23, [], Value.bool true), (28, [], Value.int .i64 ((v27.len : Nat) : Int)), (29, [], Value.pointer pp)] : GEnv)) hp_4) ?_
         refine qreg_run [.sure] 28 [(23, [], Value.bool true), (28, [], Value.int .i64 ((v27.len : Nat) : Int)), (29, [], Value.pointer (some ⟨(pblk t_), (poff t_), none⟩)), (30, [], Value.pointer (some ⟨(pblk t_), (poff t_), none⟩))] (by kernel_rfl) (by kernel_rfl) ?_
         refine qreg_run [.sure] 29 [(23, [], Value.bool true), (28, [], Value.int .i64 ((v27.len : Nat) : Int)), (31, [], Value.pointer (some ⟨(pblk t_), (poff t_) + 12, none⟩))] (by kernel_rfl) (by kernel_rfl) ?_
         obtain ⟨v32, hc, h⟩ := h
         refine qreg_load1 (t := 3) (a := (Operand.tmp 31)) (b := (pblk t_)) (o := ((poff t_) + 12)) (ty := 3) (dst := some 32) (by kernel_rfl) (by kernel_rfl) (by kernel_rfl) hc ?_
         refine qreg_run [.sure, .plain, .plain] 33 [(2, [], Value.bool (((v27.len : Nat) : Int) == v32))] (by kernel_rfl) (by kernel_rfl) ?_
         refine qreg_end [(2, Value.bool (((v27.len : Nat) : Int) == v32))] (by kernel_rfl) (by kernel_rfl) (fun w1 hw => ?_)
         replace h := h w1 hw
         clear hw
         change WpE _ _ c74_6 _ _ _
         refine wpE_ret (by kernel_rfl) ?_
         repeat (first | refine seqQ_ret ?_ | refine blockQ_ret ?_ | refine loopQ_ret ?_ | refine cutQ_ret ?_)
         exact retS (rs := [(ResultVar.tmp 2)]) (v := Value.bool (((v27.len : Nat) : Int) == v32)) (by kernel_rfl) (⟨by kernel_rfl, trivial⟩) ⟨(((v27.len : Nat) : Int) == v32), rfl, h⟩
       · replace h := h.2 hb
         refine qreg_run [] 22 [(0, [], Value.pointer t_), (23, [], Value.bool false), (24, [], undef)] (by kernel_rfl) (by kernel_rfl) ?_
         refine qreg_run [.skip, .skip, .skip, .skip, .skip, .skip, .skip, .skip, .skip, .plain, .plain] 33 [(2, [], Value.bool false)] (by kernel_rfl) (by kernel_rfl) ?_
         refine qreg_end [(2, Value.bool false)] (by kernel_rfl) (by kernel_rfl) (fun w2 hw => ?_)
         replace h := h w2 hw
         clear hw
         change WpE _ _ c74_6 _ _ _
         refine wpE_ret (by kernel_rfl) ?_
         repeat (first | refine seqQ_ret ?_ | refine blockQ_ret ?_ | refine loopQ_ret ?_ | refine cutQ_ret ?_)
         exact retS (rs := [(ResultVar.tmp 2)]) (v := Value.bool false) (by kernel_rfl) (⟨by kernel_rfl, trivial⟩) ⟨false, rfl, h⟩
     · replace h := h.2 hb
       refine qreg_run [] 10 [(0, [], Value.pointer t_), (11, [], Value.bool false), (12, [], undef)] (by kernel_rfl) (by kernel_rfl) ?_
       refine qreg_run [.skip, .skip, .skip, .skip, .skip, .skip, .skip, .skip, .skip, .plain, .plain, .skip, .skip, .skip, .skip, .skip, .skip, .skip, .skip, .skip, .skip, .plain, .plain] 33 [(2, [], Value.bool false)] (by kernel_rfl) (by kernel_rfl) ?_
       refine qreg_end [(2, Value.bool false)] (by kernel_rfl) (by kernel_rfl) (fun w3 hw => ?_)
       replace h := h w3 hw
       clear hw
       change WpE _ _ c74_6 _ _ _
       refine wpE_ret (by kernel_rfl) ?_
       repeat (first | refine seqQ_ret ?_ | refine blockQ_ret ?_ | refine loopQ_ret ?_ | refine cutQ_ret ?_)
       exact retS (rs := [(ResultVar.tmp 2)]) (v := Value.bool false) (by kernel_rfl) (⟨by kernel_rfl, trivial⟩) ⟨false, rfl, h⟩
   · replace h := h.2 hb
     refine qreg_run [] 4 [(0, [], Value.pointer t_), (5, [], Value.bool false), (6, [], undef)] (by kernel_rfl) (by kernel_rfl) ?_
     refine qreg_run [.skip, .skip, .skip, .plain, .plain, .skip, .skip, .skip, .skip, .skip, .skip, .skip, .skip, .skip, .skip, .plain, .plain, .skip, .skip, .skip, .skip, .skip, .skip, .skip, .skip, .skip, .skip, .plain, .plain] 33 [(2, [], Value.bool false)] (by kernel_rfl) (by kernel_rfl) ?_
     refine qreg_end [(2, Value.bool false)] (by kernel_rfl) (by kernel_rfl) (fun w4 hw => ?_)
     replace h := h w4 hw
     clear hw
     change WpE _ _ c74_6 _ _ _
     refine wpE_ret (by kernel_rfl) ?_
     repeat (first | refine seqQ_ret ?_ | refine blockQ_ret ?_ | refine loopQ_ret ?_ | refine cutQ_ret ?_)
     exact retS (rs := [(ResultVar.tmp 2)]) (v := Value.bool false) (by kernel_rfl) (⟨by kernel_rfl, trivial⟩) ⟨false, rfl, h⟩
 · rintro e w' ⟨v, rfl, r0, rfl, h⟩; exact ⟨r0, rfl, h⟩
end
end Go.Proofs.Ytpedclhflmhakaa
