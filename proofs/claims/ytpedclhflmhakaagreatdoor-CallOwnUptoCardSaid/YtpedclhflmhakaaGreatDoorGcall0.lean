/- WRITTEN BY PROGRAM (dec.py): for each Go function the clean formula F, the call's contract C, and the proof S that F gives C. -/
import Derived.Test.YtpedclhflmhakaaGreatDoorRows
import Derived.Test.YtpedclhflmhakaaGreatDoorGF
namespace Go.Proofs.YtpedclhflmhakaaGreatDoor
open Go
set_option linter.unusedVariables false
set_option maxRecDepth 100000
set_option maxHeartbeats 4000000
noncomputable section

/-! ### towpath/call.New (function 14) -/

theorem S_call_New {number : Int} {c : T_api_Config} {x : T_api_Call} {w : World} {R : Option Addr → Int → World → Prop} (h : F_call_New number c x R w) : C_call_New number c x w R := by
 unfold F_call_New at h
 refine Yh Tryz.func14 ?_
 · refine Yt ?_
   refine Yw pv_ h fun b_ w1 h => ?_
   refine Yw pv_ h fun b_1 w2 h => ?_
   refine Yf P2 [0, 4, 5] ?_
   refine Ys ?_
   refine Yd 0 ?_
   refine Yp P3 [0, 4, 5, 8] ?_
   refine Yc h (fun h => ?_) fun h => ?_
   · refine Yp P2 [6, 7] ?_
     exact YT2 ⟨none, 1, rfl, h⟩
   · refine Yt ?_
     refine YL h fun v12 h => ?_
     refine Ym1 h fun v13 w3 h => ?_
     refine Yf P2 [0, 4, 5, 11] ?_
     refine Yc h (fun h => ?_) fun h => ?_
     · refine Yp P2 [6, 7] ?_
       exact YT2 ⟨none, 7, rfl, h⟩
     · refine Yt ?_
       refine YL h fun v16 h => ?_
       refine Ym1 h fun v17 w4 h => ?_
       refine Yf P2 [0, 4, 5, 15] ?_
       refine Yc h (fun h => ?_) fun h => ?_
       · refine Yp P2 [6, 7] ?_
         exact YT2 ⟨none, 1, rfl, h⟩
       · refine Yskip ?_
         refine Yt ?_
         refine Yn P1 ?_
         refine YL h fun v20 h => ?_
         refine YL h fun v21 h => ?_
         refine Yn P1 ?_
         refine Yw pv_ h fun b_2 w5 h => ?_
         refine Yf P2 [6, 7] ?_
         exact YT2 ⟨(some ⟨b_2, 0, none⟩), 0, rfl, h⟩

/-! ### (*towpath/call.Task).Begin (function 16) -/
def c16_0 := cb_ Tryz.f16
def c16_1 := cl_ c16_0
def r16_1 := co_ c16_1
def c16_3 := cr_ c16_0
def c16_4 := cl_ c16_3
def c16_5 := cl_ c16_4
def c16_6 := cl_ c16_5
def r16_6 := co_ c16_6
def c16_8 := cr_ c16_5
def c16_9 := cl_ c16_8
def c16_10 := cl_ c16_9
def r16_10 := co_ c16_10
def c16_12 := cr_ c16_9
def c16_13 := cr_ c16_8
def c16_14 := cl_ c16_13
def r16_14 := co_ c16_14
def c16_16 := cr_ c16_13
def c16_17 := cl_ c16_16
def c16_18 := cl_ c16_17
def r16_18 := co_ c16_18
def c16_20 := cr_ c16_17
def c16_21 := cr_ c16_16
def c16_22 := cl_ c16_21
def r16_22 := co_ c16_22
def c16_24 := cr_ c16_21
def c16_25 := cl_ c16_24
def c16_26 := cl_ c16_25
def r16_26 := co_ c16_26
def c16_28 := cr_ c16_25
def c16_29 := cr_ c16_24
def c16_30 := cr_ c16_3
def c16_31 := cl_ c16_30
def r16_31 := co_ c16_31
def c16_33 := cr_ c16_30
def c16_34 := cl_ c16_33
def c16_35 := cl_ c16_34
def r16_35 := co_ c16_35
def c16_37 := cr_ c16_34
def c16_38 := cl_ c16_37
def c16_39 := cl_ c16_38
def r16_39 := co_ c16_39
def c16_41 := cr_ c16_38
def c16_42 := cl_ c16_41
def c16_43 := cl_ c16_42
def r16_43 := co_ c16_43
def c16_45 := cr_ c16_42
def c16_46 := cl_ c16_45
def c16_47 := cl_ c16_46
def r16_47 := co_ c16_47
def c16_49 := cr_ c16_46
def c16_50 := cl_ c16_49
def c16_51 := cl_ c16_50
def r16_51 := co_ c16_51
def c16_53 := cr_ c16_50
def c16_54 := cl_ c16_53
def r16_54 := co_ c16_54
def c16_56 := cr_ c16_53
def c16_57 := cl_ c16_56
def r16_57 := co_ c16_57
def c16_59 := cr_ c16_56
def c16_60 := cl_ c16_59
def r16_60 := co_ c16_60
def c16_62 := cr_ c16_59
def c16_63 := cl_ c16_62
def r16_63 := co_ c16_63
def c16_65 := cr_ c16_62
def c16_66 := cl_ c16_65
def r16_66 := co_ c16_66
def c16_68 := cr_ c16_65
def c16_69 := cl_ c16_68
def r16_69 := co_ c16_69
def c16_71 := cr_ c16_68
def c16_72 := cl_ c16_71
def r16_72 := co_ c16_72
def c16_74 := cr_ c16_71
def c16_75 := cr_ c16_45
def r16_75 := co_ c16_75
def c16_77 := cr_ c16_33
def c16_78 := cl_ c16_77
def r16_78 := co_ c16_78
def c16_80 := cr_ c16_77
def o_call_Task_Begin_31 : List Nat := [0, 1, 2, 3, 4, 5, 6, 7, 8]
def o_call_Task_Begin_43 : List Nat := [0, 1, 2, 3, 4, 5, 6, 7]
def o_call_Task_Begin_54 : List Nat := [0, 1, 2, 3, 4, 5, 6, 7, 8]
def o_call_Task_Begin_60 : List Nat := [0, 1, 2, 3, 4, 5, 6, 7, 8, 9, 10, 11, 12, 13, 14, 15]
def o_call_Task_Begin_66 : List Nat := [0, 1, 2, 3, 4]
def o_call_Task_Begin_75 : List Nat := [0, 1, 2, 3, 4, 5, 6, 7, 8, 9, 10, 11, 12]

theorem S_call_Task_Begin {t_ : Option Addr} {mark : Int} {least : Int} {beyond : Slc} {w : World} {R : Int → World → Prop} (h : F_call_Task_Begin t_ mark least beyond R w) : C_call_Task_Begin t_ mark least beyond w R := by
 unfold F_call_Task_Begin at h
 unfold C_call_Task_Begin
 refine Calls.mono (calls_of_wpY (args := [Value.pointer t_, Value.int .i64 mark, Value.int .i64 least, sv_ beyond]) (R := fun v w' => ∃ (r0 : Int), v = Value.int .i64 r0 ∧ R r0 w') Tryz.func16 (c := c16_0) (by kernel_rfl) 111 (by kernel_rfl) (by kernel_rfl) [(0, Value.pointer t_), (1, Value.int .i64 mark), (2, Value.int .i64 least), (3, sv_ beyond)] (by kernel_rfl) ?_) ?_
 · letI : Rnd := rndY Tryz.prog Tryz.f16 (fun v w' => ∃ (r0 : Int), v = Value.int .i64 r0 ∧ R r0 w')
   refine wpE_seq (x := c16_1) (y := c16_3) (by kernel_rfl) ?_
   refine wpE_region (id := 0) (ops := r16_1) (by kernel_rfl) ?_
   refine reg_run [] 0 [(0, [], Value.pointer t_), (1, [], Value.int .i64 mark), (2, [], Value.int .i64 least), (3, [], sv_ beyond)] (by kernel_rfl) (by kernel_rfl) ?_
   refine reg_new (op := (Op.box 63 (Operand.tmp 0))) (ty := 0) (dst := some 4) (fun bb => pv_ bb) (Obj.cells ([Value.pointer t_]).toArray ty_ptr_call_Task (0, 0)) (by kernel_rfl) (by kernel_rfl) (fun b_ w1 hb hw => ?_)
   replace h := h b_ w1 hb hw
   clear hb hw
   refine reg_run [] 1 [(1, [], Value.int .i64 mark), (2, [], Value.int .i64 least), (3, [], sv_ beyond), (4, [], pv_ b_)] (by kernel_rfl) (by kernel_rfl) ?_
   refine reg_new (op := (Op.box 3 (Operand.tmp 1))) (ty := 0) (dst := some 5) (fun bb => pv_ bb) (Obj.cells ([Value.int .i64 mark]).toArray ty_int (0, 0)) (by kernel_rfl) (by kernel_rfl) (fun b_1 w2 hb hw => ?_)
   replace h := h b_1 w2 hb hw
   clear hb hw
   refine reg_run [] 2 [(2, [], Value.int .i64 least), (3, [], sv_ beyond), (4, [], pv_ b_), (5, [], pv_ b_1)] (by kernel_rfl) (by kernel_rfl) ?_
   refine reg_new (op := (Op.box 3 (Operand.tmp 2))) (ty := 0) (dst := some 6) (fun bb => pv_ bb) (Obj.cells ([Value.int .i64 least]).toArray ty_int (0, 0)) (by kernel_rfl) (by kernel_rfl) (fun b_2 w3 hb hw => ?_)
   replace h := h b_2 w3 hb hw
   clear hb hw
   refine reg_run [] 3 [(3, [], sv_ beyond), (4, [], pv_ b_), (5, [], pv_ b_1), (6, [], pv_ b_2)] (by kernel_rfl) (by kernel_rfl) ?_
   refine reg_new (op := (Op.box 67 (Operand.tmp 3))) (ty := 0) (dst := some 7) (fun bb => pv_ bb) (Obj.cells ([sv_ beyond]).toArray ty_sl_int (0, 0)) (by kernel_rfl) (by kernel_rfl) (fun b_3 w4 hb hw => ?_)
   replace h := h b_3 w4 hb hw
   clear hb hw
   refine reg_run [.plain] 5 [(4, [], pv_ b_), (5, [], pv_ b_1), (6, [], pv_ b_2), (7, [], pv_ b_3), (8, [], Value.int .i64 0)] (by kernel_rfl) (by kernel_rfl) ?_
   refine reg_end [(4, pv_ b_), (5, pv_ b_1), (6, pv_ b_2), (7, pv_ b_3), (8, Value.int .i64 0)] (by kernel_rfl) (by kernel_rfl) ?_
   change WpE _ _ c16_3 _ _ _
   refine wpE_seq (x := c16_4) (y := c16_30) (by kernel_rfl) ?_
   refine wpE_block (id := 0) (x := c16_5) (by kernel_rfl) ?_
   refine wpE_seq (x := c16_6) (y := c16_8) (by kernel_rfl) ?_
   refine wpE_region (id := 1) (ops := r16_6) (by kernel_rfl) ?_
   refine reg_run [] 0 [(4, [], pv_ b_), (5, [], pv_ b_1), (6, [], pv_ b_2), (7, [], pv_ b_3), (8, [], Value.int .i64 0)] (by kernel_rfl) (by kernel_rfl) ?_
   obtain ⟨v12, hc, h⟩ := h
   refine reg_load1 (t := 63) (a := (Operand.tmp 4)) (b := b_) (o := 0) (ty := 63) (dst := some 12) (by kernel_rfl) (by kernel_rfl) (by kernel_rfl) hc ?_
   refine reg_run [] 1 [(4, [], pv_ b_), (5, [], pv_ b_1), (6, [], pv_ b_2), (7, [], pv_ b_3), (8, [], Value.int .i64 0), (12, [], Value.pointer v12)] (by kernel_rfl) (by kernel_rfl) ?_
   refine reg_enter (op := (Op.call (Call.mk (Callee.value (Operand.func 71)) #[(Operand.tmp 12)] #[63]))) (ty := 4) (dst := some 13) 71 #[Value.pointer v12] (by kernel_rfl) (fun ww => by kernel_rfl) (Calls.mono h ?_)
   rintro _ w5 ⟨v13, rfl, h⟩
   refine ⟨_, rfl, ?_⟩
   refine reg_run [.plain, .plain] 4 [(4, [], pv_ b_), (5, [], pv_ b_1), (6, [], pv_ b_2), (7, [], pv_ b_3), (8, [], Value.int .i64 0), (11, [], Value.bool (!v13))] (by kernel_rfl) (by kernel_rfl) ?_
   refine reg_end [(4, pv_ b_), (5, pv_ b_1), (6, pv_ b_2), (7, pv_ b_3), (8, Value.int .i64 0), (11, Value.bool (!v13))] (by kernel_rfl) (by kernel_rfl) ?_
   change WpE _ _ c16_8 _ _ _
   refine wpE_cond (o := (Operand.tmp 11)) (b := (!v13)) (x := c16_9) (y := c16_13) (by kernel_rfl) (by kernel_rfl) (fun hb => ?_) (fun hb => ?_)
   · replace h := h.1 hb
     refine wpE_seq (x := c16_10) (y := c16_12) (by kernel_rfl) ?_
     refine wpE_region (id := 2) (ops := r16_10) (by kernel_rfl) ?_
     refine reg_run [.plain] 1 [(8, [], Value.int .i64 2)] (by kernel_rfl) (by kernel_rfl) ?_
     refine reg_end [(8, Value.int .i64 2)] (by kernel_rfl) (by kernel_rfl) ?_
     change WpE _ _ c16_12 _ _ _
     refine wpE_ret (by kernel_rfl) ?_
     repeat (first | refine seqQ_ret ?_ | refine blockQ_ret ?_ | refine loopQ_ret ?_ | refine cutQ_ret ?_)
     exact retS (rs := [(ResultVar.tmp 8)]) (v := Value.int .i64 2) (by kernel_rfl) (⟨by kernel_rfl, trivial⟩) ⟨2, rfl, h⟩
   · replace h := h.2 hb
     refine wpE_seq (x := c16_14) (y := c16_16) (by kernel_rfl) ?_
     refine wpE_region (id := 3) (ops := r16_14) (by kernel_rfl) ?_
     refine reg_run [] 0 [(4, [], pv_ b_), (5, [], pv_ b_1), (6, [], pv_ b_2), (7, [], pv_ b_3), (8, [], Value.int .i64 0)] (by kernel_rfl) (by kernel_rfl) ?_
     obtain ⟨v16, hc, h⟩ := h
     refine reg_load1 (t := 63) (a := (Operand.tmp 4)) (b := b_) (o := 0) (ty := 63) (dst := some 16) (by kernel_rfl) (by kernel_rfl) (by kernel_rfl) hc ?_
     refine reg_run [] 1 [(4, [], pv_ b_), (5, [], pv_ b_1), (6, [], pv_ b_2), (7, [], pv_ b_3), (8, [], Value.int .i64 0), (16, [], Value.pointer v16)] (by kernel_rfl) (by kernel_rfl) ?_
     obtain ⟨hp_3, h⟩ := h
     refine reg_conv [(4, [], pv_ b_), (5, [], pv_ b_1), (6, [], pv_ b_2), (7, [], pv_ b_3), (8, [], Value.int .i64 0), (16, [], Value.pointer (some ⟨(pblk v16), (poff v16), none⟩))] (congrArg (fun pp => ([(4, [], pv_ b_), (5, [], pv_ b_1), (6, [], pv_ b_2), (7, [], pv_ b_3), (8, [], Value.int .i64 0), (16, [], Value.pointer pp)] : GEnv)) hp_3) ?_
     refine reg_run [.plain] 2 [(4, [], pv_ b_), (5, [], pv_ b_1), (6, [], pv_ b_2), (7, [], pv_ b_3), (8, [], Value.int .i64 0), (16, [], Value.pointer (some ⟨(pblk v16), (poff v16), none⟩)), (17, [], Value.pointer (some ⟨(pblk v16), (poff v16), none⟩))] (by kernel_rfl) (by kernel_rfl) ?_
     refine reg_run [.plain] 3 [(4, [], pv_ b_), (5, [], pv_ b_1), (6, [], pv_ b_2), (7, [], pv_ b_3), (8, [], Value.int .i64 0), (18, [], Value.pointer (some ⟨(pblk v16), (poff v16) + 8, none⟩))] (by kernel_rfl) (by kernel_rfl) ?_
     obtain ⟨v19, hc, h⟩ := h
     refine reg_load1 (t := 4) (a := (Operand.tmp 18)) (b := (pblk v16)) (o := ((poff v16) + 8)) (ty := 4) (dst := some 19) (by kernel_rfl) (by kernel_rfl) (by kernel_rfl) hc ?_
     refine reg_run [.plain] 5 [(4, [], pv_ b_), (5, [], pv_ b_1), (6, [], pv_ b_2), (7, [], pv_ b_3), (8, [], Value.int .i64 0), (15, [], Value.bool v19)] (by kernel_rfl) (by kernel_rfl) ?_
     refine reg_end [(4, pv_ b_), (5, pv_ b_1), (6, pv_ b_2), (7, pv_ b_3), (8, Value.int .i64 0), (15, Value.bool v19)] (by kernel_rfl) (by kernel_rfl) ?_
     change WpE _ _ c16_16 _ _ _
     refine wpE_cond (o := (Operand.tmp 15)) (b := v19) (x := c16_17) (y := c16_21) (by kernel_rfl) (by kernel_rfl) (fun hb => ?_) (fun hb => ?_)
     · replace h := h.1 hb
       refine wpE_seq (x := c16_18) (y := c16_20) (by kernel_rfl) ?_
       refine wpE_region (id := 4) (ops := r16_18) (by kernel_rfl) ?_
       refine reg_run [.plain] 1 [(8, [], Value.int .i64 10)] (by kernel_rfl) (by kernel_rfl) ?_
       refine reg_end [(8, Value.int .i64 10)] (by kernel_rfl) (by kernel_rfl) ?_
       change WpE _ _ c16_20 _ _ _
       refine wpE_ret (by kernel_rfl) ?_
       repeat (first | refine seqQ_ret ?_ | refine blockQ_ret ?_ | refine loopQ_ret ?_ | refine cutQ_ret ?_)
       exact retS (rs := [(ResultVar.tmp 8)]) (v := Value.int .i64 10) (by kernel_rfl) (⟨by kernel_rfl, trivial⟩) ⟨10, rfl, h⟩
     · replace h := h.2 hb
       refine wpE_seq_cut (x := c16_22) (y := c16_24) (by kernel_rfl) (fun l w => ∃ (t20 : Bool), l = [(4, pv_ b_), (5, pv_ b_1), (6, pv_ b_2), (7, pv_ b_3), (8, Value.int .i64 0), (20, Value.bool t20)] ∧ F_call_Task_Begin_k0 R b_ b_1 b_2 b_3 t20 w) ?_ ?_
       · refine wpE_region (id := 5) (ops := r16_22) (by kernel_rfl) ?_
         refine reg_run [] 0 [(4, [], pv_ b_), (5, [], pv_ b_1), (6, [], pv_ b_2), (7, [], pv_ b_3), (8, [], Value.int .i64 0)] (by kernel_rfl) (by kernel_rfl) ?_
         obtain ⟨v21, hc, h⟩ := h
         refine reg_load1 (t := 3) (a := (Operand.tmp 5)) (b := b_1) (o := 0) (ty := 3) (dst := some 21) (by kernel_rfl) (by kernel_rfl) (by kernel_rfl) hc ?_
         refine reg_run [.plain, .plain] 3 [(4, [], pv_ b_), (5, [], pv_ b_1), (6, [], pv_ b_2), (7, [], pv_ b_3), (8, [], Value.int .i64 0), (23, [], Value.bool (decide (v21 < 0)))] (by kernel_rfl) (by kernel_rfl) ?_
         refine reg_split 23 (decide (v21 < 0)) (by kernel_rfl) (fun hb => ?_) (fun hb => ?_)
         · replace h := h.1 hb
           refine reg_run [] 3 [(4, [], pv_ b_), (5, [], pv_ b_1), (6, [], pv_ b_2), (7, [], pv_ b_3), (8, [], Value.int .i64 0), (23, [], Value.bool true)] (by kernel_rfl) (by kernel_rfl) ?_
           refine reg_run [.skip, .skip, .plain, .plain, .skip, .skip, .plain, .plain, .skip, .skip, .skip, .plain, .plain, .skip, .skip, .skip, .skip, .skip, .plain, .plain] 23 [(4, [], pv_ b_), (5, [], pv_ b_1), (6, [], pv_ b_2), (7, [], pv_ b_3), (8, [], Value.int .i64 0), (20, [], Value.bool true)] (by kernel_rfl) (by kernel_rfl) ?_
           refine reg_end [(4, pv_ b_), (5, pv_ b_1), (6, pv_ b_2), (7, pv_ b_3), (8, Value.int .i64 0), (20, Value.bool true)] (by kernel_rfl) (by kernel_rfl) ?_
           exact ⟨[(4, pv_ b_), (5, pv_ b_1), (6, pv_ b_2), (7, pv_ b_3), (8, Value.int .i64 0), (20, Value.bool true)], Sub.mk (by kernel_rfl), true, rfl, h⟩
         · replace h := h.2 hb
           refine reg_run [] 3 [(4, [], pv_ b_), (5, [], pv_ b_1), (6, [], pv_ b_2), (7, [], pv_ b_3), (8, [], Value.int .i64 0), (23, [], Value.bool false)] (by kernel_rfl) (by kernel_rfl) ?_
           refine reg_run [] 3 [(4, [], pv_ b_), (5, [], pv_ b_1), (6, [], pv_ b_2), (7, [], pv_ b_3), (8, [], Value.int .i64 0), (23, [], Value.bool false)] (by kernel_rfl) (by kernel_rfl) ?_
           obtain ⟨v24, hc, h⟩ := h
           refine reg_load1 (t := 3) (a := (Operand.tmp 5)) (b := b_1) (o := 0) (ty := 3) (dst := some 24) (by kernel_rfl) (by kernel_rfl) (by kernel_rfl) hc ?_
           refine reg_run [.sure, .plain, .plain] 7 [(4, [], pv_ b_), (5, [], pv_ b_1), (6, [], pv_ b_2), (7, [], pv_ b_3), (8, [], Value.int .i64 0), (27, [], Value.bool (decide (v24 > 65536)))] (by kernel_rfl) (by kernel_rfl) ?_
           refine reg_split 27 (decide (v24 > 65536)) (by kernel_rfl) (fun hb => ?_) (fun hb => ?_)
           · replace h := h.1 hb
             refine reg_run [] 7 [(4, [], pv_ b_), (5, [], pv_ b_1), (6, [], pv_ b_2), (7, [], pv_ b_3), (8, [], Value.int .i64 0), (27, [], Value.bool true)] (by kernel_rfl) (by kernel_rfl) ?_
             refine reg_run [.skip, .skip, .plain, .plain, .skip, .skip, .skip, .plain, .plain, .skip, .skip, .skip, .skip, .skip, .plain, .plain] 23 [(4, [], pv_ b_), (5, [], pv_ b_1), (6, [], pv_ b_2), (7, [], pv_ b_3), (8, [], Value.int .i64 0), (20, [], Value.bool true)] (by kernel_rfl) (by kernel_rfl) ?_
             refine reg_end [(4, pv_ b_), (5, pv_ b_1), (6, pv_ b_2), (7, pv_ b_3), (8, Value.int .i64 0), (20, Value.bool true)] (by kernel_rfl) (by kernel_rfl) ?_
             exact ⟨[(4, pv_ b_), (5, pv_ b_1), (6, pv_ b_2), (7, pv_ b_3), (8, Value.int .i64 0), (20, Value.bool true)], Sub.mk (by kernel_rfl), true, rfl, h⟩
           · replace h := h.2 hb
             refine reg_run [] 7 [(4, [], pv_ b_), (5, [], pv_ b_1), (6, [], pv_ b_2), (7, [], pv_ b_3), (8, [], Value.int .i64 0), (27, [], Value.bool false)] (by kernel_rfl) (by kernel_rfl) ?_
             refine reg_run [] 7 [(4, [], pv_ b_), (5, [], pv_ b_1), (6, [], pv_ b_2), (7, [], pv_ b_3), (8, [], Value.int .i64 0), (27, [], Value.bool false)] (by kernel_rfl) (by kernel_rfl) ?_
             obtain ⟨v28, hc, h⟩ := h
             refine reg_load1 (t := 3) (a := (Operand.tmp 6)) (b := b_2) (o := 0) (ty := 3) (dst := some 28) (by kernel_rfl) (by kernel_rfl) (by kernel_rfl) hc ?_
             refine reg_run [.sure, .plain, .plain] 11 [(4, [], pv_ b_), (5, [], pv_ b_1), (6, [], pv_ b_2), (7, [], pv_ b_3), (8, [], Value.int .i64 0), (31, [], Value.bool (decide (v28 < 0)))] (by kernel_rfl) (by kernel_rfl) ?_
             refine reg_split 31 (decide (v28 < 0)) (by kernel_rfl) (fun hb => ?_) (fun hb => ?_)
             · replace h := h.1 hb
               refine reg_run [] 11 [(4, [], pv_ b_), (5, [], pv_ b_1), (6, [], pv_ b_2), (7, [], pv_ b_3), (8, [], Value.int .i64 0), (31, [], Value.bool true)] (by kernel_rfl) (by kernel_rfl) ?_
               refine reg_run [.skip, .skip, .skip, .plain, .plain, .skip, .skip, .skip, .skip, .skip, .plain, .plain] 23 [(4, [], pv_ b_), (5, [], pv_ b_1), (6, [], pv_ b_2), (7, [], pv_ b_3), (8, [], Value.int .i64 0), (20, [], Value.bool true)] (by kernel_rfl) (by kernel_rfl) ?_
               refine reg_end [(4, pv_ b_), (5, pv_ b_1), (6, pv_ b_2), (7, pv_ b_3), (8, Value.int .i64 0), (20, Value.bool true)] (by kernel_rfl) (by kernel_rfl) ?_
               exact ⟨[(4, pv_ b_), (5, pv_ b_1), (6, pv_ b_2), (7, pv_ b_3), (8, Value.int .i64 0), (20, Value.bool true)], Sub.mk (by kernel_rfl), true, rfl, h⟩
             · replace h := h.2 hb
               refine reg_run [] 11 [(4, [], pv_ b_), (5, [], pv_ b_1), (6, [], pv_ b_2), (7, [], pv_ b_3), (8, [], Value.int .i64 0), (31, [], Value.bool false)] (by kernel_rfl) (by kernel_rfl) ?_
               refine reg_run [] 11 [(4, [], pv_ b_), (5, [], pv_ b_1), (6, [], pv_ b_2), (7, [], pv_ b_3), (8, [], Value.int .i64 0), (31, [], Value.bool false)] (by kernel_rfl) (by kernel_rfl) ?_
               obtain ⟨v32, hc, h⟩ := h
               refine reg_load1 (t := 3) (a := (Operand.tmp 6)) (b := b_2) (o := 0) (ty := 3) (dst := some 32) (by kernel_rfl) (by kernel_rfl) (by kernel_rfl) hc ?_
               refine reg_run [] 12 [(4, [], pv_ b_), (5, [], pv_ b_1), (6, [], pv_ b_2), (7, [], pv_ b_3), (8, [], Value.int .i64 0), (31, [], Value.bool false), (32, [], Value.int .i64 v32)] (by kernel_rfl) (by kernel_rfl) ?_
               obtain ⟨v33, hc, h⟩ := h
               refine reg_load1 (t := 3) (a := (Operand.tmp 5)) (b := b_1) (o := 0) (ty := 3) (dst := some 33) (by kernel_rfl) (by kernel_rfl) (by kernel_rfl) hc ?_
               refine reg_run [.sure, .plain, .plain] 16 [(4, [], pv_ b_), (5, [], pv_ b_1), (6, [], pv_ b_2), (7, [], pv_ b_3), (8, [], Value.int .i64 0), (36, [], Value.bool (decide (v32 > v33)))] (by kernel_rfl) (by kernel_rfl) ?_
               refine reg_split 36 (decide (v32 > v33)) (by kernel_rfl) (fun hb => ?_) (fun hb => ?_)
               · replace h := h.1 hb
                 refine reg_run [] 16 [(4, [], pv_ b_), (5, [], pv_ b_1), (6, [], pv_ b_2), (7, [], pv_ b_3), (8, [], Value.int .i64 0), (36, [], Value.bool true)] (by kernel_rfl) (by kernel_rfl) ?_
                 refine reg_run [.skip, .skip, .skip, .skip, .skip, .plain, .plain] 23 [(4, [], pv_ b_), (5, [], pv_ b_1), (6, [], pv_ b_2), (7, [], pv_ b_3), (8, [], Value.int .i64 0), (20, [], Value.bool true)] (by kernel_rfl) (by kernel_rfl) ?_
                 refine reg_end [(4, pv_ b_), (5, pv_ b_1), (6, pv_ b_2), (7, pv_ b_3), (8, Value.int .i64 0), (20, Value.bool true)] (by kernel_rfl) (by kernel_rfl) ?_
                 exact ⟨[(4, pv_ b_), (5, pv_ b_1), (6, pv_ b_2), (7, pv_ b_3), (8, Value.int .i64 0), (20, Value.bool true)], Sub.mk (by kernel_rfl), true, rfl, h⟩
               · replace h := h.2 hb
                 refine reg_run [] 16 [(4, [], pv_ b_), (5, [], pv_ b_1), (6, [], pv_ b_2), (7, [], pv_ b_3), (8, [], Value.int .i64 0), (36, [], Value.bool false)] (by kernel_rfl) (by kernel_rfl) ?_
                 refine reg_run [] 16 [(4, [], pv_ b_), (5, [], pv_ b_1), (6, [], pv_ b_2), (7, [], pv_ b_3), (8, [], Value.int .i64 0), (36, [], Value.bool false)] (by kernel_rfl) (by kernel_rfl) ?_
                 obtain ⟨v37, hc, h⟩ := h
                 refine reg_load1 (t := 67) (a := (Operand.tmp 7)) (b := b_3) (o := 0) (ty := 67) (dst := some 37) (by kernel_rfl) (by kernel_rfl) (by kernel_rfl) hc ?_
                 refine reg_run [] 17 [(4, [], pv_ b_), (5, [], pv_ b_1), (6, [], pv_ b_2), (7, [], pv_ b_3), (8, [], Value.int .i64 0), (36, [], Value.bool false), (37, [], sv_ v37)] (by kernel_rfl) (by kernel_rfl) ?_
                 obtain ⟨v38, hc, h⟩ := h
                 refine reg_load1 (t := 3) (a := (Operand.tmp 5)) (b := b_1) (o := 0) (ty := 3) (dst := some 38) (by kernel_rfl) (by kernel_rfl) (by kernel_rfl) hc ?_
                 refine reg_run [.sure] 19 [(4, [], pv_ b_), (5, [], pv_ b_1), (6, [], pv_ b_2), (7, [], pv_ b_3), (8, [], Value.int .i64 0), (36, [], Value.bool false), (37, [], sv_ v37), (39, [], Value.int .i64 (IntKind.i64.wrap (v38 + 1)))] (by kernel_rfl) (by kernel_rfl) ?_
                 refine reg_enter (op := (Op.call (Call.mk (Callee.value (Operand.func 72)) #[(Operand.tmp 37), (Operand.tmp 39)] #[67, 3]))) (ty := 4) (dst := some 40) 72 #[sv_ v37, Value.int .i64 (IntKind.i64.wrap (v38 + 1))] (by kernel_rfl) (fun ww => by kernel_rfl) (Calls.mono h ?_)
                 rintro _ w41 ⟨v40, rfl, h⟩
                 refine ⟨_, rfl, ?_⟩
                 refine reg_run [.sure, .plain, .plain] 23 [(4, [], pv_ b_), (5, [], pv_ b_1), (6, [], pv_ b_2), (7, [], pv_ b_3), (8, [], Value.int .i64 0), (20, [], Value.bool (!v40))] (by kernel_rfl) (by kernel_rfl) ?_
                 refine reg_end [(4, pv_ b_), (5, pv_ b_1), (6, pv_ b_2), (7, pv_ b_3), (8, Value.int .i64 0), (20, Value.bool (!v40))] (by kernel_rfl) (by kernel_rfl) ?_
                 exact ⟨[(4, pv_ b_), (5, pv_ b_1), (6, pv_ b_2), (7, pv_ b_3), (8, Value.int .i64 0), (20, Value.bool (!v40))], Sub.mk (by kernel_rfl), (!v40), rfl, h⟩
       · rintro _ w6 ⟨t20, rfl, h⟩
         unfold F_call_Task_Begin_k0 at h
         refine wpE_cond (o := (Operand.tmp 20)) (b := t20) (x := c16_25) (y := c16_29) (by kernel_rfl) (by kernel_rfl) (fun hb => ?_) (fun hb => ?_)
         · replace h := h.1 hb
           refine wpE_seq (x := c16_26) (y := c16_28) (by kernel_rfl) ?_
           refine wpE_region (id := 6) (ops := r16_26) (by kernel_rfl) ?_
           refine reg_run [.plain] 1 [(8, [], Value.int .i64 1)] (by kernel_rfl) (by kernel_rfl) ?_
           refine reg_end [(8, Value.int .i64 1)] (by kernel_rfl) (by kernel_rfl) ?_
           change WpE _ _ c16_28 _ _ _
           refine wpE_ret (by kernel_rfl) ?_
           repeat (first | refine seqQ_ret ?_ | refine blockQ_ret ?_ | refine loopQ_ret ?_ | refine cutQ_ret ?_)
           exact retS (rs := [(ResultVar.tmp 8)]) (v := Value.int .i64 1) (by kernel_rfl) (⟨by kernel_rfl, trivial⟩) ⟨1, rfl, h⟩
         · replace h := h.2 hb
           refine wpE_skip (by kernel_rfl) ?_
           change WpE _ _ c16_30 _ _ _
           refine wpE_seq (x := c16_31) (y := c16_33) (by kernel_rfl) ?_
           refine wpE_mixregionY (id := 7) (ops := r16_31) o_call_Task_Begin_31 (by kernel_rfl) (by kernel_rfl) (by kernel_rfl) (by kernel_rfl) (by kernel_rfl) (fun w7 hw => ?_)
           replace h := h w7 hw
           clear hw
           refine mreg_run [] 0 [(4, [], pv_ b_), (5, [], pv_ b_1), (6, [], pv_ b_2), (7, [], pv_ b_3), (8, [], Value.int .i64 0)] (by kernel_rfl) (by kernel_rfl) ?_
           obtain ⟨v43, hc, h⟩ := h
           refine mreg_load1 (i := 0) (by kernel_rfl) (t := 63) (a := (Operand.tmp 4)) (b := b_) (o := 0) (ty := 63) (dst := some 43) (by kernel_rfl) (by kernel_rfl) (by kernel_rfl) hc ?_
           refine mreg_run [] 1 [(4, [], pv_ b_), (5, [], pv_ b_1), (6, [], pv_ b_2), (7, [], pv_ b_3), (8, [], Value.int .i64 0), (43, [], Value.pointer v43)] (by kernel_rfl) (by kernel_rfl) ?_
           obtain ⟨v44, hc, h⟩ := h
           refine mreg_load1 (i := 1) (by kernel_rfl) (t := 63) (a := (Operand.tmp 4)) (b := b_) (o := 0) (ty := 63) (dst := some 44) (by kernel_rfl) (by kernel_rfl) (by kernel_rfl) hc ?_
           refine mreg_run [] 2 [(4, [], pv_ b_), (5, [], pv_ b_1), (6, [], pv_ b_2), (7, [], pv_ b_3), (8, [], Value.int .i64 0), (43, [], Value.pointer v43), (44, [], Value.pointer v44)] (by kernel_rfl) (by kernel_rfl) ?_
           obtain ⟨v45, hc, h⟩ := h
           refine mreg_load1 (i := 2) (by kernel_rfl) (t := 3) (a := (Operand.tmp 5)) (b := b_1) (o := 0) (ty := 3) (dst := some 45) (by kernel_rfl) (by kernel_rfl) (by kernel_rfl) hc ?_
           refine mreg_run [] 3 [(4, [], pv_ b_), (5, [], pv_ b_1), (6, [], pv_ b_2), (7, [], pv_ b_3), (8, [], Value.int .i64 0), (43, [], Value.pointer v43), (44, [], Value.pointer v44), (45, [], Value.int .i64 v45)] (by kernel_rfl) (by kernel_rfl) ?_
           obtain ⟨hp_6, h⟩ := h
           refine mreg_conv [(4, [], pv_ b_), (5, [], pv_ b_1), (6, [], pv_ b_2), (7, [], pv_ b_3), (8, [], Value.int .i64 0), (43, [], Value.pointer (some ⟨(pblk v43), (poff v43), none⟩)), (44, [], Value.pointer v44), (45, [], Value.int .i64 v45)] (congrArg (fun pp => ([(4, [], pv_ b_), (5, [], pv_ b_1), (6, [], pv_ b_2), (7, [], pv_ b_3), (8, [], Value.int .i64 0), (43, [], Value.pointer pp), (44, [], Value.pointer v44), (45, [], Value.int .i64 v45)] : GEnv)) hp_6) ?_
           refine mreg_run [.plain] 4 [(4, [], pv_ b_), (5, [], pv_ b_1), (6, [], pv_ b_2), (7, [], pv_ b_3), (8, [], Value.int .i64 0), (43, [], Value.pointer (some ⟨(pblk v43), (poff v43), none⟩)), (44, [], Value.pointer v44), (45, [], Value.int .i64 v45), (46, [], Value.pointer (some ⟨(pblk v43), (poff v43), none⟩))] (by kernel_rfl) (by kernel_rfl) ?_
           refine mreg_run [.plain] 5 [(4, [], pv_ b_), (5, [], pv_ b_1), (6, [], pv_ b_2), (7, [], pv_ b_3), (8, [], Value.int .i64 0), (44, [], Value.pointer v44), (45, [], Value.int .i64 v45), (47, [], Value.pointer (some ⟨(pblk v43), (poff v43) + 8, none⟩))] (by kernel_rfl) (by kernel_rfl) ?_
           obtain ⟨hc, h⟩ := h
           refine mreg_store (t := 4) (a := (Operand.tmp 47)) (x := (Operand.const (Value.bool true))) (b := (pblk v43)) (o := ((poff v43) + 8)) (k := 1) (ty := 0) (dst := none) 5 [0, 4, 3] [(2, fun w' => w'.cell? ⟨b_1, 0, none⟩ = some (Value.int .i64 v45)), (1, fun w' => w'.cell? ⟨b_, 0, none⟩ = some (Value.pointer v44))] [Value.bool true] (by kernel_rfl) (by kernel_rfl) (by kernel_rfl) (by kernel_rfl) (by kernel_rfl) (by kernel_rfl) (by kernel_rfl) (by kernel_rfl) (by kernel_rfl) (by kernel_rfl) hc (fun w8 hw => ?_)
           replace h := h w8 hw
           clear hw
           obtain ⟨hk0, hk1, h⟩ := h
           refine ⟨⟨hk0, hk1, trivial⟩, ?_⟩
           refine mreg_run [] 6 [(4, [], pv_ b_), (5, [], pv_ b_1), (6, [], pv_ b_2), (7, [], pv_ b_3), (8, [], Value.int .i64 0), (44, [], Value.pointer v44), (45, [], Value.int .i64 v45)] (by kernel_rfl) (by kernel_rfl) ?_
           obtain ⟨hp_7, h⟩ := h
           refine mreg_conv [(4, [], pv_ b_), (5, [], pv_ b_1), (6, [], pv_ b_2), (7, [], pv_ b_3), (8, [], Value.int .i64 0), (44, [], Value.pointer (some ⟨(pblk v44), (poff v44), none⟩)), (45, [], Value.int .i64 v45)] (congrArg (fun pp => ([(4, [], pv_ b_), (5, [], pv_ b_1), (6, [], pv_ b_2), (7, [], pv_ b_3), (8, [], Value.int .i64 0), (44, [], Value.pointer pp), (45, [], Value.int .i64 v45)] : GEnv)) hp_7) ?_
           refine mreg_run [.plain] 7 [(4, [], pv_ b_), (5, [], pv_ b_1), (6, [], pv_ b_2), (7, [], pv_ b_3), (8, [], Value.int .i64 0), (44, [], Value.pointer (some ⟨(pblk v44), (poff v44), none⟩)), (45, [], Value.int .i64 v45), (48, [], Value.pointer (some ⟨(pblk v44), (poff v44), none⟩))] (by kernel_rfl) (by kernel_rfl) ?_
           refine mreg_run [.plain] 8 [(4, [], pv_ b_), (5, [], pv_ b_1), (6, [], pv_ b_2), (7, [], pv_ b_3), (8, [], Value.int .i64 0), (45, [], Value.int .i64 v45), (49, [], Value.pointer (some ⟨(pblk v44), (poff v44) + 9, none⟩))] (by kernel_rfl) (by kernel_rfl) ?_
           obtain ⟨hc, h⟩ := h
           refine mreg_store (t := 3) (a := (Operand.tmp 49)) (x := (Operand.tmp 45)) (b := (pblk v44)) (o := ((poff v44) + 9)) (k := 1) (ty := 0) (dst := none) 8 [0, 1, 2, 3, 4, 5, 7, 6] [] [Value.int .i64 v45] (by kernel_rfl) (by kernel_rfl) (by kernel_rfl) (by kernel_rfl) (by kernel_rfl) (by kernel_rfl) (by kernel_rfl) (by kernel_rfl) (by kernel_rfl) (by kernel_rfl) hc (fun w9 hw => ?_)
           replace h := h w9 hw
           clear hw
           refine ⟨trivial, ?_⟩
           refine mreg_end [(4, pv_ b_), (5, pv_ b_1), (6, pv_ b_2), (7, pv_ b_3), (8, Value.int .i64 0)] (by kernel_rfl) (by kernel_rfl) (by kernel_rfl) ?_
           change WpE _ _ c16_33 _ _ _
           refine wpE_seq_range (x := c16_34) (r1 := c16_35) (b := c16_37) (id := 1) (rg := c16_38) (rest := c16_77) (assign := c16_39) (body := c16_41) (g := (Operand.tmp 51)) (ps := [52]) (psa := #[52]) (by kernel_rfl) (by kernel_rfl) (by kernel_rfl) (by kernel_rfl) (by kernel_rfl) ?_
           refine wpE_region (id := 8) (ops := r16_35) (by kernel_rfl) ?_
           refine reg_run [] 0 [(4, [], pv_ b_), (5, [], pv_ b_1), (6, [], pv_ b_2), (7, [], pv_ b_3), (8, [], Value.int .i64 0)] (by kernel_rfl) (by kernel_rfl) ?_
           obtain ⟨v50, hc, h⟩ := h
           refine reg_load1 (t := 63) (a := (Operand.tmp 4)) (b := b_) (o := 0) (ty := 63) (dst := some 50) (by kernel_rfl) (by kernel_rfl) (by kernel_rfl) hc ?_
           refine reg_run [] 1 [(4, [], pv_ b_), (5, [], pv_ b_1), (6, [], pv_ b_2), (7, [], pv_ b_3), (8, [], Value.int .i64 0), (50, [], Value.pointer v50)] (by kernel_rfl) (by kernel_rfl) ?_
           refine reg_enter (op := (Op.call (Call.mk (Callee.value (Operand.func 73)) #[(Operand.tmp 50)] #[63]))) (ty := 118) (dst := some 51) 73 #[Value.pointer v50] (by kernel_rfl) (fun ww => by kernel_rfl) (Calls.mono h ?_)
           rintro _ w10 ⟨v51, rfl, h⟩
           refine ⟨_, rfl, ?_⟩
           refine reg_end [(4, pv_ b_), (5, pv_ b_1), (6, pv_ b_2), (7, pv_ b_3), (8, Value.int .i64 0), (51, v51)] (by kernel_rfl) (by kernel_rfl) ?_
           refine rangeJ_mk (gv := v51) (by kernel_rfl) (by kernel_rfl) (fun rec_ D w11 hD_ hw_ hB_ => ?_)
           have hB_ : ∀ (t52 : Int) (w12 : World) (Kb : Bool → World → Prop), w12.heap[D + 1]? = some (.loop (rec_ .ready none)) → (∀ w36, w36 = w12.putObj (D + 1) (.loop (rec_ .busy none)) → F_call_Task_Begin_B1 b_ b_1 b_2 b_3 rec_ D Kb t52 w36) → CallsY (P := Tryz.prog) (yieldV (D + 1)) #[Value.int .i64 t52] w12 (fun e_ W_ => ∃ b_, e_ = Ending.returned (.bool b_) ∧ Kb b_ W_) := by
             clear h
             intro t52 w12 Kb hl_ hf_
             refine hB_ [Value.int .i64 t52] w12 _ (by kernel_rfl) hl_ ?_
             letI : Rnd := mkRnd (some (D + 1)) [] noEsc
             change WpE _ _ c16_39 _ _ _
             refine wpE_region (id := 9) (ops := r16_39) (by kernel_rfl) ?_
             refine reg_run [.plain] 1 [(4, [], pv_ b_), (5, [], pv_ b_1), (6, [], pv_ b_2), (7, [], pv_ b_3), (9, [], Value.int .i64 t52)] (by kernel_rfl) (by kernel_rfl) ?_
             refine reg_end [(4, pv_ b_), (5, pv_ b_1), (6, pv_ b_2), (7, pv_ b_3), (9, Value.int .i64 t52)] (by kernel_rfl) (by kernel_rfl) ?_
             refine And.intro hl_ (fun w13 hw_ => ?_)
             have h := hf_ w13 hw_
             clear hw_ hf_ hl_
             unfold F_call_Task_Begin_B1 at h
             change WpE _ _ c16_41 _ _ _
             refine wpE_block (id := 2) (x := c16_42) (by kernel_rfl) ?_
             refine wpE_seq (x := c16_43) (y := c16_45) (by kernel_rfl) ?_
             refine wpE_mixregionY (id := 10) (ops := r16_43) o_call_Task_Begin_43 (by kernel_rfl) (by kernel_rfl) (by kernel_rfl) (by kernel_rfl) (by kernel_rfl) (fun w14 hw => ?_)
             replace h := h w14 hw
             clear hw
             refine mreg_run [] 0 [(4, [], pv_ b_), (5, [], pv_ b_1), (6, [], pv_ b_2), (7, [], pv_ b_3), (9, [], Value.int .i64 t52)] (by kernel_rfl) (by kernel_rfl) ?_
             obtain ⟨v53, hc, h⟩ := h
             refine mreg_load1 (i := 0) (by kernel_rfl) (t := 63) (a := (Operand.tmp 4)) (b := b_) (o := 0) (ty := 63) (dst := some 53) (by kernel_rfl) (by kernel_rfl) (by kernel_rfl) hc ?_
             refine mreg_run [] 1 [(4, [], pv_ b_), (5, [], pv_ b_1), (6, [], pv_ b_2), (7, [], pv_ b_3), (9, [], Value.int .i64 t52), (53, [], Value.pointer v53)] (by kernel_rfl) (by kernel_rfl) ?_
             obtain ⟨hp_9, h⟩ := h
             refine mreg_conv [(4, [], pv_ b_), (5, [], pv_ b_1), (6, [], pv_ b_2), (7, [], pv_ b_3), (9, [], Value.int .i64 t52), (53, [], Value.pointer (some ⟨(pblk v53), (poff v53), none⟩))] (congrArg (fun pp => ([(4, [], pv_ b_), (5, [], pv_ b_1), (6, [], pv_ b_2), (7, [], pv_ b_3), (9, [], Value.int .i64 t52), (53, [], Value.pointer pp)] : GEnv)) hp_9) ?_
             refine mreg_run [.plain] 2 [(4, [], pv_ b_), (5, [], pv_ b_1), (6, [], pv_ b_2), (7, [], pv_ b_3), (9, [], Value.int .i64 t52), (53, [], Value.pointer (some ⟨(pblk v53), (poff v53), none⟩)), (54, [], Value.pointer (some ⟨(pblk v53), (poff v53), none⟩))] (by kernel_rfl) (by kernel_rfl) ?_
             refine mreg_run [.plain] 3 [(4, [], pv_ b_), (5, [], pv_ b_1), (6, [], pv_ b_2), (7, [], pv_ b_3), (9, [], Value.int .i64 t52), (55, [], Value.pointer (some ⟨(pblk v53), (poff v53), none⟩))] (by kernel_rfl) (by kernel_rfl) ?_
             obtain ⟨v56, hc, h⟩ := h
             refine mreg_load1 (i := 3) (by kernel_rfl) (t := 3) (a := (Operand.tmp 55)) (b := (pblk v53)) (o := (poff v53)) (ty := 3) (dst := some 56) (by kernel_rfl) (by kernel_rfl) (by kernel_rfl) hc ?_
             refine mreg_run [] 4 [(4, [], pv_ b_), (5, [], pv_ b_1), (6, [], pv_ b_2), (7, [], pv_ b_3), (9, [], Value.int .i64 t52), (56, [], Value.int .i64 v56)] (by kernel_rfl) (by kernel_rfl) ?_
             obtain ⟨v57, hc, h⟩ := h
             refine mreg_load1 (i := 4) (by kernel_rfl) (t := 3) (a := (Operand.tmp 5)) (b := b_1) (o := 0) (ty := 3) (dst := some 57) (by kernel_rfl) (by kernel_rfl) (by kernel_rfl) hc ?_
             refine mreg_run [.plain] 6 [(4, [], pv_ b_), (6, [], pv_ b_2), (7, [], pv_ b_3), (9, [], Value.int .i64 t52), (58, [], Value.agg #[Value.int .u8 0, Value.int .i64 v56, Value.int .i64 v57, Value.string ByteArray.empty, Value.string ByteArray.empty, Value.bool false, Value.string ByteArray.empty, Value.string ByteArray.empty, Value.slice none 0 0])] (by kernel_rfl) (by kernel_rfl) ?_
             refine mreg_new (op := (Op.alloc 82)) (ty := 0) (dst := some 10) 6 [] [(4, fun w' => w'.cell? ⟨b_1, 0, none⟩ = some (Value.int .i64 v57)), (3, fun w' => w'.cell? ⟨(pblk v53), (poff v53), none⟩ = some (Value.int .i64 v56)), (0, fun w' => w'.cell? ⟨b_, 0, none⟩ = some (Value.pointer v53))] (fun bb => pv_ bb) (Obj.cells ([Value.int .u8 0, Value.int .i64 0, Value.int .i64 0, Value.string ByteArray.empty, Value.string ByteArray.empty, Value.bool false, Value.string ByteArray.empty, Value.string ByteArray.empty, Value.slice none 0 0]).toArray ty_api_Req (0, 0)) (by kernel_rfl) (by kernel_rfl) (by kernel_rfl) (by kernel_rfl) (by kernel_rfl) (by kernel_rfl) (fun b_4 w15 hb hw => ?_)
             replace h := h b_4 w15 hb hw
             clear hb hw
             obtain ⟨hk0, hk1, hk2, h⟩ := h
             refine ⟨⟨hk0, hk1, hk2, trivial⟩, ?_⟩
             refine mreg_run [] 7 [(4, [], pv_ b_), (6, [], pv_ b_2), (7, [], pv_ b_3), (9, [], Value.int .i64 t52), (10, [], pv_ b_4), (58, [], Value.agg #[Value.int .u8 0, Value.int .i64 v56, Value.int .i64 v57, Value.string ByteArray.empty, Value.string ByteArray.empty, Value.bool false, Value.string ByteArray.empty, Value.string ByteArray.empty, Value.slice none 0 0])] (by kernel_rfl) (by kernel_rfl) ?_
             obtain ⟨hc, h⟩ := h
             refine mreg_store (t := 82) (a := (Operand.tmp 10)) (x := (Operand.tmp 58)) (b := b_4) (o := 0) (k := 9) (ty := 0) (dst := none) 7 [0, 1, 2, 3, 4, 5, 6] [] [Value.int .u8 0, Value.int .i64 v56, Value.int .i64 v57, Value.string ByteArray.empty, Value.string ByteArray.empty, Value.bool false, Value.string ByteArray.empty, Value.string ByteArray.empty, Value.slice none 0 0] (by kernel_rfl) (by kernel_rfl) (by kernel_rfl) (by kernel_rfl) (by kernel_rfl) (by kernel_rfl) (by kernel_rfl) (by kernel_rfl) (by kernel_rfl) (by kernel_rfl) hc (fun w16 hw => ?_)
             replace h := h w16 hw
             clear hw
             refine ⟨trivial, ?_⟩
             refine mreg_end [(4, pv_ b_), (6, pv_ b_2), (7, pv_ b_3), (9, Value.int .i64 t52), (10, pv_ b_4)] (by kernel_rfl) (by kernel_rfl) (by kernel_rfl) ?_
             change WpE _ _ c16_45 _ _ _
             refine wpE_seq_cut (x := c16_46) (y := c16_75) (by kernel_rfl) (fun l w => l = [(4, pv_ b_), (9, Value.int .i64 t52), (10, pv_ b_4)] ∧ F_call_Task_Begin_k2 b_ D rec_ Kb t52 b_4 w) ?_ ?_
             · refine wpE_seq (x := c16_47) (y := c16_49) (by kernel_rfl) ?_
               refine wpE_region (id := 11) (ops := r16_47) (by kernel_rfl) ?_
               refine reg_run [] 0 [(4, [], pv_ b_), (6, [], pv_ b_2), (7, [], pv_ b_3), (9, [], Value.int .i64 t52), (10, [], pv_ b_4)] (by kernel_rfl) (by kernel_rfl) ?_
               obtain ⟨v59, hc, h⟩ := h
               refine reg_load1 (t := 63) (a := (Operand.tmp 4)) (b := b_) (o := 0) (ty := 63) (dst := some 59) (by kernel_rfl) (by kernel_rfl) (by kernel_rfl) hc ?_
               refine reg_run [] 1 [(4, [], pv_ b_), (6, [], pv_ b_2), (7, [], pv_ b_3), (9, [], Value.int .i64 t52), (10, [], pv_ b_4), (59, [], Value.pointer v59)] (by kernel_rfl) (by kernel_rfl) ?_
               obtain ⟨hp_18, h⟩ := h
               refine reg_conv [(4, [], pv_ b_), (6, [], pv_ b_2), (7, [], pv_ b_3), (9, [], Value.int .i64 t52), (10, [], pv_ b_4), (59, [], Value.pointer (some ⟨(pblk v59), (poff v59), none⟩))] (congrArg (fun pp => ([(4, [], pv_ b_), (6, [], pv_ b_2), (7, [], pv_ b_3), (9, [], Value.int .i64 t52), (10, [], pv_ b_4), (59, [], Value.pointer pp)] : GEnv)) hp_18) ?_
               refine reg_run [.plain] 2 [(4, [], pv_ b_), (6, [], pv_ b_2), (7, [], pv_ b_3), (9, [], Value.int .i64 t52), (10, [], pv_ b_4), (59, [], Value.pointer (some ⟨(pblk v59), (poff v59), none⟩)), (60, [], Value.pointer (some ⟨(pblk v59), (poff v59), none⟩))] (by kernel_rfl) (by kernel_rfl) ?_
               refine reg_run [.plain, .plain] 4 [(4, [], pv_ b_), (6, [], pv_ b_2), (7, [], pv_ b_3), (9, [], Value.int .i64 t52), (10, [], pv_ b_4), (62, [], Value.pointer (some ⟨(pblk v59), (poff v59) + 5, none⟩))] (by kernel_rfl) (by kernel_rfl) ?_
               obtain ⟨v63, hc, h⟩ := h
               refine reg_load1 (t := 57) (a := (Operand.tmp 62)) (b := (pblk v59)) (o := ((poff v59) + 5)) (ty := 57) (dst := some 63) (by kernel_rfl) (by kernel_rfl) (by kernel_rfl) hc ?_
               refine reg_end [(4, pv_ b_), (6, pv_ b_2), (7, pv_ b_3), (9, Value.int .i64 t52), (10, pv_ b_4), (63, Value.int .u8 v63)] (by kernel_rfl) (by kernel_rfl) ?_
               change WpE _ _ c16_49 _ _ _
               refine wpE_block (id := 3) (x := c16_50) (by kernel_rfl) ?_
               refine wpE_seq (x := c16_51) (y := c16_53) (by kernel_rfl) ?_
               refine wpE_region (id := 12) (ops := r16_51) (by kernel_rfl) ?_
               refine reg_run [.plain, .plain] 2 [(4, [], pv_ b_), (6, [], pv_ b_2), (7, [], pv_ b_3), (9, [], Value.int .i64 t52), (10, [], pv_ b_4), (63, [], Value.int .u8 v63), (64, [], Value.bool (v63 == 1))] (by kernel_rfl) (by kernel_rfl) ?_
               refine reg_end [(4, pv_ b_), (6, pv_ b_2), (7, pv_ b_3), (9, Value.int .i64 t52), (10, pv_ b_4), (63, Value.int .u8 v63), (64, Value.bool (v63 == 1))] (by kernel_rfl) (by kernel_rfl) ?_
               change WpE _ _ c16_53 _ _ _
               refine wpE_cond (o := (Operand.tmp 64)) (b := (v63 == 1)) (x := c16_54) (y := c16_56) (by kernel_rfl) (by kernel_rfl) (fun hb => ?_) (fun hb => ?_)
               · replace h := h.1 hb
                 refine wpE_mixregionY (id := 13) (ops := r16_54) o_call_Task_Begin_54 (by kernel_rfl) (by kernel_rfl) (by kernel_rfl) (by kernel_rfl) (by kernel_rfl) (fun w23 hw => ?_)
                 replace h := h w23 hw
                 clear hw
                 refine mreg_run [] 0 [(4, [], pv_ b_), (9, [], Value.int .i64 t52), (10, [], pv_ b_4)] (by kernel_rfl) (by kernel_rfl) ?_
                 obtain ⟨v66, hc, h⟩ := h
                 refine mreg_load1 (i := 0) (by kernel_rfl) (t := 63) (a := (Operand.tmp 4)) (b := b_) (o := 0) (ty := 63) (dst := some 66) (by kernel_rfl) (by kernel_rfl) (by kernel_rfl) hc ?_
                 refine mreg_run [] 1 [(4, [], pv_ b_), (9, [], Value.int .i64 t52), (10, [], pv_ b_4), (66, [], Value.pointer v66)] (by kernel_rfl) (by kernel_rfl) ?_
                 obtain ⟨hp_19, h⟩ := h
                 refine mreg_conv [(4, [], pv_ b_), (9, [], Value.int .i64 t52), (10, [], pv_ b_4), (66, [], Value.pointer (some ⟨(pblk v66), (poff v66), none⟩))] (congrArg (fun pp => ([(4, [], pv_ b_), (9, [], Value.int .i64 t52), (10, [], pv_ b_4), (66, [], Value.pointer pp)] : GEnv)) hp_19) ?_
                 refine mreg_run [.plain] 2 [(4, [], pv_ b_), (9, [], Value.int .i64 t52), (10, [], pv_ b_4), (66, [], Value.pointer (some ⟨(pblk v66), (poff v66), none⟩)), (67, [], Value.pointer (some ⟨(pblk v66), (poff v66), none⟩))] (by kernel_rfl) (by kernel_rfl) ?_
                 refine mreg_run [.plain, .plain] 4 [(4, [], pv_ b_), (9, [], Value.int .i64 t52), (10, [], pv_ b_4), (69, [], Value.pointer (some ⟨(pblk v66), (poff v66) + 6, none⟩))] (by kernel_rfl) (by kernel_rfl) ?_
                 obtain ⟨v70, hc, h⟩ := h
                 refine mreg_load1 (i := 4) (by kernel_rfl) (t := 9) (a := (Operand.tmp 69)) (b := (pblk v66)) (o := ((poff v66) + 6)) (ty := 9) (dst := some 70) (by kernel_rfl) (by kernel_rfl) (by kernel_rfl) hc ?_
                 refine mreg_run [.plain] 6 [(4, [], pv_ b_), (9, [], Value.int .i64 t52), (10, [], pv_ b_4), (70, [], Value.string v70), (71, [], pv_ b_4)] (by kernel_rfl) (by kernel_rfl) ?_
                 obtain ⟨hc, h⟩ := h
                 refine mreg_store (t := 78) (a := (Operand.tmp 71)) (x := (Operand.const (Value.int IntKind.u8 2))) (b := b_4) (o := 0) (k := 1) (ty := 0) (dst := none) 6 [5] [(4, fun w' => w'.cell? ⟨(pblk v66), (poff v66) + 6, none⟩ = some (Value.string v70)), (0, fun w' => w'.cell? ⟨b_, 0, none⟩ = some (Value.pointer v66))] [Value.int .u8 2] (by kernel_rfl) (by kernel_rfl) (by kernel_rfl) (by kernel_rfl) (by kernel_rfl) (by kernel_rfl) (by kernel_rfl) (by kernel_rfl) (by kernel_rfl) (by kernel_rfl) hc (fun w24 hw => ?_)
                 replace h := h w24 hw
                 clear hw
                 obtain ⟨hk0, hk1, h⟩ := h
                 refine ⟨⟨hk0, hk1, trivial⟩, ?_⟩
                 refine mreg_run [.plain] 8 [(4, [], pv_ b_), (9, [], Value.int .i64 t52), (10, [], pv_ b_4), (70, [], Value.string v70), (72, [], Value.pointer (some ⟨b_4, 6, none⟩))] (by kernel_rfl) (by kernel_rfl) ?_
                 obtain ⟨hc, h⟩ := h
                 refine mreg_store (t := 9) (a := (Operand.tmp 72)) (x := (Operand.tmp 70)) (b := b_4) (o := 6) (k := 1) (ty := 0) (dst := none) 8 [0, 1, 2, 3, 4, 5, 6, 7] [] [Value.string v70] (by kernel_rfl) (by kernel_rfl) (by kernel_rfl) (by kernel_rfl) (by kernel_rfl) (by kernel_rfl) (by kernel_rfl) (by kernel_rfl) (by kernel_rfl) (by kernel_rfl) hc (fun w25 hw => ?_)
                 replace h := h w25 hw
                 clear hw
                 refine ⟨trivial, ?_⟩
                 refine mreg_end [(4, pv_ b_), (9, Value.int .i64 t52), (10, pv_ b_4)] (by kernel_rfl) (by kernel_rfl) (by kernel_rfl) ?_
                 exact ⟨[(4, pv_ b_), (9, Value.int .i64 t52), (10, pv_ b_4)], Sub.mk (by kernel_rfl), rfl, h⟩
               · replace h := h.2 hb
                 refine wpE_seq (x := c16_57) (y := c16_59) (by kernel_rfl) ?_
                 refine wpE_region (id := 14) (ops := r16_57) (by kernel_rfl) ?_
                 refine reg_run [.plain, .plain] 2 [(4, [], pv_ b_), (6, [], pv_ b_2), (7, [], pv_ b_3), (9, [], Value.int .i64 t52), (10, [], pv_ b_4), (63, [], Value.int .u8 v63), (73, [], Value.bool (v63 == 2))] (by kernel_rfl) (by kernel_rfl) ?_
                 refine reg_end [(4, pv_ b_), (6, pv_ b_2), (7, pv_ b_3), (9, Value.int .i64 t52), (10, pv_ b_4), (63, Value.int .u8 v63), (73, Value.bool (v63 == 2))] (by kernel_rfl) (by kernel_rfl) ?_
                 change WpE _ _ c16_59 _ _ _
                 refine wpE_cond (o := (Operand.tmp 73)) (b := (v63 == 2)) (x := c16_60) (y := c16_62) (by kernel_rfl) (by kernel_rfl) (fun hb => ?_) (fun hb => ?_)
                 · replace h := h.1 hb
                   refine wpE_mixregionY (id := 15) (ops := r16_60) o_call_Task_Begin_60 (by kernel_rfl) (by kernel_rfl) (by kernel_rfl) (by kernel_rfl) (by kernel_rfl) (fun w26 hw => ?_)
                   replace h := h w26 hw
                   clear hw
                   refine mreg_run [] 0 [(4, [], pv_ b_), (9, [], Value.int .i64 t52), (10, [], pv_ b_4)] (by kernel_rfl) (by kernel_rfl) ?_
                   obtain ⟨v75, hc, h⟩ := h
                   refine mreg_load1 (i := 0) (by kernel_rfl) (t := 63) (a := (Operand.tmp 4)) (b := b_) (o := 0) (ty := 63) (dst := some 75) (by kernel_rfl) (by kernel_rfl) (by kernel_rfl) hc ?_
                   refine mreg_run [] 1 [(4, [], pv_ b_), (9, [], Value.int .i64 t52), (10, [], pv_ b_4), (75, [], Value.pointer v75)] (by kernel_rfl) (by kernel_rfl) ?_
                   obtain ⟨hp_20, h⟩ := h
                   refine mreg_conv [(4, [], pv_ b_), (9, [], Value.int .i64 t52), (10, [], pv_ b_4), (75, [], Value.pointer (some ⟨(pblk v75), (poff v75), none⟩))] (congrArg (fun pp => ([(4, [], pv_ b_), (9, [], Value.int .i64 t52), (10, [], pv_ b_4), (75, [], Value.pointer pp)] : GEnv)) hp_20) ?_
                   refine mreg_run [.plain] 2 [(4, [], pv_ b_), (9, [], Value.int .i64 t52), (10, [], pv_ b_4), (75, [], Value.pointer (some ⟨(pblk v75), (poff v75), none⟩)), (76, [], Value.pointer (some ⟨(pblk v75), (poff v75), none⟩))] (by kernel_rfl) (by kernel_rfl) ?_
                   refine mreg_run [.plain, .plain] 4 [(4, [], pv_ b_), (9, [], Value.int .i64 t52), (10, [], pv_ b_4), (78, [], Value.pointer (some ⟨(pblk v75), (poff v75) + 6, none⟩))] (by kernel_rfl) (by kernel_rfl) ?_
                   obtain ⟨v79, hc, h⟩ := h
                   refine mreg_load1 (i := 4) (by kernel_rfl) (t := 9) (a := (Operand.tmp 78)) (b := (pblk v75)) (o := ((poff v75) + 6)) (ty := 9) (dst := some 79) (by kernel_rfl) (by kernel_rfl) (by kernel_rfl) hc ?_
                   refine mreg_run [] 5 [(4, [], pv_ b_), (9, [], Value.int .i64 t52), (10, [], pv_ b_4), (79, [], Value.string v79)] (by kernel_rfl) (by kernel_rfl) ?_
                   obtain ⟨v80, hc, h⟩ := h
                   refine mreg_load1 (i := 5) (by kernel_rfl) (t := 63) (a := (Operand.tmp 4)) (b := b_) (o := 0) (ty := 63) (dst := some 80) (by kernel_rfl) (by kernel_rfl) (by kernel_rfl) hc ?_
                   refine mreg_run [] 6 [(4, [], pv_ b_), (9, [], Value.int .i64 t52), (10, [], pv_ b_4), (79, [], Value.string v79), (80, [], Value.pointer v80)] (by kernel_rfl) (by kernel_rfl) ?_
                   obtain ⟨hp_21, h⟩ := h
                   refine mreg_conv [(4, [], pv_ b_), (9, [], Value.int .i64 t52), (10, [], pv_ b_4), (79, [], Value.string v79), (80, [], Value.pointer (some ⟨(pblk v80), (poff v80), none⟩))] (congrArg (fun pp => ([(4, [], pv_ b_), (9, [], Value.int .i64 t52), (10, [], pv_ b_4), (79, [], Value.string v79), (80, [], Value.pointer pp)] : GEnv)) hp_21) ?_
                   refine mreg_run [.plain] 7 [(4, [], pv_ b_), (9, [], Value.int .i64 t52), (10, [], pv_ b_4), (79, [], Value.string v79), (80, [], Value.pointer (some ⟨(pblk v80), (poff v80), none⟩)), (81, [], Value.pointer (some ⟨(pblk v80), (poff v80), none⟩))] (by kernel_rfl) (by kernel_rfl) ?_
                   refine mreg_run [.plain, .plain] 9 [(4, [], pv_ b_), (9, [], Value.int .i64 t52), (10, [], pv_ b_4), (79, [], Value.string v79), (83, [], Value.pointer (some ⟨(pblk v80), (poff v80) + 7, none⟩))] (by kernel_rfl) (by kernel_rfl) ?_
                   obtain ⟨v84, hc, h⟩ := h
                   refine mreg_load1 (i := 9) (by kernel_rfl) (t := 9) (a := (Operand.tmp 83)) (b := (pblk v80)) (o := ((poff v80) + 7)) (ty := 9) (dst := some 84) (by kernel_rfl) (by kernel_rfl) (by kernel_rfl) hc ?_
                   refine mreg_run [.plain] 11 [(4, [], pv_ b_), (9, [], Value.int .i64 t52), (10, [], pv_ b_4), (79, [], Value.string v79), (84, [], Value.string v84), (85, [], pv_ b_4)] (by kernel_rfl) (by kernel_rfl) ?_
                   obtain ⟨hc, h⟩ := h
                   refine mreg_store (t := 78) (a := (Operand.tmp 85)) (x := (Operand.const (Value.int IntKind.u8 3))) (b := b_4) (o := 0) (k := 1) (ty := 0) (dst := none) 11 [10] [(9, fun w' => w'.cell? ⟨(pblk v80), (poff v80) + 7, none⟩ = some (Value.string v84)), (5, fun w' => w'.cell? ⟨b_, 0, none⟩ = some (Value.pointer v80)), (4, fun w' => w'.cell? ⟨(pblk v75), (poff v75) + 6, none⟩ = some (Value.string v79)), (0, fun w' => w'.cell? ⟨b_, 0, none⟩ = some (Value.pointer v75))] [Value.int .u8 3] (by kernel_rfl) (by kernel_rfl) (by kernel_rfl) (by kernel_rfl) (by kernel_rfl) (by kernel_rfl) (by kernel_rfl) (by kernel_rfl) (by kernel_rfl) (by kernel_rfl) hc (fun w27 hw => ?_)
                   replace h := h w27 hw
                   clear hw
                   obtain ⟨hk0, hk1, hk2, hk3, h⟩ := h
                   refine ⟨⟨hk0, hk1, hk2, hk3, trivial⟩, ?_⟩
                   refine mreg_run [.plain] 13 [(4, [], pv_ b_), (9, [], Value.int .i64 t52), (10, [], pv_ b_4), (79, [], Value.string v79), (84, [], Value.string v84), (86, [], Value.pointer (some ⟨b_4, 6, none⟩))] (by kernel_rfl) (by kernel_rfl) ?_
                   obtain ⟨hc, h⟩ := h
                   refine mreg_store (t := 9) (a := (Operand.tmp 86)) (x := (Operand.tmp 79)) (b := b_4) (o := 6) (k := 1) (ty := 0) (dst := none) 13 [0, 1, 2, 3, 4, 10, 11, 12] [(9, fun w' => w'.cell? ⟨(pblk v80), (poff v80) + 7, none⟩ = some (Value.string v84)), (5, fun w' => w'.cell? ⟨b_, 0, none⟩ = some (Value.pointer v80))] [Value.string v79] (by kernel_rfl) (by kernel_rfl) (by kernel_rfl) (by kernel_rfl) (by kernel_rfl) (by kernel_rfl) (by kernel_rfl) (by kernel_rfl) (by kernel_rfl) (by kernel_rfl) hc (fun w28 hw => ?_)
                   replace h := h w28 hw
                   clear hw
                   obtain ⟨hk0, hk1, h⟩ := h
                   refine ⟨⟨hk0, hk1, trivial⟩, ?_⟩
                   refine mreg_run [.plain] 15 [(4, [], pv_ b_), (9, [], Value.int .i64 t52), (10, [], pv_ b_4), (84, [], Value.string v84), (87, [], Value.pointer (some ⟨b_4, 7, none⟩))] (by kernel_rfl) (by kernel_rfl) ?_
                   obtain ⟨hc, h⟩ := h
                   refine mreg_store (t := 9) (a := (Operand.tmp 87)) (x := (Operand.tmp 84)) (b := b_4) (o := 7) (k := 1) (ty := 0) (dst := none) 15 [0, 1, 2, 3, 4, 5, 6, 7, 8, 9, 10, 11, 12, 13, 14] [] [Value.string v84] (by kernel_rfl) (by kernel_rfl) (by kernel_rfl) (by kernel_rfl) (by kernel_rfl) (by kernel_rfl) (by kernel_rfl) (by kernel_rfl) (by kernel_rfl) (by kernel_rfl) hc (fun w29 hw => ?_)
                   replace h := h w29 hw
                   clear hw
                   refine ⟨trivial, ?_⟩
                   refine mreg_end [(4, pv_ b_), (9, Value.int .i64 t52), (10, pv_ b_4)] (by kernel_rfl) (by kernel_rfl) (by kernel_rfl) ?_
                   exact ⟨[(4, pv_ b_), (9, Value.int .i64 t52), (10, pv_ b_4)], Sub.mk (by kernel_rfl), rfl, h⟩
                 · replace h := h.2 hb
                   refine wpE_seq (x := c16_63) (y := c16_65) (by kernel_rfl) ?_
                   refine wpE_region (id := 16) (ops := r16_63) (by kernel_rfl) ?_
                   refine reg_run [.plain, .plain] 2 [(4, [], pv_ b_), (6, [], pv_ b_2), (7, [], pv_ b_3), (9, [], Value.int .i64 t52), (10, [], pv_ b_4), (63, [], Value.int .u8 v63), (88, [], Value.bool (v63 == 3))] (by kernel_rfl) (by kernel_rfl) ?_
                   refine reg_end [(4, pv_ b_), (6, pv_ b_2), (7, pv_ b_3), (9, Value.int .i64 t52), (10, pv_ b_4), (63, Value.int .u8 v63), (88, Value.bool (v63 == 3))] (by kernel_rfl) (by kernel_rfl) ?_
                   change WpE _ _ c16_65 _ _ _
                   refine wpE_cond (o := (Operand.tmp 88)) (b := (v63 == 3)) (x := c16_66) (y := c16_68) (by kernel_rfl) (by kernel_rfl) (fun hb => ?_) (fun hb => ?_)
                   · replace h := h.1 hb
                     refine wpE_mixregionY (id := 17) (ops := r16_66) o_call_Task_Begin_66 (by kernel_rfl) (by kernel_rfl) (by kernel_rfl) (by kernel_rfl) (by kernel_rfl) (fun w30 hw => ?_)
                     replace h := h w30 hw
                     clear hw
                     refine mreg_run [] 0 [(4, [], pv_ b_), (6, [], pv_ b_2), (9, [], Value.int .i64 t52), (10, [], pv_ b_4)] (by kernel_rfl) (by kernel_rfl) ?_
                     obtain ⟨v90, hc, h⟩ := h
                     refine mreg_load1 (i := 0) (by kernel_rfl) (t := 3) (a := (Operand.tmp 6)) (b := b_2) (o := 0) (ty := 3) (dst := some 90) (by kernel_rfl) (by kernel_rfl) (by kernel_rfl) hc ?_
                     refine mreg_run [.plain] 2 [(4, [], pv_ b_), (9, [], Value.int .i64 t52), (10, [], pv_ b_4), (90, [], Value.int .i64 v90), (91, [], pv_ b_4)] (by kernel_rfl) (by kernel_rfl) ?_
                     obtain ⟨hc, h⟩ := h
                     refine mreg_store (t := 78) (a := (Operand.tmp 91)) (x := (Operand.const (Value.int IntKind.u8 4))) (b := b_4) (o := 0) (k := 1) (ty := 0) (dst := none) 2 [1] [(0, fun w' => w'.cell? ⟨b_2, 0, none⟩ = some (Value.int .i64 v90))] [Value.int .u8 4] (by kernel_rfl) (by kernel_rfl) (by kernel_rfl) (by kernel_rfl) (by kernel_rfl) (by kernel_rfl) (by kernel_rfl) (by kernel_rfl) (by kernel_rfl) (by kernel_rfl) hc (fun w31 hw => ?_)
                     replace h := h w31 hw
                     clear hw
                     obtain ⟨hk0, h⟩ := h
                     refine ⟨⟨hk0, trivial⟩, ?_⟩
                     refine mreg_run [.plain] 4 [(4, [], pv_ b_), (9, [], Value.int .i64 t52), (10, [], pv_ b_4), (90, [], Value.int .i64 v90), (92, [], Value.pointer (some ⟨b_4, 2, none⟩))] (by kernel_rfl) (by kernel_rfl) ?_
                     obtain ⟨hc, h⟩ := h
                     refine mreg_store (t := 3) (a := (Operand.tmp 92)) (x := (Operand.tmp 90)) (b := b_4) (o := 2) (k := 1) (ty := 0) (dst := none) 4 [0, 1, 2, 3] [] [Value.int .i64 v90] (by kernel_rfl) (by kernel_rfl) (by kernel_rfl) (by kernel_rfl) (by kernel_rfl) (by kernel_rfl) (by kernel_rfl) (by kernel_rfl) (by kernel_rfl) (by kernel_rfl) hc (fun w32 hw => ?_)
                     replace h := h w32 hw
                     clear hw
                     refine ⟨trivial, ?_⟩
                     refine mreg_end [(4, pv_ b_), (9, Value.int .i64 t52), (10, pv_ b_4)] (by kernel_rfl) (by kernel_rfl) (by kernel_rfl) ?_
                     exact ⟨[(4, pv_ b_), (9, Value.int .i64 t52), (10, pv_ b_4)], Sub.mk (by kernel_rfl), rfl, h⟩
                   · replace h := h.2 hb
                     refine wpE_seq (x := c16_69) (y := c16_71) (by kernel_rfl) ?_
                     refine wpE_region (id := 18) (ops := r16_69) (by kernel_rfl) ?_
                     refine reg_run [.plain, .plain] 2 [(4, [], pv_ b_), (7, [], pv_ b_3), (9, [], Value.int .i64 t52), (10, [], pv_ b_4), (93, [], Value.bool (v63 == 4))] (by kernel_rfl) (by kernel_rfl) ?_
                     refine reg_end [(4, pv_ b_), (7, pv_ b_3), (9, Value.int .i64 t52), (10, pv_ b_4), (93, Value.bool (v63 == 4))] (by kernel_rfl) (by kernel_rfl) ?_
                     change WpE _ _ c16_71 _ _ _
                     refine wpE_cond (o := (Operand.tmp 93)) (b := (v63 == 4)) (x := c16_72) (y := c16_74) (by kernel_rfl) (by kernel_rfl) (fun hb => ?_) (fun hb => ?_)
                     · replace h := h.1 hb
                       refine wpE_region (id := 19) (ops := r16_72) (by kernel_rfl) ?_
                       refine reg_run [] 0 [(4, [], pv_ b_), (7, [], pv_ b_3), (9, [], Value.int .i64 t52), (10, [], pv_ b_4)] (by kernel_rfl) (by kernel_rfl) ?_
                       obtain ⟨v95, hc, h⟩ := h
                       refine reg_load1 (t := 67) (a := (Operand.tmp 7)) (b := b_3) (o := 0) (ty := 67) (dst := some 95) (by kernel_rfl) (by kernel_rfl) (by kernel_rfl) hc ?_
                       refine reg_run [] 1 [(4, [], pv_ b_), (9, [], Value.int .i64 t52), (10, [], pv_ b_4), (95, [], sv_ v95)] (by kernel_rfl) (by kernel_rfl) ?_
                       refine reg_enter (op := (Op.call (Call.mk (Callee.value (Operand.func 74)) #[(Operand.tmp 95)] #[67]))) (ty := 67) (dst := some 96) 74 #[sv_ v95] (by kernel_rfl) (fun ww => by kernel_rfl) (Calls.mono h ?_)
                       rintro _ w33 ⟨v96, rfl, h⟩
                       refine ⟨_, rfl, ?_⟩
                       refine reg_run [.plain] 3 [(4, [], pv_ b_), (9, [], Value.int .i64 t52), (10, [], pv_ b_4), (96, [], sv_ v96), (97, [], pv_ b_4)] (by kernel_rfl) (by kernel_rfl) ?_
                       obtain ⟨hc, h⟩ := h
                       refine reg_store (t := 78) (a := (Operand.tmp 97)) (x := (Operand.const (Value.int IntKind.u8 5))) (b := b_4) (o := 0) (ty := 0) (dst := none) [Value.int .u8 5] (by kernel_rfl) (by kernel_rfl) (by kernel_rfl) (k := 1) (by kernel_rfl) (by kernel_rfl) (by kernel_rfl) hc (fun w34 hw => ?_)
                       replace h := h w34 hw
                       clear hw
                       refine reg_run [.plain] 5 [(4, [], pv_ b_), (9, [], Value.int .i64 t52), (10, [], pv_ b_4), (96, [], sv_ v96), (98, [], Value.pointer (some ⟨b_4, 8, none⟩))] (by kernel_rfl) (by kernel_rfl) ?_
                       obtain ⟨hc, h⟩ := h
                       refine reg_store (t := 67) (a := (Operand.tmp 98)) (x := (Operand.tmp 96)) (b := b_4) (o := 8) (ty := 0) (dst := none) [sv_ v96] (by kernel_rfl) (by kernel_rfl) (by kernel_rfl) (k := 1) (by kernel_rfl) (by kernel_rfl) (by kernel_rfl) hc (fun w35 hw => ?_)
                       replace h := h w35 hw
                       clear hw
                       refine reg_end [(4, pv_ b_), (9, Value.int .i64 t52), (10, pv_ b_4)] (by kernel_rfl) (by kernel_rfl) ?_
                       exact ⟨[(4, pv_ b_), (9, Value.int .i64 t52), (10, pv_ b_4)], Sub.mk (by kernel_rfl), rfl, h⟩
                     · replace h := h.2 hb
                       refine wpE_skip (by kernel_rfl) ?_
                       exact ⟨[(4, pv_ b_), (9, Value.int .i64 t52), (10, pv_ b_4)], Sub.mk (by kernel_rfl), rfl, h⟩
             · rintro _ w17 ⟨rfl, h⟩
               unfold F_call_Task_Begin_k2 at h
               refine wpE_mixregionY (id := 20) (ops := r16_75) o_call_Task_Begin_75 (by kernel_rfl) (by kernel_rfl) (by kernel_rfl) (by kernel_rfl) (by kernel_rfl) (fun w18 hw => ?_)
               replace h := h w18 hw
               clear hw
               refine mreg_run [] 0 [(4, [], pv_ b_), (9, [], Value.int .i64 t52), (10, [], pv_ b_4)] (by kernel_rfl) (by kernel_rfl) ?_
               obtain ⟨v99, hc, h⟩ := h
               refine mreg_load1 (i := 0) (by kernel_rfl) (t := 63) (a := (Operand.tmp 4)) (b := b_) (o := 0) (ty := 63) (dst := some 99) (by kernel_rfl) (by kernel_rfl) (by kernel_rfl) hc ?_
               refine mreg_run [] 1 [(4, [], pv_ b_), (9, [], Value.int .i64 t52), (10, [], pv_ b_4), (99, [], Value.pointer v99)] (by kernel_rfl) (by kernel_rfl) ?_
               obtain ⟨v100, hc, h⟩ := h
               refine mreg_load1 (i := 1) (by kernel_rfl) (t := 63) (a := (Operand.tmp 4)) (b := b_) (o := 0) (ty := 63) (dst := some 100) (by kernel_rfl) (by kernel_rfl) (by kernel_rfl) hc ?_
               refine mreg_run [] 2 [(9, [], Value.int .i64 t52), (10, [], pv_ b_4), (99, [], Value.pointer v99), (100, [], Value.pointer v100)] (by kernel_rfl) (by kernel_rfl) ?_
               obtain ⟨hp_15, h⟩ := h
               refine mreg_conv [(9, [], Value.int .i64 t52), (10, [], pv_ b_4), (99, [], Value.pointer v99), (100, [], Value.pointer (some ⟨(pblk v100), (poff v100), none⟩))] (congrArg (fun pp => ([(9, [], Value.int .i64 t52), (10, [], pv_ b_4), (99, [], Value.pointer v99), (100, [], Value.pointer pp)] : GEnv)) hp_15) ?_
               refine mreg_run [.plain] 3 [(9, [], Value.int .i64 t52), (10, [], pv_ b_4), (99, [], Value.pointer v99), (100, [], Value.pointer (some ⟨(pblk v100), (poff v100), none⟩)), (101, [], Value.pointer (some ⟨(pblk v100), (poff v100), none⟩))] (by kernel_rfl) (by kernel_rfl) ?_
               refine mreg_run [.plain] 4 [(9, [], Value.int .i64 t52), (10, [], pv_ b_4), (99, [], Value.pointer v99), (102, [], Value.pointer (some ⟨(pblk v100), (poff v100) + 10, none⟩))] (by kernel_rfl) (by kernel_rfl) ?_
               obtain ⟨v103, hc, h⟩ := h
               refine mreg_load1 (i := 4) (by kernel_rfl) (t := 112) (a := (Operand.tmp 102)) (b := (pblk v100)) (o := ((poff v100) + 10)) (ty := 112) (dst := some 103) (by kernel_rfl) (by kernel_rfl) (by kernel_rfl) hc ?_
               refine mreg_run [.plain] 6 [(10, [], pv_ b_4), (99, [], Value.pointer v99), (103, [], sv_ v103), (104, [], Value.int .i64 t52)] (by kernel_rfl) (by kernel_rfl) ?_
               obtain ⟨v105, hc, h⟩ := h
               refine mreg_loadN (i := 6) (by kernel_rfl) (t := 82) (a := (Operand.tmp 10)) (b := b_4) (o := 0) (ty := 82) (dst := some 105) [Value.int .u8 v105.Kind, Value.int .i64 v105.From, Value.int .i64 v105.Number, Value.string v105.Write.Key, Value.string v105.Write.Val, Value.bool v105.Write.Drop, Value.string v105.Key, Value.string v105.End, sv_ v105.Beyond] (by kernel_rfl) (by kernel_rfl) (by kernel_rfl) (k := 9) (by kernel_rfl) (by kernel_rfl) hc ?_
               refine mreg_run [.plain] 8 [(99, [], Value.pointer v99), (103, [], sv_ v103), (106, [], Value.agg #[Value.int .i64 t52, Value.int .u8 v105.Kind, Value.int .i64 v105.From, Value.int .i64 v105.Number, Value.string v105.Write.Key, Value.string v105.Write.Val, Value.bool v105.Write.Drop, Value.string v105.Key, Value.string v105.End, sv_ v105.Beyond])] (by kernel_rfl) (by kernel_rfl) ?_
               refine mreg_new (op := (Op.buildSlice 112 1 #[(0, (Operand.tmp 106))])) (ty := 112) (dst := some 107) 8 [7, 5, 6] [(4, fun w' => w'.cell? ⟨(pblk v100), (poff v100) + 10, none⟩ = some (sv_ v103)), (1, fun w' => w'.cell? ⟨b_, 0, none⟩ = some (Value.pointer v100)), (0, fun w' => w'.cell? ⟨b_, 0, none⟩ = some (Value.pointer v99))] (fun bb => Value.slice (some ⟨bb, 0, none⟩) 1 1) (Obj.cells ([Value.int .i64 t52, Value.int .u8 v105.Kind, Value.int .i64 v105.From, Value.int .i64 v105.Number, Value.string v105.Write.Key, Value.string v105.Write.Val, Value.bool v105.Write.Drop, Value.string v105.Key, Value.string v105.End, sv_ v105.Beyond]).toArray ty_call_asked (0, 0)) (by kernel_rfl) (by kernel_rfl) (by kernel_rfl) (by kernel_rfl) (by kernel_rfl) (by kernel_rfl) (fun b_5 w19 hb hw => ?_)
               replace h := h b_5 w19 hb hw
               clear hb hw
               obtain ⟨hk0, hk1, hk2, h⟩ := h
               refine ⟨⟨hk0, hk1, hk2, trivial⟩, ?_⟩
               refine mreg_run [] 9 [(99, [], Value.pointer v99), (103, [], sv_ v103), (107, [], Value.slice (some ⟨b_5, 0, none⟩) 1 1)] (by kernel_rfl) (by kernel_rfl) ?_
               obtain ⟨src, hs, h⟩ := h
               refine mreg_append (t := 112) (tx := 112) (e := 122) (a := (Operand.tmp 103)) (xo := (Operand.tmp 107)) (s := v103) (x := (Slc.mk (some ⟨b_5, 0, none⟩) 1 1)) (sz := 10) (by_ := 128) (zs := [Value.int .i64 0, Value.int .u8 0, Value.int .i64 0, Value.int .i64 0, Value.string ByteArray.empty, Value.string ByteArray.empty, Value.bool false, Value.string ByteArray.empty, Value.string ByteArray.empty, Value.slice none 0 0]) (ty := 112) (dst := some 108) 9 [4, 8, 3, 7, 2, 5, 6, 1] [(0, fun w' => w'.cell? ⟨b_, 0, none⟩ = some (Value.pointer v99))] src (by kernel_rfl) (by kernel_rfl) (by kernel_rfl) (by kernel_rfl) (by kernel_rfl) (by kernel_rfl) (by kernel_rfl) (by kernel_rfl) (by kernel_rfl) (by kernel_rfl) (by kernel_rfl) (by kernel_rfl) (by kernel_rfl) hs (AppendW.mono h (fun v108 w20 h => ?_))
               obtain ⟨hk0, h⟩ := h
               refine ⟨⟨hk0, trivial⟩, ?_⟩
               refine mreg_run [] 10 [(99, [], Value.pointer v99), (108, [], sv_ v108)] (by kernel_rfl) (by kernel_rfl) ?_
               obtain ⟨hp_16, h⟩ := h
               refine mreg_conv [(99, [], Value.pointer (some ⟨(pblk v99), (poff v99), none⟩)), (108, [], sv_ v108)] (congrArg (fun pp => ([(99, [], Value.pointer pp), (108, [], sv_ v108)] : GEnv)) hp_16) ?_
               refine mreg_run [.plain] 11 [(99, [], Value.pointer (some ⟨(pblk v99), (poff v99), none⟩)), (108, [], sv_ v108), (109, [], Value.pointer (some ⟨(pblk v99), (poff v99), none⟩))] (by kernel_rfl) (by kernel_rfl) ?_
               refine mreg_run [.plain] 12 [(108, [], sv_ v108), (110, [], Value.pointer (some ⟨(pblk v99), (poff v99) + 10, none⟩))] (by kernel_rfl) (by kernel_rfl) ?_
               obtain ⟨hc, h⟩ := h
               refine mreg_store (t := 112) (a := (Operand.tmp 110)) (x := (Operand.tmp 108)) (b := (pblk v99)) (o := ((poff v99) + 10)) (k := 1) (ty := 0) (dst := none) 12 [0, 1, 2, 3, 4, 5, 6, 7, 8, 9, 11, 10] [] [sv_ v108] (by kernel_rfl) (by kernel_rfl) (by kernel_rfl) (by kernel_rfl) (by kernel_rfl) (by kernel_rfl) (by kernel_rfl) (by kernel_rfl) (by kernel_rfl) (by kernel_rfl) hc (fun w21 hw => ?_)
               replace h := h w21 hw
               clear hw
               refine ⟨trivial, ?_⟩
               refine mreg_end [] (by kernel_rfl) (by kernel_rfl) (by kernel_rfl) ?_
               exact And.intro h.1 ⟨true, rfl, h.2 _ rfl⟩
           replace h := h rec_ D w11 hD_ hw_ hB_
           clear hB_ hw_
           have hA_ : ∀ w37, F_call_Task_Begin_A3 R D w37 → @WpE (rndD Tryz.prog Tryz.f16 (fun v w' => ∃ (r0 : Int), v = Value.int .i64 r0 ∧ R r0 w') D) Tryz.prog 111 c16_77 (fun _ _ _ => False) [(4, pv_ b_), (5, pv_ b_1), (6, pv_ b_2), (7, pv_ b_3), (8, Value.int .i64 0), (51, v51)] w37 := by
             clear h
             intro w37 h
             letI : Rnd := rndD Tryz.prog Tryz.f16 (fun v w' => ∃ (r0 : Int), v = Value.int .i64 r0 ∧ R r0 w') D
             unfold F_call_Task_Begin_A3 at h
             change WpE _ _ c16_77 _ _ _
             refine wpE_seq (x := c16_78) (y := c16_80) (by kernel_rfl) ?_
             refine wpE_region (id := 21) (ops := r16_78) (by kernel_rfl) ?_
             refine reg_run [.plain] 1 [(8, [], Value.int .i64 0)] (by kernel_rfl) (by kernel_rfl) ?_
             refine reg_end [(8, Value.int .i64 0)] (by kernel_rfl) (by kernel_rfl) ?_
             change WpE _ _ c16_80 _ _ _
             refine wpE_retD (by kernel_rfl) h.1 ?_
             replace h := h.2 _ rfl
             repeat (first | refine seqQ_ret ?_ | refine blockQ_ret ?_ | refine loopQ_ret ?_ | refine cutQ_ret ?_)
             exact retS (rs := [(ResultVar.tmp 8)]) (v := Value.int .i64 0) (by kernel_rfl) (⟨by kernel_rfl, trivial⟩) ⟨0, rfl, h⟩
           refine CallsV.mono h ?_
           rintro e_ w38 ⟨hv_, st_, pe_, hl_, hst_, h⟩
           refine ⟨hv_, st_, pe_, hl_, hst_, ?_⟩
           replace h := h _ rfl
           obtain ⟨hpe_, h⟩ := h
           subst hpe_
           exact hA_ _ h
 · rintro e w' ⟨v, rfl, r0, rfl, h⟩; exact ⟨r0, rfl, h⟩

/-! ### (*towpath/call.Task).Got (function 17) -/
def c17_0 := cb_ Tryz.f17
def c17_3 := cr_ c17_0
def c17_4 := cl_ c17_3
def c17_5 := cl_ c17_4
def c17_8 := cr_ c17_5
def c17_13 := cr_ c17_8
def c17_14 := cl_ c17_13
def r17_14 := co_ c17_14
def c17_16 := cr_ c17_13
def c17_21 := cr_ c17_16
def c17_22 := cl_ c17_21
def r17_22 := co_ c17_22
def c17_30 := cr_ c17_3
def c17_33 := cr_ c17_30
def c17_34 := cl_ c17_33
def c17_37 := cr_ c17_34
def c17_38 := cl_ c17_37
def c17_39 := cl_ c17_38
def c17_42 := cr_ c17_39
def c17_46 := cr_ c17_42
def c17_47 := cl_ c17_46
def c17_48 := cl_ c17_47
def c17_51 := cr_ c17_48
def r17_51 := co_ c17_51
def c17_55 := cr_ c17_33
def c17_56 := cl_ c17_55
def r17_56 := co_ c17_56
def o_call_Task_Got_51 : List Nat := [0, 1, 2, 3, 4, 5, 6, 7, 8, 9]
def o_call_Task_Got_56 : List Nat := [0, 1, 2, 3, 4, 5, 6, 7, 8, 10, 11, 12, 9, 13, 14, 15, 16, 17, 18]

theorem S_call_Task_Got {t_ : Option Addr} {r : T_api_Resp} {w : World} {R : Int → World → Prop} (h : F_call_Task_Got t_ r R w) : C_call_Task_Got t_ r w R := by
 unfold F_call_Task_Got at h
 refine Yh Tryz.func17 ?_
 · refine Yt ?_
   refine Yw pv_ h fun b_ w1 h => ?_
   refine Yf P1 [0, 3] ?_
   refine Ys ?_
   refine Yd 0 ?_
   refine Yt ?_
   refine Yn P1 ?_
   refine Ym1 h fun v10 w2 h => ?_
   refine Yf P2 [0, 3, 8] ?_
   refine Yc h (fun h => ?_) fun h => ?_
   · refine Yp P1 [4] ?_
     exact YS ⟨2, rfl, h⟩
   · refine Ys ?_
     refine wpE_drawregion (id := 3) (ops := r17_14) (by kernel_rfl) (by kernel_rfl) (by kernel_rfl) ?_
     refine Qn P1 ?_
     refine Qv 13 h fun hp_8 h => ?_
     refine Qn P1 ?_
     refine Qn P1 ?_
     refine Ql h fun v16 h => ?_
     refine Qn P2 ?_
     refine Qv 18 h fun hp_9 h => ?_
     refine Qn P1 ?_
     refine Qn P1 ?_
     refine Ql h fun v21 h => ?_
     refine Qf P2 [0, 3, 12] h fun w3 h => ?_
     refine Yc h (fun h => ?_) fun h => ?_
     · refine Yp P1 [4] ?_
       exact YS ⟨9, rfl, h⟩
     · refine Ys ?_
       refine wpE_drawregion (id := 5) (ops := r17_22) (by kernel_rfl) (by kernel_rfl) (by kernel_rfl) ?_
       refine Qn P1 ?_
       refine Ql h fun v25 h => ?_
       refine Qn P1 ?_
       refine Qv 26 h fun hp_11 h => ?_
       refine Qn P1 ?_
       refine Qn P1 ?_
       refine Ql h fun v29 h => ?_
       refine Qf P2 [0, 3, 23] h fun w4 h => ?_
       refine Yc h (fun h => ?_) fun h => ?_
       · refine Yp P1 [4] ?_
         exact YS ⟨1, rfl, h⟩
       · refine Yskip ?_
         refine Yt ?_
         refine Yn P1 ?_
         refine Yl h fun v32 h => ?_
         refine Yn P1 ?_
         obtain ⟨h0, h1, h2, h⟩ := h
         refine reg_makeSlice (t := 69) (e := 125) (lo := (Operand.const (Value.int IntKind.i64 0))) (co := (Operand.tmp 33)) (l := 0) (c := ((v32.len : Nat) : Int)) (sz := 2) (by_ := 40) (zs := [Value.string ByteArray.empty, Value.slice none 0 0]) (ty := 69) (dst := some 34) (by kernel_rfl) (by kernel_rfl) (by kernel_rfl) (by kernel_rfl) (by kernel_rfl) (by kernel_rfl) (by kernel_rfl) (by kernel_rfl) (by kernel_rfl) h0 h1 h2 (fun b_1 w5 hb hw => ?_)
         replace h := h b_1 w5 hb hw
         clear hb hw
         refine Yf P1 [0, 3, 5] ?_
         refine Ys ?_
         refine Yt ?_
         refine Yn P1 ?_
         refine Yl h fun v36 h => ?_
         refine Yf P2 [0, 3, 5, 36, 37, 38] ?_
         refine Yd 1 ?_
         obtain ⟨I, μ, h0, hr⟩ := h
         refine Yloop (fun m l w => ∃ (held : Slc) (t38 : Int), l = [(0, Value.pointer t_), (3, pv_ b_), (5, sv_ held), (36, sv_ v36), (37, Value.int .i64 ((v36.len : Nat) : Int)), (38, Value.int .i64 t38)] ∧ I held t38 w ∧ μ held t38 w = m) ⟨(Slc.mk (some ⟨b_1, 0, none⟩) 0 (((v32.len : Nat) : Int).toNat)), 0, rfl, h0, rfl⟩ ?_
         rintro _ _ w6 ⟨held, t38, rfl, hI, rfl⟩
         obtain ⟨again_, again__h, h⟩ : ∃ again_ : Slc → Int → World → Prop, (∀ held' t38' w', again_ held' t38' w' → I held' t38' w' ∧ μ held' t38' w' < μ held t38 w6) ∧ F_call_Task_Got_L0 t_ R b_ v36 again_ held t38 w6 := ⟨_, fun _ _ _ h => h, hr held t38 w6 hI⟩
         clear h0 hI
         unfold F_call_Task_Got_L0 at h
         refine Yp P1 [0, 3, 5, 36, 37, 38, 39] ?_
         refine Ys ?_
         refine Yc h (fun h => ?_) fun h => ?_
         · refine Yskip ?_
           refine Ys ?_
           refine Yd 2 ?_
           refine Yt ?_
           obtain ⟨hp_19, h⟩ := h
           refine Yu 36 (fun pp => .slice pp v36.len v36.cap) hp_19 ?_
           refine Yi h fun h => ?_
           refine YL h fun v41 h => ?_
           refine Yw pv_ h fun b_2 w7 h => ?_
           refine Yo h fun w8 h => ?_
           refine Yu 36 (fun pp => .slice pp v36.len v36.cap) hp_19.symm ?_
           refine Yf [] [0, 3, 5, 7, 36, 37, 38] ?_
           refine wpE_mixregion (id := 11) (ops := r17_51) o_call_Task_Got_51 (by kernel_rfl) (by kernel_rfl) (by kernel_rfl) (by kernel_rfl) (fun w9 hw => ?_)
           replace h := h w9 hw
           clear hw
           refine Mn P2 ?_
           refine Ml 2 h fun v44 hc h => ?_
           refine Mn P1 ?_
           refine Ml 4 h fun v46 hc h => ?_
           refine mreg_enter (op := (Op.call (Call.mk (Callee.value (Operand.func 75)) #[(Operand.tmp 46)] #[123]))) (ty := 123) (dst := some 47) 5 [4, 3] [(2, fun w' => w'.cell? ⟨b_2, 0, none⟩ = some (Value.string v44))] 75 #[sv_ v46] (by kernel_rfl) (by kernel_rfl) (by kernel_rfl) (by kernel_rfl) (by kernel_rfl) (fun ww => by kernel_rfl) (Calls.mono h ?_)
           rintro _ w10 ⟨v47, rfl, h⟩
           obtain ⟨hk0, h⟩ := h
           refine ⟨_, rfl, ⟨hk0, trivial⟩, ?_⟩
           refine Mn P1 ?_
           refine mreg_new (op := (Op.buildSlice 69 1 #[(0, (Operand.tmp 48))])) (ty := 69) (dst := some 49) 7 [6, 2, 5, 1, 4, 3] [] (fun bb => Value.slice (some ⟨bb, 0, none⟩) 1 1) (Obj.cells ([Value.string v44, sv_ v47]).toArray ty_api_Held (0, 0)) (by kernel_rfl) (by kernel_rfl) (by kernel_rfl) (by kernel_rfl) (by kernel_rfl) (by kernel_rfl) (fun b_3 w11 hb hw => ?_)
           replace h := h b_3 w11 hb hw
           clear hb hw
           refine ⟨trivial, ?_⟩
           obtain ⟨src, hs, h⟩ := h
           refine mreg_append (t := 69) (tx := 69) (e := 125) (a := (Operand.tmp 42)) (xo := (Operand.tmp 49)) (s := held) (x := (Slc.mk (some ⟨b_3, 0, none⟩) 1 1)) (sz := 2) (by_ := 40) (zs := [Value.string ByteArray.empty, Value.slice none 0 0]) (ty := 69) (dst := some 50) 8 [0, 5, 7, 4, 6, 3, 2, 1] [] src (by kernel_rfl) (by kernel_rfl) (by kernel_rfl) (by kernel_rfl) (by kernel_rfl) (by kernel_rfl) (by kernel_rfl) (by kernel_rfl) (by kernel_rfl) (by kernel_rfl) (by kernel_rfl) (by kernel_rfl) (by kernel_rfl) hs (AppendW.mono h (fun held1 w12 h => ?_))
           refine ⟨trivial, ?_⟩
           refine Mf P1 [0, 3, 5, 36, 37, 38] ?_
           refine Yr ?_
           refine Yf P2 [0, 3, 5, 36, 37, 38] ?_
           have hb_ := again__h _ _ _ h
           exact ⟨_, hb_.2, _, Sub.mk (by kernel_rfl), held1, (IntKind.i64.wrap (t38 + 1)), rfl, hb_.1, rfl⟩
         · refine Yexit 1 ?_
           refine Ys ?_
           refine wpE_mixregion (id := 13) (ops := r17_56) o_call_Task_Got_56 (by kernel_rfl) (by kernel_rfl) (by kernel_rfl) (by kernel_rfl) (fun w13 hw => ?_)
           replace h := h w13 hw
           clear hw
           refine Mn P2 ?_
           refine Mv 53 h fun hp_22 h => ?_
           refine Mn P1 ?_
           refine Mn P1 ?_
           refine Ml 4 h fun v56 hc h => ?_
           refine Mn P1 ?_
           refine Ml 6 h fun v58 hc h => ?_
           refine Mn P1 ?_
           refine Ml 8 h fun v60 hc h => ?_
           refine Mn P2 ?_
           refine Ml 12 h fun v64 hc h => ?_
           refine mreg_enter (op := (Op.call (Call.mk (Callee.value (Operand.func 76)) #[(Operand.tmp 60)] #[68]))) (ty := 68) (dst := some 61) 9 [8, 7] [(12, fun w' => w'.cell? ⟨b_, 4, none⟩ = some (Value.int .i64 v64)), (6, fun w' => w'.cell? ⟨b_, 1, none⟩ = some (Value.bool v58)), (4, fun w' => w'.cell? ⟨(pblk t_), (poff t_) + 12, none⟩ = some (sv_ v56))] 76 #[sv_ v60] (by kernel_rfl) (by kernel_rfl) (by kernel_rfl) (by kernel_rfl) (by kernel_rfl) (fun ww => by kernel_rfl) (Calls.mono h ?_)
           rintro _ w14 ⟨v61, rfl, h⟩
           obtain ⟨hk0, hk1, hk2, h⟩ := h
           refine ⟨_, rfl, ⟨hk0, hk1, hk2, trivial⟩, ?_⟩
           refine Mn P1 ?_
           refine mreg_new (op := (Op.buildSlice 113 1 #[(0, (Operand.tmp 65))])) (ty := 113) (dst := some 66) 14 [13, 6, 9, 10, 12, 5, 8, 11, 7] [(4, fun w' => w'.cell? ⟨(pblk t_), (poff t_) + 12, none⟩ = some (sv_ v56))] (fun bb => Value.slice (some ⟨bb, 0, none⟩) 1 1) (Obj.cells ([Value.int .i64 0, Value.bool v58, sv_ v61, sv_ held, Value.int .i64 v64]).toArray ty_api_Resp (0, 0)) (by kernel_rfl) (by kernel_rfl) (by kernel_rfl) (by kernel_rfl) (by kernel_rfl) (by kernel_rfl) (fun b_4 w15 hb hw => ?_)
           replace h := h b_4 w15 hb hw
           clear hb hw
           obtain ⟨hk0, h⟩ := h
           refine ⟨⟨hk0, trivial⟩, ?_⟩
           obtain ⟨src, hs, h⟩ := h
           refine mreg_append (t := 113) (tx := 113) (e := 71) (a := (Operand.tmp 56)) (xo := (Operand.tmp 66)) (s := v56) (x := (Slc.mk (some ⟨b_4, 0, none⟩) 1 1)) (sz := 5) (by_ := 72) (zs := [Value.int .i64 0, Value.bool false, Value.slice none 0 0, Value.slice none 0 0, Value.int .i64 0]) (ty := 113) (dst := some 67) 15 [4, 9, 14, 3, 8, 13, 2, 7, 6, 10, 12, 1, 5, 11] [] src (by kernel_rfl) (by kernel_rfl) (by kernel_rfl) (by kernel_rfl) (by kernel_rfl) (by kernel_rfl) (by kernel_rfl) (by kernel_rfl) (by kernel_rfl) (by kernel_rfl) (by kernel_rfl) (by kernel_rfl) (by kernel_rfl) hs (AppendW.mono h (fun v67 w16 h => ?_))
           refine ⟨trivial, ?_⟩
           refine Mv 52 h fun hp_23 h => ?_
           refine Mn P1 ?_
           refine Mn P1 ?_
           refine Mstore 18 [0, 1, 2, 3, 4, 5, 6, 7, 8, 9, 10, 11, 12, 13, 14, 15, 17, 16] [] h fun w17 h => ?_
           refine ⟨trivial, ?_⟩
           refine Mf [] [] ?_
           refine Yp P1 [4] ?_
           exact YS ⟨0, rfl, h⟩
end
end Go.Proofs.YtpedclhflmhakaaGreatDoor
