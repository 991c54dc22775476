/- WRITTEN BY PROGRAM (dec.py): for each Go function the clean formula F, the call's contract C, and the proof S that F gives C. -/
import Derived.Test.YtckmganidgbpgaaRows
import Derived.Test.YtckmganidgbpgaaGF
namespace Go.Proofs.Ytckmganidgbpgaa
open Go
set_option linter.unusedVariables false

/-! ### towpath/towpathlaw04.DiskPlaces (function 6) -/
noncomputable def c_towpathlaw04_DiskPlaces_0 : Code := (Try.f6.body).getD Code.skip
noncomputable def c_towpathlaw04_DiskPlaces_1 : Code := Code.l c_towpathlaw04_DiskPlaces_0
noncomputable def r_towpathlaw04_DiskPlaces_1 : Array Oper := Code.ops c_towpathlaw04_DiskPlaces_1
noncomputable def c_towpathlaw04_DiskPlaces_3 : Code := Code.r c_towpathlaw04_DiskPlaces_0
noncomputable def c_towpathlaw04_DiskPlaces_4 : Code := Code.l c_towpathlaw04_DiskPlaces_3
noncomputable def c_towpathlaw04_DiskPlaces_5 : Code := Code.l c_towpathlaw04_DiskPlaces_4
noncomputable def r_towpathlaw04_DiskPlaces_5 : Array Oper := Code.ops c_towpathlaw04_DiskPlaces_5
noncomputable def c_towpathlaw04_DiskPlaces_7 : Code := Code.r c_towpathlaw04_DiskPlaces_4
noncomputable def c_towpathlaw04_DiskPlaces_8 : Code := Code.l c_towpathlaw04_DiskPlaces_7
noncomputable def c_towpathlaw04_DiskPlaces_9 : Code := Code.l c_towpathlaw04_DiskPlaces_8
noncomputable def r_towpathlaw04_DiskPlaces_9 : Array Oper := Code.ops c_towpathlaw04_DiskPlaces_9
noncomputable def c_towpathlaw04_DiskPlaces_11 : Code := Code.r c_towpathlaw04_DiskPlaces_8
noncomputable def c_towpathlaw04_DiskPlaces_12 : Code := Code.r c_towpathlaw04_DiskPlaces_7
noncomputable def c_towpathlaw04_DiskPlaces_13 : Code := Code.r c_towpathlaw04_DiskPlaces_3
noncomputable def c_towpathlaw04_DiskPlaces_14 : Code := Code.l c_towpathlaw04_DiskPlaces_13
noncomputable def c_towpathlaw04_DiskPlaces_15 : Code := Code.l c_towpathlaw04_DiskPlaces_14
noncomputable def r_towpathlaw04_DiskPlaces_15 : Array Oper := Code.ops c_towpathlaw04_DiskPlaces_15
noncomputable def c_towpathlaw04_DiskPlaces_17 : Code := Code.r c_towpathlaw04_DiskPlaces_14
noncomputable def c_towpathlaw04_DiskPlaces_18 : Code := Code.l c_towpathlaw04_DiskPlaces_17
noncomputable def r_towpathlaw04_DiskPlaces_18 : Array Oper := Code.ops c_towpathlaw04_DiskPlaces_18
noncomputable def c_towpathlaw04_DiskPlaces_20 : Code := Code.r c_towpathlaw04_DiskPlaces_17
noncomputable def c_towpathlaw04_DiskPlaces_21 : Code := Code.r c_towpathlaw04_DiskPlaces_13
noncomputable def c_towpathlaw04_DiskPlaces_22 : Code := Code.l c_towpathlaw04_DiskPlaces_21
noncomputable def c_towpathlaw04_DiskPlaces_23 : Code := Code.l c_towpathlaw04_DiskPlaces_22
noncomputable def r_towpathlaw04_DiskPlaces_23 : Array Oper := Code.ops c_towpathlaw04_DiskPlaces_23
noncomputable def c_towpathlaw04_DiskPlaces_25 : Code := Code.r c_towpathlaw04_DiskPlaces_22
noncomputable def c_towpathlaw04_DiskPlaces_26 : Code := Code.l c_towpathlaw04_DiskPlaces_25
noncomputable def r_towpathlaw04_DiskPlaces_26 : Array Oper := Code.ops c_towpathlaw04_DiskPlaces_26
noncomputable def c_towpathlaw04_DiskPlaces_28 : Code := Code.r c_towpathlaw04_DiskPlaces_25
noncomputable def c_towpathlaw04_DiskPlaces_29 : Code := Code.r c_towpathlaw04_DiskPlaces_21
noncomputable def c_towpathlaw04_DiskPlaces_30 : Code := Code.l c_towpathlaw04_DiskPlaces_29
noncomputable def r_towpathlaw04_DiskPlaces_30 : Array Oper := Code.ops c_towpathlaw04_DiskPlaces_30
noncomputable def c_towpathlaw04_DiskPlaces_32 : Code := Code.r c_towpathlaw04_DiskPlaces_29
noncomputable def c_towpathlaw04_DiskPlaces_33 : Code := Code.l c_towpathlaw04_DiskPlaces_32
noncomputable def c_towpathlaw04_DiskPlaces_34 : Code := Code.l c_towpathlaw04_DiskPlaces_33
noncomputable def r_towpathlaw04_DiskPlaces_34 : Array Oper := Code.ops c_towpathlaw04_DiskPlaces_34
noncomputable def c_towpathlaw04_DiskPlaces_36 : Code := Code.r c_towpathlaw04_DiskPlaces_33
noncomputable def c_towpathlaw04_DiskPlaces_37 : Code := Code.l c_towpathlaw04_DiskPlaces_36
noncomputable def c_towpathlaw04_DiskPlaces_38 : Code := Code.l c_towpathlaw04_DiskPlaces_37
noncomputable def r_towpathlaw04_DiskPlaces_38 : Array Oper := Code.ops c_towpathlaw04_DiskPlaces_38
noncomputable def c_towpathlaw04_DiskPlaces_40 : Code := Code.r c_towpathlaw04_DiskPlaces_37
noncomputable def c_towpathlaw04_DiskPlaces_41 : Code := Code.r c_towpathlaw04_DiskPlaces_36
noncomputable def c_towpathlaw04_DiskPlaces_42 : Code := Code.r c_towpathlaw04_DiskPlaces_32
noncomputable def c_towpathlaw04_DiskPlaces_43 : Code := Code.l c_towpathlaw04_DiskPlaces_42
noncomputable def r_towpathlaw04_DiskPlaces_43 : Array Oper := Code.ops c_towpathlaw04_DiskPlaces_43
noncomputable def c_towpathlaw04_DiskPlaces_45 : Code := Code.r c_towpathlaw04_DiskPlaces_42
noncomputable def c_towpathlaw04_DiskPlaces_46 : Code := Code.l c_towpathlaw04_DiskPlaces_45
noncomputable def r_towpathlaw04_DiskPlaces_46 : Array Oper := Code.ops c_towpathlaw04_DiskPlaces_46
noncomputable def c_towpathlaw04_DiskPlaces_48 : Code := Code.r c_towpathlaw04_DiskPlaces_45
noncomputable def c_towpathlaw04_DiskPlaces_49 : Code := Code.l c_towpathlaw04_DiskPlaces_48
noncomputable def r_towpathlaw04_DiskPlaces_49 : Array Oper := Code.ops c_towpathlaw04_DiskPlaces_49
noncomputable def c_towpathlaw04_DiskPlaces_51 : Code := Code.r c_towpathlaw04_DiskPlaces_48
noncomputable def c_towpathlaw04_DiskPlaces_52 : Code := Code.l c_towpathlaw04_DiskPlaces_51
noncomputable def r_towpathlaw04_DiskPlaces_52 : Array Oper := Code.ops c_towpathlaw04_DiskPlaces_52
noncomputable def c_towpathlaw04_DiskPlaces_54 : Code := Code.r c_towpathlaw04_DiskPlaces_51
noncomputable def c_towpathlaw04_DiskPlaces_55 : Code := Code.l c_towpathlaw04_DiskPlaces_54
noncomputable def c_towpathlaw04_DiskPlaces_56 : Code := Code.l c_towpathlaw04_DiskPlaces_55
noncomputable def r_towpathlaw04_DiskPlaces_56 : Array Oper := Code.ops c_towpathlaw04_DiskPlaces_56
noncomputable def c_towpathlaw04_DiskPlaces_58 : Code := Code.r c_towpathlaw04_DiskPlaces_55
noncomputable def c_towpathlaw04_DiskPlaces_59 : Code := Code.l c_towpathlaw04_DiskPlaces_58
noncomputable def c_towpathlaw04_DiskPlaces_60 : Code := Code.l c_towpathlaw04_DiskPlaces_59
noncomputable def r_towpathlaw04_DiskPlaces_60 : Array Oper := Code.ops c_towpathlaw04_DiskPlaces_60
noncomputable def c_towpathlaw04_DiskPlaces_62 : Code := Code.r c_towpathlaw04_DiskPlaces_59
noncomputable def c_towpathlaw04_DiskPlaces_63 : Code := Code.r c_towpathlaw04_DiskPlaces_58
noncomputable def c_towpathlaw04_DiskPlaces_64 : Code := Code.r c_towpathlaw04_DiskPlaces_54
noncomputable def c_towpathlaw04_DiskPlaces_65 : Code := Code.l c_towpathlaw04_DiskPlaces_64
noncomputable def c_towpathlaw04_DiskPlaces_66 : Code := Code.l c_towpathlaw04_DiskPlaces_65
noncomputable def r_towpathlaw04_DiskPlaces_66 : Array Oper := Code.ops c_towpathlaw04_DiskPlaces_66
noncomputable def c_towpathlaw04_DiskPlaces_68 : Code := Code.r c_towpathlaw04_DiskPlaces_65
noncomputable def c_towpathlaw04_DiskPlaces_69 : Code := Code.l c_towpathlaw04_DiskPlaces_68
noncomputable def c_towpathlaw04_DiskPlaces_70 : Code := Code.l c_towpathlaw04_DiskPlaces_69
noncomputable def r_towpathlaw04_DiskPlaces_70 : Array Oper := Code.ops c_towpathlaw04_DiskPlaces_70
noncomputable def c_towpathlaw04_DiskPlaces_72 : Code := Code.r c_towpathlaw04_DiskPlaces_69
noncomputable def c_towpathlaw04_DiskPlaces_73 : Code := Code.r c_towpathlaw04_DiskPlaces_68
noncomputable def c_towpathlaw04_DiskPlaces_74 : Code := Code.r c_towpathlaw04_DiskPlaces_64
noncomputable def c_towpathlaw04_DiskPlaces_75 : Code := Code.l c_towpathlaw04_DiskPlaces_74
noncomputable def c_towpathlaw04_DiskPlaces_76 : Code := Code.l c_towpathlaw04_DiskPlaces_75
noncomputable def r_towpathlaw04_DiskPlaces_76 : Array Oper := Code.ops c_towpathlaw04_DiskPlaces_76
noncomputable def c_towpathlaw04_DiskPlaces_78 : Code := Code.r c_towpathlaw04_DiskPlaces_75
noncomputable def c_towpathlaw04_DiskPlaces_79 : Code := Code.l c_towpathlaw04_DiskPlaces_78
noncomputable def c_towpathlaw04_DiskPlaces_80 : Code := Code.l c_towpathlaw04_DiskPlaces_79
noncomputable def r_towpathlaw04_DiskPlaces_80 : Array Oper := Code.ops c_towpathlaw04_DiskPlaces_80
noncomputable def c_towpathlaw04_DiskPlaces_82 : Code := Code.r c_towpathlaw04_DiskPlaces_79
noncomputable def c_towpathlaw04_DiskPlaces_83 : Code := Code.r c_towpathlaw04_DiskPlaces_78
noncomputable def c_towpathlaw04_DiskPlaces_84 : Code := Code.r c_towpathlaw04_DiskPlaces_74
noncomputable def c_towpathlaw04_DiskPlaces_85 : Code := Code.l c_towpathlaw04_DiskPlaces_84
noncomputable def c_towpathlaw04_DiskPlaces_86 : Code := Code.l c_towpathlaw04_DiskPlaces_85
noncomputable def r_towpathlaw04_DiskPlaces_86 : Array Oper := Code.ops c_towpathlaw04_DiskPlaces_86
noncomputable def c_towpathlaw04_DiskPlaces_88 : Code := Code.r c_towpathlaw04_DiskPlaces_85
noncomputable def c_towpathlaw04_DiskPlaces_89 : Code := Code.l c_towpathlaw04_DiskPlaces_88
noncomputable def c_towpathlaw04_DiskPlaces_90 : Code := Code.l c_towpathlaw04_DiskPlaces_89
noncomputable def c_towpathlaw04_DiskPlaces_91 : Code := Code.l c_towpathlaw04_DiskPlaces_90
noncomputable def c_towpathlaw04_DiskPlaces_92 : Code := Code.l c_towpathlaw04_DiskPlaces_91
noncomputable def r_towpathlaw04_DiskPlaces_92 : Array Oper := Code.ops c_towpathlaw04_DiskPlaces_92
noncomputable def c_towpathlaw04_DiskPlaces_94 : Code := Code.r c_towpathlaw04_DiskPlaces_91
noncomputable def c_towpathlaw04_DiskPlaces_95 : Code := Code.l c_towpathlaw04_DiskPlaces_94
noncomputable def c_towpathlaw04_DiskPlaces_96 : Code := Code.r c_towpathlaw04_DiskPlaces_94
noncomputable def c_towpathlaw04_DiskPlaces_97 : Code := Code.r c_towpathlaw04_DiskPlaces_90
noncomputable def c_towpathlaw04_DiskPlaces_98 : Code := Code.l c_towpathlaw04_DiskPlaces_97
noncomputable def c_towpathlaw04_DiskPlaces_99 : Code := Code.l c_towpathlaw04_DiskPlaces_98
noncomputable def c_towpathlaw04_DiskPlaces_100 : Code := Code.l c_towpathlaw04_DiskPlaces_99
noncomputable def r_towpathlaw04_DiskPlaces_100 : Array Oper := Code.ops c_towpathlaw04_DiskPlaces_100
noncomputable def c_towpathlaw04_DiskPlaces_102 : Code := Code.r c_towpathlaw04_DiskPlaces_99
noncomputable def c_towpathlaw04_DiskPlaces_103 : Code := Code.l c_towpathlaw04_DiskPlaces_102
noncomputable def c_towpathlaw04_DiskPlaces_104 : Code := Code.l c_towpathlaw04_DiskPlaces_103
noncomputable def r_towpathlaw04_DiskPlaces_104 : Array Oper := Code.ops c_towpathlaw04_DiskPlaces_104
noncomputable def c_towpathlaw04_DiskPlaces_106 : Code := Code.r c_towpathlaw04_DiskPlaces_103
noncomputable def c_towpathlaw04_DiskPlaces_107 : Code := Code.l c_towpathlaw04_DiskPlaces_106
noncomputable def r_towpathlaw04_DiskPlaces_107 : Array Oper := Code.ops c_towpathlaw04_DiskPlaces_107
noncomputable def c_towpathlaw04_DiskPlaces_109 : Code := Code.r c_towpathlaw04_DiskPlaces_106
noncomputable def r_towpathlaw04_DiskPlaces_109 : Array Oper := Code.ops c_towpathlaw04_DiskPlaces_109
noncomputable def c_towpathlaw04_DiskPlaces_111 : Code := Code.r c_towpathlaw04_DiskPlaces_102
noncomputable def c_towpathlaw04_DiskPlaces_112 : Code := Code.l c_towpathlaw04_DiskPlaces_111
noncomputable def r_towpathlaw04_DiskPlaces_112 : Array Oper := Code.ops c_towpathlaw04_DiskPlaces_112
noncomputable def c_towpathlaw04_DiskPlaces_114 : Code := Code.r c_towpathlaw04_DiskPlaces_111
noncomputable def c_towpathlaw04_DiskPlaces_115 : Code := Code.l c_towpathlaw04_DiskPlaces_114
noncomputable def c_towpathlaw04_DiskPlaces_116 : Code := Code.l c_towpathlaw04_DiskPlaces_115
noncomputable def r_towpathlaw04_DiskPlaces_116 : Array Oper := Code.ops c_towpathlaw04_DiskPlaces_116
noncomputable def c_towpathlaw04_DiskPlaces_118 : Code := Code.r c_towpathlaw04_DiskPlaces_115
noncomputable def c_towpathlaw04_DiskPlaces_119 : Code := Code.r c_towpathlaw04_DiskPlaces_114
noncomputable def c_towpathlaw04_DiskPlaces_120 : Code := Code.r c_towpathlaw04_DiskPlaces_97
noncomputable def r_towpathlaw04_DiskPlaces_120 : Array Oper := Code.ops c_towpathlaw04_DiskPlaces_120
noncomputable def c_towpathlaw04_DiskPlaces_122 : Code := Code.r c_towpathlaw04_DiskPlaces_84
noncomputable def c_towpathlaw04_DiskPlaces_123 : Code := Code.l c_towpathlaw04_DiskPlaces_122
noncomputable def r_towpathlaw04_DiskPlaces_123 : Array Oper := Code.ops c_towpathlaw04_DiskPlaces_123
noncomputable def c_towpathlaw04_DiskPlaces_125 : Code := Code.r c_towpathlaw04_DiskPlaces_122

set_option maxRecDepth 100000 in
set_option maxHeartbeats 4000000 in
theorem S_towpathlaw04_DiskPlaces {first : Slc} {at_ : Int} {b_ : Slc} {w : World} {R : Bool → World → Prop} (h : F_towpathlaw04_DiskPlaces first at_ b_ R w) : C_towpathlaw04_DiskPlaces first at_ b_ w R := by
  unfold F_towpathlaw04_DiskPlaces at h
  unfold C_towpathlaw04_DiskPlaces
  refine Calls.mono (calls_of_wpE (args := [Value.slice first.ptr first.len first.cap, Value.int .u8 at_, Value.slice b_.ptr b_.len b_.cap]) (R := fun v w' => ∃ (r0 : Bool), v = Value.bool r0 ∧ R r0 w') Try.func6 (c := c_towpathlaw04_DiskPlaces_0) (by kernel_rfl) 143 (by kernel_rfl) (by kernel_rfl) [(0, Value.slice first.ptr first.len first.cap), (1, Value.int .u8 at_), (2, Value.slice b_.ptr b_.len b_.cap)] (by kernel_rfl) ?_) ?_
  · refine wpE_seq (x := c_towpathlaw04_DiskPlaces_1) (y := c_towpathlaw04_DiskPlaces_3) (by kernel_rfl) ?_
    refine wpE_region (id := 0) (ops := r_towpathlaw04_DiskPlaces_1) (by kernel_rfl) ?_
    refine reg_run [.plain] 1 [(0, [], Value.slice first.ptr first.len first.cap), (1, [], Value.int .u8 at_), (2, [], Value.slice b_.ptr b_.len b_.cap)] (by kernel_rfl) (by kernel_rfl) ?_
    refine reg_end [(0, Value.slice first.ptr first.len first.cap), (1, Value.int .u8 at_), (2, Value.slice b_.ptr b_.len b_.cap)] (by kernel_rfl) (by kernel_rfl) ?_
    change WpE _ _ c_towpathlaw04_DiskPlaces_3 _ _ _
    refine wpE_seq (x := c_towpathlaw04_DiskPlaces_4) (y := c_towpathlaw04_DiskPlaces_13) (by kernel_rfl) ?_
    refine wpE_seq (x := c_towpathlaw04_DiskPlaces_5) (y := c_towpathlaw04_DiskPlaces_7) (by kernel_rfl) ?_
    refine wpE_region (id := 1) (ops := r_towpathlaw04_DiskPlaces_5) (by kernel_rfl) ?_
    refine reg_run [] 0 [(0, [], Value.slice first.ptr first.len first.cap), (1, [], Value.int .u8 at_), (2, [], Value.slice b_.ptr b_.len b_.cap)] (by kernel_rfl) (by kernel_rfl) ?_
    refine reg_enter (op := (Go.Op.call (Go.Call.mk (Go.Callee.value (Go.Operand.func 24)) #[] #[]))) (ty := 4) (dst := some 17) 24 #[] (by kernel_rfl) (fun ww => by kernel_rfl) (Calls.mono h ?_)
    rintro _ w1 ⟨v17, rfl, h⟩
    refine ⟨_, rfl, ?_⟩
    refine reg_run [.plain] 2 [(0, [], Value.slice first.ptr first.len first.cap), (1, [], Value.int .u8 at_), (2, [], Value.slice b_.ptr b_.len b_.cap), (18, [], Value.bool (!v17))] (by kernel_rfl) (by kernel_rfl) ?_
    refine reg_end [(0, Value.slice first.ptr first.len first.cap), (1, Value.int .u8 at_), (2, Value.slice b_.ptr b_.len b_.cap), (18, Value.bool (!v17))] (by kernel_rfl) (by kernel_rfl) ?_
    change WpE _ _ c_towpathlaw04_DiskPlaces_7 _ _ _
    refine wpE_cond (o := (Operand.tmp 18)) (b := (!v17)) (x := c_towpathlaw04_DiskPlaces_8) (y := c_towpathlaw04_DiskPlaces_12) (by kernel_rfl) (by kernel_rfl) (fun hb => ?_) (fun hb => ?_)
    · replace h := h.1 hb
      refine wpE_seq (x := c_towpathlaw04_DiskPlaces_9) (y := c_towpathlaw04_DiskPlaces_11) (by kernel_rfl) ?_
      refine wpE_region (id := 2) (ops := r_towpathlaw04_DiskPlaces_9) (by kernel_rfl) ?_
      refine reg_run [.plain] 1 [(6, [], Value.bool false)] (by kernel_rfl) (by kernel_rfl) ?_
      refine reg_end [(6, Value.bool false)] (by kernel_rfl) (by kernel_rfl) ?_
      change WpE _ _ c_towpathlaw04_DiskPlaces_11 _ _ _
      refine wpE_ret (by kernel_rfl) ?_
      repeat (first | refine seqQ_ret ?_ | refine blockQ_ret ?_ | refine loopQ_ret ?_ | refine cutQ_ret ?_)
      exact retS (rs := [(Go.ResultVar.tmp 6)]) (v := Value.bool false) (by kernel_rfl) (⟨by kernel_rfl, trivial⟩) ⟨false, rfl, h⟩
    · replace h := h.2 hb
      refine wpE_skip (by kernel_rfl) ?_
      change WpE _ _ c_towpathlaw04_DiskPlaces_13 _ _ _
      refine wpE_seq_cut (x := c_towpathlaw04_DiskPlaces_14) (y := c_towpathlaw04_DiskPlaces_21) (by kernel_rfl) (fun l w => ∃ (first1 : Slc), l = [(0, Value.slice first1.ptr first1.len first1.cap), (1, Value.int .u8 at_), (2, Value.slice b_.ptr b_.len b_.cap)] ∧ F_towpathlaw04_DiskPlaces_k0 at_ b_ R first1 w) ?_ ?_
      · refine wpE_seq (x := c_towpathlaw04_DiskPlaces_15) (y := c_towpathlaw04_DiskPlaces_17) (by kernel_rfl) ?_
        refine wpE_region (id := 3) (ops := r_towpathlaw04_DiskPlaces_15) (by kernel_rfl) ?_
        refine reg_run [.plain, .plain, .plain] 3 [(0, [], Value.slice first.ptr first.len first.cap), (1, [], Value.int .u8 at_), (2, [], Value.slice b_.ptr b_.len b_.cap), (21, [], Value.bool (decide (((first.len : Nat) : Int) > 64)))] (by kernel_rfl) (by kernel_rfl) ?_
        refine reg_end [(0, Value.slice first.ptr first.len first.cap), (1, Value.int .u8 at_), (2, Value.slice b_.ptr b_.len b_.cap), (21, Value.bool (decide (((first.len : Nat) : Int) > 64)))] (by kernel_rfl) (by kernel_rfl) ?_
        change WpE _ _ c_towpathlaw04_DiskPlaces_17 _ _ _
        refine wpE_cond (o := (Operand.tmp 21)) (b := (decide (((first.len : Nat) : Int) > 64))) (x := c_towpathlaw04_DiskPlaces_18) (y := c_towpathlaw04_DiskPlaces_20) (by kernel_rfl) (by kernel_rfl) (fun hb => ?_) (fun hb => ?_)
        · replace h := h.1 hb
          refine wpE_region (id := 4) (ops := r_towpathlaw04_DiskPlaces_18) (by kernel_rfl) ?_
          refine reg_run [.plain] 1 [(0, [], Value.slice first.ptr first.len first.cap), (1, [], Value.int .u8 at_), (2, [], Value.slice b_.ptr b_.len b_.cap), (22, [], Value.slice first.ptr first.len first.cap)] (by kernel_rfl) (by kernel_rfl) ?_
          obtain ⟨h0, h1, h⟩ := h
          refine reg_sliceHi (t := 22) (e := 5) (x := (Go.Operand.tmp 22)) (hi := (Go.Operand.const (Go.Value.int Go.IntKind.i64 64))) (p := first.ptr) (l := first.len) (c := first.cap) (sz := 1) (k := .i64) (j := 64) (ty := 22) (dst := some 23) (by kernel_rfl) (by kernel_rfl) (by kernel_rfl) (by kernel_rfl) (by kernel_rfl) h0 h1 ?_
          refine reg_run [.plain] 3 [(0, [], Value.slice first.ptr 64 first.cap), (1, [], Value.int .u8 at_), (2, [], Value.slice b_.ptr b_.len b_.cap)] (by kernel_rfl) (by kernel_rfl) ?_
          refine reg_end [(0, Value.slice first.ptr 64 first.cap), (1, Value.int .u8 at_), (2, Value.slice b_.ptr b_.len b_.cap)] (by kernel_rfl) (by kernel_rfl) ?_
          exact ⟨[(0, Value.slice first.ptr 64 first.cap), (1, Value.int .u8 at_), (2, Value.slice b_.ptr b_.len b_.cap)], Sub.mk (by kernel_rfl), (Slc.mk first.ptr 64 first.cap), rfl, h⟩
        · replace h := h.2 hb
          refine wpE_skip (by kernel_rfl) ?_
          exact ⟨[(0, Value.slice first.ptr first.len first.cap), (1, Value.int .u8 at_), (2, Value.slice b_.ptr b_.len b_.cap)], Sub.mk (by kernel_rfl), first, rfl, h⟩
      · rintro _ w2 ⟨first1, rfl, h⟩
        unfold F_towpathlaw04_DiskPlaces_k0 at h
        refine wpE_seq_cut (x := c_towpathlaw04_DiskPlaces_22) (y := c_towpathlaw04_DiskPlaces_29) (by kernel_rfl) (fun l w => ∃ (b_1 : Slc), l = [(0, Value.slice first1.ptr first1.len first1.cap), (1, Value.int .u8 at_), (2, Value.slice b_1.ptr b_1.len b_1.cap)] ∧ F_towpathlaw04_DiskPlaces_k1 at_ R first1 b_1 w) ?_ ?_
        · refine wpE_seq (x := c_towpathlaw04_DiskPlaces_23) (y := c_towpathlaw04_DiskPlaces_25) (by kernel_rfl) ?_
          refine wpE_region (id := 5) (ops := r_towpathlaw04_DiskPlaces_23) (by kernel_rfl) ?_
          refine reg_run [.plain, .plain, .plain] 3 [(0, [], Value.slice first1.ptr first1.len first1.cap), (1, [], Value.int .u8 at_), (2, [], Value.slice b_.ptr b_.len b_.cap), (26, [], Value.bool (decide (((b_.len : Nat) : Int) > 64)))] (by kernel_rfl) (by kernel_rfl) ?_
          refine reg_end [(0, Value.slice first1.ptr first1.len first1.cap), (1, Value.int .u8 at_), (2, Value.slice b_.ptr b_.len b_.cap), (26, Value.bool (decide (((b_.len : Nat) : Int) > 64)))] (by kernel_rfl) (by kernel_rfl) ?_
          change WpE _ _ c_towpathlaw04_DiskPlaces_25 _ _ _
          refine wpE_cond (o := (Operand.tmp 26)) (b := (decide (((b_.len : Nat) : Int) > 64))) (x := c_towpathlaw04_DiskPlaces_26) (y := c_towpathlaw04_DiskPlaces_28) (by kernel_rfl) (by kernel_rfl) (fun hb => ?_) (fun hb => ?_)
          · replace h := h.1 hb
            refine wpE_region (id := 6) (ops := r_towpathlaw04_DiskPlaces_26) (by kernel_rfl) ?_
            refine reg_run [.plain] 1 [(0, [], Value.slice first1.ptr first1.len first1.cap), (1, [], Value.int .u8 at_), (2, [], Value.slice b_.ptr b_.len b_.cap), (27, [], Value.slice b_.ptr b_.len b_.cap)] (by kernel_rfl) (by kernel_rfl) ?_
            obtain ⟨h0, h1, h⟩ := h
            refine reg_sliceHi (t := 22) (e := 5) (x := (Go.Operand.tmp 27)) (hi := (Go.Operand.const (Go.Value.int Go.IntKind.i64 64))) (p := b_.ptr) (l := b_.len) (c := b_.cap) (sz := 1) (k := .i64) (j := 64) (ty := 22) (dst := some 28) (by kernel_rfl) (by kernel_rfl) (by kernel_rfl) (by kernel_rfl) (by kernel_rfl) h0 h1 ?_
            refine reg_run [.plain] 3 [(0, [], Value.slice first1.ptr first1.len first1.cap), (1, [], Value.int .u8 at_), (2, [], Value.slice b_.ptr 64 b_.cap)] (by kernel_rfl) (by kernel_rfl) ?_
            refine reg_end [(0, Value.slice first1.ptr first1.len first1.cap), (1, Value.int .u8 at_), (2, Value.slice b_.ptr 64 b_.cap)] (by kernel_rfl) (by kernel_rfl) ?_
            exact ⟨[(0, Value.slice first1.ptr first1.len first1.cap), (1, Value.int .u8 at_), (2, Value.slice b_.ptr 64 b_.cap)], Sub.mk (by kernel_rfl), (Slc.mk b_.ptr 64 b_.cap), rfl, h⟩
          · replace h := h.2 hb
            refine wpE_skip (by kernel_rfl) ?_
            exact ⟨[(0, Value.slice first1.ptr first1.len first1.cap), (1, Value.int .u8 at_), (2, Value.slice b_.ptr b_.len b_.cap)], Sub.mk (by kernel_rfl), b_, rfl, h⟩
        · rintro _ w3 ⟨b_1, rfl, h⟩
          unfold F_towpathlaw04_DiskPlaces_k1 at h
          refine wpE_seq (x := c_towpathlaw04_DiskPlaces_30) (y := c_towpathlaw04_DiskPlaces_32) (by kernel_rfl) ?_
          refine wpE_region (id := 7) (ops := r_towpathlaw04_DiskPlaces_30) (by kernel_rfl) ?_
          refine reg_run [] 0 [(0, [], Value.slice first1.ptr first1.len first1.cap), (1, [], Value.int .u8 at_), (2, [], Value.slice b_1.ptr b_1.len b_1.cap)] (by kernel_rfl) (by kernel_rfl) ?_
          refine reg_enter (op := (Go.Op.call (Go.Call.mk (Go.Callee.value (Go.Operand.func 25)) #[(Go.Operand.const (Go.Value.int Go.IntKind.i64 100))] #[3]))) (ty := 57) (dst := some 30) 25 #[Value.int .i64 100] (by kernel_rfl) (fun ww => by kernel_rfl) (Calls.mono h ?_)
          rintro _ w4 ⟨d, e, rfl, h⟩
          refine ⟨_, rfl, ?_⟩
          refine reg_run [.plain, .plain, .plain, .plain, .plain] 6 [(0, [], Value.slice first1.ptr first1.len first1.cap), (1, [], Value.int .u8 at_), (2, [], Value.slice b_1.ptr b_1.len b_1.cap), (7, [], Value.pointer d), (8, [], Value.int .i64 e)] (by kernel_rfl) (by kernel_rfl) ?_
          refine reg_end [(0, Value.slice first1.ptr first1.len first1.cap), (1, Value.int .u8 at_), (2, Value.slice b_1.ptr b_1.len b_1.cap), (7, Value.pointer d), (8, Value.int .i64 e)] (by kernel_rfl) (by kernel_rfl) ?_
          change WpE _ _ c_towpathlaw04_DiskPlaces_32 _ _ _
          refine wpE_seq (x := c_towpathlaw04_DiskPlaces_33) (y := c_towpathlaw04_DiskPlaces_42) (by kernel_rfl) ?_
          refine wpE_seq_cut (x := c_towpathlaw04_DiskPlaces_34) (y := c_towpathlaw04_DiskPlaces_36) (by kernel_rfl) (fun l w => ∃ (t46 : Bool), l = [(0, Value.slice first1.ptr first1.len first1.cap), (1, Value.int .u8 at_), (2, Value.slice b_1.ptr b_1.len b_1.cap), (7, Value.pointer d), (46, Value.bool t46)] ∧ F_towpathlaw04_DiskPlaces_k2 at_ R first1 b_1 d t46 w) ?_ ?_
          · refine wpE_region (id := 8) (ops := r_towpathlaw04_DiskPlaces_34) (by kernel_rfl) ?_
            refine reg_run [.plain, .plain, .plain, .plain, .plain] 5 [(0, [], Value.slice first1.ptr first1.len first1.cap), (1, [], Value.int .u8 at_), (2, [], Value.slice b_1.ptr b_1.len b_1.cap), (7, [], Value.pointer d), (35, [], Value.bool (e != 0)), (36, [(35, false)], Value.pointer d), (37, [(35, false)], Value.slice first1.ptr first1.len first1.cap)] (by kernel_rfl) (by kernel_rfl) ?_
            refine reg_split 35 (e != 0) (by kernel_rfl) (fun hb => ?_) (fun hb => ?_)
            · replace h := h.1 hb
              refine reg_run [] 5 [(0, [], Value.slice first1.ptr first1.len first1.cap), (1, [], Value.int .u8 at_), (2, [], Value.slice b_1.ptr b_1.len b_1.cap), (7, [], Value.pointer d), (35, [], Value.bool true), (36, [], undef), (37, [], undef)] (by kernel_rfl) (by kernel_rfl) ?_
              refine reg_run [.skip, .skip, .plain, .plain, .skip, .skip, .skip, .skip, .plain] 14 [(0, [], Value.slice first1.ptr first1.len first1.cap), (1, [], Value.int .u8 at_), (2, [], Value.slice b_1.ptr b_1.len b_1.cap), (7, [], Value.pointer d), (46, [], Value.bool true)] (by kernel_rfl) (by kernel_rfl) ?_
              refine reg_end [(0, Value.slice first1.ptr first1.len first1.cap), (1, Value.int .u8 at_), (2, Value.slice b_1.ptr b_1.len b_1.cap), (7, Value.pointer d), (46, Value.bool true)] (by kernel_rfl) (by kernel_rfl) ?_
              exact ⟨[(0, Value.slice first1.ptr first1.len first1.cap), (1, Value.int .u8 at_), (2, Value.slice b_1.ptr b_1.len b_1.cap), (7, Value.pointer d), (46, Value.bool true)], Sub.mk (by kernel_rfl), true, rfl, h⟩
            · replace h := h.2 hb
              refine reg_run [] 5 [(0, [], Value.slice first1.ptr first1.len first1.cap), (1, [], Value.int .u8 at_), (2, [], Value.slice b_1.ptr b_1.len b_1.cap), (7, [], Value.pointer d), (35, [], Value.bool false), (36, [], Value.pointer d), (37, [], Value.slice first1.ptr first1.len first1.cap)] (by kernel_rfl) (by kernel_rfl) ?_
              refine reg_run [] 5 [(0, [], Value.slice first1.ptr first1.len first1.cap), (1, [], Value.int .u8 at_), (2, [], Value.slice b_1.ptr b_1.len b_1.cap), (7, [], Value.pointer d), (35, [], Value.bool false), (36, [], Value.pointer d), (37, [], Value.slice first1.ptr first1.len first1.cap)] (by kernel_rfl) (by kernel_rfl) ?_
              refine reg_enter (op := (Go.Op.call (Go.Call.mk (Go.Callee.value (Go.Operand.func 27)) #[(Go.Operand.tmp 36), (Go.Operand.const (Go.Value.int Go.IntKind.i64 0)), (Go.Operand.const (Go.Value.int Go.IntKind.i64 0)), (Go.Operand.tmp 37)] #[47, 3, 3, 22]))) (ty := 30) (dst := some 38) 27 #[Value.pointer d, Value.int .i64 0, Value.int .i64 0, Value.slice first1.ptr first1.len first1.cap] (by kernel_rfl) (fun ww => by kernel_rfl) (Calls.mono h ?_)
              rintro _ w16 ⟨v38, rfl, h⟩
              refine ⟨_, rfl, ?_⟩
              refine reg_run [.sure, .plain, .plain, .plain, .plain] 11 [(0, [], Value.slice first1.ptr first1.len first1.cap), (1, [], Value.int .u8 at_), (2, [], Value.slice b_1.ptr b_1.len b_1.cap), (7, [], Value.pointer d), (41, [], Value.bool (v38 != 0)), (42, [(41, false)], Value.pointer d), (43, [(41, false)], Value.slice first1.ptr first1.len first1.cap)] (by kernel_rfl) (by kernel_rfl) ?_
              refine reg_split 41 (v38 != 0) (by kernel_rfl) (fun hb => ?_) (fun hb => ?_)
              · replace h := h.1 hb
                refine reg_run [] 11 [(0, [], Value.slice first1.ptr first1.len first1.cap), (1, [], Value.int .u8 at_), (2, [], Value.slice b_1.ptr b_1.len b_1.cap), (7, [], Value.pointer d), (41, [], Value.bool true), (42, [], undef), (43, [], undef)] (by kernel_rfl) (by kernel_rfl) ?_
                refine reg_run [.skip, .skip, .plain] 14 [(0, [], Value.slice first1.ptr first1.len first1.cap), (1, [], Value.int .u8 at_), (2, [], Value.slice b_1.ptr b_1.len b_1.cap), (7, [], Value.pointer d), (46, [], Value.bool true)] (by kernel_rfl) (by kernel_rfl) ?_
                refine reg_end [(0, Value.slice first1.ptr first1.len first1.cap), (1, Value.int .u8 at_), (2, Value.slice b_1.ptr b_1.len b_1.cap), (7, Value.pointer d), (46, Value.bool true)] (by kernel_rfl) (by kernel_rfl) ?_
                exact ⟨[(0, Value.slice first1.ptr first1.len first1.cap), (1, Value.int .u8 at_), (2, Value.slice b_1.ptr b_1.len b_1.cap), (7, Value.pointer d), (46, Value.bool true)], Sub.mk (by kernel_rfl), true, rfl, h⟩
              · replace h := h.2 hb
                refine reg_run [] 11 [(0, [], Value.slice first1.ptr first1.len first1.cap), (1, [], Value.int .u8 at_), (2, [], Value.slice b_1.ptr b_1.len b_1.cap), (7, [], Value.pointer d), (41, [], Value.bool false), (42, [], Value.pointer d), (43, [], Value.slice first1.ptr first1.len first1.cap)] (by kernel_rfl) (by kernel_rfl) ?_
                refine reg_run [] 11 [(0, [], Value.slice first1.ptr first1.len first1.cap), (1, [], Value.int .u8 at_), (2, [], Value.slice b_1.ptr b_1.len b_1.cap), (7, [], Value.pointer d), (41, [], Value.bool false), (42, [], Value.pointer d), (43, [], Value.slice first1.ptr first1.len first1.cap)] (by kernel_rfl) (by kernel_rfl) ?_
                refine reg_enter (op := (Go.Op.call (Go.Call.mk (Go.Callee.value (Go.Operand.func 27)) #[(Go.Operand.tmp 42), (Go.Operand.const (Go.Value.int Go.IntKind.i64 1)), (Go.Operand.const (Go.Value.int Go.IntKind.i64 0)), (Go.Operand.tmp 43)] #[47, 3, 3, 22]))) (ty := 30) (dst := some 44) 27 #[Value.pointer d, Value.int .i64 1, Value.int .i64 0, Value.slice first1.ptr first1.len first1.cap] (by kernel_rfl) (fun ww => by kernel_rfl) (Calls.mono h ?_)
                rintro _ w17 ⟨v44, rfl, h⟩
                refine ⟨_, rfl, ?_⟩
                refine reg_run [.sure, .plain] 14 [(0, [], Value.slice first1.ptr first1.len first1.cap), (1, [], Value.int .u8 at_), (2, [], Value.slice b_1.ptr b_1.len b_1.cap), (7, [], Value.pointer d), (46, [], Value.bool (v44 != 0))] (by kernel_rfl) (by kernel_rfl) ?_
                refine reg_end [(0, Value.slice first1.ptr first1.len first1.cap), (1, Value.int .u8 at_), (2, Value.slice b_1.ptr b_1.len b_1.cap), (7, Value.pointer d), (46, Value.bool (v44 != 0))] (by kernel_rfl) (by kernel_rfl) ?_
                exact ⟨[(0, Value.slice first1.ptr first1.len first1.cap), (1, Value.int .u8 at_), (2, Value.slice b_1.ptr b_1.len b_1.cap), (7, Value.pointer d), (46, Value.bool (v44 != 0))], Sub.mk (by kernel_rfl), (v44 != 0), rfl, h⟩
          · rintro _ w5 ⟨t46, rfl, h⟩
            unfold F_towpathlaw04_DiskPlaces_k2 at h
            refine wpE_cond (o := (Operand.tmp 46)) (b := t46) (x := c_towpathlaw04_DiskPlaces_37) (y := c_towpathlaw04_DiskPlaces_41) (by kernel_rfl) (by kernel_rfl) (fun hb => ?_) (fun hb => ?_)
            · replace h := h.1 hb
              refine wpE_seq (x := c_towpathlaw04_DiskPlaces_38) (y := c_towpathlaw04_DiskPlaces_40) (by kernel_rfl) ?_
              refine wpE_region (id := 9) (ops := r_towpathlaw04_DiskPlaces_38) (by kernel_rfl) ?_
              refine reg_run [.plain] 1 [(6, [], Value.bool false)] (by kernel_rfl) (by kernel_rfl) ?_
              refine reg_end [(6, Value.bool false)] (by kernel_rfl) (by kernel_rfl) ?_
              change WpE _ _ c_towpathlaw04_DiskPlaces_40 _ _ _
              refine wpE_ret (by kernel_rfl) ?_
              repeat (first | refine seqQ_ret ?_ | refine blockQ_ret ?_ | refine loopQ_ret ?_ | refine cutQ_ret ?_)
              exact retS (rs := [(Go.ResultVar.tmp 6)]) (v := Value.bool false) (by kernel_rfl) (⟨by kernel_rfl, trivial⟩) ⟨false, rfl, h⟩
            · replace h := h.2 hb
              refine wpE_skip (by kernel_rfl) ?_
              change WpE _ _ c_towpathlaw04_DiskPlaces_42 _ _ _
              refine wpE_seq (x := c_towpathlaw04_DiskPlaces_43) (y := c_towpathlaw04_DiskPlaces_45) (by kernel_rfl) ?_
              refine wpE_region (id := 10) (ops := r_towpathlaw04_DiskPlaces_43) (by kernel_rfl) ?_
              refine reg_run [.plain, .plain, .plain, .plain, .plain] 5 [(0, [], Value.slice first1.ptr first1.len first1.cap), (2, [], Value.slice b_1.ptr b_1.len b_1.cap), (7, [], Value.pointer d), (48, [], Value.int .i64 (IntKind.i64.wrap at_)), (51, [], Value.int .i64 (IntKind.i64.wrap (((first1.len : Nat) : Int) + 1)))] (by kernel_rfl) (by kernel_rfl) ?_
              obtain ⟨h0, h⟩ := h
              refine reg_val (op := (Go.Op.binOp Go.BinOp.rem 3 (Go.Operand.tmp 48) (Go.Operand.tmp 51) 3)) (ty := 3) (dst := some 52) (Value.int .i64 (Int.tmod (IntKind.i64.wrap at_) (IntKind.i64.wrap (((first1.len : Nat) : Int) + 1)))) (by kernel_rfl) (fun ww => run_rem (by kernel_rfl) (by kernel_rfl) h0 ww) ?_
              refine reg_run [.plain] 7 [(0, [], Value.slice first1.ptr first1.len first1.cap), (2, [], Value.slice b_1.ptr b_1.len b_1.cap), (7, [], Value.pointer d), (9, [], Value.int .i64 (Int.tmod (IntKind.i64.wrap at_) (IntKind.i64.wrap (((first1.len : Nat) : Int) + 1))))] (by kernel_rfl) (by kernel_rfl) ?_
              refine reg_end [(0, Value.slice first1.ptr first1.len first1.cap), (2, Value.slice b_1.ptr b_1.len b_1.cap), (7, Value.pointer d), (9, Value.int .i64 (Int.tmod (IntKind.i64.wrap at_) (IntKind.i64.wrap (((first1.len : Nat) : Int) + 1))))] (by kernel_rfl) (by kernel_rfl) ?_
              change WpE _ _ c_towpathlaw04_DiskPlaces_45 _ _ _
              refine wpE_seq (x := c_towpathlaw04_DiskPlaces_46) (y := c_towpathlaw04_DiskPlaces_48) (by kernel_rfl) ?_
              refine wpE_region (id := 11) (ops := r_towpathlaw04_DiskPlaces_46) (by kernel_rfl) ?_
              refine reg_run [.plain, .plain, .plain] 3 [(0, [], Value.slice first1.ptr first1.len first1.cap), (2, [], Value.slice b_1.ptr b_1.len b_1.cap), (7, [], Value.pointer d), (9, [], Value.int .i64 (Int.tmod (IntKind.i64.wrap at_) (IntKind.i64.wrap (((first1.len : Nat) : Int) + 1)))), (53, [], Value.pointer d), (54, [], Value.int .i64 (Int.tmod (IntKind.i64.wrap at_) (IntKind.i64.wrap (((first1.len : Nat) : Int) + 1)))), (55, [], Value.slice b_1.ptr b_1.len b_1.cap)] (by kernel_rfl) (by kernel_rfl) ?_
              refine reg_enter (op := (Go.Op.call (Go.Call.mk (Go.Callee.value (Go.Operand.func 27)) #[(Go.Operand.tmp 53), (Go.Operand.const (Go.Value.int Go.IntKind.i64 0)), (Go.Operand.tmp 54), (Go.Operand.tmp 55)] #[47, 3, 3, 22]))) (ty := 30) (dst := some 56) 27 #[Value.pointer d, Value.int .i64 0, Value.int .i64 (Int.tmod (IntKind.i64.wrap at_) (IntKind.i64.wrap (((first1.len : Nat) : Int) + 1))), Value.slice b_1.ptr b_1.len b_1.cap] (by kernel_rfl) (fun ww => by kernel_rfl) (Calls.mono h ?_)
              rintro _ w6 ⟨v56, rfl, h⟩
              refine ⟨_, rfl, ?_⟩
              refine reg_run [.plain] 5 [(0, [], Value.slice first1.ptr first1.len first1.cap), (2, [], Value.slice b_1.ptr b_1.len b_1.cap), (7, [], Value.pointer d), (9, [], Value.int .i64 (Int.tmod (IntKind.i64.wrap at_) (IntKind.i64.wrap (((first1.len : Nat) : Int) + 1)))), (10, [], Value.int .i64 v56)] (by kernel_rfl) (by kernel_rfl) ?_
              refine reg_end [(0, Value.slice first1.ptr first1.len first1.cap), (2, Value.slice b_1.ptr b_1.len b_1.cap), (7, Value.pointer d), (9, Value.int .i64 (Int.tmod (IntKind.i64.wrap at_) (IntKind.i64.wrap (((first1.len : Nat) : Int) + 1)))), (10, Value.int .i64 v56)] (by kernel_rfl) (by kernel_rfl) ?_
              change WpE _ _ c_towpathlaw04_DiskPlaces_48 _ _ _
              refine wpE_seq (x := c_towpathlaw04_DiskPlaces_49) (y := c_towpathlaw04_DiskPlaces_51) (by kernel_rfl) ?_
              refine wpE_region (id := 12) (ops := r_towpathlaw04_DiskPlaces_49) (by kernel_rfl) ?_
              refine reg_run [.plain] 1 [(0, [], Value.slice first1.ptr first1.len first1.cap), (2, [], Value.slice b_1.ptr b_1.len b_1.cap), (7, [], Value.pointer d), (9, [], Value.int .i64 (Int.tmod (IntKind.i64.wrap at_) (IntKind.i64.wrap (((first1.len : Nat) : Int) + 1)))), (10, [], Value.int .i64 v56), (58, [], Value.pointer d)] (by kernel_rfl) (by kernel_rfl) ?_
              refine reg_enter (op := (Go.Op.call (Go.Call.mk (Go.Callee.value (Go.Operand.func 29)) #[(Go.Operand.tmp 58), (Go.Operand.const (Go.Value.int Go.IntKind.i64 0))] #[47, 3]))) (ty := 61) (dst := some 59) 29 #[Value.pointer d, Value.int .i64 0] (by kernel_rfl) (fun ww => by kernel_rfl) (Calls.mono h ?_)
              rintro _ w7 ⟨got, g, rfl, h⟩
              refine ⟨_, rfl, ?_⟩
              refine reg_run [.plain, .plain, .plain, .plain, .plain] 7 [(0, [], Value.slice first1.ptr first1.len first1.cap), (2, [], Value.slice b_1.ptr b_1.len b_1.cap), (7, [], Value.pointer d), (9, [], Value.int .i64 (Int.tmod (IntKind.i64.wrap at_) (IntKind.i64.wrap (((first1.len : Nat) : Int) + 1)))), (10, [], Value.int .i64 v56), (11, [], Value.slice got.ptr got.len got.cap), (12, [], Value.int .i64 g)] (by kernel_rfl) (by kernel_rfl) ?_
              refine reg_end [(0, Value.slice first1.ptr first1.len first1.cap), (2, Value.slice b_1.ptr b_1.len b_1.cap), (7, Value.pointer d), (9, Value.int .i64 (Int.tmod (IntKind.i64.wrap at_) (IntKind.i64.wrap (((first1.len : Nat) : Int) + 1)))), (10, Value.int .i64 v56), (11, Value.slice got.ptr got.len got.cap), (12, Value.int .i64 g)] (by kernel_rfl) (by kernel_rfl) ?_
              change WpE _ _ c_towpathlaw04_DiskPlaces_51 _ _ _
              refine wpE_seq (x := c_towpathlaw04_DiskPlaces_52) (y := c_towpathlaw04_DiskPlaces_54) (by kernel_rfl) ?_
              refine wpE_region (id := 13) (ops := r_towpathlaw04_DiskPlaces_52) (by kernel_rfl) ?_
              refine reg_run [.plain] 1 [(0, [], Value.slice first1.ptr first1.len first1.cap), (2, [], Value.slice b_1.ptr b_1.len b_1.cap), (7, [], Value.pointer d), (9, [], Value.int .i64 (Int.tmod (IntKind.i64.wrap at_) (IntKind.i64.wrap (((first1.len : Nat) : Int) + 1)))), (10, [], Value.int .i64 v56), (11, [], Value.slice got.ptr got.len got.cap), (12, [], Value.int .i64 g), (63, [], Value.pointer d)] (by kernel_rfl) (by kernel_rfl) ?_
              refine reg_enter (op := (Go.Op.call (Go.Call.mk (Go.Callee.value (Go.Operand.func 29)) #[(Go.Operand.tmp 63), (Go.Operand.const (Go.Value.int Go.IntKind.i64 1))] #[47, 3]))) (ty := 61) (dst := some 64) 29 #[Value.pointer d, Value.int .i64 1] (by kernel_rfl) (fun ww => by kernel_rfl) (Calls.mono h ?_)
              rintro _ w8 ⟨other, h_, rfl, h⟩
              refine ⟨_, rfl, ?_⟩
              refine reg_run [.plain, .plain, .plain, .plain, .plain] 7 [(0, [], Value.slice first1.ptr first1.len first1.cap), (2, [], Value.slice b_1.ptr b_1.len b_1.cap), (7, [], Value.pointer d), (9, [], Value.int .i64 (Int.tmod (IntKind.i64.wrap at_) (IntKind.i64.wrap (((first1.len : Nat) : Int) + 1)))), (10, [], Value.int .i64 v56), (11, [], Value.slice got.ptr got.len got.cap), (12, [], Value.int .i64 g), (13, [], Value.slice other.ptr other.len other.cap), (14, [], Value.int .i64 h_)] (by kernel_rfl) (by kernel_rfl) ?_
              refine reg_end [(0, Value.slice first1.ptr first1.len first1.cap), (2, Value.slice b_1.ptr b_1.len b_1.cap), (7, Value.pointer d), (9, Value.int .i64 (Int.tmod (IntKind.i64.wrap at_) (IntKind.i64.wrap (((first1.len : Nat) : Int) + 1)))), (10, Value.int .i64 v56), (11, Value.slice got.ptr got.len got.cap), (12, Value.int .i64 g), (13, Value.slice other.ptr other.len other.cap), (14, Value.int .i64 h_)] (by kernel_rfl) (by kernel_rfl) ?_
              change WpE _ _ c_towpathlaw04_DiskPlaces_54 _ _ _
              refine wpE_seq (x := c_towpathlaw04_DiskPlaces_55) (y := c_towpathlaw04_DiskPlaces_64) (by kernel_rfl) ?_
              refine wpE_seq_cut (x := c_towpathlaw04_DiskPlaces_56) (y := c_towpathlaw04_DiskPlaces_58) (by kernel_rfl) (fun l w => ∃ (t78 : Bool), l = [(0, Value.slice first1.ptr first1.len first1.cap), (2, Value.slice b_1.ptr b_1.len b_1.cap), (7, Value.pointer d), (9, Value.int .i64 (Int.tmod (IntKind.i64.wrap at_) (IntKind.i64.wrap (((first1.len : Nat) : Int) + 1)))), (10, Value.int .i64 v56), (11, Value.slice got.ptr got.len got.cap), (78, Value.bool t78)] ∧ F_towpathlaw04_DiskPlaces_k3 at_ R first1 b_1 d v56 got t78 w) ?_ ?_
              · refine wpE_region (id := 14) (ops := r_towpathlaw04_DiskPlaces_56) (by kernel_rfl) ?_
                refine reg_run [.plain, .plain, .plain, .plain, .plain, .pick, .plain, .plain, .plain] 9 [(0, [], Value.slice first1.ptr first1.len first1.cap), (2, [], Value.slice b_1.ptr b_1.len b_1.cap), (7, [], Value.pointer d), (9, [], Value.int .i64 (Int.tmod (IntKind.i64.wrap at_) (IntKind.i64.wrap (((first1.len : Nat) : Int) + 1)))), (10, [], Value.int .i64 v56), (11, [], Value.slice got.ptr got.len got.cap), (73, [], Value.bool ((g != 0) || (h_ != 0))), (74, [(73, false)], Value.slice other.ptr other.len other.cap), (75, [(73, false)], Value.slice first1.ptr first1.len first1.cap)] (by kernel_rfl) (by kernel_rfl) ?_
                refine reg_split 73 ((g != 0) || (h_ != 0)) (by kernel_rfl) (fun hb => ?_) (fun hb => ?_)
                · replace h := h.1 hb
                  refine reg_run [] 9 [(0, [], Value.slice first1.ptr first1.len first1.cap), (2, [], Value.slice b_1.ptr b_1.len b_1.cap), (7, [], Value.pointer d), (9, [], Value.int .i64 (Int.tmod (IntKind.i64.wrap at_) (IntKind.i64.wrap (((first1.len : Nat) : Int) + 1)))), (10, [], Value.int .i64 v56), (11, [], Value.slice got.ptr got.len got.cap), (73, [], Value.bool true), (74, [], undef), (75, [], undef)] (by kernel_rfl) (by kernel_rfl) ?_
                  refine reg_run [.skip, .skip, .plain] 12 [(0, [], Value.slice first1.ptr first1.len first1.cap), (2, [], Value.slice b_1.ptr b_1.len b_1.cap), (7, [], Value.pointer d), (9, [], Value.int .i64 (Int.tmod (IntKind.i64.wrap at_) (IntKind.i64.wrap (((first1.len : Nat) : Int) + 1)))), (10, [], Value.int .i64 v56), (11, [], Value.slice got.ptr got.len got.cap), (78, [], Value.bool true)] (by kernel_rfl) (by kernel_rfl) ?_
                  refine reg_end [(0, Value.slice first1.ptr first1.len first1.cap), (2, Value.slice b_1.ptr b_1.len b_1.cap), (7, Value.pointer d), (9, Value.int .i64 (Int.tmod (IntKind.i64.wrap at_) (IntKind.i64.wrap (((first1.len : Nat) : Int) + 1)))), (10, Value.int .i64 v56), (11, Value.slice got.ptr got.len got.cap), (78, Value.bool true)] (by kernel_rfl) (by kernel_rfl) ?_
                  exact ⟨[(0, Value.slice first1.ptr first1.len first1.cap), (2, Value.slice b_1.ptr b_1.len b_1.cap), (7, Value.pointer d), (9, Value.int .i64 (Int.tmod (IntKind.i64.wrap at_) (IntKind.i64.wrap (((first1.len : Nat) : Int) + 1)))), (10, Value.int .i64 v56), (11, Value.slice got.ptr got.len got.cap), (78, Value.bool true)], Sub.mk (by kernel_rfl), true, rfl, h⟩
                · replace h := h.2 hb
                  refine reg_run [] 9 [(0, [], Value.slice first1.ptr first1.len first1.cap), (2, [], Value.slice b_1.ptr b_1.len b_1.cap), (7, [], Value.pointer d), (9, [], Value.int .i64 (Int.tmod (IntKind.i64.wrap at_) (IntKind.i64.wrap (((first1.len : Nat) : Int) + 1)))), (10, [], Value.int .i64 v56), (11, [], Value.slice got.ptr got.len got.cap), (73, [], Value.bool false), (74, [], Value.slice other.ptr other.len other.cap), (75, [], Value.slice first1.ptr first1.len first1.cap)] (by kernel_rfl) (by kernel_rfl) ?_
                  refine reg_run [] 9 [(0, [], Value.slice first1.ptr first1.len first1.cap), (2, [], Value.slice b_1.ptr b_1.len b_1.cap), (7, [], Value.pointer d), (9, [], Value.int .i64 (Int.tmod (IntKind.i64.wrap at_) (IntKind.i64.wrap (((first1.len : Nat) : Int) + 1)))), (10, [], Value.int .i64 v56), (11, [], Value.slice got.ptr got.len got.cap), (73, [], Value.bool false), (74, [], Value.slice other.ptr other.len other.cap), (75, [], Value.slice first1.ptr first1.len first1.cap)] (by kernel_rfl) (by kernel_rfl) ?_
                  refine reg_enter (op := (Go.Op.call (Go.Call.mk (Go.Callee.value (Go.Operand.func 30)) #[(Go.Operand.tmp 74), (Go.Operand.tmp 75)] #[22, 22]))) (ty := 4) (dst := some 76) 30 #[Value.slice other.ptr other.len other.cap, Value.slice first1.ptr first1.len first1.cap] (by kernel_rfl) (fun ww => by kernel_rfl) (Calls.mono h ?_)
                  rintro _ w15 ⟨v76, rfl, h⟩
                  refine ⟨_, rfl, ?_⟩
                  refine reg_run [.sure, .plain] 12 [(0, [], Value.slice first1.ptr first1.len first1.cap), (2, [], Value.slice b_1.ptr b_1.len b_1.cap), (7, [], Value.pointer d), (9, [], Value.int .i64 (Int.tmod (IntKind.i64.wrap at_) (IntKind.i64.wrap (((first1.len : Nat) : Int) + 1)))), (10, [], Value.int .i64 v56), (11, [], Value.slice got.ptr got.len got.cap), (78, [], Value.bool (!v76))] (by kernel_rfl) (by kernel_rfl) ?_
                  refine reg_end [(0, Value.slice first1.ptr first1.len first1.cap), (2, Value.slice b_1.ptr b_1.len b_1.cap), (7, Value.pointer d), (9, Value.int .i64 (Int.tmod (IntKind.i64.wrap at_) (IntKind.i64.wrap (((first1.len : Nat) : Int) + 1)))), (10, Value.int .i64 v56), (11, Value.slice got.ptr got.len got.cap), (78, Value.bool (!v76))] (by kernel_rfl) (by kernel_rfl) ?_
                  exact ⟨[(0, Value.slice first1.ptr first1.len first1.cap), (2, Value.slice b_1.ptr b_1.len b_1.cap), (7, Value.pointer d), (9, Value.int .i64 (Int.tmod (IntKind.i64.wrap at_) (IntKind.i64.wrap (((first1.len : Nat) : Int) + 1)))), (10, Value.int .i64 v56), (11, Value.slice got.ptr got.len got.cap), (78, Value.bool (!v76))], Sub.mk (by kernel_rfl), (!v76), rfl, h⟩
              · rintro _ w9 ⟨t78, rfl, h⟩
                unfold F_towpathlaw04_DiskPlaces_k3 at h
                refine wpE_cond (o := (Operand.tmp 78)) (b := t78) (x := c_towpathlaw04_DiskPlaces_59) (y := c_towpathlaw04_DiskPlaces_63) (by kernel_rfl) (by kernel_rfl) (fun hb => ?_) (fun hb => ?_)
                · replace h := h.1 hb
                  refine wpE_seq (x := c_towpathlaw04_DiskPlaces_60) (y := c_towpathlaw04_DiskPlaces_62) (by kernel_rfl) ?_
                  refine wpE_region (id := 15) (ops := r_towpathlaw04_DiskPlaces_60) (by kernel_rfl) ?_
                  refine reg_run [.plain] 1 [(6, [], Value.bool false)] (by kernel_rfl) (by kernel_rfl) ?_
                  refine reg_end [(6, Value.bool false)] (by kernel_rfl) (by kernel_rfl) ?_
                  change WpE _ _ c_towpathlaw04_DiskPlaces_62 _ _ _
                  refine wpE_ret (by kernel_rfl) ?_
                  repeat (first | refine seqQ_ret ?_ | refine blockQ_ret ?_ | refine loopQ_ret ?_ | refine cutQ_ret ?_)
                  exact retS (rs := [(Go.ResultVar.tmp 6)]) (v := Value.bool false) (by kernel_rfl) (⟨by kernel_rfl, trivial⟩) ⟨false, rfl, h⟩
                · replace h := h.2 hb
                  refine wpE_skip (by kernel_rfl) ?_
                  change WpE _ _ c_towpathlaw04_DiskPlaces_64 _ _ _
                  refine wpE_seq (x := c_towpathlaw04_DiskPlaces_65) (y := c_towpathlaw04_DiskPlaces_74) (by kernel_rfl) ?_
                  refine wpE_seq (x := c_towpathlaw04_DiskPlaces_66) (y := c_towpathlaw04_DiskPlaces_68) (by kernel_rfl) ?_
                  refine wpE_region (id := 16) (ops := r_towpathlaw04_DiskPlaces_66) (by kernel_rfl) ?_
                  refine reg_run [.plain, .plain, .plain, .plain, .plain] 5 [(0, [], Value.slice first1.ptr first1.len first1.cap), (2, [], Value.slice b_1.ptr b_1.len b_1.cap), (7, [], Value.pointer d), (9, [], Value.int .i64 (Int.tmod (IntKind.i64.wrap at_) (IntKind.i64.wrap (((first1.len : Nat) : Int) + 1)))), (10, [], Value.int .i64 v56), (11, [], Value.slice got.ptr got.len got.cap), (83, [], Value.bool (decide ((IntKind.i64.wrap ((Int.tmod (IntKind.i64.wrap at_) (IntKind.i64.wrap (((first1.len : Nat) : Int) + 1))) + ((b_1.len : Nat) : Int))) > 100)))] (by kernel_rfl) (by kernel_rfl) ?_
                  refine reg_end [(0, Value.slice first1.ptr first1.len first1.cap), (2, Value.slice b_1.ptr b_1.len b_1.cap), (7, Value.pointer d), (9, Value.int .i64 (Int.tmod (IntKind.i64.wrap at_) (IntKind.i64.wrap (((first1.len : Nat) : Int) + 1)))), (10, Value.int .i64 v56), (11, Value.slice got.ptr got.len got.cap), (83, Value.bool (decide ((IntKind.i64.wrap ((Int.tmod (IntKind.i64.wrap at_) (IntKind.i64.wrap (((first1.len : Nat) : Int) + 1))) + ((b_1.len : Nat) : Int))) > 100)))] (by kernel_rfl) (by kernel_rfl) ?_
                  change WpE _ _ c_towpathlaw04_DiskPlaces_68 _ _ _
                  refine wpE_cond (o := (Operand.tmp 83)) (b := (decide ((IntKind.i64.wrap ((Int.tmod (IntKind.i64.wrap at_) (IntKind.i64.wrap (((first1.len : Nat) : Int) + 1))) + ((b_1.len : Nat) : Int))) > 100))) (x := c_towpathlaw04_DiskPlaces_69) (y := c_towpathlaw04_DiskPlaces_73) (by kernel_rfl) (by kernel_rfl) (fun hb => ?_) (fun hb => ?_)
                  · replace h := h.1 hb
                    refine wpE_seq (x := c_towpathlaw04_DiskPlaces_70) (y := c_towpathlaw04_DiskPlaces_72) (by kernel_rfl) ?_
                    refine wpE_region (id := 17) (ops := r_towpathlaw04_DiskPlaces_70) (by kernel_rfl) ?_
                    refine reg_run [.plain, .plain, .plain, .plain, .plain] 5 [(86, [], Value.bool (v56 == 13)), (87, [(86, true)], Value.slice got.ptr got.len got.cap), (88, [(86, true)], Value.slice first1.ptr first1.len first1.cap)] (by kernel_rfl) (by kernel_rfl) ?_
                    refine reg_split 86 (v56 == 13) (by kernel_rfl) (fun hb => ?_) (fun hb => ?_)
                    · replace h := h.1 hb
                      refine reg_run [] 5 [(86, [], Value.bool true), (87, [], Value.slice got.ptr got.len got.cap), (88, [], Value.slice first1.ptr first1.len first1.cap)] (by kernel_rfl) (by kernel_rfl) ?_
                      refine reg_run [] 5 [(86, [], Value.bool true), (87, [], Value.slice got.ptr got.len got.cap), (88, [], Value.slice first1.ptr first1.len first1.cap)] (by kernel_rfl) (by kernel_rfl) ?_
                      refine reg_enter (op := (Go.Op.call (Go.Call.mk (Go.Callee.value (Go.Operand.func 30)) #[(Go.Operand.tmp 87), (Go.Operand.tmp 88)] #[22, 22]))) (ty := 4) (dst := some 89) 30 #[Value.slice got.ptr got.len got.cap, Value.slice first1.ptr first1.len first1.cap] (by kernel_rfl) (fun ww => by kernel_rfl) (Calls.mono h ?_)
                      rintro _ w10 ⟨v89, rfl, h⟩
                      refine ⟨_, rfl, ?_⟩
                      refine reg_run [.plain, .plain] 8 [(6, [], Value.bool v89)] (by kernel_rfl) (by kernel_rfl) ?_
                      refine reg_end [(6, Value.bool v89)] (by kernel_rfl) (by kernel_rfl) ?_
                      change WpE _ _ c_towpathlaw04_DiskPlaces_72 _ _ _
                      refine wpE_ret (by kernel_rfl) ?_
                      repeat (first | refine seqQ_ret ?_ | refine blockQ_ret ?_ | refine loopQ_ret ?_ | refine cutQ_ret ?_)
                      exact retS (rs := [(Go.ResultVar.tmp 6)]) (v := Value.bool v89) (by kernel_rfl) (⟨by kernel_rfl, trivial⟩) ⟨v89, rfl, h⟩
                    · replace h := h.2 hb
                      refine reg_run [] 5 [(86, [], Value.bool false), (87, [], undef), (88, [], undef)] (by kernel_rfl) (by kernel_rfl) ?_
                      refine reg_run [.skip, .plain, .plain] 8 [(6, [], Value.bool false)] (by kernel_rfl) (by kernel_rfl) ?_
                      refine reg_end [(6, Value.bool false)] (by kernel_rfl) (by kernel_rfl) ?_
                      change WpE _ _ c_towpathlaw04_DiskPlaces_72 _ _ _
                      refine wpE_ret (by kernel_rfl) ?_
                      repeat (first | refine seqQ_ret ?_ | refine blockQ_ret ?_ | refine loopQ_ret ?_ | refine cutQ_ret ?_)
                      exact retS (rs := [(Go.ResultVar.tmp 6)]) (v := Value.bool false) (by kernel_rfl) (⟨by kernel_rfl, trivial⟩) ⟨false, rfl, h⟩
                  · replace h := h.2 hb
                    refine wpE_skip (by kernel_rfl) ?_
                    change WpE _ _ c_towpathlaw04_DiskPlaces_74 _ _ _
                    refine wpE_seq (x := c_towpathlaw04_DiskPlaces_75) (y := c_towpathlaw04_DiskPlaces_84) (by kernel_rfl) ?_
                    refine wpE_seq_cut (x := c_towpathlaw04_DiskPlaces_76) (y := c_towpathlaw04_DiskPlaces_78) (by kernel_rfl) (fun l w => ∃ (t109 : Bool), l = [(0, Value.slice first1.ptr first1.len first1.cap), (2, Value.slice b_1.ptr b_1.len b_1.cap), (9, Value.int .i64 (Int.tmod (IntKind.i64.wrap at_) (IntKind.i64.wrap (((first1.len : Nat) : Int) + 1)))), (11, Value.slice got.ptr got.len got.cap), (109, Value.bool t109)] ∧ F_towpathlaw04_DiskPlaces_k4 at_ R first1 b_1 got t109 w) ?_ ?_
                    · refine wpE_region (id := 18) (ops := r_towpathlaw04_DiskPlaces_76) (by kernel_rfl) ?_
                      refine reg_run [.plain, .plain, .plain, .plain, .plain, .plain, .plain, .plain, .plain, .plain, .plain, .plain, .plain, .pick, .plain, .plain] 16 [(0, [], Value.slice first1.ptr first1.len first1.cap), (2, [], Value.slice b_1.ptr b_1.len b_1.cap), (9, [], Value.int .i64 (Int.tmod (IntKind.i64.wrap at_) (IntKind.i64.wrap (((first1.len : Nat) : Int) + 1)))), (11, [], Value.slice got.ptr got.len got.cap), (105, [], Value.bool ((v56 != 0) || (((got.len : Nat) : Int) != (if (IntKind.i64.wrap ((Int.tmod (IntKind.i64.wrap at_) (IntKind.i64.wrap (((first1.len : Nat) : Int) + 1))) + ((b_1.len : Nat) : Int))) > ((first1.len : Nat) : Int) then (IntKind.i64.wrap ((Int.tmod (IntKind.i64.wrap at_) (IntKind.i64.wrap (((first1.len : Nat) : Int) + 1))) + ((b_1.len : Nat) : Int))) else ((first1.len : Nat) : Int))))), (106, [(105, false)], Value.pointer d)] (by kernel_rfl) (by kernel_rfl) ?_
                      refine reg_split 105 ((v56 != 0) || (((got.len : Nat) : Int) != (if (IntKind.i64.wrap ((Int.tmod (IntKind.i64.wrap at_) (IntKind.i64.wrap (((first1.len : Nat) : Int) + 1))) + ((b_1.len : Nat) : Int))) > ((first1.len : Nat) : Int) then (IntKind.i64.wrap ((Int.tmod (IntKind.i64.wrap at_) (IntKind.i64.wrap (((first1.len : Nat) : Int) + 1))) + ((b_1.len : Nat) : Int))) else ((first1.len : Nat) : Int)))) (by kernel_rfl) (fun hb => ?_) (fun hb => ?_)
                      · replace h := h.1 hb
                        refine reg_run [] 16 [(0, [], Value.slice first1.ptr first1.len first1.cap), (2, [], Value.slice b_1.ptr b_1.len b_1.cap), (9, [], Value.int .i64 (Int.tmod (IntKind.i64.wrap at_) (IntKind.i64.wrap (((first1.len : Nat) : Int) + 1)))), (11, [], Value.slice got.ptr got.len got.cap), (105, [], Value.bool true), (106, [], undef)] (by kernel_rfl) (by kernel_rfl) ?_
                        refine reg_run [.skip, .skip, .plain] 19 [(0, [], Value.slice first1.ptr first1.len first1.cap), (2, [], Value.slice b_1.ptr b_1.len b_1.cap), (9, [], Value.int .i64 (Int.tmod (IntKind.i64.wrap at_) (IntKind.i64.wrap (((first1.len : Nat) : Int) + 1)))), (11, [], Value.slice got.ptr got.len got.cap), (109, [], Value.bool true)] (by kernel_rfl) (by kernel_rfl) ?_
                        refine reg_end [(0, Value.slice first1.ptr first1.len first1.cap), (2, Value.slice b_1.ptr b_1.len b_1.cap), (9, Value.int .i64 (Int.tmod (IntKind.i64.wrap at_) (IntKind.i64.wrap (((first1.len : Nat) : Int) + 1)))), (11, Value.slice got.ptr got.len got.cap), (109, Value.bool true)] (by kernel_rfl) (by kernel_rfl) ?_
                        exact ⟨[(0, Value.slice first1.ptr first1.len first1.cap), (2, Value.slice b_1.ptr b_1.len b_1.cap), (9, Value.int .i64 (Int.tmod (IntKind.i64.wrap at_) (IntKind.i64.wrap (((first1.len : Nat) : Int) + 1)))), (11, Value.slice got.ptr got.len got.cap), (109, Value.bool true)], Sub.mk (by kernel_rfl), true, rfl, h⟩
                      · replace h := h.2 hb
                        refine reg_run [] 16 [(0, [], Value.slice first1.ptr first1.len first1.cap), (2, [], Value.slice b_1.ptr b_1.len b_1.cap), (9, [], Value.int .i64 (Int.tmod (IntKind.i64.wrap at_) (IntKind.i64.wrap (((first1.len : Nat) : Int) + 1)))), (11, [], Value.slice got.ptr got.len got.cap), (105, [], Value.bool false), (106, [], Value.pointer d)] (by kernel_rfl) (by kernel_rfl) ?_
                        refine reg_run [] 16 [(0, [], Value.slice first1.ptr first1.len first1.cap), (2, [], Value.slice b_1.ptr b_1.len b_1.cap), (9, [], Value.int .i64 (Int.tmod (IntKind.i64.wrap at_) (IntKind.i64.wrap (((first1.len : Nat) : Int) + 1)))), (11, [], Value.slice got.ptr got.len got.cap), (105, [], Value.bool false), (106, [], Value.pointer d)] (by kernel_rfl) (by kernel_rfl) ?_
                        refine reg_enter (op := (Go.Op.call (Go.Call.mk (Go.Callee.value (Go.Operand.func 31)) #[(Go.Operand.tmp 106)] #[47]))) (ty := 3) (dst := some 107) 31 #[Value.pointer d] (by kernel_rfl) (fun ww => by kernel_rfl) (Calls.mono h ?_)
                        rintro _ w14 ⟨v107, rfl, h⟩
                        refine ⟨_, rfl, ?_⟩
                        refine reg_run [.sure, .plain] 19 [(0, [], Value.slice first1.ptr first1.len first1.cap), (2, [], Value.slice b_1.ptr b_1.len b_1.cap), (9, [], Value.int .i64 (Int.tmod (IntKind.i64.wrap at_) (IntKind.i64.wrap (((first1.len : Nat) : Int) + 1)))), (11, [], Value.slice got.ptr got.len got.cap), (109, [], Value.bool (v107 != 3))] (by kernel_rfl) (by kernel_rfl) ?_
                        refine reg_end [(0, Value.slice first1.ptr first1.len first1.cap), (2, Value.slice b_1.ptr b_1.len b_1.cap), (9, Value.int .i64 (Int.tmod (IntKind.i64.wrap at_) (IntKind.i64.wrap (((first1.len : Nat) : Int) + 1)))), (11, Value.slice got.ptr got.len got.cap), (109, Value.bool (v107 != 3))] (by kernel_rfl) (by kernel_rfl) ?_
                        exact ⟨[(0, Value.slice first1.ptr first1.len first1.cap), (2, Value.slice b_1.ptr b_1.len b_1.cap), (9, Value.int .i64 (Int.tmod (IntKind.i64.wrap at_) (IntKind.i64.wrap (((first1.len : Nat) : Int) + 1)))), (11, Value.slice got.ptr got.len got.cap), (109, Value.bool (v107 != 3))], Sub.mk (by kernel_rfl), (v107 != 3), rfl, h⟩
                    · rintro _ w11 ⟨t109, rfl, h⟩
                      unfold F_towpathlaw04_DiskPlaces_k4 at h
                      refine wpE_cond (o := (Operand.tmp 109)) (b := t109) (x := c_towpathlaw04_DiskPlaces_79) (y := c_towpathlaw04_DiskPlaces_83) (by kernel_rfl) (by kernel_rfl) (fun hb => ?_) (fun hb => ?_)
                      · replace h := h.1 hb
                        refine wpE_seq (x := c_towpathlaw04_DiskPlaces_80) (y := c_towpathlaw04_DiskPlaces_82) (by kernel_rfl) ?_
                        refine wpE_region (id := 19) (ops := r_towpathlaw04_DiskPlaces_80) (by kernel_rfl) ?_
                        refine reg_run [.plain] 1 [(6, [], Value.bool false)] (by kernel_rfl) (by kernel_rfl) ?_
                        refine reg_end [(6, Value.bool false)] (by kernel_rfl) (by kernel_rfl) ?_
                        change WpE _ _ c_towpathlaw04_DiskPlaces_82 _ _ _
                        refine wpE_ret (by kernel_rfl) ?_
                        repeat (first | refine seqQ_ret ?_ | refine blockQ_ret ?_ | refine loopQ_ret ?_ | refine cutQ_ret ?_)
                        exact retS (rs := [(Go.ResultVar.tmp 6)]) (v := Value.bool false) (by kernel_rfl) (⟨by kernel_rfl, trivial⟩) ⟨false, rfl, h⟩
                      · replace h := h.2 hb
                        refine wpE_skip (by kernel_rfl) ?_
                        change WpE _ _ c_towpathlaw04_DiskPlaces_84 _ _ _
                        refine wpE_seq (x := c_towpathlaw04_DiskPlaces_85) (y := c_towpathlaw04_DiskPlaces_122) (by kernel_rfl) ?_
                        refine wpE_seq (x := c_towpathlaw04_DiskPlaces_86) (y := c_towpathlaw04_DiskPlaces_88) (by kernel_rfl) ?_
                        refine wpE_region (id := 20) (ops := r_towpathlaw04_DiskPlaces_86) (by kernel_rfl) ?_
                        refine reg_run [.plain] 1 [(0, [], Value.slice first1.ptr first1.len first1.cap), (2, [], Value.slice b_1.ptr b_1.len b_1.cap), (9, [], Value.int .i64 (Int.tmod (IntKind.i64.wrap at_) (IntKind.i64.wrap (((first1.len : Nat) : Int) + 1)))), (11, [], Value.slice got.ptr got.len got.cap), (15, [], Value.int .i64 0)] (by kernel_rfl) (by kernel_rfl) ?_
                        refine reg_end [(0, Value.slice first1.ptr first1.len first1.cap), (2, Value.slice b_1.ptr b_1.len b_1.cap), (9, Value.int .i64 (Int.tmod (IntKind.i64.wrap at_) (IntKind.i64.wrap (((first1.len : Nat) : Int) + 1)))), (11, Value.slice got.ptr got.len got.cap), (15, Value.int .i64 0)] (by kernel_rfl) (by kernel_rfl) ?_
                        change WpE _ _ c_towpathlaw04_DiskPlaces_88 _ _ _
                        refine wpE_block (id := 0) (x := c_towpathlaw04_DiskPlaces_89) (by kernel_rfl) ?_
                        obtain ⟨I, μ, h0, hr⟩ := h
                        refine wpE_loop (x := c_towpathlaw04_DiskPlaces_90) (by kernel_rfl) (fun m l w => ∃ (i : Int), l = [(0, Value.slice first1.ptr first1.len first1.cap), (2, Value.slice b_1.ptr b_1.len b_1.cap), (9, Value.int .i64 (Int.tmod (IntKind.i64.wrap at_) (IntKind.i64.wrap (((first1.len : Nat) : Int) + 1)))), (11, Value.slice got.ptr got.len got.cap), (15, Value.int .i64 i)] ∧ I i w ∧ μ i w = m) (l' := [(0, Value.slice first1.ptr first1.len first1.cap), (2, Value.slice b_1.ptr b_1.len b_1.cap), (9, Value.int .i64 (Int.tmod (IntKind.i64.wrap at_) (IntKind.i64.wrap (((first1.len : Nat) : Int) + 1)))), (11, Value.slice got.ptr got.len got.cap), (15, Value.int .i64 0)]) (Sub.mk (by kernel_rfl)) ⟨0, rfl, h0, rfl⟩ ?_
                        rintro _ _ w12 ⟨i, rfl, hI, rfl⟩
                        obtain ⟨again_, again__h, h⟩ : ∃ again_ : Int → World → Prop, (∀ i' w', again_ i' w' → I i' w' ∧ μ i' w' < μ i w12) ∧ F_towpathlaw04_DiskPlaces_L5 at_ R first1 b_1 got again_ i w12 := ⟨_, fun _ _ h => h, hr i w12 hI⟩
                        clear h0 hI
                        unfold F_towpathlaw04_DiskPlaces_L5 at h
                        refine wpE_seq (x := c_towpathlaw04_DiskPlaces_91) (y := c_towpathlaw04_DiskPlaces_97) (by kernel_rfl) ?_
                        refine wpE_seq (x := c_towpathlaw04_DiskPlaces_92) (y := c_towpathlaw04_DiskPlaces_94) (by kernel_rfl) ?_
                        refine wpE_region (id := 21) (ops := r_towpathlaw04_DiskPlaces_92) (by kernel_rfl) ?_
                        refine reg_run [.plain, .plain, .plain, .plain] 4 [(0, [], Value.slice first1.ptr first1.len first1.cap), (2, [], Value.slice b_1.ptr b_1.len b_1.cap), (9, [], Value.int .i64 (Int.tmod (IntKind.i64.wrap at_) (IntKind.i64.wrap (((first1.len : Nat) : Int) + 1)))), (11, [], Value.slice got.ptr got.len got.cap), (15, [], Value.int .i64 i), (113, [], Value.bool (decide (i < ((got.len : Nat) : Int))))] (by kernel_rfl) (by kernel_rfl) ?_
                        refine reg_end [(0, Value.slice first1.ptr first1.len first1.cap), (2, Value.slice b_1.ptr b_1.len b_1.cap), (9, Value.int .i64 (Int.tmod (IntKind.i64.wrap at_) (IntKind.i64.wrap (((first1.len : Nat) : Int) + 1)))), (11, Value.slice got.ptr got.len got.cap), (15, Value.int .i64 i), (113, Value.bool (decide (i < ((got.len : Nat) : Int))))] (by kernel_rfl) (by kernel_rfl) ?_
                        change WpE _ _ c_towpathlaw04_DiskPlaces_94 _ _ _
                        refine wpE_cond (o := (Operand.tmp 113)) (b := (decide (i < ((got.len : Nat) : Int)))) (x := c_towpathlaw04_DiskPlaces_95) (y := c_towpathlaw04_DiskPlaces_96) (by kernel_rfl) (by kernel_rfl) (fun hb => ?_) (fun hb => ?_)
                        · replace h := h.1 hb
                          refine wpE_skip (by kernel_rfl) ?_
                          change WpE _ _ c_towpathlaw04_DiskPlaces_97 _ _ _
                          refine wpE_seq (x := c_towpathlaw04_DiskPlaces_98) (y := c_towpathlaw04_DiskPlaces_120) (by kernel_rfl) ?_
                          refine wpE_block (id := 1) (x := c_towpathlaw04_DiskPlaces_99) (by kernel_rfl) ?_
                          refine wpE_seq (x := c_towpathlaw04_DiskPlaces_100) (y := c_towpathlaw04_DiskPlaces_102) (by kernel_rfl) ?_
                          refine wpE_region (id := 23) (ops := r_towpathlaw04_DiskPlaces_100) (by kernel_rfl) ?_
                          refine reg_run [.plain] 1 [(0, [], Value.slice first1.ptr first1.len first1.cap), (2, [], Value.slice b_1.ptr b_1.len b_1.cap), (9, [], Value.int .i64 (Int.tmod (IntKind.i64.wrap at_) (IntKind.i64.wrap (((first1.len : Nat) : Int) + 1)))), (11, [], Value.slice got.ptr got.len got.cap), (15, [], Value.int .i64 i)] (by kernel_rfl) (by kernel_rfl) ?_
                          refine reg_end [(0, Value.slice first1.ptr first1.len first1.cap), (2, Value.slice b_1.ptr b_1.len b_1.cap), (9, Value.int .i64 (Int.tmod (IntKind.i64.wrap at_) (IntKind.i64.wrap (((first1.len : Nat) : Int) + 1)))), (11, Value.slice got.ptr got.len got.cap), (15, Value.int .i64 i)] (by kernel_rfl) (by kernel_rfl) ?_
                          change WpE _ _ c_towpathlaw04_DiskPlaces_102 _ _ _
                          refine wpE_seq_cut (x := c_towpathlaw04_DiskPlaces_103) (y := c_towpathlaw04_DiskPlaces_111) (by kernel_rfl) (fun l w => ∃ (want : Int), l = [(0, Value.slice first1.ptr first1.len first1.cap), (2, Value.slice b_1.ptr b_1.len b_1.cap), (9, Value.int .i64 (Int.tmod (IntKind.i64.wrap at_) (IntKind.i64.wrap (((first1.len : Nat) : Int) + 1)))), (11, Value.slice got.ptr got.len got.cap), (15, Value.int .i64 i), (16, Value.int .u8 want)] ∧ F_towpathlaw04_DiskPlaces_k6 R got i again_ want w) ?_ ?_
                          · refine wpE_seq (x := c_towpathlaw04_DiskPlaces_104) (y := c_towpathlaw04_DiskPlaces_106) (by kernel_rfl) ?_
                            refine wpE_region (id := 24) (ops := r_towpathlaw04_DiskPlaces_104) (by kernel_rfl) ?_
                            refine reg_run [.plain, .plain, .plain, .plain, .plain, .plain, .plain, .plain, .plain, .plain, .pick] 11 [(0, [], Value.slice first1.ptr first1.len first1.cap), (2, [], Value.slice b_1.ptr b_1.len b_1.cap), (9, [], Value.int .i64 (Int.tmod (IntKind.i64.wrap at_) (IntKind.i64.wrap (((first1.len : Nat) : Int) + 1)))), (11, [], Value.slice got.ptr got.len got.cap), (15, [], Value.int .i64 i), (126, [], Value.bool ((decide (i ≥ (Int.tmod (IntKind.i64.wrap at_) (IntKind.i64.wrap (((first1.len : Nat) : Int) + 1))))) && (decide (i < (IntKind.i64.wrap ((Int.tmod (IntKind.i64.wrap at_) (IntKind.i64.wrap (((first1.len : Nat) : Int) + 1))) + ((b_1.len : Nat) : Int)))))))] (by kernel_rfl) (by kernel_rfl) ?_
                            refine reg_end [(0, Value.slice first1.ptr first1.len first1.cap), (2, Value.slice b_1.ptr b_1.len b_1.cap), (9, Value.int .i64 (Int.tmod (IntKind.i64.wrap at_) (IntKind.i64.wrap (((first1.len : Nat) : Int) + 1)))), (11, Value.slice got.ptr got.len got.cap), (15, Value.int .i64 i), (126, Value.bool ((decide (i ≥ (Int.tmod (IntKind.i64.wrap at_) (IntKind.i64.wrap (((first1.len : Nat) : Int) + 1))))) && (decide (i < (IntKind.i64.wrap ((Int.tmod (IntKind.i64.wrap at_) (IntKind.i64.wrap (((first1.len : Nat) : Int) + 1))) + ((b_1.len : Nat) : Int)))))))] (by kernel_rfl) (by kernel_rfl) ?_
                            change WpE _ _ c_towpathlaw04_DiskPlaces_106 _ _ _
                            refine wpE_cond (o := (Operand.tmp 126)) (b := ((decide (i ≥ (Int.tmod (IntKind.i64.wrap at_) (IntKind.i64.wrap (((first1.len : Nat) : Int) + 1))))) && (decide (i < (IntKind.i64.wrap ((Int.tmod (IntKind.i64.wrap at_) (IntKind.i64.wrap (((first1.len : Nat) : Int) + 1))) + ((b_1.len : Nat) : Int))))))) (x := c_towpathlaw04_DiskPlaces_107) (y := c_towpathlaw04_DiskPlaces_109) (by kernel_rfl) (by kernel_rfl) (fun hb => ?_) (fun hb => ?_)
                            · replace h := h.1 hb
                              refine wpE_region (id := 25) (ops := r_towpathlaw04_DiskPlaces_107) (by kernel_rfl) ?_
                              refine reg_run [.plain, .plain, .plain, .plain] 4 [(0, [], Value.slice first1.ptr first1.len first1.cap), (2, [], Value.slice b_1.ptr b_1.len b_1.cap), (9, [], Value.int .i64 (Int.tmod (IntKind.i64.wrap at_) (IntKind.i64.wrap (((first1.len : Nat) : Int) + 1)))), (11, [], Value.slice got.ptr got.len got.cap), (15, [], Value.int .i64 i), (127, [], Value.slice b_1.ptr b_1.len b_1.cap), (130, [], Value.int .i64 (IntKind.i64.wrap (i - (Int.tmod (IntKind.i64.wrap at_) (IntKind.i64.wrap (((first1.len : Nat) : Int) + 1))))))] (by kernel_rfl) (by kernel_rfl) ?_
                              obtain ⟨hp_22, h⟩ := h
                              refine reg_conv [(0, [], Value.slice first1.ptr first1.len first1.cap), (2, [], Value.slice b_1.ptr b_1.len b_1.cap), (9, [], Value.int .i64 (Int.tmod (IntKind.i64.wrap at_) (IntKind.i64.wrap (((first1.len : Nat) : Int) + 1)))), (11, [], Value.slice got.ptr got.len got.cap), (15, [], Value.int .i64 i), (127, [], Value.slice (some ⟨(pblk b_1.ptr), (poff b_1.ptr), none⟩) b_1.len b_1.cap), (130, [], Value.int .i64 (IntKind.i64.wrap (i - (Int.tmod (IntKind.i64.wrap at_) (IntKind.i64.wrap (((first1.len : Nat) : Int) + 1))))))] (congrArg (fun pp => ([(0, [], Value.slice first1.ptr first1.len first1.cap), (2, [], Value.slice b_1.ptr b_1.len b_1.cap), (9, [], Value.int .i64 (Int.tmod (IntKind.i64.wrap at_) (IntKind.i64.wrap (((first1.len : Nat) : Int) + 1)))), (11, [], Value.slice got.ptr got.len got.cap), (15, [], Value.int .i64 i), (127, [], Value.slice pp b_1.len b_1.cap), (130, [], Value.int .i64 (IntKind.i64.wrap (i - (Int.tmod (IntKind.i64.wrap at_) (IntKind.i64.wrap (((first1.len : Nat) : Int) + 1))))))] : GEnv)) hp_22) ?_
                              obtain ⟨h0, h1, h⟩ := h
                              refine reg_indexS1 (t := 22) (e := 5) (x := (Go.Operand.tmp 127)) (ix := (Go.Operand.tmp 130)) (b := (pblk b_1.ptr)) (o := (poff b_1.ptr)) (l := b_1.len) (c := b_1.cap) (k := .i64) (j := (IntKind.i64.wrap (i - (Int.tmod (IntKind.i64.wrap at_) (IntKind.i64.wrap (((first1.len : Nat) : Int) + 1)))))) (ty := 0) (dst := some 131) (by kernel_rfl) (by kernel_rfl) (by kernel_rfl) (by kernel_rfl) (by kernel_rfl) h0 h1 ?_
                              refine reg_run [] 5 [(0, [], Value.slice first1.ptr first1.len first1.cap), (2, [], Value.slice b_1.ptr b_1.len b_1.cap), (9, [], Value.int .i64 (Int.tmod (IntKind.i64.wrap at_) (IntKind.i64.wrap (((first1.len : Nat) : Int) + 1)))), (11, [], Value.slice got.ptr got.len got.cap), (15, [], Value.int .i64 i), (131, [], Value.pointer (some ⟨(pblk b_1.ptr), (poff b_1.ptr) + (IntKind.i64.wrap (i - (Int.tmod (IntKind.i64.wrap at_) (IntKind.i64.wrap (((first1.len : Nat) : Int) + 1))))).toNat, none⟩))] (by kernel_rfl) (by kernel_rfl) ?_
                              obtain ⟨want1, hc, h⟩ := h
                              refine reg_load1 (t := 5) (a := (Go.Operand.tmp 131)) (b := (pblk b_1.ptr)) (o := ((poff b_1.ptr) + (IntKind.i64.wrap (i - (Int.tmod (IntKind.i64.wrap at_) (IntKind.i64.wrap (((first1.len : Nat) : Int) + 1))))).toNat)) (ty := 5) (dst := some 132) (by kernel_rfl) (by kernel_rfl) (by kernel_rfl) hc ?_
                              refine reg_run [.plain] 7 [(0, [], Value.slice first1.ptr first1.len first1.cap), (2, [], Value.slice b_1.ptr b_1.len b_1.cap), (9, [], Value.int .i64 (Int.tmod (IntKind.i64.wrap at_) (IntKind.i64.wrap (((first1.len : Nat) : Int) + 1)))), (11, [], Value.slice got.ptr got.len got.cap), (15, [], Value.int .i64 i), (16, [], Value.int .u8 want1)] (by kernel_rfl) (by kernel_rfl) ?_
                              refine reg_end [(0, Value.slice first1.ptr first1.len first1.cap), (2, Value.slice b_1.ptr b_1.len b_1.cap), (9, Value.int .i64 (Int.tmod (IntKind.i64.wrap at_) (IntKind.i64.wrap (((first1.len : Nat) : Int) + 1)))), (11, Value.slice got.ptr got.len got.cap), (15, Value.int .i64 i), (16, Value.int .u8 want1)] (by kernel_rfl) (by kernel_rfl) ?_
                              exact ⟨[(0, Value.slice first1.ptr first1.len first1.cap), (2, Value.slice b_1.ptr b_1.len b_1.cap), (9, Value.int .i64 (Int.tmod (IntKind.i64.wrap at_) (IntKind.i64.wrap (((first1.len : Nat) : Int) + 1)))), (11, Value.slice got.ptr got.len got.cap), (15, Value.int .i64 i), (16, Value.int .u8 want1)], Sub.mk (by kernel_rfl), want1, rfl, h⟩
                            · replace h := h.2 hb
                              refine wpE_region (id := 26) (ops := r_towpathlaw04_DiskPlaces_109) (by kernel_rfl) ?_
                              refine reg_run [.plain, .plain] 2 [(0, [], Value.slice first1.ptr first1.len first1.cap), (2, [], Value.slice b_1.ptr b_1.len b_1.cap), (9, [], Value.int .i64 (Int.tmod (IntKind.i64.wrap at_) (IntKind.i64.wrap (((first1.len : Nat) : Int) + 1)))), (11, [], Value.slice got.ptr got.len got.cap), (15, [], Value.int .i64 i), (133, [], Value.slice first1.ptr first1.len first1.cap), (134, [], Value.int .i64 i)] (by kernel_rfl) (by kernel_rfl) ?_
                              obtain ⟨hp_23, h⟩ := h
                              refine reg_conv [(0, [], Value.slice first1.ptr first1.len first1.cap), (2, [], Value.slice b_1.ptr b_1.len b_1.cap), (9, [], Value.int .i64 (Int.tmod (IntKind.i64.wrap at_) (IntKind.i64.wrap (((first1.len : Nat) : Int) + 1)))), (11, [], Value.slice got.ptr got.len got.cap), (15, [], Value.int .i64 i), (133, [], Value.slice (some ⟨(pblk first1.ptr), (poff first1.ptr), none⟩) first1.len first1.cap), (134, [], Value.int .i64 i)] (congrArg (fun pp => ([(0, [], Value.slice first1.ptr first1.len first1.cap), (2, [], Value.slice b_1.ptr b_1.len b_1.cap), (9, [], Value.int .i64 (Int.tmod (IntKind.i64.wrap at_) (IntKind.i64.wrap (((first1.len : Nat) : Int) + 1)))), (11, [], Value.slice got.ptr got.len got.cap), (15, [], Value.int .i64 i), (133, [], Value.slice pp first1.len first1.cap), (134, [], Value.int .i64 i)] : GEnv)) hp_23) ?_
                              obtain ⟨h0, h1, h⟩ := h
                              refine reg_indexS1 (t := 22) (e := 5) (x := (Go.Operand.tmp 133)) (ix := (Go.Operand.tmp 134)) (b := (pblk first1.ptr)) (o := (poff first1.ptr)) (l := first1.len) (c := first1.cap) (k := .i64) (j := i) (ty := 0) (dst := some 135) (by kernel_rfl) (by kernel_rfl) (by kernel_rfl) (by kernel_rfl) (by kernel_rfl) h0 h1 ?_
                              refine reg_run [] 3 [(0, [], Value.slice first1.ptr first1.len first1.cap), (2, [], Value.slice b_1.ptr b_1.len b_1.cap), (9, [], Value.int .i64 (Int.tmod (IntKind.i64.wrap at_) (IntKind.i64.wrap (((first1.len : Nat) : Int) + 1)))), (11, [], Value.slice got.ptr got.len got.cap), (15, [], Value.int .i64 i), (135, [], Value.pointer (some ⟨(pblk first1.ptr), (poff first1.ptr) + i.toNat, none⟩))] (by kernel_rfl) (by kernel_rfl) ?_
                              obtain ⟨want2, hc, h⟩ := h
                              refine reg_load1 (t := 5) (a := (Go.Operand.tmp 135)) (b := (pblk first1.ptr)) (o := ((poff first1.ptr) + i.toNat)) (ty := 5) (dst := some 136) (by kernel_rfl) (by kernel_rfl) (by kernel_rfl) hc ?_
                              refine reg_run [.plain] 5 [(0, [], Value.slice first1.ptr first1.len first1.cap), (2, [], Value.slice b_1.ptr b_1.len b_1.cap), (9, [], Value.int .i64 (Int.tmod (IntKind.i64.wrap at_) (IntKind.i64.wrap (((first1.len : Nat) : Int) + 1)))), (11, [], Value.slice got.ptr got.len got.cap), (15, [], Value.int .i64 i), (16, [], Value.int .u8 want2)] (by kernel_rfl) (by kernel_rfl) ?_
                              refine reg_end [(0, Value.slice first1.ptr first1.len first1.cap), (2, Value.slice b_1.ptr b_1.len b_1.cap), (9, Value.int .i64 (Int.tmod (IntKind.i64.wrap at_) (IntKind.i64.wrap (((first1.len : Nat) : Int) + 1)))), (11, Value.slice got.ptr got.len got.cap), (15, Value.int .i64 i), (16, Value.int .u8 want2)] (by kernel_rfl) (by kernel_rfl) ?_
                              exact ⟨[(0, Value.slice first1.ptr first1.len first1.cap), (2, Value.slice b_1.ptr b_1.len b_1.cap), (9, Value.int .i64 (Int.tmod (IntKind.i64.wrap at_) (IntKind.i64.wrap (((first1.len : Nat) : Int) + 1)))), (11, Value.slice got.ptr got.len got.cap), (15, Value.int .i64 i), (16, Value.int .u8 want2)], Sub.mk (by kernel_rfl), want2, rfl, h⟩
                          · rintro _ w13 ⟨want, rfl, h⟩
                            unfold F_towpathlaw04_DiskPlaces_k6 at h
                            refine wpE_seq (x := c_towpathlaw04_DiskPlaces_112) (y := c_towpathlaw04_DiskPlaces_114) (by kernel_rfl) ?_
                            refine wpE_region (id := 27) (ops := r_towpathlaw04_DiskPlaces_112) (by kernel_rfl) ?_
                            refine reg_run [.plain, .plain] 2 [(0, [], Value.slice first1.ptr first1.len first1.cap), (2, [], Value.slice b_1.ptr b_1.len b_1.cap), (9, [], Value.int .i64 (Int.tmod (IntKind.i64.wrap at_) (IntKind.i64.wrap (((first1.len : Nat) : Int) + 1)))), (11, [], Value.slice got.ptr got.len got.cap), (15, [], Value.int .i64 i), (16, [], Value.int .u8 want), (137, [], Value.slice got.ptr got.len got.cap), (138, [], Value.int .i64 i)] (by kernel_rfl) (by kernel_rfl) ?_
                            obtain ⟨hp_21, h⟩ := h
                            refine reg_conv [(0, [], Value.slice first1.ptr first1.len first1.cap), (2, [], Value.slice b_1.ptr b_1.len b_1.cap), (9, [], Value.int .i64 (Int.tmod (IntKind.i64.wrap at_) (IntKind.i64.wrap (((first1.len : Nat) : Int) + 1)))), (11, [], Value.slice got.ptr got.len got.cap), (15, [], Value.int .i64 i), (16, [], Value.int .u8 want), (137, [], Value.slice (some ⟨(pblk got.ptr), (poff got.ptr), none⟩) got.len got.cap), (138, [], Value.int .i64 i)] (congrArg (fun pp => ([(0, [], Value.slice first1.ptr first1.len first1.cap), (2, [], Value.slice b_1.ptr b_1.len b_1.cap), (9, [], Value.int .i64 (Int.tmod (IntKind.i64.wrap at_) (IntKind.i64.wrap (((first1.len : Nat) : Int) + 1)))), (11, [], Value.slice got.ptr got.len got.cap), (15, [], Value.int .i64 i), (16, [], Value.int .u8 want), (137, [], Value.slice pp got.len got.cap), (138, [], Value.int .i64 i)] : GEnv)) hp_21) ?_
                            obtain ⟨h0, h1, h⟩ := h
                            refine reg_indexS1 (t := 22) (e := 5) (x := (Go.Operand.tmp 137)) (ix := (Go.Operand.tmp 138)) (b := (pblk got.ptr)) (o := (poff got.ptr)) (l := got.len) (c := got.cap) (k := .i64) (j := i) (ty := 0) (dst := some 139) (by kernel_rfl) (by kernel_rfl) (by kernel_rfl) (by kernel_rfl) (by kernel_rfl) h0 h1 ?_
                            refine reg_run [] 3 [(0, [], Value.slice first1.ptr first1.len first1.cap), (2, [], Value.slice b_1.ptr b_1.len b_1.cap), (9, [], Value.int .i64 (Int.tmod (IntKind.i64.wrap at_) (IntKind.i64.wrap (((first1.len : Nat) : Int) + 1)))), (11, [], Value.slice got.ptr got.len got.cap), (15, [], Value.int .i64 i), (16, [], Value.int .u8 want), (139, [], Value.pointer (some ⟨(pblk got.ptr), (poff got.ptr) + i.toNat, none⟩))] (by kernel_rfl) (by kernel_rfl) ?_
                            obtain ⟨v140, hc, h⟩ := h
                            refine reg_load1 (t := 5) (a := (Go.Operand.tmp 139)) (b := (pblk got.ptr)) (o := ((poff got.ptr) + i.toNat)) (ty := 5) (dst := some 140) (by kernel_rfl) (by kernel_rfl) (by kernel_rfl) hc ?_
                            refine reg_run [.plain, .plain] 6 [(0, [], Value.slice first1.ptr first1.len first1.cap), (2, [], Value.slice b_1.ptr b_1.len b_1.cap), (9, [], Value.int .i64 (Int.tmod (IntKind.i64.wrap at_) (IntKind.i64.wrap (((first1.len : Nat) : Int) + 1)))), (11, [], Value.slice got.ptr got.len got.cap), (15, [], Value.int .i64 i), (142, [], Value.bool (v140 != want))] (by kernel_rfl) (by kernel_rfl) ?_
                            refine reg_end [(0, Value.slice first1.ptr first1.len first1.cap), (2, Value.slice b_1.ptr b_1.len b_1.cap), (9, Value.int .i64 (Int.tmod (IntKind.i64.wrap at_) (IntKind.i64.wrap (((first1.len : Nat) : Int) + 1)))), (11, Value.slice got.ptr got.len got.cap), (15, Value.int .i64 i), (142, Value.bool (v140 != want))] (by kernel_rfl) (by kernel_rfl) ?_
                            change WpE _ _ c_towpathlaw04_DiskPlaces_114 _ _ _
                            refine wpE_cond (o := (Operand.tmp 142)) (b := (v140 != want)) (x := c_towpathlaw04_DiskPlaces_115) (y := c_towpathlaw04_DiskPlaces_119) (by kernel_rfl) (by kernel_rfl) (fun hb => ?_) (fun hb => ?_)
                            · replace h := h.1 hb
                              refine wpE_seq (x := c_towpathlaw04_DiskPlaces_116) (y := c_towpathlaw04_DiskPlaces_118) (by kernel_rfl) ?_
                              refine wpE_region (id := 28) (ops := r_towpathlaw04_DiskPlaces_116) (by kernel_rfl) ?_
                              refine reg_run [.plain] 1 [(6, [], Value.bool false)] (by kernel_rfl) (by kernel_rfl) ?_
                              refine reg_end [(6, Value.bool false)] (by kernel_rfl) (by kernel_rfl) ?_
                              change WpE _ _ c_towpathlaw04_DiskPlaces_118 _ _ _
                              refine wpE_ret (by kernel_rfl) ?_
                              repeat (first | refine seqQ_ret ?_ | refine blockQ_ret ?_ | refine loopQ_ret ?_ | refine cutQ_ret ?_)
                              exact retS (rs := [(Go.ResultVar.tmp 6)]) (v := Value.bool false) (by kernel_rfl) (⟨by kernel_rfl, trivial⟩) ⟨false, rfl, h⟩
                            · replace h := h.2 hb
                              refine wpE_skip (by kernel_rfl) ?_
                              change WpE _ _ c_towpathlaw04_DiskPlaces_120 _ _ _
                              refine wpE_region (id := 22) (ops := r_towpathlaw04_DiskPlaces_120) (by kernel_rfl) ?_
                              refine reg_run [.plain, .plain, .plain] 3 [(0, [], Value.slice first1.ptr first1.len first1.cap), (2, [], Value.slice b_1.ptr b_1.len b_1.cap), (9, [], Value.int .i64 (Int.tmod (IntKind.i64.wrap at_) (IntKind.i64.wrap (((first1.len : Nat) : Int) + 1)))), (11, [], Value.slice got.ptr got.len got.cap), (15, [], Value.int .i64 (IntKind.i64.wrap (i + 1)))] (by kernel_rfl) (by kernel_rfl) ?_
                              refine reg_end [(0, Value.slice first1.ptr first1.len first1.cap), (2, Value.slice b_1.ptr b_1.len b_1.cap), (9, Value.int .i64 (Int.tmod (IntKind.i64.wrap at_) (IntKind.i64.wrap (((first1.len : Nat) : Int) + 1)))), (11, Value.slice got.ptr got.len got.cap), (15, Value.int .i64 (IntKind.i64.wrap (i + 1)))] (by kernel_rfl) (by kernel_rfl) ?_
                              have hb_ := again__h _ _ h
                              exact ⟨_, hb_.2, [(0, Value.slice first1.ptr first1.len first1.cap), (2, Value.slice b_1.ptr b_1.len b_1.cap), (9, Value.int .i64 (Int.tmod (IntKind.i64.wrap at_) (IntKind.i64.wrap (((first1.len : Nat) : Int) + 1)))), (11, Value.slice got.ptr got.len got.cap), (15, Value.int .i64 (IntKind.i64.wrap (i + 1)))], Sub.mk (by kernel_rfl), (IntKind.i64.wrap (i + 1)), rfl, hb_.1, rfl⟩
                        · replace h := h.2 hb
                          refine wpE_exit (id := 0) (by kernel_rfl) ?_
                          change WpE _ _ c_towpathlaw04_DiskPlaces_122 _ _ _
                          refine wpE_seq (x := c_towpathlaw04_DiskPlaces_123) (y := c_towpathlaw04_DiskPlaces_125) (by kernel_rfl) ?_
                          refine wpE_region (id := 29) (ops := r_towpathlaw04_DiskPlaces_123) (by kernel_rfl) ?_
                          refine reg_run [.plain] 1 [(6, [], Value.bool true)] (by kernel_rfl) (by kernel_rfl) ?_
                          refine reg_end [(6, Value.bool true)] (by kernel_rfl) (by kernel_rfl) ?_
                          change WpE _ _ c_towpathlaw04_DiskPlaces_125 _ _ _
                          refine wpE_ret (by kernel_rfl) ?_
                          repeat (first | refine seqQ_ret ?_ | refine blockQ_ret ?_ | refine loopQ_ret ?_ | refine cutQ_ret ?_)
                          exact retS (rs := [(Go.ResultVar.tmp 6)]) (v := Value.bool true) (by kernel_rfl) (⟨by kernel_rfl, trivial⟩) ⟨true, rfl, h⟩
  · rintro e w' ⟨v, rfl, r0, rfl, h⟩; exact ⟨r0, rfl, h⟩
end Go.Proofs.Ytckmganidgbpgaa
