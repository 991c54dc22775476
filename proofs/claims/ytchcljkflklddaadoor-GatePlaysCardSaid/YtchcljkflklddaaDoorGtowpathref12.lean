/- WRITTEN BY PROGRAM (dec.py): for each Go function the clean formula F, the call's contract C, and the proof S that F gives C. -/
import Derived.Test.YtchcljkflklddaaDoorRows
import Derived.Test.YtchcljkflklddaaDoorGF
namespace Go.Proofs.YtchcljkflklddaaDoor
open Go
set_option linter.unusedVariables false

/-! ### towpath/towpathref12.New (function 8) -/
noncomputable def c_towpathref12_New_0 : Code := (Tryd.f8.body).getD Code.skip
noncomputable def c_towpathref12_New_1 : Code := Code.l c_towpathref12_New_0
noncomputable def r_towpathref12_New_1 : Array Oper := Code.ops c_towpathref12_New_1
noncomputable def c_towpathref12_New_3 : Code := Code.r c_towpathref12_New_0
noncomputable def c_towpathref12_New_4 : Code := Code.l c_towpathref12_New_3
noncomputable def c_towpathref12_New_5 : Code := Code.l c_towpathref12_New_4
noncomputable def r_towpathref12_New_5 : Array Oper := Code.ops c_towpathref12_New_5
noncomputable def c_towpathref12_New_7 : Code := Code.r c_towpathref12_New_4
noncomputable def c_towpathref12_New_8 : Code := Code.l c_towpathref12_New_7
noncomputable def c_towpathref12_New_9 : Code := Code.l c_towpathref12_New_8
noncomputable def r_towpathref12_New_9 : Array Oper := Code.ops c_towpathref12_New_9
noncomputable def c_towpathref12_New_11 : Code := Code.r c_towpathref12_New_8
noncomputable def c_towpathref12_New_12 : Code := Code.r c_towpathref12_New_7
noncomputable def c_towpathref12_New_13 : Code := Code.r c_towpathref12_New_3
noncomputable def c_towpathref12_New_14 : Code := Code.l c_towpathref12_New_13
noncomputable def r_towpathref12_New_14 : Array Oper := Code.ops c_towpathref12_New_14
noncomputable def c_towpathref12_New_16 : Code := Code.r c_towpathref12_New_13
noncomputable def c_towpathref12_New_17 : Code := Code.l c_towpathref12_New_16
noncomputable def r_towpathref12_New_17 : Array Oper := Code.ops c_towpathref12_New_17
noncomputable def c_towpathref12_New_19 : Code := Code.r c_towpathref12_New_16

set_option maxRecDepth 100000 in
set_option maxHeartbeats 4000000 in
theorem S_towpathref12_New {mark : Int} {beyond : Slc} {w : World} {R : Option Addr → Int → World → Prop} (h : F_towpathref12_New mark beyond R w) : C_towpathref12_New mark beyond w R := by
  unfold F_towpathref12_New at h
  unfold C_towpathref12_New
  refine Calls.mono (calls_of_wpE (args := [Value.int .i64 mark, Value.slice beyond.ptr beyond.len beyond.cap]) (R := fun v w' => ∃ (r0 : Option Addr) (r1 : Int), v = Value.tuple #[Value.pointer r0, Value.int .i64 r1] ∧ R r0 r1 w') Tryd.func8 (c := c_towpathref12_New_0) (by kernel_rfl) 17 (by kernel_rfl) (by kernel_rfl) [(0, Value.int .i64 mark), (1, Value.slice beyond.ptr beyond.len beyond.cap)] (by kernel_rfl) ?_) ?_
  · refine wpE_seq (x := c_towpathref12_New_1) (y := c_towpathref12_New_3) (by kernel_rfl) ?_
    refine wpE_region (id := 0) (ops := r_towpathref12_New_1) (by kernel_rfl) ?_
    refine reg_run [.plain, .plain] 2 [(0, [], Value.int .i64 mark), (1, [], Value.slice beyond.ptr beyond.len beyond.cap)] (by kernel_rfl) (by kernel_rfl) ?_
    refine reg_end [(0, Value.int .i64 mark), (1, Value.slice beyond.ptr beyond.len beyond.cap)] (by kernel_rfl) (by kernel_rfl) ?_
    change WpE _ _ c_towpathref12_New_3 _ _ _
    refine wpE_seq (x := c_towpathref12_New_4) (y := c_towpathref12_New_13) (by kernel_rfl) ?_
    refine wpE_seq (x := c_towpathref12_New_5) (y := c_towpathref12_New_7) (by kernel_rfl) ?_
    refine wpE_region (id := 1) (ops := r_towpathref12_New_5) (by kernel_rfl) ?_
    refine reg_run [.plain, .plain] 2 [(0, [], Value.int .i64 mark), (1, [], Value.slice beyond.ptr beyond.len beyond.cap), (7, [], Value.int .i64 mark), (8, [], Value.slice beyond.ptr beyond.len beyond.cap)] (by kernel_rfl) (by kernel_rfl) ?_
    refine reg_enter (op := (Go.Op.call (Go.Call.mk (Go.Callee.value (Go.Operand.func 30)) #[(Go.Operand.tmp 7), (Go.Operand.tmp 8)] #[3, 22]))) (ty := 4) (dst := some 9) 30 #[Value.int .i64 mark, Value.slice beyond.ptr beyond.len beyond.cap] (by kernel_rfl) (fun ww => by kernel_rfl) (Calls.mono h ?_)
    rintro _ w1 ⟨v9, rfl, h⟩
    refine ⟨_, rfl, ?_⟩
    refine reg_run [.plain] 4 [(0, [], Value.int .i64 mark), (1, [], Value.slice beyond.ptr beyond.len beyond.cap), (10, [], Value.bool (!v9))] (by kernel_rfl) (by kernel_rfl) ?_
    refine reg_end [(0, Value.int .i64 mark), (1, Value.slice beyond.ptr beyond.len beyond.cap), (10, Value.bool (!v9))] (by kernel_rfl) (by kernel_rfl) ?_
    change WpE _ _ c_towpathref12_New_7 _ _ _
    refine wpE_cond (o := (Operand.tmp 10)) (b := (!v9)) (x := c_towpathref12_New_8) (y := c_towpathref12_New_12) (by kernel_rfl) (by kernel_rfl) (fun hb => ?_) (fun hb => ?_)
    · replace h := h.1 hb
      refine wpE_seq (x := c_towpathref12_New_9) (y := c_towpathref12_New_11) (by kernel_rfl) ?_
      refine wpE_region (id := 2) (ops := r_towpathref12_New_9) (by kernel_rfl) ?_
      refine reg_run [.plain, .plain] 2 [(4, [], Value.pointer none), (5, [], Value.int .i64 1)] (by kernel_rfl) (by kernel_rfl) ?_
      refine reg_end [(4, Value.pointer none), (5, Value.int .i64 1)] (by kernel_rfl) (by kernel_rfl) ?_
      change WpE _ _ c_towpathref12_New_11 _ _ _
      refine wpE_ret (by kernel_rfl) ?_
      repeat (first | refine seqQ_ret ?_ | refine blockQ_ret ?_ | refine loopQ_ret ?_ | refine cutQ_ret ?_)
      exact retT (rs := [(Go.ResultVar.tmp 4), (Go.ResultVar.tmp 5)]) (vs := [Value.pointer none, Value.int .i64 1]) (by kernel_rfl) (⟨by kernel_rfl, ⟨by kernel_rfl, trivial⟩⟩) (by kernel_rfl) ⟨none, 1, rfl, h⟩
    · replace h := h.2 hb
      refine wpE_skip (by kernel_rfl) ?_
      change WpE _ _ c_towpathref12_New_13 _ _ _
      refine wpE_seq (x := c_towpathref12_New_14) (y := c_towpathref12_New_16) (by kernel_rfl) ?_
      refine wpE_region (id := 3) (ops := r_towpathref12_New_14) (by kernel_rfl) ?_
      refine reg_run [.plain] 1 [(0, [], Value.int .i64 mark), (1, [], Value.slice beyond.ptr beyond.len beyond.cap), (6, [], Value.slice none 0 0)] (by kernel_rfl) (by kernel_rfl) ?_
      refine reg_end [(0, Value.int .i64 mark), (1, Value.slice beyond.ptr beyond.len beyond.cap), (6, Value.slice none 0 0)] (by kernel_rfl) (by kernel_rfl) ?_
      change WpE _ _ c_towpathref12_New_16 _ _ _
      refine wpE_seq (x := c_towpathref12_New_17) (y := c_towpathref12_New_19) (by kernel_rfl) ?_
      refine wpE_region (id := 4) (ops := r_towpathref12_New_17) (by kernel_rfl) ?_
      refine reg_run [.plain, .plain, .plain] 3 [(11, [], Value.int .i64 mark), (12, [], Value.slice none 0 0), (13, [], Value.slice beyond.ptr beyond.len beyond.cap)] (by kernel_rfl) (by kernel_rfl) ?_
      obtain ⟨src, hs, h⟩ := h
      refine reg_append (t := 22) (tx := 22) (e := 3) (a := (Go.Operand.tmp 12)) (xo := (Go.Operand.tmp 13)) (s := (Slc.mk none 0 0)) (x := beyond) (sz := 1) (by_ := 8) (zs := [Value.int .i64 0]) (ty := 22) (dst := some 14)  src (by kernel_rfl) (by kernel_rfl) (by kernel_rfl) (by kernel_rfl) (by kernel_rfl) (by kernel_rfl) (by kernel_rfl) (by kernel_rfl) (by kernel_rfl) hs (AppendW.mono h (fun v14 w2 h => ?_))
      refine reg_run [.plain] 5 [(15, [], Value.agg #[Value.int .i64 mark, Value.slice v14.ptr v14.len v14.cap])] (by kernel_rfl) (by kernel_rfl) ?_
      refine reg_new (op := (Go.Op.box 80 (Go.Operand.tmp 15))) (ty := 29) (dst := some 16) (fun bb => Value.pointer (some ⟨bb, 0, none⟩)) (Obj.cells ([Value.int .i64 mark, Value.slice v14.ptr v14.len v14.cap]).toArray ty_towpathref12_Gate (0, 0)) (by kernel_rfl) (by kernel_rfl) (fun b_ w3 hb hw => ?_)
      replace h := h b_ w3 hb hw
      clear hb hw
      refine reg_run [.plain, .plain] 8 [(4, [], Value.pointer (some ⟨b_, 0, none⟩)), (5, [], Value.int .i64 0)] (by kernel_rfl) (by kernel_rfl) ?_
      refine reg_end [(4, Value.pointer (some ⟨b_, 0, none⟩)), (5, Value.int .i64 0)] (by kernel_rfl) (by kernel_rfl) ?_
      change WpE _ _ c_towpathref12_New_19 _ _ _
      refine wpE_ret (by kernel_rfl) ?_
      repeat (first | refine seqQ_ret ?_ | refine blockQ_ret ?_ | refine loopQ_ret ?_ | refine cutQ_ret ?_)
      exact retT (rs := [(Go.ResultVar.tmp 4), (Go.ResultVar.tmp 5)]) (vs := [Value.pointer (some ⟨b_, 0, none⟩), Value.int .i64 0]) (by kernel_rfl) (⟨by kernel_rfl, ⟨by kernel_rfl, trivial⟩⟩) (by kernel_rfl) ⟨(some ⟨b_, 0, none⟩), 0, rfl, h⟩
  · rintro e w' ⟨v, rfl, r0, r1, rfl, h⟩; exact ⟨r0, r1, rfl, h⟩

/-! ### (*towpath/towpathref12.Gate).Done (function 15) -/
noncomputable def c_towpathref12_Gate_Done_0 : Code := (Tryd.f15.body).getD Code.skip
noncomputable def c_towpathref12_Gate_Done_1 : Code := Code.l c_towpathref12_Gate_Done_0
noncomputable def r_towpathref12_Gate_Done_1 : Array Oper := Code.ops c_towpathref12_Gate_Done_1
noncomputable def c_towpathref12_Gate_Done_3 : Code := Code.r c_towpathref12_Gate_Done_0
noncomputable def c_towpathref12_Gate_Done_4 : Code := Code.l c_towpathref12_Gate_Done_3
noncomputable def c_towpathref12_Gate_Done_5 : Code := Code.l c_towpathref12_Gate_Done_4
noncomputable def r_towpathref12_Gate_Done_5 : Array Oper := Code.ops c_towpathref12_Gate_Done_5
noncomputable def c_towpathref12_Gate_Done_7 : Code := Code.r c_towpathref12_Gate_Done_4
noncomputable def c_towpathref12_Gate_Done_8 : Code := Code.l c_towpathref12_Gate_Done_7
noncomputable def c_towpathref12_Gate_Done_9 : Code := Code.l c_towpathref12_Gate_Done_8
noncomputable def r_towpathref12_Gate_Done_9 : Array Oper := Code.ops c_towpathref12_Gate_Done_9
noncomputable def c_towpathref12_Gate_Done_11 : Code := Code.r c_towpathref12_Gate_Done_8
noncomputable def c_towpathref12_Gate_Done_12 : Code := Code.r c_towpathref12_Gate_Done_7
noncomputable def c_towpathref12_Gate_Done_13 : Code := Code.r c_towpathref12_Gate_Done_3
noncomputable def c_towpathref12_Gate_Done_14 : Code := Code.l c_towpathref12_Gate_Done_13
noncomputable def c_towpathref12_Gate_Done_15 : Code := Code.l c_towpathref12_Gate_Done_14
noncomputable def r_towpathref12_Gate_Done_15 : Array Oper := Code.ops c_towpathref12_Gate_Done_15
noncomputable def c_towpathref12_Gate_Done_17 : Code := Code.r c_towpathref12_Gate_Done_14
noncomputable def c_towpathref12_Gate_Done_18 : Code := Code.l c_towpathref12_Gate_Done_17
noncomputable def c_towpathref12_Gate_Done_19 : Code := Code.l c_towpathref12_Gate_Done_18
noncomputable def r_towpathref12_Gate_Done_19 : Array Oper := Code.ops c_towpathref12_Gate_Done_19
noncomputable def c_towpathref12_Gate_Done_21 : Code := Code.r c_towpathref12_Gate_Done_18
noncomputable def c_towpathref12_Gate_Done_22 : Code := Code.r c_towpathref12_Gate_Done_17
noncomputable def c_towpathref12_Gate_Done_23 : Code := Code.r c_towpathref12_Gate_Done_13
noncomputable def c_towpathref12_Gate_Done_24 : Code := Code.l c_towpathref12_Gate_Done_23
noncomputable def r_towpathref12_Gate_Done_24 : Array Oper := Code.ops c_towpathref12_Gate_Done_24
noncomputable def c_towpathref12_Gate_Done_26 : Code := Code.r c_towpathref12_Gate_Done_23
noncomputable def c_towpathref12_Gate_Done_27 : Code := Code.l c_towpathref12_Gate_Done_26
noncomputable def r_towpathref12_Gate_Done_27 : Array Oper := Code.ops c_towpathref12_Gate_Done_27
noncomputable def c_towpathref12_Gate_Done_29 : Code := Code.r c_towpathref12_Gate_Done_26
noncomputable def c_towpathref12_Gate_Done_30 : Code := Code.l c_towpathref12_Gate_Done_29
noncomputable def c_towpathref12_Gate_Done_31 : Code := Code.l c_towpathref12_Gate_Done_30
noncomputable def r_towpathref12_Gate_Done_31 : Array Oper := Code.ops c_towpathref12_Gate_Done_31
noncomputable def c_towpathref12_Gate_Done_33 : Code := Code.r c_towpathref12_Gate_Done_30
noncomputable def c_towpathref12_Gate_Done_34 : Code := Code.l c_towpathref12_Gate_Done_33
noncomputable def c_towpathref12_Gate_Done_35 : Code := Code.l c_towpathref12_Gate_Done_34
noncomputable def c_towpathref12_Gate_Done_36 : Code := Code.l c_towpathref12_Gate_Done_35
noncomputable def c_towpathref12_Gate_Done_37 : Code := Code.l c_towpathref12_Gate_Done_36
noncomputable def r_towpathref12_Gate_Done_37 : Array Oper := Code.ops c_towpathref12_Gate_Done_37
noncomputable def c_towpathref12_Gate_Done_39 : Code := Code.r c_towpathref12_Gate_Done_36
noncomputable def c_towpathref12_Gate_Done_40 : Code := Code.l c_towpathref12_Gate_Done_39
noncomputable def c_towpathref12_Gate_Done_41 : Code := Code.r c_towpathref12_Gate_Done_39
noncomputable def c_towpathref12_Gate_Done_42 : Code := Code.r c_towpathref12_Gate_Done_35
noncomputable def c_towpathref12_Gate_Done_43 : Code := Code.l c_towpathref12_Gate_Done_42
noncomputable def c_towpathref12_Gate_Done_44 : Code := Code.l c_towpathref12_Gate_Done_43
noncomputable def c_towpathref12_Gate_Done_45 : Code := Code.l c_towpathref12_Gate_Done_44
noncomputable def c_towpathref12_Gate_Done_46 : Code := Code.l c_towpathref12_Gate_Done_45
noncomputable def r_towpathref12_Gate_Done_46 : Array Oper := Code.ops c_towpathref12_Gate_Done_46
noncomputable def c_towpathref12_Gate_Done_48 : Code := Code.r c_towpathref12_Gate_Done_45
noncomputable def c_towpathref12_Gate_Done_49 : Code := Code.l c_towpathref12_Gate_Done_48
noncomputable def c_towpathref12_Gate_Done_50 : Code := Code.l c_towpathref12_Gate_Done_49
noncomputable def r_towpathref12_Gate_Done_50 : Array Oper := Code.ops c_towpathref12_Gate_Done_50
noncomputable def c_towpathref12_Gate_Done_52 : Code := Code.r c_towpathref12_Gate_Done_49
noncomputable def r_towpathref12_Gate_Done_52 : Array Oper := Code.ops c_towpathref12_Gate_Done_52
noncomputable def c_towpathref12_Gate_Done_54 : Code := Code.r c_towpathref12_Gate_Done_48
noncomputable def c_towpathref12_Gate_Done_55 : Code := Code.r c_towpathref12_Gate_Done_44
noncomputable def r_towpathref12_Gate_Done_55 : Array Oper := Code.ops c_towpathref12_Gate_Done_55
noncomputable def c_towpathref12_Gate_Done_57 : Code := Code.r c_towpathref12_Gate_Done_42
noncomputable def r_towpathref12_Gate_Done_57 : Array Oper := Code.ops c_towpathref12_Gate_Done_57
noncomputable def c_towpathref12_Gate_Done_59 : Code := Code.r c_towpathref12_Gate_Done_29
noncomputable def c_towpathref12_Gate_Done_60 : Code := Code.l c_towpathref12_Gate_Done_59
noncomputable def c_towpathref12_Gate_Done_61 : Code := Code.l c_towpathref12_Gate_Done_60
noncomputable def r_towpathref12_Gate_Done_61 : Array Oper := Code.ops c_towpathref12_Gate_Done_61
noncomputable def c_towpathref12_Gate_Done_63 : Code := Code.r c_towpathref12_Gate_Done_60
noncomputable def c_towpathref12_Gate_Done_64 : Code := Code.l c_towpathref12_Gate_Done_63
noncomputable def r_towpathref12_Gate_Done_64 : Array Oper := Code.ops c_towpathref12_Gate_Done_64
noncomputable def c_towpathref12_Gate_Done_66 : Code := Code.r c_towpathref12_Gate_Done_63
noncomputable def c_towpathref12_Gate_Done_67 : Code := Code.r c_towpathref12_Gate_Done_59
noncomputable def c_towpathref12_Gate_Done_68 : Code := Code.l c_towpathref12_Gate_Done_67
noncomputable def r_towpathref12_Gate_Done_68 : Array Oper := Code.ops c_towpathref12_Gate_Done_68
noncomputable def c_towpathref12_Gate_Done_70 : Code := Code.r c_towpathref12_Gate_Done_67
noncomputable def c_towpathref12_Gate_Done_71 : Code := Code.l c_towpathref12_Gate_Done_70
noncomputable def c_towpathref12_Gate_Done_72 : Code := Code.l c_towpathref12_Gate_Done_71
noncomputable def c_towpathref12_Gate_Done_73 : Code := Code.l c_towpathref12_Gate_Done_72
noncomputable def c_towpathref12_Gate_Done_74 : Code := Code.l c_towpathref12_Gate_Done_73
noncomputable def c_towpathref12_Gate_Done_75 : Code := Code.l c_towpathref12_Gate_Done_74
noncomputable def r_towpathref12_Gate_Done_75 : Array Oper := Code.ops c_towpathref12_Gate_Done_75
noncomputable def c_towpathref12_Gate_Done_77 : Code := Code.r c_towpathref12_Gate_Done_74
noncomputable def c_towpathref12_Gate_Done_78 : Code := Code.l c_towpathref12_Gate_Done_77
noncomputable def c_towpathref12_Gate_Done_79 : Code := Code.r c_towpathref12_Gate_Done_77
noncomputable def c_towpathref12_Gate_Done_80 : Code := Code.r c_towpathref12_Gate_Done_73
noncomputable def c_towpathref12_Gate_Done_81 : Code := Code.l c_towpathref12_Gate_Done_80
noncomputable def c_towpathref12_Gate_Done_82 : Code := Code.l c_towpathref12_Gate_Done_81
noncomputable def r_towpathref12_Gate_Done_82 : Array Oper := Code.ops c_towpathref12_Gate_Done_82
noncomputable def c_towpathref12_Gate_Done_84 : Code := Code.r c_towpathref12_Gate_Done_81
noncomputable def c_towpathref12_Gate_Done_85 : Code := Code.l c_towpathref12_Gate_Done_84
noncomputable def r_towpathref12_Gate_Done_85 : Array Oper := Code.ops c_towpathref12_Gate_Done_85
noncomputable def c_towpathref12_Gate_Done_87 : Code := Code.r c_towpathref12_Gate_Done_84
noncomputable def r_towpathref12_Gate_Done_87 : Array Oper := Code.ops c_towpathref12_Gate_Done_87
noncomputable def c_towpathref12_Gate_Done_89 : Code := Code.r c_towpathref12_Gate_Done_70
noncomputable def c_towpathref12_Gate_Done_90 : Code := Code.l c_towpathref12_Gate_Done_89
noncomputable def r_towpathref12_Gate_Done_90 : Array Oper := Code.ops c_towpathref12_Gate_Done_90
noncomputable def c_towpathref12_Gate_Done_92 : Code := Code.r c_towpathref12_Gate_Done_89
noncomputable def c_towpathref12_Gate_Done_93 : Code := Code.l c_towpathref12_Gate_Done_92
noncomputable def r_towpathref12_Gate_Done_93 : Array Oper := Code.ops c_towpathref12_Gate_Done_93
noncomputable def c_towpathref12_Gate_Done_95 : Code := Code.r c_towpathref12_Gate_Done_92

set_option maxRecDepth 100000 in
set_option maxHeartbeats 4000000 in
theorem S_towpathref12_Gate_Done {g : Option Addr} {number : Int} {w : World} {R : Int → Int → World → Prop} (h : F_towpathref12_Gate_Done g number R w) : C_towpathref12_Gate_Done g number w R := by
  unfold F_towpathref12_Gate_Done at h
  unfold C_towpathref12_Gate_Done
  refine Calls.mono (calls_of_wpE (args := [Value.pointer g, Value.int .i64 number]) (R := fun v w' => ∃ (r0 : Int) (r1 : Int), v = Value.tuple #[Value.int .i64 r0, Value.int .i64 r1] ∧ R r0 r1 w') Tryd.func15 (c := c_towpathref12_Gate_Done_0) (by kernel_rfl) 96 (by kernel_rfl) (by kernel_rfl) [(0, Value.pointer g), (1, Value.int .i64 number)] (by kernel_rfl) ?_) ?_
  · refine wpE_seq (x := c_towpathref12_Gate_Done_1) (y := c_towpathref12_Gate_Done_3) (by kernel_rfl) ?_
    refine wpE_region (id := 0) (ops := r_towpathref12_Gate_Done_1) (by kernel_rfl) ?_
    refine reg_run [.plain, .plain] 2 [(0, [], Value.pointer g), (1, [], Value.int .i64 number)] (by kernel_rfl) (by kernel_rfl) ?_
    refine reg_end [(0, Value.pointer g), (1, Value.int .i64 number)] (by kernel_rfl) (by kernel_rfl) ?_
    change WpE _ _ c_towpathref12_Gate_Done_3 _ _ _
    refine wpE_seq (x := c_towpathref12_Gate_Done_4) (y := c_towpathref12_Gate_Done_13) (by kernel_rfl) ?_
    refine wpE_seq (x := c_towpathref12_Gate_Done_5) (y := c_towpathref12_Gate_Done_7) (by kernel_rfl) ?_
    refine wpE_region (id := 1) (ops := r_towpathref12_Gate_Done_5) (by kernel_rfl) ?_
    refine reg_run [.plain] 1 [(0, [], Value.pointer g), (1, [], Value.int .i64 number), (10, [], Value.pointer g)] (by kernel_rfl) (by kernel_rfl) ?_
    refine reg_val (op := (Go.Op.binOp Go.BinOp.eql 29 (Go.Operand.tmp 10) (Go.Operand.const (Go.Value.pointer none)) 29)) (ty := 4) (dst := some 11) (Value.bool g.isNone) (by kernel_rfl) (fun ww => run_ptr_eql_R (p := g) (by kernel_rfl) (by kernel_rfl) (by kernel_rfl) ww) ?_
    refine reg_end [(0, Value.pointer g), (1, Value.int .i64 number), (11, Value.bool g.isNone)] (by kernel_rfl) (by kernel_rfl) ?_
    change WpE _ _ c_towpathref12_Gate_Done_7 _ _ _
    refine wpE_cond (o := (Operand.tmp 11)) (b := g.isNone) (x := c_towpathref12_Gate_Done_8) (y := c_towpathref12_Gate_Done_12) (by kernel_rfl) (by kernel_rfl) (fun hb => ?_) (fun hb => ?_)
    · replace h := h.1 hb
      refine wpE_seq (x := c_towpathref12_Gate_Done_9) (y := c_towpathref12_Gate_Done_11) (by kernel_rfl) ?_
      refine wpE_region (id := 2) (ops := r_towpathref12_Gate_Done_9) (by kernel_rfl) ?_
      refine reg_run [.plain, .plain] 2 [(4, [], Value.int .i64 0), (5, [], Value.int .i64 2)] (by kernel_rfl) (by kernel_rfl) ?_
      refine reg_end [(4, Value.int .i64 0), (5, Value.int .i64 2)] (by kernel_rfl) (by kernel_rfl) ?_
      change WpE _ _ c_towpathref12_Gate_Done_11 _ _ _
      refine wpE_ret (by kernel_rfl) ?_
      repeat (first | refine seqQ_ret ?_ | refine blockQ_ret ?_ | refine loopQ_ret ?_ | refine cutQ_ret ?_)
      exact retT (rs := [(Go.ResultVar.tmp 4), (Go.ResultVar.tmp 5)]) (vs := [Value.int .i64 0, Value.int .i64 2]) (by kernel_rfl) (⟨by kernel_rfl, ⟨by kernel_rfl, trivial⟩⟩) (by kernel_rfl) ⟨0, 2, rfl, h⟩
    · replace h := h.2 hb
      refine wpE_skip (by kernel_rfl) ?_
      change WpE _ _ c_towpathref12_Gate_Done_13 _ _ _
      refine wpE_seq (x := c_towpathref12_Gate_Done_14) (y := c_towpathref12_Gate_Done_23) (by kernel_rfl) ?_
      refine wpE_seq_cut (x := c_towpathref12_Gate_Done_15) (y := c_towpathref12_Gate_Done_17) (by kernel_rfl) (fun l w => ∃ (t22 : Bool), l = [(0, Value.pointer g), (1, Value.int .i64 number), (22, Value.bool t22)] ∧ F_towpathref12_Gate_Done_k0 g number R t22 w) ?_ ?_
      · refine wpE_region (id := 3) (ops := r_towpathref12_Gate_Done_15) (by kernel_rfl) ?_
        refine reg_run [.plain, .plain, .plain, .plain, .plain, .pick, .plain, .plain, .plain] 9 [(0, [], Value.pointer g), (1, [], Value.int .i64 number), (18, [], Value.bool ((decide (number < 1)) || (decide (number > 65536)))), (19, [(18, false)], Value.pointer g), (20, [(18, false)], Value.int .i64 number)] (by kernel_rfl) (by kernel_rfl) ?_
        refine reg_split 18 ((decide (number < 1)) || (decide (number > 65536))) (by kernel_rfl) (fun hb => ?_) (fun hb => ?_)
        · replace h := h.1 hb
          refine reg_run [] 9 [(0, [], Value.pointer g), (1, [], Value.int .i64 number), (18, [], Value.bool true), (19, [], undef), (20, [], undef)] (by kernel_rfl) (by kernel_rfl) ?_
          refine reg_run [.skip, .plain] 11 [(0, [], Value.pointer g), (1, [], Value.int .i64 number), (22, [], Value.bool true)] (by kernel_rfl) (by kernel_rfl) ?_
          refine reg_end [(0, Value.pointer g), (1, Value.int .i64 number), (22, Value.bool true)] (by kernel_rfl) (by kernel_rfl) ?_
          exact ⟨[(0, Value.pointer g), (1, Value.int .i64 number), (22, Value.bool true)], Sub.mk (by kernel_rfl), true, rfl, h⟩
        · replace h := h.2 hb
          refine reg_run [] 9 [(0, [], Value.pointer g), (1, [], Value.int .i64 number), (18, [], Value.bool false), (19, [], Value.pointer g), (20, [], Value.int .i64 number)] (by kernel_rfl) (by kernel_rfl) ?_
          refine reg_run [] 9 [(0, [], Value.pointer g), (1, [], Value.int .i64 number), (18, [], Value.bool false), (19, [], Value.pointer g), (20, [], Value.int .i64 number)] (by kernel_rfl) (by kernel_rfl) ?_
          refine reg_enter (op := (Go.Op.call (Go.Call.mk (Go.Callee.value (Go.Operand.func 67)) #[(Go.Operand.tmp 19), (Go.Operand.tmp 20)] #[29, 3]))) (ty := 4) (dst := some 21) 67 #[Value.pointer g, Value.int .i64 number] (by kernel_rfl) (fun ww => by kernel_rfl) (Calls.mono h ?_)
          rintro _ w18 ⟨v21, rfl, h⟩
          refine ⟨_, rfl, ?_⟩
          refine reg_run [.plain] 11 [(0, [], Value.pointer g), (1, [], Value.int .i64 number), (22, [], Value.bool v21)] (by kernel_rfl) (by kernel_rfl) ?_
          refine reg_end [(0, Value.pointer g), (1, Value.int .i64 number), (22, Value.bool v21)] (by kernel_rfl) (by kernel_rfl) ?_
          exact ⟨[(0, Value.pointer g), (1, Value.int .i64 number), (22, Value.bool v21)], Sub.mk (by kernel_rfl), v21, rfl, h⟩
      · rintro _ w1 ⟨t22, rfl, h⟩
        unfold F_towpathref12_Gate_Done_k0 at h
        refine wpE_cond (o := (Operand.tmp 22)) (b := t22) (x := c_towpathref12_Gate_Done_18) (y := c_towpathref12_Gate_Done_22) (by kernel_rfl) (by kernel_rfl) (fun hb => ?_) (fun hb => ?_)
        · replace h := h.1 hb
          refine wpE_seq (x := c_towpathref12_Gate_Done_19) (y := c_towpathref12_Gate_Done_21) (by kernel_rfl) ?_
          refine wpE_region (id := 4) (ops := r_towpathref12_Gate_Done_19) (by kernel_rfl) ?_
          refine reg_run [.plain, .plain] 2 [(4, [], Value.int .i64 0), (5, [], Value.int .i64 1)] (by kernel_rfl) (by kernel_rfl) ?_
          refine reg_end [(4, Value.int .i64 0), (5, Value.int .i64 1)] (by kernel_rfl) (by kernel_rfl) ?_
          change WpE _ _ c_towpathref12_Gate_Done_21 _ _ _
          refine wpE_ret (by kernel_rfl) ?_
          repeat (first | refine seqQ_ret ?_ | refine blockQ_ret ?_ | refine loopQ_ret ?_ | refine cutQ_ret ?_)
          exact retT (rs := [(Go.ResultVar.tmp 4), (Go.ResultVar.tmp 5)]) (vs := [Value.int .i64 0, Value.int .i64 1]) (by kernel_rfl) (⟨by kernel_rfl, ⟨by kernel_rfl, trivial⟩⟩) (by kernel_rfl) ⟨0, 1, rfl, h⟩
        · replace h := h.2 hb
          refine wpE_skip (by kernel_rfl) ?_
          change WpE _ _ c_towpathref12_Gate_Done_23 _ _ _
          refine wpE_seq (x := c_towpathref12_Gate_Done_24) (y := c_towpathref12_Gate_Done_26) (by kernel_rfl) ?_
          refine wpE_region (id := 5) (ops := r_towpathref12_Gate_Done_24) (by kernel_rfl) ?_
          refine reg_run [.plain] 1 [(0, [], Value.pointer g), (1, [], Value.int .i64 number), (6, [], Value.slice none 0 0)] (by kernel_rfl) (by kernel_rfl) ?_
          refine reg_end [(0, Value.pointer g), (1, Value.int .i64 number), (6, Value.slice none 0 0)] (by kernel_rfl) (by kernel_rfl) ?_
          change WpE _ _ c_towpathref12_Gate_Done_26 _ _ _
          refine wpE_seq (x := c_towpathref12_Gate_Done_27) (y := c_towpathref12_Gate_Done_29) (by kernel_rfl) ?_
          refine wpE_region (id := 6) (ops := r_towpathref12_Gate_Done_27) (by kernel_rfl) ?_
          refine reg_run [.plain] 1 [(0, [], Value.pointer g), (1, [], Value.int .i64 number), (6, [], Value.slice none 0 0), (7, [], Value.bool false)] (by kernel_rfl) (by kernel_rfl) ?_
          refine reg_end [(0, Value.pointer g), (1, Value.int .i64 number), (6, Value.slice none 0 0), (7, Value.bool false)] (by kernel_rfl) (by kernel_rfl) ?_
          change WpE _ _ c_towpathref12_Gate_Done_29 _ _ _
          refine wpE_seq (x := c_towpathref12_Gate_Done_30) (y := c_towpathref12_Gate_Done_59) (by kernel_rfl) ?_
          refine wpE_seq (x := c_towpathref12_Gate_Done_31) (y := c_towpathref12_Gate_Done_33) (by kernel_rfl) ?_
          refine wpE_region (id := 7) (ops := r_towpathref12_Gate_Done_31) (by kernel_rfl) ?_
          refine reg_run [.plain] 1 [(0, [], Value.pointer g), (1, [], Value.int .i64 number), (6, [], Value.slice none 0 0), (7, [], Value.bool false), (8, [], Value.int .i64 0)] (by kernel_rfl) (by kernel_rfl) ?_
          refine reg_end [(0, Value.pointer g), (1, Value.int .i64 number), (6, Value.slice none 0 0), (7, Value.bool false), (8, Value.int .i64 0)] (by kernel_rfl) (by kernel_rfl) ?_
          change WpE _ _ c_towpathref12_Gate_Done_33 _ _ _
          refine wpE_block (id := 0) (x := c_towpathref12_Gate_Done_34) (by kernel_rfl) ?_
          obtain ⟨I, μ, h0, hr⟩ := h
          refine wpE_loop (x := c_towpathref12_Gate_Done_35) (by kernel_rfl) (fun m l w => ∃ (l_ : Slc) (put : Bool) (i : Int), l = [(0, Value.pointer g), (1, Value.int .i64 number), (6, Value.slice l_.ptr l_.len l_.cap), (7, Value.bool put), (8, Value.int .i64 i)] ∧ I l_ put i w ∧ μ l_ put i w = m) (l' := [(0, Value.pointer g), (1, Value.int .i64 number), (6, Value.slice none 0 0), (7, Value.bool false), (8, Value.int .i64 0)]) (Sub.mk (by kernel_rfl)) ⟨(Slc.mk none 0 0), false, 0, rfl, h0, rfl⟩ ?_
          rintro _ _ w2 ⟨l_, put, i, rfl, hI, rfl⟩
          obtain ⟨again_, again__h, h⟩ : ∃ again_ : Slc → Bool → Int → World → Prop, (∀ l_' put' i' w', again_ l_' put' i' w' → I l_' put' i' w' ∧ μ l_' put' i' w' < μ l_ put i w2) ∧ F_towpathref12_Gate_Done_L1 g number R again_ l_ put i w2 := ⟨_, fun _ _ _ _ h => h, hr l_ put i w2 hI⟩
          clear h0 hI
          unfold F_towpathref12_Gate_Done_L1 at h
          refine wpE_seq (x := c_towpathref12_Gate_Done_36) (y := c_towpathref12_Gate_Done_42) (by kernel_rfl) ?_
          refine wpE_seq (x := c_towpathref12_Gate_Done_37) (y := c_towpathref12_Gate_Done_39) (by kernel_rfl) ?_
          refine wpE_region (id := 8) (ops := r_towpathref12_Gate_Done_37) (by kernel_rfl) ?_
          refine reg_run [.plain, .plain] 2 [(0, [], Value.pointer g), (1, [], Value.int .i64 number), (6, [], Value.slice l_.ptr l_.len l_.cap), (7, [], Value.bool put), (8, [], Value.int .i64 i), (23, [], Value.int .i64 i), (24, [], Value.pointer g)] (by kernel_rfl) (by kernel_rfl) ?_
          obtain ⟨hp_27, h⟩ := h
          refine reg_conv [(0, [], Value.pointer g), (1, [], Value.int .i64 number), (6, [], Value.slice l_.ptr l_.len l_.cap), (7, [], Value.bool put), (8, [], Value.int .i64 i), (23, [], Value.int .i64 i), (24, [], Value.pointer (some ⟨(pblk g), (poff g), none⟩))] (congrArg (fun pp => ([(0, [], Value.pointer g), (1, [], Value.int .i64 number), (6, [], Value.slice l_.ptr l_.len l_.cap), (7, [], Value.bool put), (8, [], Value.int .i64 i), (23, [], Value.int .i64 i), (24, [], Value.pointer pp)] : GEnv)) hp_27) ?_
          refine reg_run [.plain] 3 [(0, [], Value.pointer g), (1, [], Value.int .i64 number), (6, [], Value.slice l_.ptr l_.len l_.cap), (7, [], Value.bool put), (8, [], Value.int .i64 i), (23, [], Value.int .i64 i), (24, [], Value.pointer (some ⟨(pblk g), (poff g), none⟩)), (25, [], Value.pointer (some ⟨(pblk g), (poff g), none⟩))] (by kernel_rfl) (by kernel_rfl) ?_
          refine reg_run [.plain] 4 [(0, [], Value.pointer g), (1, [], Value.int .i64 number), (6, [], Value.slice l_.ptr l_.len l_.cap), (7, [], Value.bool put), (8, [], Value.int .i64 i), (23, [], Value.int .i64 i), (26, [], Value.pointer (some ⟨(pblk g), (poff g) + 1, none⟩))] (by kernel_rfl) (by kernel_rfl) ?_
          obtain ⟨v27, hc, h⟩ := h
          refine reg_load1 (t := 22) (a := (Go.Operand.tmp 26)) (b := (pblk g)) (o := ((poff g) + 1)) (ty := 22) (dst := some 27) (by kernel_rfl) (by kernel_rfl) (by kernel_rfl) hc ?_
          refine reg_run [.plain, .plain] 7 [(0, [], Value.pointer g), (1, [], Value.int .i64 number), (6, [], Value.slice l_.ptr l_.len l_.cap), (7, [], Value.bool put), (8, [], Value.int .i64 i), (29, [], Value.bool (decide (i < ((v27.len : Nat) : Int))))] (by kernel_rfl) (by kernel_rfl) ?_
          refine reg_end [(0, Value.pointer g), (1, Value.int .i64 number), (6, Value.slice l_.ptr l_.len l_.cap), (7, Value.bool put), (8, Value.int .i64 i), (29, Value.bool (decide (i < ((v27.len : Nat) : Int))))] (by kernel_rfl) (by kernel_rfl) ?_
          change WpE _ _ c_towpathref12_Gate_Done_39 _ _ _
          refine wpE_cond (o := (Operand.tmp 29)) (b := (decide (i < ((v27.len : Nat) : Int)))) (x := c_towpathref12_Gate_Done_40) (y := c_towpathref12_Gate_Done_41) (by kernel_rfl) (by kernel_rfl) (fun hb => ?_) (fun hb => ?_)
          · replace h := h.1 hb
            refine wpE_skip (by kernel_rfl) ?_
            change WpE _ _ c_towpathref12_Gate_Done_42 _ _ _
            refine wpE_seq (x := c_towpathref12_Gate_Done_43) (y := c_towpathref12_Gate_Done_57) (by kernel_rfl) ?_
            refine wpE_block (id := 1) (x := c_towpathref12_Gate_Done_44) (by kernel_rfl) ?_
            refine wpE_seq_cut (x := c_towpathref12_Gate_Done_45) (y := c_towpathref12_Gate_Done_55) (by kernel_rfl) (fun l w => ∃ (l_1 : Slc) (put1 : Bool), l = [(0, Value.pointer g), (1, Value.int .i64 number), (6, Value.slice l_1.ptr l_1.len l_1.cap), (7, Value.bool put1), (8, Value.int .i64 i)] ∧ F_towpathref12_Gate_Done_k2 g i again_ l_1 put1 w) ?_ ?_
            · refine wpE_seq_cut (x := c_towpathref12_Gate_Done_46) (y := c_towpathref12_Gate_Done_48) (by kernel_rfl) (fun l w => ∃ (t44 : Bool), l = [(0, Value.pointer g), (1, Value.int .i64 number), (6, Value.slice l_.ptr l_.len l_.cap), (7, Value.bool put), (8, Value.int .i64 i), (44, Value.bool t44)] ∧ F_towpathref12_Gate_Done_k3 g number l_ put i again_ t44 w) ?_ ?_
              · refine wpE_region (id := 10) (ops := r_towpathref12_Gate_Done_46) (by kernel_rfl) ?_
                refine reg_run [.plain, .plain, .plain, .plain] 4 [(0, [], Value.pointer g), (1, [], Value.int .i64 number), (6, [], Value.slice l_.ptr l_.len l_.cap), (7, [], Value.bool put), (8, [], Value.int .i64 i), (34, [], Value.bool (!put)), (35, [(34, true)], Value.pointer g)] (by kernel_rfl) (by kernel_rfl) ?_
                refine reg_split 34 (!put) (by kernel_rfl) (fun hb => ?_) (fun hb => ?_)
                · replace h := h.1 hb
                  refine reg_run [] 4 [(0, [], Value.pointer g), (1, [], Value.int .i64 number), (6, [], Value.slice l_.ptr l_.len l_.cap), (7, [], Value.bool put), (8, [], Value.int .i64 i), (34, [], Value.bool true), (35, [], Value.pointer g)] (by kernel_rfl) (by kernel_rfl) ?_
                  refine reg_run [] 4 [(0, [], Value.pointer g), (1, [], Value.int .i64 number), (6, [], Value.slice l_.ptr l_.len l_.cap), (7, [], Value.bool put), (8, [], Value.int .i64 i), (34, [], Value.bool true), (35, [], Value.pointer g)] (by kernel_rfl) (by kernel_rfl) ?_
                  obtain ⟨hp_46, h⟩ := h
                  refine reg_conv [(0, [], Value.pointer g), (1, [], Value.int .i64 number), (6, [], Value.slice l_.ptr l_.len l_.cap), (7, [], Value.bool put), (8, [], Value.int .i64 i), (34, [], Value.bool true), (35, [], Value.pointer (some ⟨(pblk g), (poff g), none⟩))] (congrArg (fun pp => ([(0, [], Value.pointer g), (1, [], Value.int .i64 number), (6, [], Value.slice l_.ptr l_.len l_.cap), (7, [], Value.bool put), (8, [], Value.int .i64 i), (34, [], Value.bool true), (35, [], Value.pointer pp)] : GEnv)) hp_46) ?_
                  refine reg_run [.sure] 5 [(0, [], Value.pointer g), (1, [], Value.int .i64 number), (6, [], Value.slice l_.ptr l_.len l_.cap), (7, [], Value.bool put), (8, [], Value.int .i64 i), (34, [], Value.bool true), (35, [], Value.pointer (some ⟨(pblk g), (poff g), none⟩)), (36, [], Value.pointer (some ⟨(pblk g), (poff g), none⟩))] (by kernel_rfl) (by kernel_rfl) ?_
                  refine reg_run [.sure] 6 [(0, [], Value.pointer g), (1, [], Value.int .i64 number), (6, [], Value.slice l_.ptr l_.len l_.cap), (7, [], Value.bool put), (8, [], Value.int .i64 i), (34, [], Value.bool true), (37, [], Value.pointer (some ⟨(pblk g), (poff g) + 1, none⟩))] (by kernel_rfl) (by kernel_rfl) ?_
                  obtain ⟨v38, hc, h⟩ := h
                  refine reg_load1 (t := 22) (a := (Go.Operand.tmp 37)) (b := (pblk g)) (o := ((poff g) + 1)) (ty := 22) (dst := some 38) (by kernel_rfl) (by kernel_rfl) (by kernel_rfl) hc ?_
                  refine reg_run [.sure] 8 [(0, [], Value.pointer g), (1, [], Value.int .i64 number), (6, [], Value.slice l_.ptr l_.len l_.cap), (7, [], Value.bool put), (8, [], Value.int .i64 i), (34, [], Value.bool true), (38, [], Value.slice v38.ptr v38.len v38.cap), (39, [], Value.int .i64 i)] (by kernel_rfl) (by kernel_rfl) ?_
                  obtain ⟨hp_47, h⟩ := h
                  refine reg_conv [(0, [], Value.pointer g), (1, [], Value.int .i64 number), (6, [], Value.slice l_.ptr l_.len l_.cap), (7, [], Value.bool put), (8, [], Value.int .i64 i), (34, [], Value.bool true), (38, [], Value.slice (some ⟨(pblk v38.ptr), (poff v38.ptr), none⟩) v38.len v38.cap), (39, [], Value.int .i64 i)] (congrArg (fun pp => ([(0, [], Value.pointer g), (1, [], Value.int .i64 number), (6, [], Value.slice l_.ptr l_.len l_.cap), (7, [], Value.bool put), (8, [], Value.int .i64 i), (34, [], Value.bool true), (38, [], Value.slice pp v38.len v38.cap), (39, [], Value.int .i64 i)] : GEnv)) hp_47) ?_
                  obtain ⟨h0, h1, h⟩ := h
                  refine reg_indexS1 (t := 22) (e := 3) (x := (Go.Operand.tmp 38)) (ix := (Go.Operand.tmp 39)) (b := (pblk v38.ptr)) (o := (poff v38.ptr)) (l := v38.len) (c := v38.cap) (k := .i64) (j := i) (ty := 0) (dst := some 40) (by kernel_rfl) (by kernel_rfl) (by kernel_rfl) (by kernel_rfl) (by kernel_rfl) h0 h1 ?_
                  refine reg_run [] 9 [(0, [], Value.pointer g), (1, [], Value.int .i64 number), (6, [], Value.slice l_.ptr l_.len l_.cap), (7, [], Value.bool put), (8, [], Value.int .i64 i), (34, [], Value.bool true), (40, [], Value.pointer (some ⟨(pblk v38.ptr), (poff v38.ptr) + i.toNat, none⟩))] (by kernel_rfl) (by kernel_rfl) ?_
                  obtain ⟨v41, hc, h⟩ := h
                  refine reg_load1 (t := 3) (a := (Go.Operand.tmp 40)) (b := (pblk v38.ptr)) (o := ((poff v38.ptr) + i.toNat)) (ty := 3) (dst := some 41) (by kernel_rfl) (by kernel_rfl) (by kernel_rfl) hc ?_
                  refine reg_run [.sure, .sure, .plain] 13 [(0, [], Value.pointer g), (1, [], Value.int .i64 number), (6, [], Value.slice l_.ptr l_.len l_.cap), (7, [], Value.bool put), (8, [], Value.int .i64 i), (44, [], Value.bool (decide (v41 > number)))] (by kernel_rfl) (by kernel_rfl) ?_
                  refine reg_end [(0, Value.pointer g), (1, Value.int .i64 number), (6, Value.slice l_.ptr l_.len l_.cap), (7, Value.bool put), (8, Value.int .i64 i), (44, Value.bool (decide (v41 > number)))] (by kernel_rfl) (by kernel_rfl) ?_
                  exact ⟨[(0, Value.pointer g), (1, Value.int .i64 number), (6, Value.slice l_.ptr l_.len l_.cap), (7, Value.bool put), (8, Value.int .i64 i), (44, Value.bool (decide (v41 > number)))], Sub.mk (by kernel_rfl), (decide (v41 > number)), rfl, h⟩
                · replace h := h.2 hb
                  refine reg_run [] 4 [(0, [], Value.pointer g), (1, [], Value.int .i64 number), (6, [], Value.slice l_.ptr l_.len l_.cap), (7, [], Value.bool put), (8, [], Value.int .i64 i), (34, [], Value.bool false), (35, [], undef)] (by kernel_rfl) (by kernel_rfl) ?_
                  refine reg_run [.skip, .skip, .skip, .skip, .skip, .skip, .skip, .skip, .plain] 13 [(0, [], Value.pointer g), (1, [], Value.int .i64 number), (6, [], Value.slice l_.ptr l_.len l_.cap), (7, [], Value.bool put), (8, [], Value.int .i64 i), (44, [], Value.bool false)] (by kernel_rfl) (by kernel_rfl) ?_
                  refine reg_end [(0, Value.pointer g), (1, Value.int .i64 number), (6, Value.slice l_.ptr l_.len l_.cap), (7, Value.bool put), (8, Value.int .i64 i), (44, Value.bool false)] (by kernel_rfl) (by kernel_rfl) ?_
                  exact ⟨[(0, Value.pointer g), (1, Value.int .i64 number), (6, Value.slice l_.ptr l_.len l_.cap), (7, Value.bool put), (8, Value.int .i64 i), (44, Value.bool false)], Sub.mk (by kernel_rfl), false, rfl, h⟩
              · rintro _ w6 ⟨t44, rfl, h⟩
                unfold F_towpathref12_Gate_Done_k3 at h
                refine wpE_cond (o := (Operand.tmp 44)) (b := t44) (x := c_towpathref12_Gate_Done_49) (y := c_towpathref12_Gate_Done_54) (by kernel_rfl) (by kernel_rfl) (fun hb => ?_) (fun hb => ?_)
                · replace h := h.1 hb
                  refine wpE_seq (x := c_towpathref12_Gate_Done_50) (y := c_towpathref12_Gate_Done_52) (by kernel_rfl) ?_
                  refine wpE_region (id := 11) (ops := r_towpathref12_Gate_Done_50) (by kernel_rfl) ?_
                  refine reg_run [.plain, .plain] 2 [(0, [], Value.pointer g), (1, [], Value.int .i64 number), (6, [], Value.slice l_.ptr l_.len l_.cap), (8, [], Value.int .i64 i), (45, [], Value.slice l_.ptr l_.len l_.cap), (46, [], Value.int .i64 number)] (by kernel_rfl) (by kernel_rfl) ?_
                  refine reg_new (op := (Go.Op.buildSlice 22 1 #[(0, (Go.Operand.tmp 46))])) (ty := 22) (dst := some 47) (fun bb => Value.slice (some ⟨bb, 0, none⟩) 1 1) (Obj.cells ([Value.int .i64 number]).toArray ty_int (0, 0)) (by kernel_rfl) (by kernel_rfl) (fun b_1 w7 hb hw => ?_)
                  replace h := h b_1 w7 hb hw
                  clear hb hw
                  refine reg_run [] 3 [(0, [], Value.pointer g), (1, [], Value.int .i64 number), (6, [], Value.slice l_.ptr l_.len l_.cap), (8, [], Value.int .i64 i), (45, [], Value.slice l_.ptr l_.len l_.cap), (47, [], Value.slice (some ⟨b_1, 0, none⟩) 1 1)] (by kernel_rfl) (by kernel_rfl) ?_
                  obtain ⟨src, hs, h⟩ := h
                  refine reg_append (t := 22) (tx := 22) (e := 3) (a := (Go.Operand.tmp 45)) (xo := (Go.Operand.tmp 47)) (s := l_) (x := (Slc.mk (some ⟨b_1, 0, none⟩) 1 1)) (sz := 1) (by_ := 8) (zs := [Value.int .i64 0]) (ty := 22) (dst := some 48)  src (by kernel_rfl) (by kernel_rfl) (by kernel_rfl) (by kernel_rfl) (by kernel_rfl) (by kernel_rfl) (by kernel_rfl) (by kernel_rfl) (by kernel_rfl) hs (AppendW.mono h (fun l_3 w8 h => ?_))
                  refine reg_run [.plain] 5 [(0, [], Value.pointer g), (1, [], Value.int .i64 number), (6, [], Value.slice l_3.ptr l_3.len l_3.cap), (8, [], Value.int .i64 i)] (by kernel_rfl) (by kernel_rfl) ?_
                  refine reg_end [(0, Value.pointer g), (1, Value.int .i64 number), (6, Value.slice l_3.ptr l_3.len l_3.cap), (8, Value.int .i64 i)] (by kernel_rfl) (by kernel_rfl) ?_
                  change WpE _ _ c_towpathref12_Gate_Done_52 _ _ _
                  refine wpE_region (id := 12) (ops := r_towpathref12_Gate_Done_52) (by kernel_rfl) ?_
                  refine reg_run [.plain] 1 [(0, [], Value.pointer g), (1, [], Value.int .i64 number), (6, [], Value.slice l_3.ptr l_3.len l_3.cap), (7, [], Value.bool true), (8, [], Value.int .i64 i)] (by kernel_rfl) (by kernel_rfl) ?_
                  refine reg_end [(0, Value.pointer g), (1, Value.int .i64 number), (6, Value.slice l_3.ptr l_3.len l_3.cap), (7, Value.bool true), (8, Value.int .i64 i)] (by kernel_rfl) (by kernel_rfl) ?_
                  exact ⟨[(0, Value.pointer g), (1, Value.int .i64 number), (6, Value.slice l_3.ptr l_3.len l_3.cap), (7, Value.bool true), (8, Value.int .i64 i)], Sub.mk (by kernel_rfl), l_3, true, rfl, h⟩
                · replace h := h.2 hb
                  refine wpE_skip (by kernel_rfl) ?_
                  exact ⟨[(0, Value.pointer g), (1, Value.int .i64 number), (6, Value.slice l_.ptr l_.len l_.cap), (7, Value.bool put), (8, Value.int .i64 i)], Sub.mk (by kernel_rfl), l_, put, rfl, h⟩
            · rintro _ w3 ⟨l_1, put1, rfl, h⟩
              unfold F_towpathref12_Gate_Done_k2 at h
              refine wpE_region (id := 13) (ops := r_towpathref12_Gate_Done_55) (by kernel_rfl) ?_
              refine reg_run [.plain, .plain] 2 [(0, [], Value.pointer g), (1, [], Value.int .i64 number), (6, [], Value.slice l_1.ptr l_1.len l_1.cap), (7, [], Value.bool put1), (8, [], Value.int .i64 i), (49, [], Value.slice l_1.ptr l_1.len l_1.cap), (50, [], Value.pointer g)] (by kernel_rfl) (by kernel_rfl) ?_
              obtain ⟨hp_42, h⟩ := h
              refine reg_conv [(0, [], Value.pointer g), (1, [], Value.int .i64 number), (6, [], Value.slice l_1.ptr l_1.len l_1.cap), (7, [], Value.bool put1), (8, [], Value.int .i64 i), (49, [], Value.slice l_1.ptr l_1.len l_1.cap), (50, [], Value.pointer (some ⟨(pblk g), (poff g), none⟩))] (congrArg (fun pp => ([(0, [], Value.pointer g), (1, [], Value.int .i64 number), (6, [], Value.slice l_1.ptr l_1.len l_1.cap), (7, [], Value.bool put1), (8, [], Value.int .i64 i), (49, [], Value.slice l_1.ptr l_1.len l_1.cap), (50, [], Value.pointer pp)] : GEnv)) hp_42) ?_
              refine reg_run [.plain] 3 [(0, [], Value.pointer g), (1, [], Value.int .i64 number), (6, [], Value.slice l_1.ptr l_1.len l_1.cap), (7, [], Value.bool put1), (8, [], Value.int .i64 i), (49, [], Value.slice l_1.ptr l_1.len l_1.cap), (50, [], Value.pointer (some ⟨(pblk g), (poff g), none⟩)), (51, [], Value.pointer (some ⟨(pblk g), (poff g), none⟩))] (by kernel_rfl) (by kernel_rfl) ?_
              refine reg_run [.plain] 4 [(0, [], Value.pointer g), (1, [], Value.int .i64 number), (6, [], Value.slice l_1.ptr l_1.len l_1.cap), (7, [], Value.bool put1), (8, [], Value.int .i64 i), (49, [], Value.slice l_1.ptr l_1.len l_1.cap), (52, [], Value.pointer (some ⟨(pblk g), (poff g) + 1, none⟩))] (by kernel_rfl) (by kernel_rfl) ?_
              obtain ⟨v53, hc, h⟩ := h
              refine reg_load1 (t := 22) (a := (Go.Operand.tmp 52)) (b := (pblk g)) (o := ((poff g) + 1)) (ty := 22) (dst := some 53) (by kernel_rfl) (by kernel_rfl) (by kernel_rfl) hc ?_
              refine reg_run [.plain] 6 [(0, [], Value.pointer g), (1, [], Value.int .i64 number), (6, [], Value.slice l_1.ptr l_1.len l_1.cap), (7, [], Value.bool put1), (8, [], Value.int .i64 i), (49, [], Value.slice l_1.ptr l_1.len l_1.cap), (53, [], Value.slice v53.ptr v53.len v53.cap), (54, [], Value.int .i64 i)] (by kernel_rfl) (by kernel_rfl) ?_
              obtain ⟨hp_43, h⟩ := h
              refine reg_conv [(0, [], Value.pointer g), (1, [], Value.int .i64 number), (6, [], Value.slice l_1.ptr l_1.len l_1.cap), (7, [], Value.bool put1), (8, [], Value.int .i64 i), (49, [], Value.slice l_1.ptr l_1.len l_1.cap), (53, [], Value.slice (some ⟨(pblk v53.ptr), (poff v53.ptr), none⟩) v53.len v53.cap), (54, [], Value.int .i64 i)] (congrArg (fun pp => ([(0, [], Value.pointer g), (1, [], Value.int .i64 number), (6, [], Value.slice l_1.ptr l_1.len l_1.cap), (7, [], Value.bool put1), (8, [], Value.int .i64 i), (49, [], Value.slice l_1.ptr l_1.len l_1.cap), (53, [], Value.slice pp v53.len v53.cap), (54, [], Value.int .i64 i)] : GEnv)) hp_43) ?_
              obtain ⟨h0, h1, h⟩ := h
              refine reg_indexS1 (t := 22) (e := 3) (x := (Go.Operand.tmp 53)) (ix := (Go.Operand.tmp 54)) (b := (pblk v53.ptr)) (o := (poff v53.ptr)) (l := v53.len) (c := v53.cap) (k := .i64) (j := i) (ty := 0) (dst := some 55) (by kernel_rfl) (by kernel_rfl) (by kernel_rfl) (by kernel_rfl) (by kernel_rfl) h0 h1 ?_
              refine reg_run [] 7 [(0, [], Value.pointer g), (1, [], Value.int .i64 number), (6, [], Value.slice l_1.ptr l_1.len l_1.cap), (7, [], Value.bool put1), (8, [], Value.int .i64 i), (49, [], Value.slice l_1.ptr l_1.len l_1.cap), (55, [], Value.pointer (some ⟨(pblk v53.ptr), (poff v53.ptr) + i.toNat, none⟩))] (by kernel_rfl) (by kernel_rfl) ?_
              obtain ⟨v56, hc, h⟩ := h
              refine reg_load1 (t := 3) (a := (Go.Operand.tmp 55)) (b := (pblk v53.ptr)) (o := ((poff v53.ptr) + i.toNat)) (ty := 3) (dst := some 56) (by kernel_rfl) (by kernel_rfl) (by kernel_rfl) hc ?_
              refine reg_run [] 8 [(0, [], Value.pointer g), (1, [], Value.int .i64 number), (6, [], Value.slice l_1.ptr l_1.len l_1.cap), (7, [], Value.bool put1), (8, [], Value.int .i64 i), (49, [], Value.slice l_1.ptr l_1.len l_1.cap), (56, [], Value.int .i64 v56)] (by kernel_rfl) (by kernel_rfl) ?_
              refine reg_new (op := (Go.Op.buildSlice 22 1 #[(0, (Go.Operand.tmp 56))])) (ty := 22) (dst := some 57) (fun bb => Value.slice (some ⟨bb, 0, none⟩) 1 1) (Obj.cells ([Value.int .i64 v56]).toArray ty_int (0, 0)) (by kernel_rfl) (by kernel_rfl) (fun b_ w4 hb hw => ?_)
              replace h := h b_ w4 hb hw
              clear hb hw
              refine reg_run [] 9 [(0, [], Value.pointer g), (1, [], Value.int .i64 number), (6, [], Value.slice l_1.ptr l_1.len l_1.cap), (7, [], Value.bool put1), (8, [], Value.int .i64 i), (49, [], Value.slice l_1.ptr l_1.len l_1.cap), (57, [], Value.slice (some ⟨b_, 0, none⟩) 1 1)] (by kernel_rfl) (by kernel_rfl) ?_
              obtain ⟨src, hs, h⟩ := h
              refine reg_append (t := 22) (tx := 22) (e := 3) (a := (Go.Operand.tmp 49)) (xo := (Go.Operand.tmp 57)) (s := l_1) (x := (Slc.mk (some ⟨b_, 0, none⟩) 1 1)) (sz := 1) (by_ := 8) (zs := [Value.int .i64 0]) (ty := 22) (dst := some 58)  src (by kernel_rfl) (by kernel_rfl) (by kernel_rfl) (by kernel_rfl) (by kernel_rfl) (by kernel_rfl) (by kernel_rfl) (by kernel_rfl) (by kernel_rfl) hs (AppendW.mono h (fun l_2 w5 h => ?_))
              refine reg_run [.plain] 11 [(0, [], Value.pointer g), (1, [], Value.int .i64 number), (6, [], Value.slice l_2.ptr l_2.len l_2.cap), (7, [], Value.bool put1), (8, [], Value.int .i64 i)] (by kernel_rfl) (by kernel_rfl) ?_
              refine reg_end [(0, Value.pointer g), (1, Value.int .i64 number), (6, Value.slice l_2.ptr l_2.len l_2.cap), (7, Value.bool put1), (8, Value.int .i64 i)] (by kernel_rfl) (by kernel_rfl) ?_
              change WpE _ _ c_towpathref12_Gate_Done_57 _ _ _
              refine wpE_region (id := 9) (ops := r_towpathref12_Gate_Done_57) (by kernel_rfl) ?_
              refine reg_run [.plain, .plain, .plain] 3 [(0, [], Value.pointer g), (1, [], Value.int .i64 number), (6, [], Value.slice l_2.ptr l_2.len l_2.cap), (7, [], Value.bool put1), (8, [], Value.int .i64 (IntKind.i64.wrap (i + 1)))] (by kernel_rfl) (by kernel_rfl) ?_
              refine reg_end [(0, Value.pointer g), (1, Value.int .i64 number), (6, Value.slice l_2.ptr l_2.len l_2.cap), (7, Value.bool put1), (8, Value.int .i64 (IntKind.i64.wrap (i + 1)))] (by kernel_rfl) (by kernel_rfl) ?_
              have hb_ := again__h _ _ _ _ h
              exact ⟨_, hb_.2, [(0, Value.pointer g), (1, Value.int .i64 number), (6, Value.slice l_2.ptr l_2.len l_2.cap), (7, Value.bool put1), (8, Value.int .i64 (IntKind.i64.wrap (i + 1)))], Sub.mk (by kernel_rfl), l_2, put1, (IntKind.i64.wrap (i + 1)), rfl, hb_.1, rfl⟩
          · replace h := h.2 hb
            refine wpE_exit (id := 0) (by kernel_rfl) ?_
            change WpE _ _ c_towpathref12_Gate_Done_59 _ _ _
            refine wpE_seq_cut (x := c_towpathref12_Gate_Done_60) (y := c_towpathref12_Gate_Done_67) (by kernel_rfl) (fun l w => ∃ (l_4 : Slc), l = [(0, Value.pointer g), (6, Value.slice l_4.ptr l_4.len l_4.cap)] ∧ F_towpathref12_Gate_Done_k4 g R l_4 w) ?_ ?_
            · refine wpE_seq (x := c_towpathref12_Gate_Done_61) (y := c_towpathref12_Gate_Done_63) (by kernel_rfl) ?_
              refine wpE_region (id := 14) (ops := r_towpathref12_Gate_Done_61) (by kernel_rfl) ?_
              refine reg_run [.plain, .plain] 2 [(0, [], Value.pointer g), (1, [], Value.int .i64 number), (6, [], Value.slice l_.ptr l_.len l_.cap), (60, [], Value.bool (!put))] (by kernel_rfl) (by kernel_rfl) ?_
              refine reg_end [(0, Value.pointer g), (1, Value.int .i64 number), (6, Value.slice l_.ptr l_.len l_.cap), (60, Value.bool (!put))] (by kernel_rfl) (by kernel_rfl) ?_
              change WpE _ _ c_towpathref12_Gate_Done_63 _ _ _
              refine wpE_cond (o := (Operand.tmp 60)) (b := (!put)) (x := c_towpathref12_Gate_Done_64) (y := c_towpathref12_Gate_Done_66) (by kernel_rfl) (by kernel_rfl) (fun hb => ?_) (fun hb => ?_)
              · replace h := h.1 hb
                refine wpE_region (id := 15) (ops := r_towpathref12_Gate_Done_64) (by kernel_rfl) ?_
                refine reg_run [.plain, .plain] 2 [(0, [], Value.pointer g), (6, [], Value.slice l_.ptr l_.len l_.cap), (61, [], Value.slice l_.ptr l_.len l_.cap), (62, [], Value.int .i64 number)] (by kernel_rfl) (by kernel_rfl) ?_
                refine reg_new (op := (Go.Op.buildSlice 22 1 #[(0, (Go.Operand.tmp 62))])) (ty := 22) (dst := some 63) (fun bb => Value.slice (some ⟨bb, 0, none⟩) 1 1) (Obj.cells ([Value.int .i64 number]).toArray ty_int (0, 0)) (by kernel_rfl) (by kernel_rfl) (fun b_2 w16 hb hw => ?_)
                replace h := h b_2 w16 hb hw
                clear hb hw
                refine reg_run [] 3 [(0, [], Value.pointer g), (6, [], Value.slice l_.ptr l_.len l_.cap), (61, [], Value.slice l_.ptr l_.len l_.cap), (63, [], Value.slice (some ⟨b_2, 0, none⟩) 1 1)] (by kernel_rfl) (by kernel_rfl) ?_
                obtain ⟨src, hs, h⟩ := h
                refine reg_append (t := 22) (tx := 22) (e := 3) (a := (Go.Operand.tmp 61)) (xo := (Go.Operand.tmp 63)) (s := l_) (x := (Slc.mk (some ⟨b_2, 0, none⟩) 1 1)) (sz := 1) (by_ := 8) (zs := [Value.int .i64 0]) (ty := 22) (dst := some 64)  src (by kernel_rfl) (by kernel_rfl) (by kernel_rfl) (by kernel_rfl) (by kernel_rfl) (by kernel_rfl) (by kernel_rfl) (by kernel_rfl) (by kernel_rfl) hs (AppendW.mono h (fun l_6 w17 h => ?_))
                refine reg_run [.plain] 5 [(0, [], Value.pointer g), (6, [], Value.slice l_6.ptr l_6.len l_6.cap)] (by kernel_rfl) (by kernel_rfl) ?_
                refine reg_end [(0, Value.pointer g), (6, Value.slice l_6.ptr l_6.len l_6.cap)] (by kernel_rfl) (by kernel_rfl) ?_
                exact ⟨[(0, Value.pointer g), (6, Value.slice l_6.ptr l_6.len l_6.cap)], Sub.mk (by kernel_rfl), l_6, rfl, h⟩
              · replace h := h.2 hb
                refine wpE_skip (by kernel_rfl) ?_
                exact ⟨[(0, Value.pointer g), (6, Value.slice l_.ptr l_.len l_.cap)], Sub.mk (by kernel_rfl), l_, rfl, h⟩
            · rintro _ w9 ⟨l_4, rfl, h⟩
              unfold F_towpathref12_Gate_Done_k4 at h
              refine wpE_seq (x := c_towpathref12_Gate_Done_68) (y := c_towpathref12_Gate_Done_70) (by kernel_rfl) ?_
              refine wpE_region (id := 16) (ops := r_towpathref12_Gate_Done_68) (by kernel_rfl) ?_
              refine reg_run [.plain] 1 [(0, [], Value.pointer g), (6, [], Value.slice l_4.ptr l_4.len l_4.cap), (9, [], Value.int .i64 0)] (by kernel_rfl) (by kernel_rfl) ?_
              refine reg_end [(0, Value.pointer g), (6, Value.slice l_4.ptr l_4.len l_4.cap), (9, Value.int .i64 0)] (by kernel_rfl) (by kernel_rfl) ?_
              change WpE _ _ c_towpathref12_Gate_Done_70 _ _ _
              refine wpE_seq (x := c_towpathref12_Gate_Done_71) (y := c_towpathref12_Gate_Done_89) (by kernel_rfl) ?_
              refine wpE_block (id := 2) (x := c_towpathref12_Gate_Done_72) (by kernel_rfl) ?_
              obtain ⟨I, μ, h0, hr⟩ := h
              refine wpE_loop (x := c_towpathref12_Gate_Done_73) (by kernel_rfl) (fun m l w => ∃ (l_5 : Slc) (n_ : Int), l = [(0, Value.pointer g), (6, Value.slice l_5.ptr l_5.len l_5.cap), (9, Value.int .i64 n_)] ∧ I l_5 n_ w ∧ μ l_5 n_ w = m) (l' := [(0, Value.pointer g), (6, Value.slice l_4.ptr l_4.len l_4.cap), (9, Value.int .i64 0)]) (Sub.mk (by kernel_rfl)) ⟨l_4, 0, rfl, h0, rfl⟩ ?_
              rintro _ _ w10 ⟨l_5, n_, rfl, hI, rfl⟩
              obtain ⟨again_1, again_1_h, h⟩ : ∃ again_1 : Slc → Int → World → Prop, (∀ l_5' n_' w', again_1 l_5' n_' w' → I l_5' n_' w' ∧ μ l_5' n_' w' < μ l_5 n_ w10) ∧ F_towpathref12_Gate_Done_L5 g R again_1 l_5 n_ w10 := ⟨_, fun _ _ _ h => h, hr l_5 n_ w10 hI⟩
              clear h0 hI
              unfold F_towpathref12_Gate_Done_L5 at h
              refine wpE_seq (x := c_towpathref12_Gate_Done_74) (y := c_towpathref12_Gate_Done_80) (by kernel_rfl) ?_
              refine wpE_seq_cut (x := c_towpathref12_Gate_Done_75) (y := c_towpathref12_Gate_Done_77) (by kernel_rfl) (fun l w => ∃ (t78 : Bool), l = [(0, Value.pointer g), (6, Value.slice l_5.ptr l_5.len l_5.cap), (9, Value.int .i64 n_), (78, Value.bool t78)] ∧ F_towpathref12_Gate_Done_k6 g R l_5 n_ again_1 t78 w) ?_ ?_
              · refine wpE_drawregion (id := 17) (ops := r_towpathref12_Gate_Done_75) (by kernel_rfl) (by kernel_rfl) (by kernel_rfl) ?_
                refine qreg_run [.plain, .plain, .plain, .plain, .plain] 5 [(0, [], Value.pointer g), (6, [], Value.slice l_5.ptr l_5.len l_5.cap), (9, [], Value.int .i64 n_), (68, [], Value.bool (decide (((l_5.len : Nat) : Int) > 0))), (69, [(68, true)], Value.slice l_5.ptr l_5.len l_5.cap)] (by kernel_rfl) (by kernel_rfl) ?_
                refine qreg_split 68 (decide (((l_5.len : Nat) : Int) > 0)) (by kernel_rfl) (fun hb => ?_) (fun hb => ?_)
                · replace h := h.1 hb
                  refine qreg_run [] 5 [(0, [], Value.pointer g), (6, [], Value.slice l_5.ptr l_5.len l_5.cap), (9, [], Value.int .i64 n_), (68, [], Value.bool true), (69, [], Value.slice l_5.ptr l_5.len l_5.cap)] (by kernel_rfl) (by kernel_rfl) ?_
                  refine qreg_run [] 5 [(0, [], Value.pointer g), (6, [], Value.slice l_5.ptr l_5.len l_5.cap), (9, [], Value.int .i64 n_), (68, [], Value.bool true), (69, [], Value.slice l_5.ptr l_5.len l_5.cap)] (by kernel_rfl) (by kernel_rfl) ?_
                  obtain ⟨hp_72, h⟩ := h
                  refine qreg_conv [(0, [], Value.pointer g), (6, [], Value.slice l_5.ptr l_5.len l_5.cap), (9, [], Value.int .i64 n_), (68, [], Value.bool true), (69, [], Value.slice (some ⟨(pblk l_5.ptr), (poff l_5.ptr), none⟩) l_5.len l_5.cap)] (congrArg (fun pp => ([(0, [], Value.pointer g), (6, [], Value.slice l_5.ptr l_5.len l_5.cap), (9, [], Value.int .i64 n_), (68, [], Value.bool true), (69, [], Value.slice pp l_5.len l_5.cap)] : GEnv)) hp_72) ?_
                  obtain ⟨h0, h1, h⟩ := h
                  refine qreg_indexS1 (t := 22) (e := 3) (x := (Go.Operand.tmp 69)) (ix := (Go.Operand.const (Go.Value.int Go.IntKind.i64 0))) (b := (pblk l_5.ptr)) (o := (poff l_5.ptr)) (l := l_5.len) (c := l_5.cap) (k := .i64) (j := 0) (ty := 0) (dst := some 70) (by kernel_rfl) (by kernel_rfl) (by kernel_rfl) (by kernel_rfl) (by kernel_rfl) h0 h1 ?_
                  refine qreg_run [] 6 [(0, [], Value.pointer g), (6, [], Value.slice l_5.ptr l_5.len l_5.cap), (9, [], Value.int .i64 n_), (68, [], Value.bool true), (70, [], Value.pointer (some ⟨(pblk l_5.ptr), (poff l_5.ptr), none⟩))] (by kernel_rfl) (by kernel_rfl) ?_
                  obtain ⟨v71, hc, h⟩ := h
                  refine qreg_load1 (t := 3) (a := (Go.Operand.tmp 70)) (b := (pblk l_5.ptr)) (o := (poff l_5.ptr)) (ty := 3) (dst := some 71) (by kernel_rfl) (by kernel_rfl) (by kernel_rfl) hc ?_
                  refine qreg_run [.sure] 8 [(0, [], Value.pointer g), (6, [], Value.slice l_5.ptr l_5.len l_5.cap), (9, [], Value.int .i64 n_), (68, [], Value.bool true), (71, [], Value.int .i64 v71), (72, [], Value.pointer g)] (by kernel_rfl) (by kernel_rfl) ?_
                  obtain ⟨hp_73, h⟩ := h
                  refine qreg_conv [(0, [], Value.pointer g), (6, [], Value.slice l_5.ptr l_5.len l_5.cap), (9, [], Value.int .i64 n_), (68, [], Value.bool true), (71, [], Value.int .i64 v71), (72, [], Value.pointer (some ⟨(pblk g), (poff g), none⟩))] (congrArg (fun pp => ([(0, [], Value.pointer g), (6, [], Value.slice l_5.ptr l_5.len l_5.cap), (9, [], Value.int .i64 n_), (68, [], Value.bool true), (71, [], Value.int .i64 v71), (72, [], Value.pointer pp)] : GEnv)) hp_73) ?_
                  refine qreg_run [.sure] 9 [(0, [], Value.pointer g), (6, [], Value.slice l_5.ptr l_5.len l_5.cap), (9, [], Value.int .i64 n_), (68, [], Value.bool true), (71, [], Value.int .i64 v71), (72, [], Value.pointer (some ⟨(pblk g), (poff g), none⟩)), (73, [], Value.pointer (some ⟨(pblk g), (poff g), none⟩))] (by kernel_rfl) (by kernel_rfl) ?_
                  refine qreg_run [.sure] 10 [(0, [], Value.pointer g), (6, [], Value.slice l_5.ptr l_5.len l_5.cap), (9, [], Value.int .i64 n_), (68, [], Value.bool true), (71, [], Value.int .i64 v71), (74, [], Value.pointer (some ⟨(pblk g), (poff g), none⟩))] (by kernel_rfl) (by kernel_rfl) ?_
                  obtain ⟨v75, hc, h⟩ := h
                  refine qreg_load1 (t := 3) (a := (Go.Operand.tmp 74)) (b := (pblk g)) (o := (poff g)) (ty := 3) (dst := some 75) (by kernel_rfl) (by kernel_rfl) (by kernel_rfl) hc ?_
                  refine qreg_run [.sure, .sure, .plain] 14 [(0, [], Value.pointer g), (6, [], Value.slice l_5.ptr l_5.len l_5.cap), (9, [], Value.int .i64 n_), (78, [], Value.bool (v71 == (IntKind.i64.wrap (v75 + 1))))] (by kernel_rfl) (by kernel_rfl) ?_
                  refine qreg_end [(0, Value.pointer g), (6, Value.slice l_5.ptr l_5.len l_5.cap), (9, Value.int .i64 n_), (78, Value.bool (v71 == (IntKind.i64.wrap (v75 + 1))))] (by kernel_rfl) (by kernel_rfl) (fun w14 hw => ?_)
                  replace h := h w14 hw
                  clear hw
                  exact ⟨[(0, Value.pointer g), (6, Value.slice l_5.ptr l_5.len l_5.cap), (9, Value.int .i64 n_), (78, Value.bool (v71 == (IntKind.i64.wrap (v75 + 1))))], Sub.mk (by kernel_rfl), (v71 == (IntKind.i64.wrap (v75 + 1))), rfl, h⟩
                · replace h := h.2 hb
                  refine qreg_run [] 5 [(0, [], Value.pointer g), (6, [], Value.slice l_5.ptr l_5.len l_5.cap), (9, [], Value.int .i64 n_), (68, [], Value.bool false), (69, [], undef)] (by kernel_rfl) (by kernel_rfl) ?_
                  refine qreg_run [.skip, .skip, .skip, .skip, .skip, .skip, .skip, .skip, .plain] 14 [(0, [], Value.pointer g), (6, [], Value.slice l_5.ptr l_5.len l_5.cap), (9, [], Value.int .i64 n_), (78, [], Value.bool false)] (by kernel_rfl) (by kernel_rfl) ?_
                  refine qreg_end [(0, Value.pointer g), (6, Value.slice l_5.ptr l_5.len l_5.cap), (9, Value.int .i64 n_), (78, Value.bool false)] (by kernel_rfl) (by kernel_rfl) (fun w15 hw => ?_)
                  replace h := h w15 hw
                  clear hw
                  exact ⟨[(0, Value.pointer g), (6, Value.slice l_5.ptr l_5.len l_5.cap), (9, Value.int .i64 n_), (78, Value.bool false)], Sub.mk (by kernel_rfl), false, rfl, h⟩
              · rintro _ w11 ⟨t78, rfl, h⟩
                unfold F_towpathref12_Gate_Done_k6 at h
                refine wpE_cond (o := (Operand.tmp 78)) (b := t78) (x := c_towpathref12_Gate_Done_78) (y := c_towpathref12_Gate_Done_79) (by kernel_rfl) (by kernel_rfl) (fun hb => ?_) (fun hb => ?_)
                · replace h := h.1 hb
                  refine wpE_skip (by kernel_rfl) ?_
                  change WpE _ _ c_towpathref12_Gate_Done_80 _ _ _
                  refine wpE_block (id := 3) (x := c_towpathref12_Gate_Done_81) (by kernel_rfl) ?_
                  refine wpE_seq (x := c_towpathref12_Gate_Done_82) (y := c_towpathref12_Gate_Done_84) (by kernel_rfl) ?_
                  refine wpE_region (id := 18) (ops := r_towpathref12_Gate_Done_82) (by kernel_rfl) ?_
                  refine reg_run [.plain] 1 [(0, [], Value.pointer g), (6, [], Value.slice l_5.ptr l_5.len l_5.cap), (9, [], Value.int .i64 n_), (79, [], Value.slice l_5.ptr l_5.len l_5.cap)] (by kernel_rfl) (by kernel_rfl) ?_
                  obtain ⟨hc, h⟩ := h
                  refine reg_slice (t := 22) (e := 3) (x := (Go.Operand.tmp 79)) (lo := (Go.Operand.const (Go.Value.int Go.IntKind.i64 1))) (s := l_5) (sz := 1) (k := .i64) (a := 1) (ty := 22) (dst := some 80) (by kernel_rfl) (by kernel_rfl) (by kernel_rfl) (by kernel_rfl) (by kernel_rfl) hc (fun s hs => ?_)
                  replace h := h s hs
                  clear hs
                  refine reg_run [.plain] 3 [(0, [], Value.pointer g), (6, [], Value.slice s.ptr s.len s.cap), (9, [], Value.int .i64 n_)] (by kernel_rfl) (by kernel_rfl) ?_
                  refine reg_end [(0, Value.pointer g), (6, Value.slice s.ptr s.len s.cap), (9, Value.int .i64 n_)] (by kernel_rfl) (by kernel_rfl) ?_
                  change WpE _ _ c_towpathref12_Gate_Done_84 _ _ _
                  refine wpE_seq (x := c_towpathref12_Gate_Done_85) (y := c_towpathref12_Gate_Done_87) (by kernel_rfl) ?_
                  refine wpE_region (id := 19) (ops := r_towpathref12_Gate_Done_85) (by kernel_rfl) ?_
                  refine reg_run [.plain, .plain] 2 [(0, [], Value.pointer g), (6, [], Value.slice s.ptr s.len s.cap), (9, [], Value.int .i64 n_), (81, [], Value.pointer g), (82, [], Value.pointer g)] (by kernel_rfl) (by kernel_rfl) ?_
                  obtain ⟨hp_68, h⟩ := h
                  refine reg_conv [(0, [], Value.pointer g), (6, [], Value.slice s.ptr s.len s.cap), (9, [], Value.int .i64 n_), (81, [], Value.pointer g), (82, [], Value.pointer (some ⟨(pblk g), (poff g), none⟩))] (congrArg (fun pp => ([(0, [], Value.pointer g), (6, [], Value.slice s.ptr s.len s.cap), (9, [], Value.int .i64 n_), (81, [], Value.pointer g), (82, [], Value.pointer pp)] : GEnv)) hp_68) ?_
                  refine reg_run [.plain] 3 [(0, [], Value.pointer g), (6, [], Value.slice s.ptr s.len s.cap), (9, [], Value.int .i64 n_), (81, [], Value.pointer g), (82, [], Value.pointer (some ⟨(pblk g), (poff g), none⟩)), (83, [], Value.pointer (some ⟨(pblk g), (poff g), none⟩))] (by kernel_rfl) (by kernel_rfl) ?_
                  refine reg_run [.plain] 4 [(0, [], Value.pointer g), (6, [], Value.slice s.ptr s.len s.cap), (9, [], Value.int .i64 n_), (81, [], Value.pointer g), (84, [], Value.pointer (some ⟨(pblk g), (poff g), none⟩))] (by kernel_rfl) (by kernel_rfl) ?_
                  obtain ⟨v85, hc, h⟩ := h
                  refine reg_load1 (t := 3) (a := (Go.Operand.tmp 84)) (b := (pblk g)) (o := (poff g)) (ty := 3) (dst := some 85) (by kernel_rfl) (by kernel_rfl) (by kernel_rfl) hc ?_
                  refine reg_run [.plain] 6 [(0, [], Value.pointer g), (6, [], Value.slice s.ptr s.len s.cap), (9, [], Value.int .i64 n_), (81, [], Value.pointer g), (86, [], Value.int .i64 (IntKind.i64.wrap (v85 + 1)))] (by kernel_rfl) (by kernel_rfl) ?_
                  obtain ⟨hp_69, h⟩ := h
                  refine reg_conv [(0, [], Value.pointer g), (6, [], Value.slice s.ptr s.len s.cap), (9, [], Value.int .i64 n_), (81, [], Value.pointer (some ⟨(pblk g), (poff g), none⟩)), (86, [], Value.int .i64 (IntKind.i64.wrap (v85 + 1)))] (congrArg (fun pp => ([(0, [], Value.pointer g), (6, [], Value.slice s.ptr s.len s.cap), (9, [], Value.int .i64 n_), (81, [], Value.pointer pp), (86, [], Value.int .i64 (IntKind.i64.wrap (v85 + 1)))] : GEnv)) hp_69) ?_
                  refine reg_run [.plain] 7 [(0, [], Value.pointer g), (6, [], Value.slice s.ptr s.len s.cap), (9, [], Value.int .i64 n_), (81, [], Value.pointer (some ⟨(pblk g), (poff g), none⟩)), (86, [], Value.int .i64 (IntKind.i64.wrap (v85 + 1))), (87, [], Value.pointer (some ⟨(pblk g), (poff g), none⟩))] (by kernel_rfl) (by kernel_rfl) ?_
                  refine reg_run [.plain] 8 [(0, [], Value.pointer g), (6, [], Value.slice s.ptr s.len s.cap), (9, [], Value.int .i64 n_), (86, [], Value.int .i64 (IntKind.i64.wrap (v85 + 1))), (88, [], Value.pointer (some ⟨(pblk g), (poff g), none⟩))] (by kernel_rfl) (by kernel_rfl) ?_
                  obtain ⟨hc, h⟩ := h
                  refine reg_store (t := 3) (a := (Go.Operand.tmp 88)) (x := (Go.Operand.tmp 86)) (b := (pblk g)) (o := (poff g)) (ty := 0) (dst := none) [Value.int .i64 (IntKind.i64.wrap (v85 + 1))] (by kernel_rfl) (by kernel_rfl) (by kernel_rfl) (k := 1) (by kernel_rfl) (by kernel_rfl) (by kernel_rfl) hc (fun w12 hw => ?_)
                  replace h := h w12 hw
                  clear hw
                  refine reg_end [(0, Value.pointer g), (6, Value.slice s.ptr s.len s.cap), (9, Value.int .i64 n_)] (by kernel_rfl) (by kernel_rfl) ?_
                  change WpE _ _ c_towpathref12_Gate_Done_87 _ _ _
                  refine wpE_region (id := 20) (ops := r_towpathref12_Gate_Done_87) (by kernel_rfl) ?_
                  refine reg_run [.plain, .plain, .plain] 3 [(0, [], Value.pointer g), (6, [], Value.slice s.ptr s.len s.cap), (9, [], Value.int .i64 (IntKind.i64.wrap (n_ + 1)))] (by kernel_rfl) (by kernel_rfl) ?_
                  refine reg_end [(0, Value.pointer g), (6, Value.slice s.ptr s.len s.cap), (9, Value.int .i64 (IntKind.i64.wrap (n_ + 1)))] (by kernel_rfl) (by kernel_rfl) ?_
                  have hb_ := again_1_h _ _ _ h
                  exact ⟨_, hb_.2, [(0, Value.pointer g), (6, Value.slice s.ptr s.len s.cap), (9, Value.int .i64 (IntKind.i64.wrap (n_ + 1)))], Sub.mk (by kernel_rfl), s, (IntKind.i64.wrap (n_ + 1)), rfl, hb_.1, rfl⟩
                · replace h := h.2 hb
                  refine wpE_exit (id := 2) (by kernel_rfl) ?_
                  change WpE _ _ c_towpathref12_Gate_Done_89 _ _ _
                  refine wpE_seq (x := c_towpathref12_Gate_Done_90) (y := c_towpathref12_Gate_Done_92) (by kernel_rfl) ?_
                  refine wpE_region (id := 21) (ops := r_towpathref12_Gate_Done_90) (by kernel_rfl) ?_
                  refine reg_run [.plain, .plain] 2 [(9, [], Value.int .i64 n_), (91, [], Value.pointer g), (92, [], Value.slice l_5.ptr l_5.len l_5.cap)] (by kernel_rfl) (by kernel_rfl) ?_
                  obtain ⟨hp_71, h⟩ := h
                  refine reg_conv [(9, [], Value.int .i64 n_), (91, [], Value.pointer (some ⟨(pblk g), (poff g), none⟩)), (92, [], Value.slice l_5.ptr l_5.len l_5.cap)] (congrArg (fun pp => ([(9, [], Value.int .i64 n_), (91, [], Value.pointer pp), (92, [], Value.slice l_5.ptr l_5.len l_5.cap)] : GEnv)) hp_71) ?_
                  refine reg_run [.plain] 3 [(9, [], Value.int .i64 n_), (91, [], Value.pointer (some ⟨(pblk g), (poff g), none⟩)), (92, [], Value.slice l_5.ptr l_5.len l_5.cap), (93, [], Value.pointer (some ⟨(pblk g), (poff g), none⟩))] (by kernel_rfl) (by kernel_rfl) ?_
                  refine reg_run [.plain] 4 [(9, [], Value.int .i64 n_), (92, [], Value.slice l_5.ptr l_5.len l_5.cap), (94, [], Value.pointer (some ⟨(pblk g), (poff g) + 1, none⟩))] (by kernel_rfl) (by kernel_rfl) ?_
                  obtain ⟨hc, h⟩ := h
                  refine reg_store (t := 22) (a := (Go.Operand.tmp 94)) (x := (Go.Operand.tmp 92)) (b := (pblk g)) (o := ((poff g) + 1)) (ty := 0) (dst := none) [Value.slice l_5.ptr l_5.len l_5.cap] (by kernel_rfl) (by kernel_rfl) (by kernel_rfl) (k := 1) (by kernel_rfl) (by kernel_rfl) (by kernel_rfl) hc (fun w13 hw => ?_)
                  replace h := h w13 hw
                  clear hw
                  refine reg_end [(9, Value.int .i64 n_)] (by kernel_rfl) (by kernel_rfl) ?_
                  change WpE _ _ c_towpathref12_Gate_Done_92 _ _ _
                  refine wpE_seq (x := c_towpathref12_Gate_Done_93) (y := c_towpathref12_Gate_Done_95) (by kernel_rfl) ?_
                  refine wpE_region (id := 22) (ops := r_towpathref12_Gate_Done_93) (by kernel_rfl) ?_
                  refine reg_run [.plain, .plain, .plain] 3 [(4, [], Value.int .i64 n_), (5, [], Value.int .i64 0)] (by kernel_rfl) (by kernel_rfl) ?_
                  refine reg_end [(4, Value.int .i64 n_), (5, Value.int .i64 0)] (by kernel_rfl) (by kernel_rfl) ?_
                  change WpE _ _ c_towpathref12_Gate_Done_95 _ _ _
                  refine wpE_ret (by kernel_rfl) ?_
                  repeat (first | refine seqQ_ret ?_ | refine blockQ_ret ?_ | refine loopQ_ret ?_ | refine cutQ_ret ?_)
                  exact retT (rs := [(Go.ResultVar.tmp 4), (Go.ResultVar.tmp 5)]) (vs := [Value.int .i64 n_, Value.int .i64 0]) (by kernel_rfl) (⟨by kernel_rfl, ⟨by kernel_rfl, trivial⟩⟩) (by kernel_rfl) ⟨n_, 0, rfl, h⟩
  · rintro e w' ⟨v, rfl, r0, r1, rfl, h⟩; exact ⟨r0, r1, rfl, h⟩

/-! ### (*towpath/towpathref12.Gate).Beyond (function 17) -/
noncomputable def c_towpathref12_Gate_Beyond_0 : Code := (Tryd.f17.body).getD Code.skip
noncomputable def c_towpathref12_Gate_Beyond_1 : Code := Code.l c_towpathref12_Gate_Beyond_0
noncomputable def r_towpathref12_Gate_Beyond_1 : Array Oper := Code.ops c_towpathref12_Gate_Beyond_1
noncomputable def c_towpathref12_Gate_Beyond_3 : Code := Code.r c_towpathref12_Gate_Beyond_0
noncomputable def c_towpathref12_Gate_Beyond_4 : Code := Code.l c_towpathref12_Gate_Beyond_3
noncomputable def c_towpathref12_Gate_Beyond_5 : Code := Code.l c_towpathref12_Gate_Beyond_4
noncomputable def r_towpathref12_Gate_Beyond_5 : Array Oper := Code.ops c_towpathref12_Gate_Beyond_5
noncomputable def c_towpathref12_Gate_Beyond_7 : Code := Code.r c_towpathref12_Gate_Beyond_4
noncomputable def c_towpathref12_Gate_Beyond_8 : Code := Code.l c_towpathref12_Gate_Beyond_7
noncomputable def c_towpathref12_Gate_Beyond_9 : Code := Code.l c_towpathref12_Gate_Beyond_8
noncomputable def r_towpathref12_Gate_Beyond_9 : Array Oper := Code.ops c_towpathref12_Gate_Beyond_9
noncomputable def c_towpathref12_Gate_Beyond_11 : Code := Code.r c_towpathref12_Gate_Beyond_8
noncomputable def c_towpathref12_Gate_Beyond_12 : Code := Code.r c_towpathref12_Gate_Beyond_7
noncomputable def c_towpathref12_Gate_Beyond_13 : Code := Code.r c_towpathref12_Gate_Beyond_3
noncomputable def c_towpathref12_Gate_Beyond_14 : Code := Code.l c_towpathref12_Gate_Beyond_13
noncomputable def r_towpathref12_Gate_Beyond_14 : Array Oper := Code.ops c_towpathref12_Gate_Beyond_14
noncomputable def c_towpathref12_Gate_Beyond_16 : Code := Code.r c_towpathref12_Gate_Beyond_13
noncomputable def c_towpathref12_Gate_Beyond_17 : Code := Code.l c_towpathref12_Gate_Beyond_16
noncomputable def r_towpathref12_Gate_Beyond_17 : Array Oper := Code.ops c_towpathref12_Gate_Beyond_17
noncomputable def c_towpathref12_Gate_Beyond_19 : Code := Code.r c_towpathref12_Gate_Beyond_16

set_option maxRecDepth 100000 in
set_option maxHeartbeats 4000000 in
theorem S_towpathref12_Gate_Beyond {g : Option Addr} {w : World} {R : Slc → World → Prop} (h : F_towpathref12_Gate_Beyond g R w) : C_towpathref12_Gate_Beyond g w R := by
  unfold F_towpathref12_Gate_Beyond at h
  unfold C_towpathref12_Gate_Beyond
  refine Calls.mono (calls_of_wpE (args := [Value.pointer g]) (R := fun v w' => ∃ (r0 : Slc), v = Value.slice r0.ptr r0.len r0.cap ∧ R r0 w') Tryd.func17 (c := c_towpathref12_Gate_Beyond_0) (by kernel_rfl) 12 (by kernel_rfl) (by kernel_rfl) [(0, Value.pointer g)] (by kernel_rfl) ?_) ?_
  · refine wpE_seq (x := c_towpathref12_Gate_Beyond_1) (y := c_towpathref12_Gate_Beyond_3) (by kernel_rfl) ?_
    refine wpE_region (id := 0) (ops := r_towpathref12_Gate_Beyond_1) (by kernel_rfl) ?_
    refine reg_run [.plain] 1 [(0, [], Value.pointer g)] (by kernel_rfl) (by kernel_rfl) ?_
    refine reg_end [(0, Value.pointer g)] (by kernel_rfl) (by kernel_rfl) ?_
    change WpE _ _ c_towpathref12_Gate_Beyond_3 _ _ _
    refine wpE_seq (x := c_towpathref12_Gate_Beyond_4) (y := c_towpathref12_Gate_Beyond_13) (by kernel_rfl) ?_
    refine wpE_seq (x := c_towpathref12_Gate_Beyond_5) (y := c_towpathref12_Gate_Beyond_7) (by kernel_rfl) ?_
    refine wpE_region (id := 1) (ops := r_towpathref12_Gate_Beyond_5) (by kernel_rfl) ?_
    refine reg_run [.plain] 1 [(0, [], Value.pointer g), (4, [], Value.pointer g)] (by kernel_rfl) (by kernel_rfl) ?_
    refine reg_val (op := (Go.Op.binOp Go.BinOp.eql 29 (Go.Operand.tmp 4) (Go.Operand.const (Go.Value.pointer none)) 29)) (ty := 4) (dst := some 5) (Value.bool g.isNone) (by kernel_rfl) (fun ww => run_ptr_eql_R (p := g) (by kernel_rfl) (by kernel_rfl) (by kernel_rfl) ww) ?_
    refine reg_end [(0, Value.pointer g), (5, Value.bool g.isNone)] (by kernel_rfl) (by kernel_rfl) ?_
    change WpE _ _ c_towpathref12_Gate_Beyond_7 _ _ _
    refine wpE_cond (o := (Operand.tmp 5)) (b := g.isNone) (x := c_towpathref12_Gate_Beyond_8) (y := c_towpathref12_Gate_Beyond_12) (by kernel_rfl) (by kernel_rfl) (fun hb => ?_) (fun hb => ?_)
    · replace h := h.1 hb
      refine wpE_seq (x := c_towpathref12_Gate_Beyond_9) (y := c_towpathref12_Gate_Beyond_11) (by kernel_rfl) ?_
      refine wpE_region (id := 2) (ops := r_towpathref12_Gate_Beyond_9) (by kernel_rfl) ?_
      refine reg_run [.plain] 1 [(2, [], Value.slice none 0 0)] (by kernel_rfl) (by kernel_rfl) ?_
      refine reg_end [(2, Value.slice none 0 0)] (by kernel_rfl) (by kernel_rfl) ?_
      change WpE _ _ c_towpathref12_Gate_Beyond_11 _ _ _
      refine wpE_ret (by kernel_rfl) ?_
      repeat (first | refine seqQ_ret ?_ | refine blockQ_ret ?_ | refine loopQ_ret ?_ | refine cutQ_ret ?_)
      exact retS (rs := [(Go.ResultVar.tmp 2)]) (v := Value.slice none 0 0) (by kernel_rfl) (⟨by kernel_rfl, trivial⟩) ⟨(Slc.mk none 0 0), rfl, h⟩
    · replace h := h.2 hb
      refine wpE_skip (by kernel_rfl) ?_
      change WpE _ _ c_towpathref12_Gate_Beyond_13 _ _ _
      refine wpE_seq (x := c_towpathref12_Gate_Beyond_14) (y := c_towpathref12_Gate_Beyond_16) (by kernel_rfl) ?_
      refine wpE_region (id := 3) (ops := r_towpathref12_Gate_Beyond_14) (by kernel_rfl) ?_
      refine reg_run [.plain] 1 [(0, [], Value.pointer g), (3, [], Value.slice none 0 0)] (by kernel_rfl) (by kernel_rfl) ?_
      refine reg_end [(0, Value.pointer g), (3, Value.slice none 0 0)] (by kernel_rfl) (by kernel_rfl) ?_
      change WpE _ _ c_towpathref12_Gate_Beyond_16 _ _ _
      refine wpE_seq (x := c_towpathref12_Gate_Beyond_17) (y := c_towpathref12_Gate_Beyond_19) (by kernel_rfl) ?_
      refine wpE_region (id := 4) (ops := r_towpathref12_Gate_Beyond_17) (by kernel_rfl) ?_
      refine reg_run [.plain, .plain] 2 [(6, [], Value.slice none 0 0), (7, [], Value.pointer g)] (by kernel_rfl) (by kernel_rfl) ?_
      obtain ⟨hp_0, h⟩ := h
      refine reg_conv [(6, [], Value.slice none 0 0), (7, [], Value.pointer (some ⟨(pblk g), (poff g), none⟩))] (congrArg (fun pp => ([(6, [], Value.slice none 0 0), (7, [], Value.pointer pp)] : GEnv)) hp_0) ?_
      refine reg_run [.plain] 3 [(6, [], Value.slice none 0 0), (7, [], Value.pointer (some ⟨(pblk g), (poff g), none⟩)), (8, [], Value.pointer (some ⟨(pblk g), (poff g), none⟩))] (by kernel_rfl) (by kernel_rfl) ?_
      refine reg_run [.plain] 4 [(6, [], Value.slice none 0 0), (9, [], Value.pointer (some ⟨(pblk g), (poff g) + 1, none⟩))] (by kernel_rfl) (by kernel_rfl) ?_
      obtain ⟨v10, hc, h⟩ := h
      refine reg_load1 (t := 22) (a := (Go.Operand.tmp 9)) (b := (pblk g)) (o := ((poff g) + 1)) (ty := 22) (dst := some 10) (by kernel_rfl) (by kernel_rfl) (by kernel_rfl) hc ?_
      refine reg_run [] 5 [(6, [], Value.slice none 0 0), (10, [], Value.slice v10.ptr v10.len v10.cap)] (by kernel_rfl) (by kernel_rfl) ?_
      obtain ⟨src, hs, h⟩ := h
      refine reg_append (t := 22) (tx := 22) (e := 3) (a := (Go.Operand.tmp 6)) (xo := (Go.Operand.tmp 10)) (s := (Slc.mk none 0 0)) (x := v10) (sz := 1) (by_ := 8) (zs := [Value.int .i64 0]) (ty := 22) (dst := some 11)  src (by kernel_rfl) (by kernel_rfl) (by kernel_rfl) (by kernel_rfl) (by kernel_rfl) (by kernel_rfl) (by kernel_rfl) (by kernel_rfl) (by kernel_rfl) hs (AppendW.mono h (fun v11 w1 h => ?_))
      refine reg_run [.plain] 7 [(2, [], Value.slice v11.ptr v11.len v11.cap)] (by kernel_rfl) (by kernel_rfl) ?_
      refine reg_end [(2, Value.slice v11.ptr v11.len v11.cap)] (by kernel_rfl) (by kernel_rfl) ?_
      change WpE _ _ c_towpathref12_Gate_Beyond_19 _ _ _
      refine wpE_ret (by kernel_rfl) ?_
      repeat (first | refine seqQ_ret ?_ | refine blockQ_ret ?_ | refine loopQ_ret ?_ | refine cutQ_ret ?_)
      exact retS (rs := [(Go.ResultVar.tmp 2)]) (v := Value.slice v11.ptr v11.len v11.cap) (by kernel_rfl) (⟨by kernel_rfl, trivial⟩) ⟨v11, rfl, h⟩
  · rintro e w' ⟨v, rfl, r0, rfl, h⟩; exact ⟨r0, rfl, h⟩

/-! ### (*towpath/towpathref12.Gate).Mark (function 19) -/
noncomputable def c_towpathref12_Gate_Mark_0 : Code := (Tryd.f19.body).getD Code.skip
noncomputable def c_towpathref12_Gate_Mark_1 : Code := Code.l c_towpathref12_Gate_Mark_0
noncomputable def r_towpathref12_Gate_Mark_1 : Array Oper := Code.ops c_towpathref12_Gate_Mark_1
noncomputable def c_towpathref12_Gate_Mark_3 : Code := Code.r c_towpathref12_Gate_Mark_0
noncomputable def c_towpathref12_Gate_Mark_4 : Code := Code.l c_towpathref12_Gate_Mark_3
noncomputable def c_towpathref12_Gate_Mark_5 : Code := Code.l c_towpathref12_Gate_Mark_4
noncomputable def r_towpathref12_Gate_Mark_5 : Array Oper := Code.ops c_towpathref12_Gate_Mark_5
noncomputable def c_towpathref12_Gate_Mark_7 : Code := Code.r c_towpathref12_Gate_Mark_4
noncomputable def c_towpathref12_Gate_Mark_8 : Code := Code.l c_towpathref12_Gate_Mark_7
noncomputable def c_towpathref12_Gate_Mark_9 : Code := Code.l c_towpathref12_Gate_Mark_8
noncomputable def r_towpathref12_Gate_Mark_9 : Array Oper := Code.ops c_towpathref12_Gate_Mark_9
noncomputable def c_towpathref12_Gate_Mark_11 : Code := Code.r c_towpathref12_Gate_Mark_8
noncomputable def c_towpathref12_Gate_Mark_12 : Code := Code.r c_towpathref12_Gate_Mark_7
noncomputable def c_towpathref12_Gate_Mark_13 : Code := Code.r c_towpathref12_Gate_Mark_3
noncomputable def c_towpathref12_Gate_Mark_14 : Code := Code.l c_towpathref12_Gate_Mark_13
noncomputable def r_towpathref12_Gate_Mark_14 : Array Oper := Code.ops c_towpathref12_Gate_Mark_14
noncomputable def c_towpathref12_Gate_Mark_16 : Code := Code.r c_towpathref12_Gate_Mark_13

set_option maxRecDepth 100000 in
set_option maxHeartbeats 4000000 in
theorem S_towpathref12_Gate_Mark {g : Option Addr} {w : World} {R : Int → World → Prop} (h : F_towpathref12_Gate_Mark g R w) : C_towpathref12_Gate_Mark g w R := by
  unfold F_towpathref12_Gate_Mark at h
  unfold C_towpathref12_Gate_Mark
  refine Calls.mono (calls_of_wpE (args := [Value.pointer g]) (R := fun v w' => ∃ (r0 : Int), v = Value.int .i64 r0 ∧ R r0 w') Tryd.func19 (c := c_towpathref12_Gate_Mark_0) (by kernel_rfl) 9 (by kernel_rfl) (by kernel_rfl) [(0, Value.pointer g)] (by kernel_rfl) ?_) ?_
  · refine wpE_seq (x := c_towpathref12_Gate_Mark_1) (y := c_towpathref12_Gate_Mark_3) (by kernel_rfl) ?_
    refine wpE_region (id := 0) (ops := r_towpathref12_Gate_Mark_1) (by kernel_rfl) ?_
    refine reg_run [.plain] 1 [(0, [], Value.pointer g)] (by kernel_rfl) (by kernel_rfl) ?_
    refine reg_end [(0, Value.pointer g)] (by kernel_rfl) (by kernel_rfl) ?_
    change WpE _ _ c_towpathref12_Gate_Mark_3 _ _ _
    refine wpE_seq (x := c_towpathref12_Gate_Mark_4) (y := c_towpathref12_Gate_Mark_13) (by kernel_rfl) ?_
    refine wpE_seq (x := c_towpathref12_Gate_Mark_5) (y := c_towpathref12_Gate_Mark_7) (by kernel_rfl) ?_
    refine wpE_region (id := 1) (ops := r_towpathref12_Gate_Mark_5) (by kernel_rfl) ?_
    refine reg_run [.plain] 1 [(0, [], Value.pointer g), (3, [], Value.pointer g)] (by kernel_rfl) (by kernel_rfl) ?_
    refine reg_val (op := (Go.Op.binOp Go.BinOp.eql 29 (Go.Operand.tmp 3) (Go.Operand.const (Go.Value.pointer none)) 29)) (ty := 4) (dst := some 4) (Value.bool g.isNone) (by kernel_rfl) (fun ww => run_ptr_eql_R (p := g) (by kernel_rfl) (by kernel_rfl) (by kernel_rfl) ww) ?_
    refine reg_end [(0, Value.pointer g), (4, Value.bool g.isNone)] (by kernel_rfl) (by kernel_rfl) ?_
    change WpE _ _ c_towpathref12_Gate_Mark_7 _ _ _
    refine wpE_cond (o := (Operand.tmp 4)) (b := g.isNone) (x := c_towpathref12_Gate_Mark_8) (y := c_towpathref12_Gate_Mark_12) (by kernel_rfl) (by kernel_rfl) (fun hb => ?_) (fun hb => ?_)
    · replace h := h.1 hb
      refine wpE_seq (x := c_towpathref12_Gate_Mark_9) (y := c_towpathref12_Gate_Mark_11) (by kernel_rfl) ?_
      refine wpE_region (id := 2) (ops := r_towpathref12_Gate_Mark_9) (by kernel_rfl) ?_
      refine reg_run [.plain] 1 [(2, [], Value.int .i64 0)] (by kernel_rfl) (by kernel_rfl) ?_
      refine reg_end [(2, Value.int .i64 0)] (by kernel_rfl) (by kernel_rfl) ?_
      change WpE _ _ c_towpathref12_Gate_Mark_11 _ _ _
      refine wpE_ret (by kernel_rfl) ?_
      repeat (first | refine seqQ_ret ?_ | refine blockQ_ret ?_ | refine loopQ_ret ?_ | refine cutQ_ret ?_)
      exact retS (rs := [(Go.ResultVar.tmp 2)]) (v := Value.int .i64 0) (by kernel_rfl) (⟨by kernel_rfl, trivial⟩) ⟨0, rfl, h⟩
    · replace h := h.2 hb
      refine wpE_skip (by kernel_rfl) ?_
      change WpE _ _ c_towpathref12_Gate_Mark_13 _ _ _
      refine wpE_seq (x := c_towpathref12_Gate_Mark_14) (y := c_towpathref12_Gate_Mark_16) (by kernel_rfl) ?_
      refine wpE_region (id := 3) (ops := r_towpathref12_Gate_Mark_14) (by kernel_rfl) ?_
      refine reg_run [.plain] 1 [(5, [], Value.pointer g)] (by kernel_rfl) (by kernel_rfl) ?_
      obtain ⟨hp_0, h⟩ := h
      refine reg_conv [(5, [], Value.pointer (some ⟨(pblk g), (poff g), none⟩))] (congrArg (fun pp => ([(5, [], Value.pointer pp)] : GEnv)) hp_0) ?_
      refine reg_run [.plain] 2 [(5, [], Value.pointer (some ⟨(pblk g), (poff g), none⟩)), (6, [], Value.pointer (some ⟨(pblk g), (poff g), none⟩))] (by kernel_rfl) (by kernel_rfl) ?_
      refine reg_run [.plain] 3 [(7, [], Value.pointer (some ⟨(pblk g), (poff g), none⟩))] (by kernel_rfl) (by kernel_rfl) ?_
      obtain ⟨v8, hc, h⟩ := h
      refine reg_load1 (t := 3) (a := (Go.Operand.tmp 7)) (b := (pblk g)) (o := (poff g)) (ty := 3) (dst := some 8) (by kernel_rfl) (by kernel_rfl) (by kernel_rfl) hc ?_
      refine reg_run [.plain] 5 [(2, [], Value.int .i64 v8)] (by kernel_rfl) (by kernel_rfl) ?_
      refine reg_end [(2, Value.int .i64 v8)] (by kernel_rfl) (by kernel_rfl) ?_
      change WpE _ _ c_towpathref12_Gate_Mark_16 _ _ _
      refine wpE_ret (by kernel_rfl) ?_
      repeat (first | refine seqQ_ret ?_ | refine blockQ_ret ?_ | refine loopQ_ret ?_ | refine cutQ_ret ?_)
      exact retS (rs := [(Go.ResultVar.tmp 2)]) (v := Value.int .i64 v8) (by kernel_rfl) (⟨by kernel_rfl, trivial⟩) ⟨v8, rfl, h⟩
  · rintro e w' ⟨v, rfl, r0, rfl, h⟩; exact ⟨r0, rfl, h⟩

/-! ### towpath/towpathref12.May (function 30) -/
noncomputable def c_towpathref12_May_0 : Code := (Tryd.f30.body).getD Code.skip
noncomputable def c_towpathref12_May_1 : Code := Code.l c_towpathref12_May_0
noncomputable def r_towpathref12_May_1 : Array Oper := Code.ops c_towpathref12_May_1
noncomputable def c_towpathref12_May_3 : Code := Code.r c_towpathref12_May_0
noncomputable def c_towpathref12_May_4 : Code := Code.l c_towpathref12_May_3
noncomputable def c_towpathref12_May_5 : Code := Code.l c_towpathref12_May_4
noncomputable def r_towpathref12_May_5 : Array Oper := Code.ops c_towpathref12_May_5
noncomputable def c_towpathref12_May_7 : Code := Code.r c_towpathref12_May_4
noncomputable def c_towpathref12_May_8 : Code := Code.l c_towpathref12_May_7
noncomputable def c_towpathref12_May_9 : Code := Code.l c_towpathref12_May_8
noncomputable def r_towpathref12_May_9 : Array Oper := Code.ops c_towpathref12_May_9
noncomputable def c_towpathref12_May_11 : Code := Code.r c_towpathref12_May_8
noncomputable def c_towpathref12_May_12 : Code := Code.r c_towpathref12_May_7
noncomputable def c_towpathref12_May_13 : Code := Code.r c_towpathref12_May_3
noncomputable def c_towpathref12_May_14 : Code := Code.l c_towpathref12_May_13
noncomputable def c_towpathref12_May_15 : Code := Code.l c_towpathref12_May_14
noncomputable def r_towpathref12_May_15 : Array Oper := Code.ops c_towpathref12_May_15
noncomputable def c_towpathref12_May_17 : Code := Code.r c_towpathref12_May_14
noncomputable def c_towpathref12_May_18 : Code := Code.l c_towpathref12_May_17
noncomputable def c_towpathref12_May_19 : Code := Code.l c_towpathref12_May_18
noncomputable def c_towpathref12_May_20 : Code := Code.l c_towpathref12_May_19
noncomputable def c_towpathref12_May_21 : Code := Code.l c_towpathref12_May_20
noncomputable def r_towpathref12_May_21 : Array Oper := Code.ops c_towpathref12_May_21
noncomputable def c_towpathref12_May_23 : Code := Code.r c_towpathref12_May_20
noncomputable def c_towpathref12_May_24 : Code := Code.l c_towpathref12_May_23
noncomputable def c_towpathref12_May_25 : Code := Code.r c_towpathref12_May_23
noncomputable def c_towpathref12_May_26 : Code := Code.r c_towpathref12_May_19
noncomputable def c_towpathref12_May_27 : Code := Code.l c_towpathref12_May_26
noncomputable def c_towpathref12_May_28 : Code := Code.l c_towpathref12_May_27
noncomputable def c_towpathref12_May_29 : Code := Code.l c_towpathref12_May_28
noncomputable def r_towpathref12_May_29 : Array Oper := Code.ops c_towpathref12_May_29
noncomputable def c_towpathref12_May_31 : Code := Code.r c_towpathref12_May_28
noncomputable def c_towpathref12_May_32 : Code := Code.l c_towpathref12_May_31
noncomputable def c_towpathref12_May_33 : Code := Code.l c_towpathref12_May_32
noncomputable def r_towpathref12_May_33 : Array Oper := Code.ops c_towpathref12_May_33
noncomputable def c_towpathref12_May_35 : Code := Code.r c_towpathref12_May_32
noncomputable def c_towpathref12_May_36 : Code := Code.r c_towpathref12_May_31
noncomputable def c_towpathref12_May_37 : Code := Code.r c_towpathref12_May_26
noncomputable def r_towpathref12_May_37 : Array Oper := Code.ops c_towpathref12_May_37
noncomputable def c_towpathref12_May_39 : Code := Code.r c_towpathref12_May_13
noncomputable def c_towpathref12_May_40 : Code := Code.l c_towpathref12_May_39
noncomputable def r_towpathref12_May_40 : Array Oper := Code.ops c_towpathref12_May_40
noncomputable def c_towpathref12_May_42 : Code := Code.r c_towpathref12_May_39

set_option maxRecDepth 100000 in
set_option maxHeartbeats 4000000 in
theorem S_towpathref12_May {mark : Int} {beyond : Slc} {w : World} {R : Bool → World → Prop} (h : F_towpathref12_May mark beyond R w) : C_towpathref12_May mark beyond w R := by
  unfold F_towpathref12_May at h
  unfold C_towpathref12_May
  refine Calls.mono (calls_of_wpE (args := [Value.int .i64 mark, Value.slice beyond.ptr beyond.len beyond.cap]) (R := fun v w' => ∃ (r0 : Bool), v = Value.bool r0 ∧ R r0 w') Tryd.func30 (c := c_towpathref12_May_0) (by kernel_rfl) 48 (by kernel_rfl) (by kernel_rfl) [(0, Value.int .i64 mark), (1, Value.slice beyond.ptr beyond.len beyond.cap)] (by kernel_rfl) ?_) ?_
  · refine wpE_seq (x := c_towpathref12_May_1) (y := c_towpathref12_May_3) (by kernel_rfl) ?_
    refine wpE_region (id := 0) (ops := r_towpathref12_May_1) (by kernel_rfl) ?_
    refine reg_run [.plain] 1 [(0, [], Value.int .i64 mark), (1, [], Value.slice beyond.ptr beyond.len beyond.cap)] (by kernel_rfl) (by kernel_rfl) ?_
    refine reg_end [(0, Value.int .i64 mark), (1, Value.slice beyond.ptr beyond.len beyond.cap)] (by kernel_rfl) (by kernel_rfl) ?_
    change WpE _ _ c_towpathref12_May_3 _ _ _
    refine wpE_seq (x := c_towpathref12_May_4) (y := c_towpathref12_May_13) (by kernel_rfl) ?_
    refine wpE_seq (x := c_towpathref12_May_5) (y := c_towpathref12_May_7) (by kernel_rfl) ?_
    refine wpE_region (id := 1) (ops := r_towpathref12_May_5) (by kernel_rfl) ?_
    refine reg_run [.plain, .plain, .plain, .plain, .plain, .pick] 6 [(0, [], Value.int .i64 mark), (1, [], Value.slice beyond.ptr beyond.len beyond.cap), (11, [], Value.bool ((decide (mark < 0)) || (decide (mark > 65536))))] (by kernel_rfl) (by kernel_rfl) ?_
    refine reg_end [(0, Value.int .i64 mark), (1, Value.slice beyond.ptr beyond.len beyond.cap), (11, Value.bool ((decide (mark < 0)) || (decide (mark > 65536))))] (by kernel_rfl) (by kernel_rfl) ?_
    change WpE _ _ c_towpathref12_May_7 _ _ _
    refine wpE_cond (o := (Operand.tmp 11)) (b := ((decide (mark < 0)) || (decide (mark > 65536)))) (x := c_towpathref12_May_8) (y := c_towpathref12_May_12) (by kernel_rfl) (by kernel_rfl) (fun hb => ?_) (fun hb => ?_)
    · replace h := h.1 hb
      refine wpE_seq (x := c_towpathref12_May_9) (y := c_towpathref12_May_11) (by kernel_rfl) ?_
      refine wpE_region (id := 2) (ops := r_towpathref12_May_9) (by kernel_rfl) ?_
      refine reg_run [.plain] 1 [(4, [], Value.bool false)] (by kernel_rfl) (by kernel_rfl) ?_
      refine reg_end [(4, Value.bool false)] (by kernel_rfl) (by kernel_rfl) ?_
      change WpE _ _ c_towpathref12_May_11 _ _ _
      refine wpE_ret (by kernel_rfl) ?_
      repeat (first | refine seqQ_ret ?_ | refine blockQ_ret ?_ | refine loopQ_ret ?_ | refine cutQ_ret ?_)
      exact retS (rs := [(Go.ResultVar.tmp 4)]) (v := Value.bool false) (by kernel_rfl) (⟨by kernel_rfl, trivial⟩) ⟨false, rfl, h⟩
    · replace h := h.2 hb
      refine wpE_skip (by kernel_rfl) ?_
      change WpE _ _ c_towpathref12_May_13 _ _ _
      refine wpE_seq (x := c_towpathref12_May_14) (y := c_towpathref12_May_39) (by kernel_rfl) ?_
      refine wpE_seq (x := c_towpathref12_May_15) (y := c_towpathref12_May_17) (by kernel_rfl) ?_
      refine wpE_region (id := 3) (ops := r_towpathref12_May_15) (by kernel_rfl) ?_
      refine reg_run [.plain] 1 [(0, [], Value.int .i64 mark), (1, [], Value.slice beyond.ptr beyond.len beyond.cap), (5, [], Value.int .i64 0)] (by kernel_rfl) (by kernel_rfl) ?_
      refine reg_end [(0, Value.int .i64 mark), (1, Value.slice beyond.ptr beyond.len beyond.cap), (5, Value.int .i64 0)] (by kernel_rfl) (by kernel_rfl) ?_
      change WpE _ _ c_towpathref12_May_17 _ _ _
      refine wpE_block (id := 0) (x := c_towpathref12_May_18) (by kernel_rfl) ?_
      obtain ⟨I, μ, h0, hr⟩ := h
      refine wpE_loop (x := c_towpathref12_May_19) (by kernel_rfl) (fun m l w => ∃ (i : Int), l = [(0, Value.int .i64 mark), (1, Value.slice beyond.ptr beyond.len beyond.cap), (5, Value.int .i64 i)] ∧ I i w ∧ μ i w = m) (l' := [(0, Value.int .i64 mark), (1, Value.slice beyond.ptr beyond.len beyond.cap), (5, Value.int .i64 0)]) (Sub.mk (by kernel_rfl)) ⟨0, rfl, h0, rfl⟩ ?_
      rintro _ _ w1 ⟨i, rfl, hI, rfl⟩
      obtain ⟨again_, again__h, h⟩ : ∃ again_ : Int → World → Prop, (∀ i' w', again_ i' w' → I i' w' ∧ μ i' w' < μ i w1) ∧ F_towpathref12_May_L0 mark beyond R again_ i w1 := ⟨_, fun _ _ h => h, hr i w1 hI⟩
      clear h0 hI
      unfold F_towpathref12_May_L0 at h
      refine wpE_seq (x := c_towpathref12_May_20) (y := c_towpathref12_May_26) (by kernel_rfl) ?_
      refine wpE_seq (x := c_towpathref12_May_21) (y := c_towpathref12_May_23) (by kernel_rfl) ?_
      refine wpE_region (id := 4) (ops := r_towpathref12_May_21) (by kernel_rfl) ?_
      refine reg_run [.plain, .plain, .plain, .plain] 4 [(0, [], Value.int .i64 mark), (1, [], Value.slice beyond.ptr beyond.len beyond.cap), (5, [], Value.int .i64 i), (15, [], Value.bool (decide (i < ((beyond.len : Nat) : Int))))] (by kernel_rfl) (by kernel_rfl) ?_
      refine reg_end [(0, Value.int .i64 mark), (1, Value.slice beyond.ptr beyond.len beyond.cap), (5, Value.int .i64 i), (15, Value.bool (decide (i < ((beyond.len : Nat) : Int))))] (by kernel_rfl) (by kernel_rfl) ?_
      change WpE _ _ c_towpathref12_May_23 _ _ _
      refine wpE_cond (o := (Operand.tmp 15)) (b := (decide (i < ((beyond.len : Nat) : Int)))) (x := c_towpathref12_May_24) (y := c_towpathref12_May_25) (by kernel_rfl) (by kernel_rfl) (fun hb => ?_) (fun hb => ?_)
      · replace h := h.1 hb
        refine wpE_skip (by kernel_rfl) ?_
        change WpE _ _ c_towpathref12_May_26 _ _ _
        refine wpE_seq (x := c_towpathref12_May_27) (y := c_towpathref12_May_37) (by kernel_rfl) ?_
        refine wpE_block (id := 1) (x := c_towpathref12_May_28) (by kernel_rfl) ?_
        refine wpE_seq_cut (x := c_towpathref12_May_29) (y := c_towpathref12_May_31) (by kernel_rfl) (fun l w => ∃ (t47 : Bool), l = [(0, Value.int .i64 mark), (1, Value.slice beyond.ptr beyond.len beyond.cap), (5, Value.int .i64 i), (47, Value.bool t47)] ∧ F_towpathref12_May_k1 R i again_ t47 w) ?_ ?_
        · refine wpE_drawregion (id := 6) (ops := r_towpathref12_May_29) (by kernel_rfl) (by kernel_rfl) (by kernel_rfl) ?_
          refine qreg_run [.plain, .plain] 2 [(0, [], Value.int .i64 mark), (1, [], Value.slice beyond.ptr beyond.len beyond.cap), (5, [], Value.int .i64 i), (18, [], Value.slice beyond.ptr beyond.len beyond.cap), (19, [], Value.int .i64 i)] (by kernel_rfl) (by kernel_rfl) ?_
          obtain ⟨hp_28, h⟩ := h
          refine qreg_conv [(0, [], Value.int .i64 mark), (1, [], Value.slice beyond.ptr beyond.len beyond.cap), (5, [], Value.int .i64 i), (18, [], Value.slice (some ⟨(pblk beyond.ptr), (poff beyond.ptr), none⟩) beyond.len beyond.cap), (19, [], Value.int .i64 i)] (congrArg (fun pp => ([(0, [], Value.int .i64 mark), (1, [], Value.slice beyond.ptr beyond.len beyond.cap), (5, [], Value.int .i64 i), (18, [], Value.slice pp beyond.len beyond.cap), (19, [], Value.int .i64 i)] : GEnv)) hp_28) ?_
          obtain ⟨h0, h1, h⟩ := h
          refine qreg_indexS1 (t := 22) (e := 3) (x := (Go.Operand.tmp 18)) (ix := (Go.Operand.tmp 19)) (b := (pblk beyond.ptr)) (o := (poff beyond.ptr)) (l := beyond.len) (c := beyond.cap) (k := .i64) (j := i) (ty := 0) (dst := some 20) (by kernel_rfl) (by kernel_rfl) (by kernel_rfl) (by kernel_rfl) (by kernel_rfl) h0 h1 ?_
          refine qreg_run [] 3 [(0, [], Value.int .i64 mark), (1, [], Value.slice beyond.ptr beyond.len beyond.cap), (5, [], Value.int .i64 i), (20, [], Value.pointer (some ⟨(pblk beyond.ptr), (poff beyond.ptr) + i.toNat, none⟩))] (by kernel_rfl) (by kernel_rfl) ?_
          obtain ⟨v21, hc, h⟩ := h
          refine qreg_load1 (t := 3) (a := (Go.Operand.tmp 20)) (b := (pblk beyond.ptr)) (o := ((poff beyond.ptr) + i.toNat)) (ty := 3) (dst := some 21) (by kernel_rfl) (by kernel_rfl) (by kernel_rfl) hc ?_
          refine qreg_run [.plain, .plain, .plain, .plain, .plain, .plain] 10 [(0, [], Value.int .i64 mark), (1, [], Value.slice beyond.ptr beyond.len beyond.cap), (5, [], Value.int .i64 i), (25, [], Value.bool (decide (v21 < (IntKind.i64.wrap (mark + 2))))), (26, [(25, false)], Value.slice beyond.ptr beyond.len beyond.cap), (27, [(25, false)], Value.int .i64 i)] (by kernel_rfl) (by kernel_rfl) ?_
          refine qreg_split 25 (decide (v21 < (IntKind.i64.wrap (mark + 2)))) (by kernel_rfl) (fun hb => ?_) (fun hb => ?_)
          · replace h := h.1 hb
            refine qreg_run [] 10 [(0, [], Value.int .i64 mark), (1, [], Value.slice beyond.ptr beyond.len beyond.cap), (5, [], Value.int .i64 i), (25, [], Value.bool true), (26, [], undef), (27, [], undef)] (by kernel_rfl) (by kernel_rfl) ?_
            refine qreg_run [.skip, .skip, .skip, .plain, .plain, .skip, .skip, .skip, .skip, .skip, .skip, .skip, .skip, .skip, .skip, .skip, .skip, .skip, .skip, .plain] 30 [(0, [], Value.int .i64 mark), (1, [], Value.slice beyond.ptr beyond.len beyond.cap), (5, [], Value.int .i64 i), (47, [], Value.bool true)] (by kernel_rfl) (by kernel_rfl) ?_
            refine qreg_end [(0, Value.int .i64 mark), (1, Value.slice beyond.ptr beyond.len beyond.cap), (5, Value.int .i64 i), (47, Value.bool true)] (by kernel_rfl) (by kernel_rfl) (fun w3 hw => ?_)
            replace h := h w3 hw
            clear hw
            exact ⟨[(0, Value.int .i64 mark), (1, Value.slice beyond.ptr beyond.len beyond.cap), (5, Value.int .i64 i), (47, Value.bool true)], Sub.mk (by kernel_rfl), true, rfl, h⟩
          · replace h := h.2 hb
            refine qreg_run [] 10 [(0, [], Value.int .i64 mark), (1, [], Value.slice beyond.ptr beyond.len beyond.cap), (5, [], Value.int .i64 i), (25, [], Value.bool false), (26, [], Value.slice beyond.ptr beyond.len beyond.cap), (27, [], Value.int .i64 i)] (by kernel_rfl) (by kernel_rfl) ?_
            refine qreg_run [] 10 [(0, [], Value.int .i64 mark), (1, [], Value.slice beyond.ptr beyond.len beyond.cap), (5, [], Value.int .i64 i), (25, [], Value.bool false), (26, [], Value.slice beyond.ptr beyond.len beyond.cap), (27, [], Value.int .i64 i)] (by kernel_rfl) (by kernel_rfl) ?_
            obtain ⟨hp_29, h⟩ := h
            refine qreg_conv [(0, [], Value.int .i64 mark), (1, [], Value.slice beyond.ptr beyond.len beyond.cap), (5, [], Value.int .i64 i), (25, [], Value.bool false), (26, [], Value.slice (some ⟨(pblk beyond.ptr), (poff beyond.ptr), none⟩) beyond.len beyond.cap), (27, [], Value.int .i64 i)] (congrArg (fun pp => ([(0, [], Value.int .i64 mark), (1, [], Value.slice beyond.ptr beyond.len beyond.cap), (5, [], Value.int .i64 i), (25, [], Value.bool false), (26, [], Value.slice pp beyond.len beyond.cap), (27, [], Value.int .i64 i)] : GEnv)) hp_29) ?_
            obtain ⟨h0, h1, h⟩ := h
            refine qreg_indexS1 (t := 22) (e := 3) (x := (Go.Operand.tmp 26)) (ix := (Go.Operand.tmp 27)) (b := (pblk beyond.ptr)) (o := (poff beyond.ptr)) (l := beyond.len) (c := beyond.cap) (k := .i64) (j := i) (ty := 0) (dst := some 28) (by kernel_rfl) (by kernel_rfl) (by kernel_rfl) (by kernel_rfl) (by kernel_rfl) h0 h1 ?_
            refine qreg_run [] 11 [(0, [], Value.int .i64 mark), (1, [], Value.slice beyond.ptr beyond.len beyond.cap), (5, [], Value.int .i64 i), (25, [], Value.bool false), (28, [], Value.pointer (some ⟨(pblk beyond.ptr), (poff beyond.ptr) + i.toNat, none⟩))] (by kernel_rfl) (by kernel_rfl) ?_
            obtain ⟨v29, hc, h⟩ := h
            refine qreg_load1 (t := 3) (a := (Go.Operand.tmp 28)) (b := (pblk beyond.ptr)) (o := ((poff beyond.ptr) + i.toNat)) (ty := 3) (dst := some 29) (by kernel_rfl) (by kernel_rfl) (by kernel_rfl) hc ?_
            refine qreg_run [.sure, .plain, .plain, .plain, .plain, .plain, .plain, .plain, .plain] 21 [(0, [], Value.int .i64 mark), (1, [], Value.slice beyond.ptr beyond.len beyond.cap), (5, [], Value.int .i64 i), (32, [], Value.bool (decide (v29 > 65536))), (35, [(32, false)], Value.bool (decide (i > 0))), (36, [(35, true), (32, false)], Value.slice beyond.ptr beyond.len beyond.cap), (38, [(35, true), (32, false)], Value.int .i64 (IntKind.i64.wrap (i - 1)))] (by kernel_rfl) (by kernel_rfl) ?_
            refine qreg_split 32 (decide (v29 > 65536)) (by kernel_rfl) (fun hb => ?_) (fun hb => ?_)
            · replace h := h.1 hb
              refine qreg_run [] 21 [(0, [], Value.int .i64 mark), (1, [], Value.slice beyond.ptr beyond.len beyond.cap), (5, [], Value.int .i64 i), (32, [], Value.bool true), (35, [], undef), (36, [], undef), (38, [], undef)] (by kernel_rfl) (by kernel_rfl) ?_
              refine qreg_run [.skip, .skip, .skip, .skip, .skip, .skip, .skip, .skip, .plain] 30 [(0, [], Value.int .i64 mark), (1, [], Value.slice beyond.ptr beyond.len beyond.cap), (5, [], Value.int .i64 i), (47, [], Value.bool true)] (by kernel_rfl) (by kernel_rfl) ?_
              refine qreg_end [(0, Value.int .i64 mark), (1, Value.slice beyond.ptr beyond.len beyond.cap), (5, Value.int .i64 i), (47, Value.bool true)] (by kernel_rfl) (by kernel_rfl) (fun w4 hw => ?_)
              replace h := h w4 hw
              clear hw
              exact ⟨[(0, Value.int .i64 mark), (1, Value.slice beyond.ptr beyond.len beyond.cap), (5, Value.int .i64 i), (47, Value.bool true)], Sub.mk (by kernel_rfl), true, rfl, h⟩
            · replace h := h.2 hb
              refine qreg_run [] 21 [(0, [], Value.int .i64 mark), (1, [], Value.slice beyond.ptr beyond.len beyond.cap), (5, [], Value.int .i64 i), (32, [], Value.bool false), (35, [], Value.bool (decide (i > 0))), (36, [(35, true)], Value.slice beyond.ptr beyond.len beyond.cap), (38, [(35, true)], Value.int .i64 (IntKind.i64.wrap (i - 1)))] (by kernel_rfl) (by kernel_rfl) ?_
              refine qreg_run [] 21 [(0, [], Value.int .i64 mark), (1, [], Value.slice beyond.ptr beyond.len beyond.cap), (5, [], Value.int .i64 i), (32, [], Value.bool false), (35, [], Value.bool (decide (i > 0))), (36, [(35, true)], Value.slice beyond.ptr beyond.len beyond.cap), (38, [(35, true)], Value.int .i64 (IntKind.i64.wrap (i - 1)))] (by kernel_rfl) (by kernel_rfl) ?_
              refine qreg_split 35 (decide (i > 0)) (by kernel_rfl) (fun hb => ?_) (fun hb => ?_)
              · replace h := h.1 hb
                refine qreg_run [] 21 [(0, [], Value.int .i64 mark), (1, [], Value.slice beyond.ptr beyond.len beyond.cap), (5, [], Value.int .i64 i), (32, [], Value.bool false), (35, [], Value.bool true), (36, [], Value.slice beyond.ptr beyond.len beyond.cap), (38, [], Value.int .i64 (IntKind.i64.wrap (i - 1)))] (by kernel_rfl) (by kernel_rfl) ?_
                refine qreg_run [] 21 [(0, [], Value.int .i64 mark), (1, [], Value.slice beyond.ptr beyond.len beyond.cap), (5, [], Value.int .i64 i), (32, [], Value.bool false), (35, [], Value.bool true), (36, [], Value.slice beyond.ptr beyond.len beyond.cap), (38, [], Value.int .i64 (IntKind.i64.wrap (i - 1)))] (by kernel_rfl) (by kernel_rfl) ?_
                obtain ⟨hp_30, h⟩ := h
                refine qreg_conv [(0, [], Value.int .i64 mark), (1, [], Value.slice beyond.ptr beyond.len beyond.cap), (5, [], Value.int .i64 i), (32, [], Value.bool false), (35, [], Value.bool true), (36, [], Value.slice (some ⟨(pblk beyond.ptr), (poff beyond.ptr), none⟩) beyond.len beyond.cap), (38, [], Value.int .i64 (IntKind.i64.wrap (i - 1)))] (congrArg (fun pp => ([(0, [], Value.int .i64 mark), (1, [], Value.slice beyond.ptr beyond.len beyond.cap), (5, [], Value.int .i64 i), (32, [], Value.bool false), (35, [], Value.bool true), (36, [], Value.slice pp beyond.len beyond.cap), (38, [], Value.int .i64 (IntKind.i64.wrap (i - 1)))] : GEnv)) hp_30) ?_
                obtain ⟨h0, h1, h⟩ := h
                refine qreg_indexS1 (t := 22) (e := 3) (x := (Go.Operand.tmp 36)) (ix := (Go.Operand.tmp 38)) (b := (pblk beyond.ptr)) (o := (poff beyond.ptr)) (l := beyond.len) (c := beyond.cap) (k := .i64) (j := (IntKind.i64.wrap (i - 1))) (ty := 0) (dst := some 39) (by kernel_rfl) (by kernel_rfl) (by kernel_rfl) (by kernel_rfl) (by kernel_rfl) h0 h1 ?_
                refine qreg_run [] 22 [(0, [], Value.int .i64 mark), (1, [], Value.slice beyond.ptr beyond.len beyond.cap), (5, [], Value.int .i64 i), (32, [], Value.bool false), (35, [], Value.bool true), (39, [], Value.pointer (some ⟨(pblk beyond.ptr), (poff beyond.ptr) + (IntKind.i64.wrap (i - 1)).toNat, none⟩))] (by kernel_rfl) (by kernel_rfl) ?_
                obtain ⟨v40, hc, h⟩ := h
                refine qreg_load1 (t := 3) (a := (Go.Operand.tmp 39)) (b := (pblk beyond.ptr)) (o := ((poff beyond.ptr) + (IntKind.i64.wrap (i - 1)).toNat)) (ty := 3) (dst := some 40) (by kernel_rfl) (by kernel_rfl) (by kernel_rfl) hc ?_
                refine qreg_run [.sure, .sure] 25 [(0, [], Value.int .i64 mark), (1, [], Value.slice beyond.ptr beyond.len beyond.cap), (5, [], Value.int .i64 i), (32, [], Value.bool false), (35, [], Value.bool true), (40, [], Value.int .i64 v40), (41, [], Value.slice beyond.ptr beyond.len beyond.cap), (42, [], Value.int .i64 i)] (by kernel_rfl) (by kernel_rfl) ?_
                obtain ⟨hp_31, h⟩ := h
                refine qreg_conv [(0, [], Value.int .i64 mark), (1, [], Value.slice beyond.ptr beyond.len beyond.cap), (5, [], Value.int .i64 i), (32, [], Value.bool false), (35, [], Value.bool true), (40, [], Value.int .i64 v40), (41, [], Value.slice (some ⟨(pblk beyond.ptr), (poff beyond.ptr), none⟩) beyond.len beyond.cap), (42, [], Value.int .i64 i)] (congrArg (fun pp => ([(0, [], Value.int .i64 mark), (1, [], Value.slice beyond.ptr beyond.len beyond.cap), (5, [], Value.int .i64 i), (32, [], Value.bool false), (35, [], Value.bool true), (40, [], Value.int .i64 v40), (41, [], Value.slice pp beyond.len beyond.cap), (42, [], Value.int .i64 i)] : GEnv)) hp_31) ?_
                obtain ⟨h0, h1, h⟩ := h
                refine qreg_indexS1 (t := 22) (e := 3) (x := (Go.Operand.tmp 41)) (ix := (Go.Operand.tmp 42)) (b := (pblk beyond.ptr)) (o := (poff beyond.ptr)) (l := beyond.len) (c := beyond.cap) (k := .i64) (j := i) (ty := 0) (dst := some 43) (by kernel_rfl) (by kernel_rfl) (by kernel_rfl) (by kernel_rfl) (by kernel_rfl) h0 h1 ?_
                refine qreg_run [] 26 [(0, [], Value.int .i64 mark), (1, [], Value.slice beyond.ptr beyond.len beyond.cap), (5, [], Value.int .i64 i), (32, [], Value.bool false), (35, [], Value.bool true), (40, [], Value.int .i64 v40), (43, [], Value.pointer (some ⟨(pblk beyond.ptr), (poff beyond.ptr) + i.toNat, none⟩))] (by kernel_rfl) (by kernel_rfl) ?_
                obtain ⟨v44, hc, h⟩ := h
                refine qreg_load1 (t := 3) (a := (Go.Operand.tmp 43)) (b := (pblk beyond.ptr)) (o := ((poff beyond.ptr) + i.toNat)) (ty := 3) (dst := some 44) (by kernel_rfl) (by kernel_rfl) (by kernel_rfl) hc ?_
                refine qreg_run [.sure, .sure, .plain] 30 [(0, [], Value.int .i64 mark), (1, [], Value.slice beyond.ptr beyond.len beyond.cap), (5, [], Value.int .i64 i), (47, [], Value.bool (decide (v40 ≥ v44)))] (by kernel_rfl) (by kernel_rfl) ?_
                refine qreg_end [(0, Value.int .i64 mark), (1, Value.slice beyond.ptr beyond.len beyond.cap), (5, Value.int .i64 i), (47, Value.bool (decide (v40 ≥ v44)))] (by kernel_rfl) (by kernel_rfl) (fun w5 hw => ?_)
                replace h := h w5 hw
                clear hw
                exact ⟨[(0, Value.int .i64 mark), (1, Value.slice beyond.ptr beyond.len beyond.cap), (5, Value.int .i64 i), (47, Value.bool (decide (v40 ≥ v44)))], Sub.mk (by kernel_rfl), (decide (v40 ≥ v44)), rfl, h⟩
              · replace h := h.2 hb
                refine qreg_run [] 21 [(0, [], Value.int .i64 mark), (1, [], Value.slice beyond.ptr beyond.len beyond.cap), (5, [], Value.int .i64 i), (32, [], Value.bool false), (35, [], Value.bool false), (36, [], undef), (38, [], undef)] (by kernel_rfl) (by kernel_rfl) ?_
                refine qreg_run [.skip, .skip, .skip, .skip, .skip, .skip, .skip, .sure, .plain] 30 [(0, [], Value.int .i64 mark), (1, [], Value.slice beyond.ptr beyond.len beyond.cap), (5, [], Value.int .i64 i), (47, [], Value.bool false)] (by kernel_rfl) (by kernel_rfl) ?_
                refine qreg_end [(0, Value.int .i64 mark), (1, Value.slice beyond.ptr beyond.len beyond.cap), (5, Value.int .i64 i), (47, Value.bool false)] (by kernel_rfl) (by kernel_rfl) (fun w6 hw => ?_)
                replace h := h w6 hw
                clear hw
                exact ⟨[(0, Value.int .i64 mark), (1, Value.slice beyond.ptr beyond.len beyond.cap), (5, Value.int .i64 i), (47, Value.bool false)], Sub.mk (by kernel_rfl), false, rfl, h⟩
        · rintro _ w2 ⟨t47, rfl, h⟩
          unfold F_towpathref12_May_k1 at h
          refine wpE_cond (o := (Operand.tmp 47)) (b := t47) (x := c_towpathref12_May_32) (y := c_towpathref12_May_36) (by kernel_rfl) (by kernel_rfl) (fun hb => ?_) (fun hb => ?_)
          · replace h := h.1 hb
            refine wpE_seq (x := c_towpathref12_May_33) (y := c_towpathref12_May_35) (by kernel_rfl) ?_
            refine wpE_region (id := 7) (ops := r_towpathref12_May_33) (by kernel_rfl) ?_
            refine reg_run [.plain] 1 [(4, [], Value.bool false)] (by kernel_rfl) (by kernel_rfl) ?_
            refine reg_end [(4, Value.bool false)] (by kernel_rfl) (by kernel_rfl) ?_
            change WpE _ _ c_towpathref12_May_35 _ _ _
            refine wpE_ret (by kernel_rfl) ?_
            repeat (first | refine seqQ_ret ?_ | refine blockQ_ret ?_ | refine loopQ_ret ?_ | refine cutQ_ret ?_)
            exact retS (rs := [(Go.ResultVar.tmp 4)]) (v := Value.bool false) (by kernel_rfl) (⟨by kernel_rfl, trivial⟩) ⟨false, rfl, h⟩
          · replace h := h.2 hb
            refine wpE_skip (by kernel_rfl) ?_
            change WpE _ _ c_towpathref12_May_37 _ _ _
            refine wpE_region (id := 5) (ops := r_towpathref12_May_37) (by kernel_rfl) ?_
            refine reg_run [.plain, .plain, .plain] 3 [(0, [], Value.int .i64 mark), (1, [], Value.slice beyond.ptr beyond.len beyond.cap), (5, [], Value.int .i64 (IntKind.i64.wrap (i + 1)))] (by kernel_rfl) (by kernel_rfl) ?_
            refine reg_end [(0, Value.int .i64 mark), (1, Value.slice beyond.ptr beyond.len beyond.cap), (5, Value.int .i64 (IntKind.i64.wrap (i + 1)))] (by kernel_rfl) (by kernel_rfl) ?_
            have hb_ := again__h _ _ h
            exact ⟨_, hb_.2, [(0, Value.int .i64 mark), (1, Value.slice beyond.ptr beyond.len beyond.cap), (5, Value.int .i64 (IntKind.i64.wrap (i + 1)))], Sub.mk (by kernel_rfl), (IntKind.i64.wrap (i + 1)), rfl, hb_.1, rfl⟩
      · replace h := h.2 hb
        refine wpE_exit (id := 0) (by kernel_rfl) ?_
        change WpE _ _ c_towpathref12_May_39 _ _ _
        refine wpE_seq (x := c_towpathref12_May_40) (y := c_towpathref12_May_42) (by kernel_rfl) ?_
        refine wpE_region (id := 8) (ops := r_towpathref12_May_40) (by kernel_rfl) ?_
        refine reg_run [.plain] 1 [(4, [], Value.bool true)] (by kernel_rfl) (by kernel_rfl) ?_
        refine reg_end [(4, Value.bool true)] (by kernel_rfl) (by kernel_rfl) ?_
        change WpE _ _ c_towpathref12_May_42 _ _ _
        refine wpE_ret (by kernel_rfl) ?_
        repeat (first | refine seqQ_ret ?_ | refine blockQ_ret ?_ | refine loopQ_ret ?_ | refine cutQ_ret ?_)
        exact retS (rs := [(Go.ResultVar.tmp 4)]) (v := Value.bool true) (by kernel_rfl) (⟨by kernel_rfl, trivial⟩) ⟨true, rfl, h⟩
  · rintro e w' ⟨v, rfl, r0, rfl, h⟩; exact ⟨r0, rfl, h⟩

/-! ### (*towpath/towpathref12.Gate).Has (function 67) -/
noncomputable def c_towpathref12_Gate_Has_0 : Code := (Tryd.f67.body).getD Code.skip
noncomputable def c_towpathref12_Gate_Has_1 : Code := Code.l c_towpathref12_Gate_Has_0
noncomputable def r_towpathref12_Gate_Has_1 : Array Oper := Code.ops c_towpathref12_Gate_Has_1
noncomputable def c_towpathref12_Gate_Has_3 : Code := Code.r c_towpathref12_Gate_Has_0
noncomputable def c_towpathref12_Gate_Has_4 : Code := Code.l c_towpathref12_Gate_Has_3
noncomputable def c_towpathref12_Gate_Has_5 : Code := Code.l c_towpathref12_Gate_Has_4
noncomputable def r_towpathref12_Gate_Has_5 : Array Oper := Code.ops c_towpathref12_Gate_Has_5
noncomputable def c_towpathref12_Gate_Has_7 : Code := Code.r c_towpathref12_Gate_Has_4
noncomputable def c_towpathref12_Gate_Has_8 : Code := Code.l c_towpathref12_Gate_Has_7
noncomputable def c_towpathref12_Gate_Has_9 : Code := Code.l c_towpathref12_Gate_Has_8
noncomputable def r_towpathref12_Gate_Has_9 : Array Oper := Code.ops c_towpathref12_Gate_Has_9
noncomputable def c_towpathref12_Gate_Has_11 : Code := Code.r c_towpathref12_Gate_Has_8
noncomputable def c_towpathref12_Gate_Has_12 : Code := Code.r c_towpathref12_Gate_Has_7
noncomputable def c_towpathref12_Gate_Has_13 : Code := Code.r c_towpathref12_Gate_Has_3
noncomputable def c_towpathref12_Gate_Has_14 : Code := Code.l c_towpathref12_Gate_Has_13
noncomputable def c_towpathref12_Gate_Has_15 : Code := Code.l c_towpathref12_Gate_Has_14
noncomputable def r_towpathref12_Gate_Has_15 : Array Oper := Code.ops c_towpathref12_Gate_Has_15
noncomputable def c_towpathref12_Gate_Has_17 : Code := Code.r c_towpathref12_Gate_Has_14
noncomputable def c_towpathref12_Gate_Has_18 : Code := Code.l c_towpathref12_Gate_Has_17
noncomputable def c_towpathref12_Gate_Has_19 : Code := Code.l c_towpathref12_Gate_Has_18
noncomputable def c_towpathref12_Gate_Has_20 : Code := Code.l c_towpathref12_Gate_Has_19
noncomputable def c_towpathref12_Gate_Has_21 : Code := Code.l c_towpathref12_Gate_Has_20
noncomputable def r_towpathref12_Gate_Has_21 : Array Oper := Code.ops c_towpathref12_Gate_Has_21
noncomputable def c_towpathref12_Gate_Has_23 : Code := Code.r c_towpathref12_Gate_Has_20
noncomputable def c_towpathref12_Gate_Has_24 : Code := Code.l c_towpathref12_Gate_Has_23
noncomputable def c_towpathref12_Gate_Has_25 : Code := Code.r c_towpathref12_Gate_Has_23
noncomputable def c_towpathref12_Gate_Has_26 : Code := Code.r c_towpathref12_Gate_Has_19
noncomputable def c_towpathref12_Gate_Has_27 : Code := Code.l c_towpathref12_Gate_Has_26
noncomputable def c_towpathref12_Gate_Has_28 : Code := Code.l c_towpathref12_Gate_Has_27
noncomputable def c_towpathref12_Gate_Has_29 : Code := Code.l c_towpathref12_Gate_Has_28
noncomputable def r_towpathref12_Gate_Has_29 : Array Oper := Code.ops c_towpathref12_Gate_Has_29
noncomputable def c_towpathref12_Gate_Has_31 : Code := Code.r c_towpathref12_Gate_Has_28
noncomputable def c_towpathref12_Gate_Has_32 : Code := Code.l c_towpathref12_Gate_Has_31
noncomputable def c_towpathref12_Gate_Has_33 : Code := Code.l c_towpathref12_Gate_Has_32
noncomputable def r_towpathref12_Gate_Has_33 : Array Oper := Code.ops c_towpathref12_Gate_Has_33
noncomputable def c_towpathref12_Gate_Has_35 : Code := Code.r c_towpathref12_Gate_Has_32
noncomputable def c_towpathref12_Gate_Has_36 : Code := Code.r c_towpathref12_Gate_Has_31
noncomputable def c_towpathref12_Gate_Has_37 : Code := Code.r c_towpathref12_Gate_Has_26
noncomputable def r_towpathref12_Gate_Has_37 : Array Oper := Code.ops c_towpathref12_Gate_Has_37
noncomputable def c_towpathref12_Gate_Has_39 : Code := Code.r c_towpathref12_Gate_Has_13
noncomputable def c_towpathref12_Gate_Has_40 : Code := Code.l c_towpathref12_Gate_Has_39
noncomputable def r_towpathref12_Gate_Has_40 : Array Oper := Code.ops c_towpathref12_Gate_Has_40
noncomputable def c_towpathref12_Gate_Has_42 : Code := Code.r c_towpathref12_Gate_Has_39

set_option maxRecDepth 100000 in
set_option maxHeartbeats 4000000 in
theorem S_towpathref12_Gate_Has {g : Option Addr} {number : Int} {w : World} {R : Bool → World → Prop} (h : F_towpathref12_Gate_Has g number R w) : C_towpathref12_Gate_Has g number w R := by
  unfold F_towpathref12_Gate_Has at h
  unfold C_towpathref12_Gate_Has
  refine Calls.mono (calls_of_wpE (args := [Value.pointer g, Value.int .i64 number]) (R := fun v w' => ∃ (r0 : Bool), v = Value.bool r0 ∧ R r0 w') Tryd.func67 (c := c_towpathref12_Gate_Has_0) (by kernel_rfl) 36 (by kernel_rfl) (by kernel_rfl) [(0, Value.pointer g), (1, Value.int .i64 number)] (by kernel_rfl) ?_) ?_
  · refine wpE_seq (x := c_towpathref12_Gate_Has_1) (y := c_towpathref12_Gate_Has_3) (by kernel_rfl) ?_
    refine wpE_region (id := 0) (ops := r_towpathref12_Gate_Has_1) (by kernel_rfl) ?_
    refine reg_run [.plain] 1 [(0, [], Value.pointer g), (1, [], Value.int .i64 number)] (by kernel_rfl) (by kernel_rfl) ?_
    refine reg_end [(0, Value.pointer g), (1, Value.int .i64 number)] (by kernel_rfl) (by kernel_rfl) ?_
    change WpE _ _ c_towpathref12_Gate_Has_3 _ _ _
    refine wpE_seq (x := c_towpathref12_Gate_Has_4) (y := c_towpathref12_Gate_Has_13) (by kernel_rfl) ?_
    refine wpE_seq (x := c_towpathref12_Gate_Has_5) (y := c_towpathref12_Gate_Has_7) (by kernel_rfl) ?_
    refine wpE_region (id := 1) (ops := r_towpathref12_Gate_Has_5) (by kernel_rfl) ?_
    refine reg_run [.plain] 1 [(0, [], Value.pointer g), (1, [], Value.int .i64 number), (6, [], Value.pointer g)] (by kernel_rfl) (by kernel_rfl) ?_
    refine reg_val (op := (Go.Op.binOp Go.BinOp.eql 29 (Go.Operand.tmp 6) (Go.Operand.const (Go.Value.pointer none)) 29)) (ty := 4) (dst := some 7) (Value.bool g.isNone) (by kernel_rfl) (fun ww => run_ptr_eql_R (p := g) (by kernel_rfl) (by kernel_rfl) (by kernel_rfl) ww) ?_
    refine reg_run [.plain, .plain, .plain, .pick] 6 [(0, [], Value.pointer g), (1, [], Value.int .i64 number), (11, [], Value.bool (g.isNone || (decide (number < 1))))] (by kernel_rfl) (by kernel_rfl) ?_
    refine reg_end [(0, Value.pointer g), (1, Value.int .i64 number), (11, Value.bool (g.isNone || (decide (number < 1))))] (by kernel_rfl) (by kernel_rfl) ?_
    change WpE _ _ c_towpathref12_Gate_Has_7 _ _ _
    refine wpE_cond (o := (Operand.tmp 11)) (b := (g.isNone || (decide (number < 1)))) (x := c_towpathref12_Gate_Has_8) (y := c_towpathref12_Gate_Has_12) (by kernel_rfl) (by kernel_rfl) (fun hb => ?_) (fun hb => ?_)
    · replace h := h.1 hb
      refine wpE_seq (x := c_towpathref12_Gate_Has_9) (y := c_towpathref12_Gate_Has_11) (by kernel_rfl) ?_
      refine wpE_region (id := 2) (ops := r_towpathref12_Gate_Has_9) (by kernel_rfl) ?_
      refine reg_run [.plain] 1 [(4, [], Value.bool false)] (by kernel_rfl) (by kernel_rfl) ?_
      refine reg_end [(4, Value.bool false)] (by kernel_rfl) (by kernel_rfl) ?_
      change WpE _ _ c_towpathref12_Gate_Has_11 _ _ _
      refine wpE_ret (by kernel_rfl) ?_
      repeat (first | refine seqQ_ret ?_ | refine blockQ_ret ?_ | refine loopQ_ret ?_ | refine cutQ_ret ?_)
      exact retS (rs := [(Go.ResultVar.tmp 4)]) (v := Value.bool false) (by kernel_rfl) (⟨by kernel_rfl, trivial⟩) ⟨false, rfl, h⟩
    · replace h := h.2 hb
      refine wpE_skip (by kernel_rfl) ?_
      change WpE _ _ c_towpathref12_Gate_Has_13 _ _ _
      refine wpE_seq (x := c_towpathref12_Gate_Has_14) (y := c_towpathref12_Gate_Has_39) (by kernel_rfl) ?_
      refine wpE_seq (x := c_towpathref12_Gate_Has_15) (y := c_towpathref12_Gate_Has_17) (by kernel_rfl) ?_
      refine wpE_region (id := 3) (ops := r_towpathref12_Gate_Has_15) (by kernel_rfl) ?_
      refine reg_run [.plain] 1 [(0, [], Value.pointer g), (1, [], Value.int .i64 number), (5, [], Value.int .i64 0)] (by kernel_rfl) (by kernel_rfl) ?_
      refine reg_end [(0, Value.pointer g), (1, Value.int .i64 number), (5, Value.int .i64 0)] (by kernel_rfl) (by kernel_rfl) ?_
      change WpE _ _ c_towpathref12_Gate_Has_17 _ _ _
      refine wpE_block (id := 0) (x := c_towpathref12_Gate_Has_18) (by kernel_rfl) ?_
      obtain ⟨I, μ, h0, hr⟩ := h
      refine wpE_loop (x := c_towpathref12_Gate_Has_19) (by kernel_rfl) (fun m l w => ∃ (i : Int), l = [(0, Value.pointer g), (1, Value.int .i64 number), (5, Value.int .i64 i)] ∧ I i w ∧ μ i w = m) (l' := [(0, Value.pointer g), (1, Value.int .i64 number), (5, Value.int .i64 0)]) (Sub.mk (by kernel_rfl)) ⟨0, rfl, h0, rfl⟩ ?_
      rintro _ _ w1 ⟨i, rfl, hI, rfl⟩
      obtain ⟨again_, again__h, h⟩ : ∃ again_ : Int → World → Prop, (∀ i' w', again_ i' w' → I i' w' ∧ μ i' w' < μ i w1) ∧ F_towpathref12_Gate_Has_L0 g number R again_ i w1 := ⟨_, fun _ _ h => h, hr i w1 hI⟩
      clear h0 hI
      unfold F_towpathref12_Gate_Has_L0 at h
      refine wpE_seq (x := c_towpathref12_Gate_Has_20) (y := c_towpathref12_Gate_Has_26) (by kernel_rfl) ?_
      refine wpE_seq (x := c_towpathref12_Gate_Has_21) (y := c_towpathref12_Gate_Has_23) (by kernel_rfl) ?_
      refine wpE_region (id := 4) (ops := r_towpathref12_Gate_Has_21) (by kernel_rfl) ?_
      refine reg_run [.plain, .plain] 2 [(0, [], Value.pointer g), (1, [], Value.int .i64 number), (5, [], Value.int .i64 i), (12, [], Value.int .i64 i), (13, [], Value.pointer g)] (by kernel_rfl) (by kernel_rfl) ?_
      obtain ⟨hp_15, h⟩ := h
      refine reg_conv [(0, [], Value.pointer g), (1, [], Value.int .i64 number), (5, [], Value.int .i64 i), (12, [], Value.int .i64 i), (13, [], Value.pointer (some ⟨(pblk g), (poff g), none⟩))] (congrArg (fun pp => ([(0, [], Value.pointer g), (1, [], Value.int .i64 number), (5, [], Value.int .i64 i), (12, [], Value.int .i64 i), (13, [], Value.pointer pp)] : GEnv)) hp_15) ?_
      refine reg_run [.plain] 3 [(0, [], Value.pointer g), (1, [], Value.int .i64 number), (5, [], Value.int .i64 i), (12, [], Value.int .i64 i), (13, [], Value.pointer (some ⟨(pblk g), (poff g), none⟩)), (14, [], Value.pointer (some ⟨(pblk g), (poff g), none⟩))] (by kernel_rfl) (by kernel_rfl) ?_
      refine reg_run [.plain] 4 [(0, [], Value.pointer g), (1, [], Value.int .i64 number), (5, [], Value.int .i64 i), (12, [], Value.int .i64 i), (15, [], Value.pointer (some ⟨(pblk g), (poff g) + 1, none⟩))] (by kernel_rfl) (by kernel_rfl) ?_
      obtain ⟨v16, hc, h⟩ := h
      refine reg_load1 (t := 22) (a := (Go.Operand.tmp 15)) (b := (pblk g)) (o := ((poff g) + 1)) (ty := 22) (dst := some 16) (by kernel_rfl) (by kernel_rfl) (by kernel_rfl) hc ?_
      refine reg_run [.plain, .plain] 7 [(0, [], Value.pointer g), (1, [], Value.int .i64 number), (5, [], Value.int .i64 i), (18, [], Value.bool (decide (i < ((v16.len : Nat) : Int))))] (by kernel_rfl) (by kernel_rfl) ?_
      refine reg_end [(0, Value.pointer g), (1, Value.int .i64 number), (5, Value.int .i64 i), (18, Value.bool (decide (i < ((v16.len : Nat) : Int))))] (by kernel_rfl) (by kernel_rfl) ?_
      change WpE _ _ c_towpathref12_Gate_Has_23 _ _ _
      refine wpE_cond (o := (Operand.tmp 18)) (b := (decide (i < ((v16.len : Nat) : Int)))) (x := c_towpathref12_Gate_Has_24) (y := c_towpathref12_Gate_Has_25) (by kernel_rfl) (by kernel_rfl) (fun hb => ?_) (fun hb => ?_)
      · replace h := h.1 hb
        refine wpE_skip (by kernel_rfl) ?_
        change WpE _ _ c_towpathref12_Gate_Has_26 _ _ _
        refine wpE_seq (x := c_towpathref12_Gate_Has_27) (y := c_towpathref12_Gate_Has_37) (by kernel_rfl) ?_
        refine wpE_block (id := 1) (x := c_towpathref12_Gate_Has_28) (by kernel_rfl) ?_
        refine wpE_seq (x := c_towpathref12_Gate_Has_29) (y := c_towpathref12_Gate_Has_31) (by kernel_rfl) ?_
        refine wpE_region (id := 6) (ops := r_towpathref12_Gate_Has_29) (by kernel_rfl) ?_
        refine reg_run [.plain] 1 [(0, [], Value.pointer g), (1, [], Value.int .i64 number), (5, [], Value.int .i64 i), (21, [], Value.pointer g)] (by kernel_rfl) (by kernel_rfl) ?_
        obtain ⟨hp_22, h⟩ := h
        refine reg_conv [(0, [], Value.pointer g), (1, [], Value.int .i64 number), (5, [], Value.int .i64 i), (21, [], Value.pointer (some ⟨(pblk g), (poff g), none⟩))] (congrArg (fun pp => ([(0, [], Value.pointer g), (1, [], Value.int .i64 number), (5, [], Value.int .i64 i), (21, [], Value.pointer pp)] : GEnv)) hp_22) ?_
        refine reg_run [.plain] 2 [(0, [], Value.pointer g), (1, [], Value.int .i64 number), (5, [], Value.int .i64 i), (21, [], Value.pointer (some ⟨(pblk g), (poff g), none⟩)), (22, [], Value.pointer (some ⟨(pblk g), (poff g), none⟩))] (by kernel_rfl) (by kernel_rfl) ?_
        refine reg_run [.plain] 3 [(0, [], Value.pointer g), (1, [], Value.int .i64 number), (5, [], Value.int .i64 i), (23, [], Value.pointer (some ⟨(pblk g), (poff g) + 1, none⟩))] (by kernel_rfl) (by kernel_rfl) ?_
        obtain ⟨v24, hc, h⟩ := h
        refine reg_load1 (t := 22) (a := (Go.Operand.tmp 23)) (b := (pblk g)) (o := ((poff g) + 1)) (ty := 22) (dst := some 24) (by kernel_rfl) (by kernel_rfl) (by kernel_rfl) hc ?_
        refine reg_run [.plain] 5 [(0, [], Value.pointer g), (1, [], Value.int .i64 number), (5, [], Value.int .i64 i), (24, [], Value.slice v24.ptr v24.len v24.cap), (25, [], Value.int .i64 i)] (by kernel_rfl) (by kernel_rfl) ?_
        obtain ⟨hp_23, h⟩ := h
        refine reg_conv [(0, [], Value.pointer g), (1, [], Value.int .i64 number), (5, [], Value.int .i64 i), (24, [], Value.slice (some ⟨(pblk v24.ptr), (poff v24.ptr), none⟩) v24.len v24.cap), (25, [], Value.int .i64 i)] (congrArg (fun pp => ([(0, [], Value.pointer g), (1, [], Value.int .i64 number), (5, [], Value.int .i64 i), (24, [], Value.slice pp v24.len v24.cap), (25, [], Value.int .i64 i)] : GEnv)) hp_23) ?_
        obtain ⟨h0, h1, h⟩ := h
        refine reg_indexS1 (t := 22) (e := 3) (x := (Go.Operand.tmp 24)) (ix := (Go.Operand.tmp 25)) (b := (pblk v24.ptr)) (o := (poff v24.ptr)) (l := v24.len) (c := v24.cap) (k := .i64) (j := i) (ty := 0) (dst := some 26) (by kernel_rfl) (by kernel_rfl) (by kernel_rfl) (by kernel_rfl) (by kernel_rfl) h0 h1 ?_
        refine reg_run [] 6 [(0, [], Value.pointer g), (1, [], Value.int .i64 number), (5, [], Value.int .i64 i), (26, [], Value.pointer (some ⟨(pblk v24.ptr), (poff v24.ptr) + i.toNat, none⟩))] (by kernel_rfl) (by kernel_rfl) ?_
        obtain ⟨v27, hc, h⟩ := h
        refine reg_load1 (t := 3) (a := (Go.Operand.tmp 26)) (b := (pblk v24.ptr)) (o := ((poff v24.ptr) + i.toNat)) (ty := 3) (dst := some 27) (by kernel_rfl) (by kernel_rfl) (by kernel_rfl) hc ?_
        refine reg_run [.plain, .plain] 9 [(0, [], Value.pointer g), (1, [], Value.int .i64 number), (5, [], Value.int .i64 i), (29, [], Value.bool (v27 == number))] (by kernel_rfl) (by kernel_rfl) ?_
        refine reg_end [(0, Value.pointer g), (1, Value.int .i64 number), (5, Value.int .i64 i), (29, Value.bool (v27 == number))] (by kernel_rfl) (by kernel_rfl) ?_
        change WpE _ _ c_towpathref12_Gate_Has_31 _ _ _
        refine wpE_cond (o := (Operand.tmp 29)) (b := (v27 == number)) (x := c_towpathref12_Gate_Has_32) (y := c_towpathref12_Gate_Has_36) (by kernel_rfl) (by kernel_rfl) (fun hb => ?_) (fun hb => ?_)
        · replace h := h.1 hb
          refine wpE_seq (x := c_towpathref12_Gate_Has_33) (y := c_towpathref12_Gate_Has_35) (by kernel_rfl) ?_
          refine wpE_region (id := 7) (ops := r_towpathref12_Gate_Has_33) (by kernel_rfl) ?_
          refine reg_run [.plain] 1 [(4, [], Value.bool true)] (by kernel_rfl) (by kernel_rfl) ?_
          refine reg_end [(4, Value.bool true)] (by kernel_rfl) (by kernel_rfl) ?_
          change WpE _ _ c_towpathref12_Gate_Has_35 _ _ _
          refine wpE_ret (by kernel_rfl) ?_
          repeat (first | refine seqQ_ret ?_ | refine blockQ_ret ?_ | refine loopQ_ret ?_ | refine cutQ_ret ?_)
          exact retS (rs := [(Go.ResultVar.tmp 4)]) (v := Value.bool true) (by kernel_rfl) (⟨by kernel_rfl, trivial⟩) ⟨true, rfl, h⟩
        · replace h := h.2 hb
          refine wpE_skip (by kernel_rfl) ?_
          change WpE _ _ c_towpathref12_Gate_Has_37 _ _ _
          refine wpE_region (id := 5) (ops := r_towpathref12_Gate_Has_37) (by kernel_rfl) ?_
          refine reg_run [.plain, .plain, .plain] 3 [(0, [], Value.pointer g), (1, [], Value.int .i64 number), (5, [], Value.int .i64 (IntKind.i64.wrap (i + 1)))] (by kernel_rfl) (by kernel_rfl) ?_
          refine reg_end [(0, Value.pointer g), (1, Value.int .i64 number), (5, Value.int .i64 (IntKind.i64.wrap (i + 1)))] (by kernel_rfl) (by kernel_rfl) ?_
          have hb_ := again__h _ _ h
          exact ⟨_, hb_.2, [(0, Value.pointer g), (1, Value.int .i64 number), (5, Value.int .i64 (IntKind.i64.wrap (i + 1)))], Sub.mk (by kernel_rfl), (IntKind.i64.wrap (i + 1)), rfl, hb_.1, rfl⟩
      · replace h := h.2 hb
        refine wpE_exit (id := 0) (by kernel_rfl) ?_
        change WpE _ _ c_towpathref12_Gate_Has_39 _ _ _
        refine wpE_seq (x := c_towpathref12_Gate_Has_40) (y := c_towpathref12_Gate_Has_42) (by kernel_rfl) ?_
        refine wpE_region (id := 8) (ops := r_towpathref12_Gate_Has_40) (by kernel_rfl) ?_
        refine reg_run [.plain, .plain] 2 [(30, [], Value.int .i64 number), (31, [], Value.pointer g)] (by kernel_rfl) (by kernel_rfl) ?_
        obtain ⟨hp_24, h⟩ := h
        refine reg_conv [(30, [], Value.int .i64 number), (31, [], Value.pointer (some ⟨(pblk g), (poff g), none⟩))] (congrArg (fun pp => ([(30, [], Value.int .i64 number), (31, [], Value.pointer pp)] : GEnv)) hp_24) ?_
        refine reg_run [.plain] 3 [(30, [], Value.int .i64 number), (31, [], Value.pointer (some ⟨(pblk g), (poff g), none⟩)), (32, [], Value.pointer (some ⟨(pblk g), (poff g), none⟩))] (by kernel_rfl) (by kernel_rfl) ?_
        refine reg_run [.plain] 4 [(30, [], Value.int .i64 number), (33, [], Value.pointer (some ⟨(pblk g), (poff g), none⟩))] (by kernel_rfl) (by kernel_rfl) ?_
        obtain ⟨v34, hc, h⟩ := h
        refine reg_load1 (t := 3) (a := (Go.Operand.tmp 33)) (b := (pblk g)) (o := (poff g)) (ty := 3) (dst := some 34) (by kernel_rfl) (by kernel_rfl) (by kernel_rfl) hc ?_
        refine reg_run [.plain, .plain] 7 [(4, [], Value.bool (decide (number ≤ v34)))] (by kernel_rfl) (by kernel_rfl) ?_
        refine reg_end [(4, Value.bool (decide (number ≤ v34)))] (by kernel_rfl) (by kernel_rfl) ?_
        change WpE _ _ c_towpathref12_Gate_Has_42 _ _ _
        refine wpE_ret (by kernel_rfl) ?_
        repeat (first | refine seqQ_ret ?_ | refine blockQ_ret ?_ | refine loopQ_ret ?_ | refine cutQ_ret ?_)
        exact retS (rs := [(Go.ResultVar.tmp 4)]) (v := Value.bool (decide (number ≤ v34))) (by kernel_rfl) (⟨by kernel_rfl, trivial⟩) ⟨(decide (number ≤ v34)), rfl, h⟩
  · rintro e w' ⟨v, rfl, r0, rfl, h⟩; exact ⟨r0, rfl, h⟩
end Go.Proofs.YtchcljkflklddaaDoor
