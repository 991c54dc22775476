/- WRITTEN BY PROGRAM (dec.py): for each Go function the clean formula F, the call's contract C, and the proof S that F gives C. -/
import Derived.Test.YtfmkemmgakdddaaRows
import Derived.Test.YtfmkemmgakdddaaGF
namespace Go.Proofs.Ytfmkemmgakdddaa
open Go
set_option linter.unusedVariables false

/-! ### towpath/towpathref05.Decode (function 13) -/
noncomputable def c_towpathref05_Decode_0 : Code := (Try.f13.body).getD Code.skip
noncomputable def c_towpathref05_Decode_1 : Code := Code.l c_towpathref05_Decode_0
noncomputable def r_towpathref05_Decode_1 : Array Oper := Code.ops c_towpathref05_Decode_1
noncomputable def c_towpathref05_Decode_3 : Code := Code.r c_towpathref05_Decode_0
noncomputable def c_towpathref05_Decode_4 : Code := Code.l c_towpathref05_Decode_3
noncomputable def r_towpathref05_Decode_4 : Array Oper := Code.ops c_towpathref05_Decode_4
noncomputable def c_towpathref05_Decode_6 : Code := Code.r c_towpathref05_Decode_3
noncomputable def c_towpathref05_Decode_7 : Code := Code.l c_towpathref05_Decode_6
noncomputable def r_towpathref05_Decode_7 : Array Oper := Code.ops c_towpathref05_Decode_7
noncomputable def c_towpathref05_Decode_9 : Code := Code.r c_towpathref05_Decode_6
noncomputable def c_towpathref05_Decode_10 : Code := Code.l c_towpathref05_Decode_9
noncomputable def c_towpathref05_Decode_11 : Code := Code.l c_towpathref05_Decode_10
noncomputable def r_towpathref05_Decode_11 : Array Oper := Code.ops c_towpathref05_Decode_11
noncomputable def c_towpathref05_Decode_13 : Code := Code.r c_towpathref05_Decode_10
noncomputable def c_towpathref05_Decode_14 : Code := Code.l c_towpathref05_Decode_13
noncomputable def c_towpathref05_Decode_15 : Code := Code.l c_towpathref05_Decode_14
noncomputable def r_towpathref05_Decode_15 : Array Oper := Code.ops c_towpathref05_Decode_15
noncomputable def c_towpathref05_Decode_17 : Code := Code.r c_towpathref05_Decode_14
noncomputable def c_towpathref05_Decode_18 : Code := Code.r c_towpathref05_Decode_13
noncomputable def c_towpathref05_Decode_19 : Code := Code.r c_towpathref05_Decode_9
noncomputable def c_towpathref05_Decode_20 : Code := Code.l c_towpathref05_Decode_19
noncomputable def c_towpathref05_Decode_21 : Code := Code.l c_towpathref05_Decode_20
noncomputable def r_towpathref05_Decode_21 : Array Oper := Code.ops c_towpathref05_Decode_21
noncomputable def c_towpathref05_Decode_23 : Code := Code.r c_towpathref05_Decode_20
noncomputable def c_towpathref05_Decode_24 : Code := Code.l c_towpathref05_Decode_23
noncomputable def c_towpathref05_Decode_25 : Code := Code.l c_towpathref05_Decode_24
noncomputable def r_towpathref05_Decode_25 : Array Oper := Code.ops c_towpathref05_Decode_25
noncomputable def c_towpathref05_Decode_27 : Code := Code.r c_towpathref05_Decode_24
noncomputable def c_towpathref05_Decode_28 : Code := Code.r c_towpathref05_Decode_23
noncomputable def c_towpathref05_Decode_29 : Code := Code.r c_towpathref05_Decode_19
noncomputable def c_towpathref05_Decode_30 : Code := Code.l c_towpathref05_Decode_29
noncomputable def r_towpathref05_Decode_30 : Array Oper := Code.ops c_towpathref05_Decode_30
noncomputable def c_towpathref05_Decode_32 : Code := Code.r c_towpathref05_Decode_29
noncomputable def c_towpathref05_Decode_33 : Code := Code.l c_towpathref05_Decode_32
noncomputable def c_towpathref05_Decode_34 : Code := Code.l c_towpathref05_Decode_33
noncomputable def r_towpathref05_Decode_34 : Array Oper := Code.ops c_towpathref05_Decode_34
noncomputable def c_towpathref05_Decode_36 : Code := Code.r c_towpathref05_Decode_33
noncomputable def c_towpathref05_Decode_37 : Code := Code.l c_towpathref05_Decode_36
noncomputable def c_towpathref05_Decode_38 : Code := Code.l c_towpathref05_Decode_37
noncomputable def r_towpathref05_Decode_38 : Array Oper := Code.ops c_towpathref05_Decode_38
noncomputable def c_towpathref05_Decode_40 : Code := Code.r c_towpathref05_Decode_37
noncomputable def c_towpathref05_Decode_41 : Code := Code.r c_towpathref05_Decode_36
noncomputable def c_towpathref05_Decode_42 : Code := Code.r c_towpathref05_Decode_32
noncomputable def c_towpathref05_Decode_43 : Code := Code.l c_towpathref05_Decode_42
noncomputable def c_towpathref05_Decode_44 : Code := Code.l c_towpathref05_Decode_43
noncomputable def r_towpathref05_Decode_44 : Array Oper := Code.ops c_towpathref05_Decode_44
noncomputable def c_towpathref05_Decode_46 : Code := Code.r c_towpathref05_Decode_43
noncomputable def c_towpathref05_Decode_47 : Code := Code.l c_towpathref05_Decode_46
noncomputable def c_towpathref05_Decode_48 : Code := Code.l c_towpathref05_Decode_47
noncomputable def r_towpathref05_Decode_48 : Array Oper := Code.ops c_towpathref05_Decode_48
noncomputable def c_towpathref05_Decode_50 : Code := Code.r c_towpathref05_Decode_47
noncomputable def c_towpathref05_Decode_51 : Code := Code.r c_towpathref05_Decode_46
noncomputable def c_towpathref05_Decode_52 : Code := Code.r c_towpathref05_Decode_42
noncomputable def c_towpathref05_Decode_53 : Code := Code.l c_towpathref05_Decode_52
noncomputable def r_towpathref05_Decode_53 : Array Oper := Code.ops c_towpathref05_Decode_53
noncomputable def c_towpathref05_Decode_55 : Code := Code.r c_towpathref05_Decode_52
noncomputable def c_towpathref05_Decode_56 : Code := Code.l c_towpathref05_Decode_55
noncomputable def c_towpathref05_Decode_57 : Code := Code.l c_towpathref05_Decode_56
noncomputable def r_towpathref05_Decode_57 : Array Oper := Code.ops c_towpathref05_Decode_57
noncomputable def c_towpathref05_Decode_59 : Code := Code.r c_towpathref05_Decode_56
noncomputable def c_towpathref05_Decode_60 : Code := Code.l c_towpathref05_Decode_59
noncomputable def c_towpathref05_Decode_61 : Code := Code.l c_towpathref05_Decode_60
noncomputable def c_towpathref05_Decode_62 : Code := Code.l c_towpathref05_Decode_61
noncomputable def c_towpathref05_Decode_63 : Code := Code.l c_towpathref05_Decode_62
noncomputable def r_towpathref05_Decode_63 : Array Oper := Code.ops c_towpathref05_Decode_63
noncomputable def c_towpathref05_Decode_65 : Code := Code.r c_towpathref05_Decode_62
noncomputable def c_towpathref05_Decode_66 : Code := Code.l c_towpathref05_Decode_65
noncomputable def c_towpathref05_Decode_67 : Code := Code.r c_towpathref05_Decode_65
noncomputable def c_towpathref05_Decode_68 : Code := Code.r c_towpathref05_Decode_61
noncomputable def c_towpathref05_Decode_69 : Code := Code.l c_towpathref05_Decode_68
noncomputable def c_towpathref05_Decode_70 : Code := Code.l c_towpathref05_Decode_69
noncomputable def c_towpathref05_Decode_71 : Code := Code.l c_towpathref05_Decode_70
noncomputable def r_towpathref05_Decode_71 : Array Oper := Code.ops c_towpathref05_Decode_71
noncomputable def c_towpathref05_Decode_73 : Code := Code.r c_towpathref05_Decode_70
noncomputable def c_towpathref05_Decode_74 : Code := Code.l c_towpathref05_Decode_73
noncomputable def c_towpathref05_Decode_75 : Code := Code.l c_towpathref05_Decode_74
noncomputable def r_towpathref05_Decode_75 : Array Oper := Code.ops c_towpathref05_Decode_75
noncomputable def c_towpathref05_Decode_77 : Code := Code.r c_towpathref05_Decode_74
noncomputable def c_towpathref05_Decode_78 : Code := Code.l c_towpathref05_Decode_77
noncomputable def c_towpathref05_Decode_79 : Code := Code.l c_towpathref05_Decode_78
noncomputable def r_towpathref05_Decode_79 : Array Oper := Code.ops c_towpathref05_Decode_79
noncomputable def c_towpathref05_Decode_81 : Code := Code.r c_towpathref05_Decode_78
noncomputable def c_towpathref05_Decode_82 : Code := Code.r c_towpathref05_Decode_77
noncomputable def c_towpathref05_Decode_83 : Code := Code.r c_towpathref05_Decode_73
noncomputable def c_towpathref05_Decode_84 : Code := Code.l c_towpathref05_Decode_83
noncomputable def r_towpathref05_Decode_84 : Array Oper := Code.ops c_towpathref05_Decode_84
noncomputable def c_towpathref05_Decode_86 : Code := Code.r c_towpathref05_Decode_83
noncomputable def r_towpathref05_Decode_86 : Array Oper := Code.ops c_towpathref05_Decode_86
noncomputable def c_towpathref05_Decode_88 : Code := Code.r c_towpathref05_Decode_68
noncomputable def r_towpathref05_Decode_88 : Array Oper := Code.ops c_towpathref05_Decode_88
noncomputable def c_towpathref05_Decode_90 : Code := Code.r c_towpathref05_Decode_55
noncomputable def c_towpathref05_Decode_91 : Code := Code.l c_towpathref05_Decode_90
noncomputable def c_towpathref05_Decode_92 : Code := Code.l c_towpathref05_Decode_91
noncomputable def r_towpathref05_Decode_92 : Array Oper := Code.ops c_towpathref05_Decode_92
noncomputable def c_towpathref05_Decode_94 : Code := Code.r c_towpathref05_Decode_91
noncomputable def c_towpathref05_Decode_95 : Code := Code.l c_towpathref05_Decode_94
noncomputable def c_towpathref05_Decode_96 : Code := Code.l c_towpathref05_Decode_95
noncomputable def r_towpathref05_Decode_96 : Array Oper := Code.ops c_towpathref05_Decode_96
noncomputable def c_towpathref05_Decode_98 : Code := Code.r c_towpathref05_Decode_95
noncomputable def c_towpathref05_Decode_99 : Code := Code.r c_towpathref05_Decode_94
noncomputable def c_towpathref05_Decode_100 : Code := Code.r c_towpathref05_Decode_90
noncomputable def c_towpathref05_Decode_101 : Code := Code.l c_towpathref05_Decode_100
noncomputable def r_towpathref05_Decode_101 : Array Oper := Code.ops c_towpathref05_Decode_101
noncomputable def c_towpathref05_Decode_103 : Code := Code.r c_towpathref05_Decode_100
def o_towpathref05_Decode_15 : List Nat := [0, 1, 2, 3, 4]
def o_towpathref05_Decode_38 : List Nat := [0, 1, 2, 3, 4]

set_option maxRecDepth 100000 in
set_option maxHeartbeats 4000000 in
theorem S_towpathref05_Decode {b_ : Slc} {w : World} {R : T_api_Txn → Int → World → Prop} (h : F_towpathref05_Decode b_ R w) : C_towpathref05_Decode b_ w R := by
  unfold F_towpathref05_Decode at h
  unfold C_towpathref05_Decode
  refine Calls.mono (calls_of_wpE (args := [Value.slice b_.ptr b_.len b_.cap]) (R := fun v w' => ∃ (r0 : T_api_Txn) (r1 : Int), v = Value.tuple #[Value.agg #[Value.int .i64 r0.Number, Value.slice r0.Writes.ptr r0.Writes.len r0.Writes.cap], Value.int .i64 r1] ∧ R r0 r1 w') Try.func13 (c := c_towpathref05_Decode_0) (by kernel_rfl) 77 (by kernel_rfl) (by kernel_rfl) [(0, Value.slice b_.ptr b_.len b_.cap)] (by kernel_rfl) ?_) ?_
  · refine wpE_seq (x := c_towpathref05_Decode_1) (y := c_towpathref05_Decode_3) (by kernel_rfl) ?_
    refine wpE_region (id := 0) (ops := r_towpathref05_Decode_1) (by kernel_rfl) ?_
    refine reg_run [] 0 [(0, [], Value.slice b_.ptr b_.len b_.cap)] (by kernel_rfl) (by kernel_rfl) ?_
    refine reg_new (op := (Go.Op.alloc 27)) (ty := 0) (dst := some 2) (fun bb => Value.pointer (some ⟨bb, 0, none⟩)) (Obj.cells ([Value.int .i64 0, Value.slice none 0 0]).toArray ty_api_Txn (0, 0)) (by kernel_rfl) (by kernel_rfl) (fun b_1 w1 hb hw => ?_)
    replace h := h b_1 w1 hb hw
    clear hb hw
    refine reg_run [.plain] 2 [(0, [], Value.slice b_.ptr b_.len b_.cap), (2, [], Value.pointer (some ⟨b_1, 0, none⟩))] (by kernel_rfl) (by kernel_rfl) ?_
    refine reg_end [(0, Value.slice b_.ptr b_.len b_.cap), (2, Value.pointer (some ⟨b_1, 0, none⟩))] (by kernel_rfl) (by kernel_rfl) ?_
    change WpE _ _ c_towpathref05_Decode_3 _ _ _
    refine wpE_seq (x := c_towpathref05_Decode_4) (y := c_towpathref05_Decode_6) (by kernel_rfl) ?_
    refine wpE_region (id := 1) (ops := r_towpathref05_Decode_4) (by kernel_rfl) ?_
    refine reg_run [.plain, .plain] 2 [(2, [], Value.pointer (some ⟨b_1, 0, none⟩)), (13, [], Value.agg #[Value.bool false, Value.slice b_.ptr b_.len b_.cap, Value.int .i64 0, Value.int .i64 0])] (by kernel_rfl) (by kernel_rfl) ?_
    refine reg_new (op := (Go.Op.alloc 89)) (ty := 0) (dst := some 4) (fun bb => Value.pointer (some ⟨bb, 0, none⟩)) (Obj.cells ([Value.bool false, Value.slice none 0 0, Value.int .i64 0, Value.int .i64 0]).toArray ty_towpathref02_Reader (0, 0)) (by kernel_rfl) (by kernel_rfl) (fun b_2 w2 hb hw => ?_)
    replace h := h b_2 w2 hb hw
    clear hb hw
    refine reg_run [] 3 [(2, [], Value.pointer (some ⟨b_1, 0, none⟩)), (4, [], Value.pointer (some ⟨b_2, 0, none⟩)), (13, [], Value.agg #[Value.bool false, Value.slice b_.ptr b_.len b_.cap, Value.int .i64 0, Value.int .i64 0])] (by kernel_rfl) (by kernel_rfl) ?_
    obtain ⟨hc, h⟩ := h
    refine reg_store (t := 89) (a := (Go.Operand.tmp 4)) (x := (Go.Operand.tmp 13)) (b := b_2) (o := 0) (ty := 0) (dst := none) [Value.bool false, Value.slice b_.ptr b_.len b_.cap, Value.int .i64 0, Value.int .i64 0] (by kernel_rfl) (by kernel_rfl) (by kernel_rfl) (k := 4) (by kernel_rfl) (by kernel_rfl) (by kernel_rfl) hc (fun w3 hw => ?_)
    replace h := h w3 hw
    clear hw
    refine reg_end [(2, Value.pointer (some ⟨b_1, 0, none⟩)), (4, Value.pointer (some ⟨b_2, 0, none⟩))] (by kernel_rfl) (by kernel_rfl) ?_
    change WpE _ _ c_towpathref05_Decode_6 _ _ _
    refine wpE_seq (x := c_towpathref05_Decode_7) (y := c_towpathref05_Decode_9) (by kernel_rfl) ?_
    refine wpE_region (id := 2) (ops := r_towpathref05_Decode_7) (by kernel_rfl) ?_
    refine reg_run [] 0 [(2, [], Value.pointer (some ⟨b_1, 0, none⟩)), (4, [], Value.pointer (some ⟨b_2, 0, none⟩))] (by kernel_rfl) (by kernel_rfl) ?_
    obtain ⟨v15, hc, h⟩ := h
    refine reg_loadN (t := 89) (a := (Go.Operand.tmp 4)) (b := b_2) (o := 0) (ty := 89) (dst := some 15) [Value.bool v15.Gone, Value.slice v15.B.ptr v15.B.len v15.B.cap, Value.int .i64 v15.At, Value.int .i64 v15.Code] (by kernel_rfl) (by kernel_rfl) (by kernel_rfl) (k := 4) (by kernel_rfl) (by kernel_rfl) hc ?_
    refine reg_run [] 1 [(2, [], Value.pointer (some ⟨b_1, 0, none⟩)), (4, [], Value.pointer (some ⟨b_2, 0, none⟩)), (15, [], Value.agg #[Value.bool v15.Gone, Value.slice v15.B.ptr v15.B.len v15.B.cap, Value.int .i64 v15.At, Value.int .i64 v15.Code])] (by kernel_rfl) (by kernel_rfl) ?_
    refine reg_enter (op := (Go.Op.call (Go.Call.mk (Go.Callee.value (Go.Operand.func 45)) #[(Go.Operand.tmp 15)] #[89]))) (ty := 90) (dst := some 16) 45 #[Value.agg #[Value.bool v15.Gone, Value.slice v15.B.ptr v15.B.len v15.B.cap, Value.int .i64 v15.At, Value.int .i64 v15.Code]] (by kernel_rfl) (fun ww => by kernel_rfl) (Calls.mono h ?_)
    rintro _ w4 ⟨v16, n_, rfl, h⟩
    refine ⟨_, rfl, ?_⟩
    refine reg_run [.plain, .plain, .plain] 5 [(2, [], Value.pointer (some ⟨b_1, 0, none⟩)), (4, [], Value.pointer (some ⟨b_2, 0, none⟩)), (17, [], Value.agg #[Value.bool v16.Gone, Value.slice v16.B.ptr v16.B.len v16.B.cap, Value.int .i64 v16.At, Value.int .i64 v16.Code]), (18, [], Value.int .u64 n_)] (by kernel_rfl) (by kernel_rfl) ?_
    obtain ⟨hc, h⟩ := h
    refine reg_store (t := 89) (a := (Go.Operand.tmp 4)) (x := (Go.Operand.tmp 17)) (b := b_2) (o := 0) (ty := 0) (dst := none) [Value.bool v16.Gone, Value.slice v16.B.ptr v16.B.len v16.B.cap, Value.int .i64 v16.At, Value.int .i64 v16.Code] (by kernel_rfl) (by kernel_rfl) (by kernel_rfl) (k := 4) (by kernel_rfl) (by kernel_rfl) (by kernel_rfl) hc (fun w5 hw => ?_)
    replace h := h w5 hw
    clear hw
    refine reg_run [.plain] 7 [(2, [], Value.pointer (some ⟨b_1, 0, none⟩)), (4, [], Value.pointer (some ⟨b_2, 0, none⟩)), (5, [], Value.int .u64 n_)] (by kernel_rfl) (by kernel_rfl) ?_
    refine reg_end [(2, Value.pointer (some ⟨b_1, 0, none⟩)), (4, Value.pointer (some ⟨b_2, 0, none⟩)), (5, Value.int .u64 n_)] (by kernel_rfl) (by kernel_rfl) ?_
    change WpE _ _ c_towpathref05_Decode_9 _ _ _
    refine wpE_seq (x := c_towpathref05_Decode_10) (y := c_towpathref05_Decode_19) (by kernel_rfl) ?_
    refine wpE_seq (x := c_towpathref05_Decode_11) (y := c_towpathref05_Decode_13) (by kernel_rfl) ?_
    refine wpE_region (id := 3) (ops := r_towpathref05_Decode_11) (by kernel_rfl) ?_
    refine reg_run [.plain] 1 [(2, [], Value.pointer (some ⟨b_1, 0, none⟩)), (4, [], Value.pointer (some ⟨b_2, 0, none⟩)), (5, [], Value.int .u64 n_), (19, [], Value.pointer (some ⟨b_2, 3, none⟩))] (by kernel_rfl) (by kernel_rfl) ?_
    obtain ⟨v20, hc, h⟩ := h
    refine reg_load1 (t := 28) (a := (Go.Operand.tmp 19)) (b := b_2) (o := 3) (ty := 28) (dst := some 20) (by kernel_rfl) (by kernel_rfl) (by kernel_rfl) hc ?_
    refine reg_run [.plain] 3 [(2, [], Value.pointer (some ⟨b_1, 0, none⟩)), (4, [], Value.pointer (some ⟨b_2, 0, none⟩)), (5, [], Value.int .u64 n_), (21, [], Value.bool (v20 != 0))] (by kernel_rfl) (by kernel_rfl) ?_
    refine reg_end [(2, Value.pointer (some ⟨b_1, 0, none⟩)), (4, Value.pointer (some ⟨b_2, 0, none⟩)), (5, Value.int .u64 n_), (21, Value.bool (v20 != 0))] (by kernel_rfl) (by kernel_rfl) ?_
    change WpE _ _ c_towpathref05_Decode_13 _ _ _
    refine wpE_cond (o := (Operand.tmp 21)) (b := (v20 != 0)) (x := c_towpathref05_Decode_14) (y := c_towpathref05_Decode_18) (by kernel_rfl) (by kernel_rfl) (fun hb => ?_) (fun hb => ?_)
    · replace h := h.1 hb
      refine wpE_seq (x := c_towpathref05_Decode_15) (y := c_towpathref05_Decode_17) (by kernel_rfl) ?_
      refine wpE_mixregion (id := 4) (ops := r_towpathref05_Decode_15) o_towpathref05_Decode_15 (by kernel_rfl) (by kernel_rfl) (by kernel_rfl) (by kernel_rfl) (fun w6 hw => ?_)
      replace h := h w6 hw
      clear hw
      refine mreg_run [.plain, .plain] 2 [(2, [], Value.pointer (some ⟨b_1, 0, none⟩)), (22, [], Value.agg #[Value.int .i64 0, Value.slice none 0 0]), (23, [], Value.pointer (some ⟨b_2, 3, none⟩))] (by kernel_rfl) (by kernel_rfl) ?_
      obtain ⟨v24, hc, h⟩ := h
      refine mreg_load1 (i := 2) (by kernel_rfl) (t := 28) (a := (Go.Operand.tmp 23)) (b := b_2) (o := 3) (ty := 28) (dst := some 24) (by kernel_rfl) (by kernel_rfl) (by kernel_rfl) hc ?_
      refine mreg_run [] 3 [(2, [], Value.pointer (some ⟨b_1, 0, none⟩)), (22, [], Value.agg #[Value.int .i64 0, Value.slice none 0 0]), (24, [], Value.int .i64 v24)] (by kernel_rfl) (by kernel_rfl) ?_
      obtain ⟨hc, h⟩ := h
      refine mreg_store (t := 27) (a := (Go.Operand.tmp 2)) (x := (Go.Operand.tmp 22)) (b := b_1) (o := 0) (k := 2) (ty := 0) (dst := none) 3 [0] [(2, fun w' => w'.cell? ⟨b_2, 3, none⟩ = some (Value.int .i64 v24))] [Value.int .i64 0, Value.slice none 0 0] (by kernel_rfl) (by kernel_rfl) (by kernel_rfl) (by kernel_rfl) (by kernel_rfl) (by kernel_rfl) (by kernel_rfl) (by kernel_rfl) (by kernel_rfl) (by kernel_rfl) hc (fun w7 hw => ?_)
      replace h := h w7 hw
      clear hw
      obtain ⟨hk0, h⟩ := h
      refine ⟨⟨hk0, trivial⟩, ?_⟩
      refine mreg_run [.plain] 5 [(2, [], Value.pointer (some ⟨b_1, 0, none⟩)), (3, [], Value.int .i64 v24)] (by kernel_rfl) (by kernel_rfl) ?_
      refine mreg_end [(2, Value.pointer (some ⟨b_1, 0, none⟩)), (3, Value.int .i64 v24)] (by kernel_rfl) (by kernel_rfl) (by kernel_rfl) ?_
      change WpE _ _ c_towpathref05_Decode_17 _ _ _
      refine wpE_ret (by kernel_rfl) ?_
      obtain ⟨res, hc_res, h⟩ := h
      repeat (first | refine seqQ_ret ?_ | refine blockQ_ret ?_ | refine loopQ_ret ?_ | refine cutQ_ret ?_)
      exact retT (rs := [(Go.ResultVar.cell 2 27), (Go.ResultVar.tmp 3)]) (vs := [Value.agg #[Value.int .i64 res.Number, Value.slice res.Writes.ptr res.Writes.len res.Writes.cap], Value.int .i64 v24]) (by kernel_rfl) (⟨b_1, 0, [Value.int .i64 res.Number, Value.slice res.Writes.ptr res.Writes.len res.Writes.cap], by kernel_rfl, hc_res, (sizeP_of (k := 2) (by kernel_rfl) (by kernel_rfl)), .inl ⟨by kernel_rfl, rfl⟩, ⟨by kernel_rfl, trivial⟩⟩) (by kernel_rfl) ⟨res, v24, rfl, h⟩
    · replace h := h.2 hb
      refine wpE_skip (by kernel_rfl) ?_
      change WpE _ _ c_towpathref05_Decode_19 _ _ _
      refine wpE_seq (x := c_towpathref05_Decode_20) (y := c_towpathref05_Decode_29) (by kernel_rfl) ?_
      refine wpE_seq (x := c_towpathref05_Decode_21) (y := c_towpathref05_Decode_23) (by kernel_rfl) ?_
      refine wpE_region (id := 5) (ops := r_towpathref05_Decode_21) (by kernel_rfl) ?_
      refine reg_run [.plain, .plain, .plain, .plain, .plain, .pick] 6 [(2, [], Value.pointer (some ⟨b_1, 0, none⟩)), (4, [], Value.pointer (some ⟨b_2, 0, none⟩)), (5, [], Value.int .u64 n_), (30, [], Value.bool ((decide (n_ < 1)) || (decide (n_ > 65536))))] (by kernel_rfl) (by kernel_rfl) ?_
      refine reg_end [(2, Value.pointer (some ⟨b_1, 0, none⟩)), (4, Value.pointer (some ⟨b_2, 0, none⟩)), (5, Value.int .u64 n_), (30, Value.bool ((decide (n_ < 1)) || (decide (n_ > 65536))))] (by kernel_rfl) (by kernel_rfl) ?_
      change WpE _ _ c_towpathref05_Decode_23 _ _ _
      refine wpE_cond (o := (Operand.tmp 30)) (b := ((decide (n_ < 1)) || (decide (n_ > 65536)))) (x := c_towpathref05_Decode_24) (y := c_towpathref05_Decode_28) (by kernel_rfl) (by kernel_rfl) (fun hb => ?_) (fun hb => ?_)
      · replace h := h.1 hb
        refine wpE_seq (x := c_towpathref05_Decode_25) (y := c_towpathref05_Decode_27) (by kernel_rfl) ?_
        refine wpE_region (id := 6) (ops := r_towpathref05_Decode_25) (by kernel_rfl) ?_
        refine reg_run [.plain] 1 [(2, [], Value.pointer (some ⟨b_1, 0, none⟩)), (31, [], Value.agg #[Value.int .i64 0, Value.slice none 0 0])] (by kernel_rfl) (by kernel_rfl) ?_
        obtain ⟨hc, h⟩ := h
        refine reg_store (t := 27) (a := (Go.Operand.tmp 2)) (x := (Go.Operand.tmp 31)) (b := b_1) (o := 0) (ty := 0) (dst := none) [Value.int .i64 0, Value.slice none 0 0] (by kernel_rfl) (by kernel_rfl) (by kernel_rfl) (k := 2) (by kernel_rfl) (by kernel_rfl) (by kernel_rfl) hc (fun w8 hw => ?_)
        replace h := h w8 hw
        clear hw
        refine reg_run [.plain] 3 [(2, [], Value.pointer (some ⟨b_1, 0, none⟩)), (3, [], Value.int .i64 1)] (by kernel_rfl) (by kernel_rfl) ?_
        refine reg_end [(2, Value.pointer (some ⟨b_1, 0, none⟩)), (3, Value.int .i64 1)] (by kernel_rfl) (by kernel_rfl) ?_
        change WpE _ _ c_towpathref05_Decode_27 _ _ _
        refine wpE_ret (by kernel_rfl) ?_
        obtain ⟨res1, hc_res1, h⟩ := h
        repeat (first | refine seqQ_ret ?_ | refine blockQ_ret ?_ | refine loopQ_ret ?_ | refine cutQ_ret ?_)
        exact retT (rs := [(Go.ResultVar.cell 2 27), (Go.ResultVar.tmp 3)]) (vs := [Value.agg #[Value.int .i64 res1.Number, Value.slice res1.Writes.ptr res1.Writes.len res1.Writes.cap], Value.int .i64 1]) (by kernel_rfl) (⟨b_1, 0, [Value.int .i64 res1.Number, Value.slice res1.Writes.ptr res1.Writes.len res1.Writes.cap], by kernel_rfl, hc_res1, (sizeP_of (k := 2) (by kernel_rfl) (by kernel_rfl)), .inl ⟨by kernel_rfl, rfl⟩, ⟨by kernel_rfl, trivial⟩⟩) (by kernel_rfl) ⟨res1, 1, rfl, h⟩
      · replace h := h.2 hb
        refine wpE_skip (by kernel_rfl) ?_
        change WpE _ _ c_towpathref05_Decode_29 _ _ _
        refine wpE_seq (x := c_towpathref05_Decode_30) (y := c_towpathref05_Decode_32) (by kernel_rfl) ?_
        refine wpE_region (id := 7) (ops := r_towpathref05_Decode_30) (by kernel_rfl) ?_
        refine reg_run [] 0 [(2, [], Value.pointer (some ⟨b_1, 0, none⟩)), (4, [], Value.pointer (some ⟨b_2, 0, none⟩)), (5, [], Value.int .u64 n_)] (by kernel_rfl) (by kernel_rfl) ?_
        obtain ⟨v33, hc, h⟩ := h
        refine reg_loadN (t := 89) (a := (Go.Operand.tmp 4)) (b := b_2) (o := 0) (ty := 89) (dst := some 33) [Value.bool v33.Gone, Value.slice v33.B.ptr v33.B.len v33.B.cap, Value.int .i64 v33.At, Value.int .i64 v33.Code] (by kernel_rfl) (by kernel_rfl) (by kernel_rfl) (k := 4) (by kernel_rfl) (by kernel_rfl) hc ?_
        refine reg_run [] 1 [(2, [], Value.pointer (some ⟨b_1, 0, none⟩)), (4, [], Value.pointer (some ⟨b_2, 0, none⟩)), (5, [], Value.int .u64 n_), (33, [], Value.agg #[Value.bool v33.Gone, Value.slice v33.B.ptr v33.B.len v33.B.cap, Value.int .i64 v33.At, Value.int .i64 v33.Code])] (by kernel_rfl) (by kernel_rfl) ?_
        refine reg_enter (op := (Go.Op.call (Go.Call.mk (Go.Callee.value (Go.Operand.func 45)) #[(Go.Operand.tmp 33)] #[89]))) (ty := 90) (dst := some 34) 45 #[Value.agg #[Value.bool v33.Gone, Value.slice v33.B.ptr v33.B.len v33.B.cap, Value.int .i64 v33.At, Value.int .i64 v33.Code]] (by kernel_rfl) (fun ww => by kernel_rfl) (Calls.mono h ?_)
        rintro _ w9 ⟨v34, many, rfl, h⟩
        refine ⟨_, rfl, ?_⟩
        refine reg_run [.plain, .plain, .plain] 5 [(2, [], Value.pointer (some ⟨b_1, 0, none⟩)), (4, [], Value.pointer (some ⟨b_2, 0, none⟩)), (5, [], Value.int .u64 n_), (35, [], Value.agg #[Value.bool v34.Gone, Value.slice v34.B.ptr v34.B.len v34.B.cap, Value.int .i64 v34.At, Value.int .i64 v34.Code]), (36, [], Value.int .u64 many)] (by kernel_rfl) (by kernel_rfl) ?_
        obtain ⟨hc, h⟩ := h
        refine reg_store (t := 89) (a := (Go.Operand.tmp 4)) (x := (Go.Operand.tmp 35)) (b := b_2) (o := 0) (ty := 0) (dst := none) [Value.bool v34.Gone, Value.slice v34.B.ptr v34.B.len v34.B.cap, Value.int .i64 v34.At, Value.int .i64 v34.Code] (by kernel_rfl) (by kernel_rfl) (by kernel_rfl) (k := 4) (by kernel_rfl) (by kernel_rfl) (by kernel_rfl) hc (fun w10 hw => ?_)
        replace h := h w10 hw
        clear hw
        refine reg_run [.plain] 7 [(2, [], Value.pointer (some ⟨b_1, 0, none⟩)), (4, [], Value.pointer (some ⟨b_2, 0, none⟩)), (5, [], Value.int .u64 n_), (6, [], Value.int .u64 many)] (by kernel_rfl) (by kernel_rfl) ?_
        refine reg_end [(2, Value.pointer (some ⟨b_1, 0, none⟩)), (4, Value.pointer (some ⟨b_2, 0, none⟩)), (5, Value.int .u64 n_), (6, Value.int .u64 many)] (by kernel_rfl) (by kernel_rfl) ?_
        change WpE _ _ c_towpathref05_Decode_32 _ _ _
        refine wpE_seq (x := c_towpathref05_Decode_33) (y := c_towpathref05_Decode_42) (by kernel_rfl) ?_
        refine wpE_seq (x := c_towpathref05_Decode_34) (y := c_towpathref05_Decode_36) (by kernel_rfl) ?_
        refine wpE_region (id := 8) (ops := r_towpathref05_Decode_34) (by kernel_rfl) ?_
        refine reg_run [.plain] 1 [(2, [], Value.pointer (some ⟨b_1, 0, none⟩)), (4, [], Value.pointer (some ⟨b_2, 0, none⟩)), (5, [], Value.int .u64 n_), (6, [], Value.int .u64 many), (37, [], Value.pointer (some ⟨b_2, 3, none⟩))] (by kernel_rfl) (by kernel_rfl) ?_
        obtain ⟨v38, hc, h⟩ := h
        refine reg_load1 (t := 28) (a := (Go.Operand.tmp 37)) (b := b_2) (o := 3) (ty := 28) (dst := some 38) (by kernel_rfl) (by kernel_rfl) (by kernel_rfl) hc ?_
        refine reg_run [.plain] 3 [(2, [], Value.pointer (some ⟨b_1, 0, none⟩)), (4, [], Value.pointer (some ⟨b_2, 0, none⟩)), (5, [], Value.int .u64 n_), (6, [], Value.int .u64 many), (39, [], Value.bool (v38 != 0))] (by kernel_rfl) (by kernel_rfl) ?_
        refine reg_end [(2, Value.pointer (some ⟨b_1, 0, none⟩)), (4, Value.pointer (some ⟨b_2, 0, none⟩)), (5, Value.int .u64 n_), (6, Value.int .u64 many), (39, Value.bool (v38 != 0))] (by kernel_rfl) (by kernel_rfl) ?_
        change WpE _ _ c_towpathref05_Decode_36 _ _ _
        refine wpE_cond (o := (Operand.tmp 39)) (b := (v38 != 0)) (x := c_towpathref05_Decode_37) (y := c_towpathref05_Decode_41) (by kernel_rfl) (by kernel_rfl) (fun hb => ?_) (fun hb => ?_)
        · replace h := h.1 hb
          refine wpE_seq (x := c_towpathref05_Decode_38) (y := c_towpathref05_Decode_40) (by kernel_rfl) ?_
          refine wpE_mixregion (id := 9) (ops := r_towpathref05_Decode_38) o_towpathref05_Decode_38 (by kernel_rfl) (by kernel_rfl) (by kernel_rfl) (by kernel_rfl) (fun w11 hw => ?_)
          replace h := h w11 hw
          clear hw
          refine mreg_run [.plain, .plain] 2 [(2, [], Value.pointer (some ⟨b_1, 0, none⟩)), (40, [], Value.agg #[Value.int .i64 0, Value.slice none 0 0]), (41, [], Value.pointer (some ⟨b_2, 3, none⟩))] (by kernel_rfl) (by kernel_rfl) ?_
          obtain ⟨v42, hc, h⟩ := h
          refine mreg_load1 (i := 2) (by kernel_rfl) (t := 28) (a := (Go.Operand.tmp 41)) (b := b_2) (o := 3) (ty := 28) (dst := some 42) (by kernel_rfl) (by kernel_rfl) (by kernel_rfl) hc ?_
          refine mreg_run [] 3 [(2, [], Value.pointer (some ⟨b_1, 0, none⟩)), (40, [], Value.agg #[Value.int .i64 0, Value.slice none 0 0]), (42, [], Value.int .i64 v42)] (by kernel_rfl) (by kernel_rfl) ?_
          obtain ⟨hc, h⟩ := h
          refine mreg_store (t := 27) (a := (Go.Operand.tmp 2)) (x := (Go.Operand.tmp 40)) (b := b_1) (o := 0) (k := 2) (ty := 0) (dst := none) 3 [0] [(2, fun w' => w'.cell? ⟨b_2, 3, none⟩ = some (Value.int .i64 v42))] [Value.int .i64 0, Value.slice none 0 0] (by kernel_rfl) (by kernel_rfl) (by kernel_rfl) (by kernel_rfl) (by kernel_rfl) (by kernel_rfl) (by kernel_rfl) (by kernel_rfl) (by kernel_rfl) (by kernel_rfl) hc (fun w12 hw => ?_)
          replace h := h w12 hw
          clear hw
          obtain ⟨hk0, h⟩ := h
          refine ⟨⟨hk0, trivial⟩, ?_⟩
          refine mreg_run [.plain] 5 [(2, [], Value.pointer (some ⟨b_1, 0, none⟩)), (3, [], Value.int .i64 v42)] (by kernel_rfl) (by kernel_rfl) ?_
          refine mreg_end [(2, Value.pointer (some ⟨b_1, 0, none⟩)), (3, Value.int .i64 v42)] (by kernel_rfl) (by kernel_rfl) (by kernel_rfl) ?_
          change WpE _ _ c_towpathref05_Decode_40 _ _ _
          refine wpE_ret (by kernel_rfl) ?_
          obtain ⟨res2, hc_res2, h⟩ := h
          repeat (first | refine seqQ_ret ?_ | refine blockQ_ret ?_ | refine loopQ_ret ?_ | refine cutQ_ret ?_)
          exact retT (rs := [(Go.ResultVar.cell 2 27), (Go.ResultVar.tmp 3)]) (vs := [Value.agg #[Value.int .i64 res2.Number, Value.slice res2.Writes.ptr res2.Writes.len res2.Writes.cap], Value.int .i64 v42]) (by kernel_rfl) (⟨b_1, 0, [Value.int .i64 res2.Number, Value.slice res2.Writes.ptr res2.Writes.len res2.Writes.cap], by kernel_rfl, hc_res2, (sizeP_of (k := 2) (by kernel_rfl) (by kernel_rfl)), .inl ⟨by kernel_rfl, rfl⟩, ⟨by kernel_rfl, trivial⟩⟩) (by kernel_rfl) ⟨res2, v42, rfl, h⟩
        · replace h := h.2 hb
          refine wpE_skip (by kernel_rfl) ?_
          change WpE _ _ c_towpathref05_Decode_42 _ _ _
          refine wpE_seq (x := c_towpathref05_Decode_43) (y := c_towpathref05_Decode_52) (by kernel_rfl) ?_
          refine wpE_seq (x := c_towpathref05_Decode_44) (y := c_towpathref05_Decode_46) (by kernel_rfl) ?_
          refine wpE_region (id := 10) (ops := r_towpathref05_Decode_44) (by kernel_rfl) ?_
          refine reg_run [.plain, .plain] 2 [(2, [], Value.pointer (some ⟨b_1, 0, none⟩)), (4, [], Value.pointer (some ⟨b_2, 0, none⟩)), (5, [], Value.int .u64 n_), (6, [], Value.int .u64 many), (44, [], Value.bool (decide (many > 32)))] (by kernel_rfl) (by kernel_rfl) ?_
          refine reg_end [(2, Value.pointer (some ⟨b_1, 0, none⟩)), (4, Value.pointer (some ⟨b_2, 0, none⟩)), (5, Value.int .u64 n_), (6, Value.int .u64 many), (44, Value.bool (decide (many > 32)))] (by kernel_rfl) (by kernel_rfl) ?_
          change WpE _ _ c_towpathref05_Decode_46 _ _ _
          refine wpE_cond (o := (Operand.tmp 44)) (b := (decide (many > 32))) (x := c_towpathref05_Decode_47) (y := c_towpathref05_Decode_51) (by kernel_rfl) (by kernel_rfl) (fun hb => ?_) (fun hb => ?_)
          · replace h := h.1 hb
            refine wpE_seq (x := c_towpathref05_Decode_48) (y := c_towpathref05_Decode_50) (by kernel_rfl) ?_
            refine wpE_region (id := 11) (ops := r_towpathref05_Decode_48) (by kernel_rfl) ?_
            refine reg_run [.plain] 1 [(2, [], Value.pointer (some ⟨b_1, 0, none⟩)), (45, [], Value.agg #[Value.int .i64 0, Value.slice none 0 0])] (by kernel_rfl) (by kernel_rfl) ?_
            obtain ⟨hc, h⟩ := h
            refine reg_store (t := 27) (a := (Go.Operand.tmp 2)) (x := (Go.Operand.tmp 45)) (b := b_1) (o := 0) (ty := 0) (dst := none) [Value.int .i64 0, Value.slice none 0 0] (by kernel_rfl) (by kernel_rfl) (by kernel_rfl) (k := 2) (by kernel_rfl) (by kernel_rfl) (by kernel_rfl) hc (fun w13 hw => ?_)
            replace h := h w13 hw
            clear hw
            refine reg_run [.plain] 3 [(2, [], Value.pointer (some ⟨b_1, 0, none⟩)), (3, [], Value.int .i64 3)] (by kernel_rfl) (by kernel_rfl) ?_
            refine reg_end [(2, Value.pointer (some ⟨b_1, 0, none⟩)), (3, Value.int .i64 3)] (by kernel_rfl) (by kernel_rfl) ?_
            change WpE _ _ c_towpathref05_Decode_50 _ _ _
            refine wpE_ret (by kernel_rfl) ?_
            obtain ⟨res3, hc_res3, h⟩ := h
            repeat (first | refine seqQ_ret ?_ | refine blockQ_ret ?_ | refine loopQ_ret ?_ | refine cutQ_ret ?_)
            exact retT (rs := [(Go.ResultVar.cell 2 27), (Go.ResultVar.tmp 3)]) (vs := [Value.agg #[Value.int .i64 res3.Number, Value.slice res3.Writes.ptr res3.Writes.len res3.Writes.cap], Value.int .i64 3]) (by kernel_rfl) (⟨b_1, 0, [Value.int .i64 res3.Number, Value.slice res3.Writes.ptr res3.Writes.len res3.Writes.cap], by kernel_rfl, hc_res3, (sizeP_of (k := 2) (by kernel_rfl) (by kernel_rfl)), .inl ⟨by kernel_rfl, rfl⟩, ⟨by kernel_rfl, trivial⟩⟩) (by kernel_rfl) ⟨res3, 3, rfl, h⟩
          · replace h := h.2 hb
            refine wpE_skip (by kernel_rfl) ?_
            change WpE _ _ c_towpathref05_Decode_52 _ _ _
            refine wpE_seq (x := c_towpathref05_Decode_53) (y := c_towpathref05_Decode_55) (by kernel_rfl) ?_
            refine wpE_region (id := 12) (ops := r_towpathref05_Decode_53) (by kernel_rfl) ?_
            refine reg_run [.plain, .plain, .plain] 3 [(2, [], Value.pointer (some ⟨b_1, 0, none⟩)), (4, [], Value.pointer (some ⟨b_2, 0, none⟩)), (6, [], Value.int .u64 many), (48, [], Value.agg #[Value.int .i64 (IntKind.i64.wrap n_), Value.slice none 0 0])] (by kernel_rfl) (by kernel_rfl) ?_
            refine reg_new (op := (Go.Op.alloc 27)) (ty := 0) (dst := some 7) (fun bb => Value.pointer (some ⟨bb, 0, none⟩)) (Obj.cells ([Value.int .i64 0, Value.slice none 0 0]).toArray ty_api_Txn (0, 0)) (by kernel_rfl) (by kernel_rfl) (fun b_3 w14 hb hw => ?_)
            replace h := h b_3 w14 hb hw
            clear hb hw
            refine reg_run [] 4 [(2, [], Value.pointer (some ⟨b_1, 0, none⟩)), (4, [], Value.pointer (some ⟨b_2, 0, none⟩)), (6, [], Value.int .u64 many), (7, [], Value.pointer (some ⟨b_3, 0, none⟩)), (48, [], Value.agg #[Value.int .i64 (IntKind.i64.wrap n_), Value.slice none 0 0])] (by kernel_rfl) (by kernel_rfl) ?_
            obtain ⟨hc, h⟩ := h
            refine reg_store (t := 27) (a := (Go.Operand.tmp 7)) (x := (Go.Operand.tmp 48)) (b := b_3) (o := 0) (ty := 0) (dst := none) [Value.int .i64 (IntKind.i64.wrap n_), Value.slice none 0 0] (by kernel_rfl) (by kernel_rfl) (by kernel_rfl) (k := 2) (by kernel_rfl) (by kernel_rfl) (by kernel_rfl) hc (fun w15 hw => ?_)
            replace h := h w15 hw
            clear hw
            refine reg_end [(2, Value.pointer (some ⟨b_1, 0, none⟩)), (4, Value.pointer (some ⟨b_2, 0, none⟩)), (6, Value.int .u64 many), (7, Value.pointer (some ⟨b_3, 0, none⟩))] (by kernel_rfl) (by kernel_rfl) ?_
            change WpE _ _ c_towpathref05_Decode_55 _ _ _
            refine wpE_seq (x := c_towpathref05_Decode_56) (y := c_towpathref05_Decode_90) (by kernel_rfl) ?_
            refine wpE_seq (x := c_towpathref05_Decode_57) (y := c_towpathref05_Decode_59) (by kernel_rfl) ?_
            refine wpE_region (id := 13) (ops := r_towpathref05_Decode_57) (by kernel_rfl) ?_
            refine reg_run [.plain] 1 [(2, [], Value.pointer (some ⟨b_1, 0, none⟩)), (4, [], Value.pointer (some ⟨b_2, 0, none⟩)), (6, [], Value.int .u64 many), (7, [], Value.pointer (some ⟨b_3, 0, none⟩)), (8, [], Value.int .i64 0)] (by kernel_rfl) (by kernel_rfl) ?_
            refine reg_end [(2, Value.pointer (some ⟨b_1, 0, none⟩)), (4, Value.pointer (some ⟨b_2, 0, none⟩)), (6, Value.int .u64 many), (7, Value.pointer (some ⟨b_3, 0, none⟩)), (8, Value.int .i64 0)] (by kernel_rfl) (by kernel_rfl) ?_
            change WpE _ _ c_towpathref05_Decode_59 _ _ _
            refine wpE_block (id := 0) (x := c_towpathref05_Decode_60) (by kernel_rfl) ?_
            obtain ⟨I, μ, h0, hr⟩ := h
            refine wpE_loop (x := c_towpathref05_Decode_61) (by kernel_rfl) (fun m l w => ∃ (i : Int), l = [(2, Value.pointer (some ⟨b_1, 0, none⟩)), (4, Value.pointer (some ⟨b_2, 0, none⟩)), (6, Value.int .u64 many), (7, Value.pointer (some ⟨b_3, 0, none⟩)), (8, Value.int .i64 i)] ∧ I i w ∧ μ i w = m) (l' := [(2, Value.pointer (some ⟨b_1, 0, none⟩)), (4, Value.pointer (some ⟨b_2, 0, none⟩)), (6, Value.int .u64 many), (7, Value.pointer (some ⟨b_3, 0, none⟩)), (8, Value.int .i64 0)]) (Sub.mk (by kernel_rfl)) ⟨0, rfl, h0, rfl⟩ ?_
            rintro _ _ w16 ⟨i, rfl, hI, rfl⟩
            obtain ⟨again_, again__h, h⟩ : ∃ again_ : Int → World → Prop, (∀ i' w', again_ i' w' → I i' w' ∧ μ i' w' < μ i w16) ∧ F_towpathref05_Decode_L0 R b_1 b_2 many b_3 again_ i w16 := ⟨_, fun _ _ h => h, hr i w16 hI⟩
            clear h0 hI
            unfold F_towpathref05_Decode_L0 at h
            refine wpE_seq (x := c_towpathref05_Decode_62) (y := c_towpathref05_Decode_68) (by kernel_rfl) ?_
            refine wpE_seq (x := c_towpathref05_Decode_63) (y := c_towpathref05_Decode_65) (by kernel_rfl) ?_
            refine wpE_region (id := 14) (ops := r_towpathref05_Decode_63) (by kernel_rfl) ?_
            refine reg_run [.plain, .plain, .plain, .plain] 4 [(2, [], Value.pointer (some ⟨b_1, 0, none⟩)), (4, [], Value.pointer (some ⟨b_2, 0, none⟩)), (6, [], Value.int .u64 many), (7, [], Value.pointer (some ⟨b_3, 0, none⟩)), (8, [], Value.int .i64 i), (52, [], Value.bool (decide (i < (IntKind.i64.wrap many))))] (by kernel_rfl) (by kernel_rfl) ?_
            refine reg_end [(2, Value.pointer (some ⟨b_1, 0, none⟩)), (4, Value.pointer (some ⟨b_2, 0, none⟩)), (6, Value.int .u64 many), (7, Value.pointer (some ⟨b_3, 0, none⟩)), (8, Value.int .i64 i), (52, Value.bool (decide (i < (IntKind.i64.wrap many))))] (by kernel_rfl) (by kernel_rfl) ?_
            change WpE _ _ c_towpathref05_Decode_65 _ _ _
            refine wpE_cond (o := (Operand.tmp 52)) (b := (decide (i < (IntKind.i64.wrap many)))) (x := c_towpathref05_Decode_66) (y := c_towpathref05_Decode_67) (by kernel_rfl) (by kernel_rfl) (fun hb => ?_) (fun hb => ?_)
            · replace h := h.1 hb
              refine wpE_skip (by kernel_rfl) ?_
              change WpE _ _ c_towpathref05_Decode_68 _ _ _
              refine wpE_seq (x := c_towpathref05_Decode_69) (y := c_towpathref05_Decode_88) (by kernel_rfl) ?_
              refine wpE_block (id := 1) (x := c_towpathref05_Decode_70) (by kernel_rfl) ?_
              refine wpE_seq (x := c_towpathref05_Decode_71) (y := c_towpathref05_Decode_73) (by kernel_rfl) ?_
              refine wpE_region (id := 16) (ops := r_towpathref05_Decode_71) (by kernel_rfl) ?_
              refine reg_run [] 0 [(2, [], Value.pointer (some ⟨b_1, 0, none⟩)), (4, [], Value.pointer (some ⟨b_2, 0, none⟩)), (6, [], Value.int .u64 many), (7, [], Value.pointer (some ⟨b_3, 0, none⟩)), (8, [], Value.int .i64 i)] (by kernel_rfl) (by kernel_rfl) ?_
              obtain ⟨v56, hc, h⟩ := h
              refine reg_loadN (t := 89) (a := (Go.Operand.tmp 4)) (b := b_2) (o := 0) (ty := 89) (dst := some 56) [Value.bool v56.Gone, Value.slice v56.B.ptr v56.B.len v56.B.cap, Value.int .i64 v56.At, Value.int .i64 v56.Code] (by kernel_rfl) (by kernel_rfl) (by kernel_rfl) (k := 4) (by kernel_rfl) (by kernel_rfl) hc ?_
              refine reg_run [] 1 [(2, [], Value.pointer (some ⟨b_1, 0, none⟩)), (4, [], Value.pointer (some ⟨b_2, 0, none⟩)), (6, [], Value.int .u64 many), (7, [], Value.pointer (some ⟨b_3, 0, none⟩)), (8, [], Value.int .i64 i), (56, [], Value.agg #[Value.bool v56.Gone, Value.slice v56.B.ptr v56.B.len v56.B.cap, Value.int .i64 v56.At, Value.int .i64 v56.Code])] (by kernel_rfl) (by kernel_rfl) ?_
              refine reg_enter (op := (Go.Op.call (Go.Call.mk (Go.Callee.value (Go.Operand.func 46)) #[(Go.Operand.tmp 56)] #[89]))) (ty := 92) (dst := some 57) 46 #[Value.agg #[Value.bool v56.Gone, Value.slice v56.B.ptr v56.B.len v56.B.cap, Value.int .i64 v56.At, Value.int .i64 v56.Code]] (by kernel_rfl) (fun ww => by kernel_rfl) (Calls.mono h ?_)
              rintro _ w17 ⟨v57, v57_1, e, rfl, h⟩
              refine ⟨_, rfl, ?_⟩
              refine reg_run [.plain, .plain, .plain, .plain] 6 [(2, [], Value.pointer (some ⟨b_1, 0, none⟩)), (4, [], Value.pointer (some ⟨b_2, 0, none⟩)), (6, [], Value.int .u64 many), (7, [], Value.pointer (some ⟨b_3, 0, none⟩)), (8, [], Value.int .i64 i), (58, [], Value.agg #[Value.bool v57.Gone, Value.slice v57.B.ptr v57.B.len v57.B.cap, Value.int .i64 v57.At, Value.int .i64 v57.Code]), (59, [], Value.agg #[Value.string v57_1.Key, Value.string v57_1.Val, Value.bool v57_1.Drop]), (60, [], Value.int .i64 e)] (by kernel_rfl) (by kernel_rfl) ?_
              refine reg_new (op := (Go.Op.alloc 89)) (ty := 0) (dst := some 9) (fun bb => Value.pointer (some ⟨bb, 0, none⟩)) (Obj.cells ([Value.bool false, Value.slice none 0 0, Value.int .i64 0, Value.int .i64 0]).toArray ty_towpathref02_Reader (0, 0)) (by kernel_rfl) (by kernel_rfl) (fun b_4 w18 hb hw => ?_)
              replace h := h b_4 w18 hb hw
              clear hb hw
              refine reg_run [] 7 [(2, [], Value.pointer (some ⟨b_1, 0, none⟩)), (4, [], Value.pointer (some ⟨b_2, 0, none⟩)), (6, [], Value.int .u64 many), (7, [], Value.pointer (some ⟨b_3, 0, none⟩)), (8, [], Value.int .i64 i), (9, [], Value.pointer (some ⟨b_4, 0, none⟩)), (58, [], Value.agg #[Value.bool v57.Gone, Value.slice v57.B.ptr v57.B.len v57.B.cap, Value.int .i64 v57.At, Value.int .i64 v57.Code]), (59, [], Value.agg #[Value.string v57_1.Key, Value.string v57_1.Val, Value.bool v57_1.Drop]), (60, [], Value.int .i64 e)] (by kernel_rfl) (by kernel_rfl) ?_
              refine reg_new (op := (Go.Op.alloc 61)) (ty := 0) (dst := some 10) (fun bb => Value.pointer (some ⟨bb, 0, none⟩)) (Obj.cells ([Value.string ByteArray.empty, Value.string ByteArray.empty, Value.bool false]).toArray ty_api_Write (0, 0)) (by kernel_rfl) (by kernel_rfl) (fun b_5 w19 hb hw => ?_)
              replace h := h b_5 w19 hb hw
              clear hb hw
              refine reg_run [] 8 [(2, [], Value.pointer (some ⟨b_1, 0, none⟩)), (4, [], Value.pointer (some ⟨b_2, 0, none⟩)), (6, [], Value.int .u64 many), (7, [], Value.pointer (some ⟨b_3, 0, none⟩)), (8, [], Value.int .i64 i), (9, [], Value.pointer (some ⟨b_4, 0, none⟩)), (10, [], Value.pointer (some ⟨b_5, 0, none⟩)), (58, [], Value.agg #[Value.bool v57.Gone, Value.slice v57.B.ptr v57.B.len v57.B.cap, Value.int .i64 v57.At, Value.int .i64 v57.Code]), (59, [], Value.agg #[Value.string v57_1.Key, Value.string v57_1.Val, Value.bool v57_1.Drop]), (60, [], Value.int .i64 e)] (by kernel_rfl) (by kernel_rfl) ?_
              obtain ⟨hc, h⟩ := h
              refine reg_store (t := 89) (a := (Go.Operand.tmp 9)) (x := (Go.Operand.tmp 58)) (b := b_4) (o := 0) (ty := 0) (dst := none) [Value.bool v57.Gone, Value.slice v57.B.ptr v57.B.len v57.B.cap, Value.int .i64 v57.At, Value.int .i64 v57.Code] (by kernel_rfl) (by kernel_rfl) (by kernel_rfl) (k := 4) (by kernel_rfl) (by kernel_rfl) (by kernel_rfl) hc (fun w20 hw => ?_)
              replace h := h w20 hw
              clear hw
              refine reg_run [] 9 [(2, [], Value.pointer (some ⟨b_1, 0, none⟩)), (4, [], Value.pointer (some ⟨b_2, 0, none⟩)), (6, [], Value.int .u64 many), (7, [], Value.pointer (some ⟨b_3, 0, none⟩)), (8, [], Value.int .i64 i), (9, [], Value.pointer (some ⟨b_4, 0, none⟩)), (10, [], Value.pointer (some ⟨b_5, 0, none⟩)), (59, [], Value.agg #[Value.string v57_1.Key, Value.string v57_1.Val, Value.bool v57_1.Drop]), (60, [], Value.int .i64 e)] (by kernel_rfl) (by kernel_rfl) ?_
              obtain ⟨hc, h⟩ := h
              refine reg_store (t := 61) (a := (Go.Operand.tmp 10)) (x := (Go.Operand.tmp 59)) (b := b_5) (o := 0) (ty := 0) (dst := none) [Value.string v57_1.Key, Value.string v57_1.Val, Value.bool v57_1.Drop] (by kernel_rfl) (by kernel_rfl) (by kernel_rfl) (k := 3) (by kernel_rfl) (by kernel_rfl) (by kernel_rfl) hc (fun w21 hw => ?_)
              replace h := h w21 hw
              clear hw
              refine reg_run [.plain] 11 [(2, [], Value.pointer (some ⟨b_1, 0, none⟩)), (4, [], Value.pointer (some ⟨b_2, 0, none⟩)), (6, [], Value.int .u64 many), (7, [], Value.pointer (some ⟨b_3, 0, none⟩)), (8, [], Value.int .i64 i), (9, [], Value.pointer (some ⟨b_4, 0, none⟩)), (10, [], Value.pointer (some ⟨b_5, 0, none⟩)), (11, [], Value.int .i64 e)] (by kernel_rfl) (by kernel_rfl) ?_
              refine reg_end [(2, Value.pointer (some ⟨b_1, 0, none⟩)), (4, Value.pointer (some ⟨b_2, 0, none⟩)), (6, Value.int .u64 many), (7, Value.pointer (some ⟨b_3, 0, none⟩)), (8, Value.int .i64 i), (9, Value.pointer (some ⟨b_4, 0, none⟩)), (10, Value.pointer (some ⟨b_5, 0, none⟩)), (11, Value.int .i64 e)] (by kernel_rfl) (by kernel_rfl) ?_
              change WpE _ _ c_towpathref05_Decode_73 _ _ _
              refine wpE_seq (x := c_towpathref05_Decode_74) (y := c_towpathref05_Decode_83) (by kernel_rfl) ?_
              refine wpE_seq (x := c_towpathref05_Decode_75) (y := c_towpathref05_Decode_77) (by kernel_rfl) ?_
              refine wpE_region (id := 17) (ops := r_towpathref05_Decode_75) (by kernel_rfl) ?_
              refine reg_run [.plain, .plain] 2 [(2, [], Value.pointer (some ⟨b_1, 0, none⟩)), (4, [], Value.pointer (some ⟨b_2, 0, none⟩)), (6, [], Value.int .u64 many), (7, [], Value.pointer (some ⟨b_3, 0, none⟩)), (8, [], Value.int .i64 i), (9, [], Value.pointer (some ⟨b_4, 0, none⟩)), (10, [], Value.pointer (some ⟨b_5, 0, none⟩)), (11, [], Value.int .i64 e), (62, [], Value.bool (e != 0))] (by kernel_rfl) (by kernel_rfl) ?_
              refine reg_end [(2, Value.pointer (some ⟨b_1, 0, none⟩)), (4, Value.pointer (some ⟨b_2, 0, none⟩)), (6, Value.int .u64 many), (7, Value.pointer (some ⟨b_3, 0, none⟩)), (8, Value.int .i64 i), (9, Value.pointer (some ⟨b_4, 0, none⟩)), (10, Value.pointer (some ⟨b_5, 0, none⟩)), (11, Value.int .i64 e), (62, Value.bool (e != 0))] (by kernel_rfl) (by kernel_rfl) ?_
              change WpE _ _ c_towpathref05_Decode_77 _ _ _
              refine wpE_cond (o := (Operand.tmp 62)) (b := (e != 0)) (x := c_towpathref05_Decode_78) (y := c_towpathref05_Decode_82) (by kernel_rfl) (by kernel_rfl) (fun hb => ?_) (fun hb => ?_)
              · replace h := h.1 hb
                refine wpE_seq (x := c_towpathref05_Decode_79) (y := c_towpathref05_Decode_81) (by kernel_rfl) ?_
                refine wpE_region (id := 18) (ops := r_towpathref05_Decode_79) (by kernel_rfl) ?_
                refine reg_run [.plain, .plain] 2 [(2, [], Value.pointer (some ⟨b_1, 0, none⟩)), (63, [], Value.agg #[Value.int .i64 0, Value.slice none 0 0]), (64, [], Value.int .i64 e)] (by kernel_rfl) (by kernel_rfl) ?_
                obtain ⟨hc, h⟩ := h
                refine reg_store (t := 27) (a := (Go.Operand.tmp 2)) (x := (Go.Operand.tmp 63)) (b := b_1) (o := 0) (ty := 0) (dst := none) [Value.int .i64 0, Value.slice none 0 0] (by kernel_rfl) (by kernel_rfl) (by kernel_rfl) (k := 2) (by kernel_rfl) (by kernel_rfl) (by kernel_rfl) hc (fun w22 hw => ?_)
                replace h := h w22 hw
                clear hw
                refine reg_run [.plain] 4 [(2, [], Value.pointer (some ⟨b_1, 0, none⟩)), (3, [], Value.int .i64 e)] (by kernel_rfl) (by kernel_rfl) ?_
                refine reg_end [(2, Value.pointer (some ⟨b_1, 0, none⟩)), (3, Value.int .i64 e)] (by kernel_rfl) (by kernel_rfl) ?_
                change WpE _ _ c_towpathref05_Decode_81 _ _ _
                refine wpE_ret (by kernel_rfl) ?_
                obtain ⟨res4, hc_res4, h⟩ := h
                repeat (first | refine seqQ_ret ?_ | refine blockQ_ret ?_ | refine loopQ_ret ?_ | refine cutQ_ret ?_)
                exact retT (rs := [(Go.ResultVar.cell 2 27), (Go.ResultVar.tmp 3)]) (vs := [Value.agg #[Value.int .i64 res4.Number, Value.slice res4.Writes.ptr res4.Writes.len res4.Writes.cap], Value.int .i64 e]) (by kernel_rfl) (⟨b_1, 0, [Value.int .i64 res4.Number, Value.slice res4.Writes.ptr res4.Writes.len res4.Writes.cap], by kernel_rfl, hc_res4, (sizeP_of (k := 2) (by kernel_rfl) (by kernel_rfl)), .inl ⟨by kernel_rfl, rfl⟩, ⟨by kernel_rfl, trivial⟩⟩) (by kernel_rfl) ⟨res4, e, rfl, h⟩
              · replace h := h.2 hb
                refine wpE_skip (by kernel_rfl) ?_
                change WpE _ _ c_towpathref05_Decode_83 _ _ _
                refine wpE_seq (x := c_towpathref05_Decode_84) (y := c_towpathref05_Decode_86) (by kernel_rfl) ?_
                refine wpE_region (id := 19) (ops := r_towpathref05_Decode_84) (by kernel_rfl) ?_
                refine reg_run [] 0 [(2, [], Value.pointer (some ⟨b_1, 0, none⟩)), (4, [], Value.pointer (some ⟨b_2, 0, none⟩)), (6, [], Value.int .u64 many), (7, [], Value.pointer (some ⟨b_3, 0, none⟩)), (8, [], Value.int .i64 i), (9, [], Value.pointer (some ⟨b_4, 0, none⟩)), (10, [], Value.pointer (some ⟨b_5, 0, none⟩))] (by kernel_rfl) (by kernel_rfl) ?_
                obtain ⟨v65, hc, h⟩ := h
                refine reg_loadN (t := 89) (a := (Go.Operand.tmp 9)) (b := b_4) (o := 0) (ty := 89) (dst := some 65) [Value.bool v65.Gone, Value.slice v65.B.ptr v65.B.len v65.B.cap, Value.int .i64 v65.At, Value.int .i64 v65.Code] (by kernel_rfl) (by kernel_rfl) (by kernel_rfl) (k := 4) (by kernel_rfl) (by kernel_rfl) hc ?_
                refine reg_run [] 1 [(2, [], Value.pointer (some ⟨b_1, 0, none⟩)), (4, [], Value.pointer (some ⟨b_2, 0, none⟩)), (6, [], Value.int .u64 many), (7, [], Value.pointer (some ⟨b_3, 0, none⟩)), (8, [], Value.int .i64 i), (10, [], Value.pointer (some ⟨b_5, 0, none⟩)), (65, [], Value.agg #[Value.bool v65.Gone, Value.slice v65.B.ptr v65.B.len v65.B.cap, Value.int .i64 v65.At, Value.int .i64 v65.Code])] (by kernel_rfl) (by kernel_rfl) ?_
                obtain ⟨hc, h⟩ := h
                refine reg_store (t := 89) (a := (Go.Operand.tmp 4)) (x := (Go.Operand.tmp 65)) (b := b_2) (o := 0) (ty := 0) (dst := none) [Value.bool v65.Gone, Value.slice v65.B.ptr v65.B.len v65.B.cap, Value.int .i64 v65.At, Value.int .i64 v65.Code] (by kernel_rfl) (by kernel_rfl) (by kernel_rfl) (k := 4) (by kernel_rfl) (by kernel_rfl) (by kernel_rfl) hc (fun w23 hw => ?_)
                replace h := h w23 hw
                clear hw
                refine reg_end [(2, Value.pointer (some ⟨b_1, 0, none⟩)), (4, Value.pointer (some ⟨b_2, 0, none⟩)), (6, Value.int .u64 many), (7, Value.pointer (some ⟨b_3, 0, none⟩)), (8, Value.int .i64 i), (10, Value.pointer (some ⟨b_5, 0, none⟩))] (by kernel_rfl) (by kernel_rfl) ?_
                change WpE _ _ c_towpathref05_Decode_86 _ _ _
                refine wpE_region (id := 20) (ops := r_towpathref05_Decode_86) (by kernel_rfl) ?_
                refine reg_run [.plain] 1 [(2, [], Value.pointer (some ⟨b_1, 0, none⟩)), (4, [], Value.pointer (some ⟨b_2, 0, none⟩)), (6, [], Value.int .u64 many), (7, [], Value.pointer (some ⟨b_3, 0, none⟩)), (8, [], Value.int .i64 i), (10, [], Value.pointer (some ⟨b_5, 0, none⟩)), (66, [], Value.pointer (some ⟨b_3, 1, none⟩))] (by kernel_rfl) (by kernel_rfl) ?_
                obtain ⟨v67, hc, h⟩ := h
                refine reg_load1 (t := 25) (a := (Go.Operand.tmp 66)) (b := b_3) (o := 1) (ty := 25) (dst := some 67) (by kernel_rfl) (by kernel_rfl) (by kernel_rfl) hc ?_
                refine reg_run [] 2 [(2, [], Value.pointer (some ⟨b_1, 0, none⟩)), (4, [], Value.pointer (some ⟨b_2, 0, none⟩)), (6, [], Value.int .u64 many), (7, [], Value.pointer (some ⟨b_3, 0, none⟩)), (8, [], Value.int .i64 i), (10, [], Value.pointer (some ⟨b_5, 0, none⟩)), (67, [], Value.slice v67.ptr v67.len v67.cap)] (by kernel_rfl) (by kernel_rfl) ?_
                obtain ⟨v68, hc, h⟩ := h
                refine reg_loadN (t := 61) (a := (Go.Operand.tmp 10)) (b := b_5) (o := 0) (ty := 61) (dst := some 68) [Value.string v68.Key, Value.string v68.Val, Value.bool v68.Drop] (by kernel_rfl) (by kernel_rfl) (by kernel_rfl) (k := 3) (by kernel_rfl) (by kernel_rfl) hc ?_
                refine reg_run [] 3 [(2, [], Value.pointer (some ⟨b_1, 0, none⟩)), (4, [], Value.pointer (some ⟨b_2, 0, none⟩)), (6, [], Value.int .u64 many), (7, [], Value.pointer (some ⟨b_3, 0, none⟩)), (8, [], Value.int .i64 i), (67, [], Value.slice v67.ptr v67.len v67.cap), (68, [], Value.agg #[Value.string v68.Key, Value.string v68.Val, Value.bool v68.Drop])] (by kernel_rfl) (by kernel_rfl) ?_
                refine reg_new (op := (Go.Op.buildSlice 25 1 #[(0, (Go.Operand.tmp 68))])) (ty := 25) (dst := some 69) (fun bb => Value.slice (some ⟨bb, 0, none⟩) 1 1) (Obj.cells ([Value.string v68.Key, Value.string v68.Val, Value.bool v68.Drop]).toArray ty_api_Write (0, 0)) (by kernel_rfl) (by kernel_rfl) (fun b_6 w24 hb hw => ?_)
                replace h := h b_6 w24 hb hw
                clear hb hw
                refine reg_run [] 4 [(2, [], Value.pointer (some ⟨b_1, 0, none⟩)), (4, [], Value.pointer (some ⟨b_2, 0, none⟩)), (6, [], Value.int .u64 many), (7, [], Value.pointer (some ⟨b_3, 0, none⟩)), (8, [], Value.int .i64 i), (67, [], Value.slice v67.ptr v67.len v67.cap), (69, [], Value.slice (some ⟨b_6, 0, none⟩) 1 1)] (by kernel_rfl) (by kernel_rfl) ?_
                obtain ⟨src, hs, h⟩ := h
                refine reg_append (t := 25) (tx := 25) (e := 61) (a := (Go.Operand.tmp 67)) (xo := (Go.Operand.tmp 69)) (s := v67) (x := (Slc.mk (some ⟨b_6, 0, none⟩) 1 1)) (sz := 3) (by_ := 40) (zs := [Value.string ByteArray.empty, Value.string ByteArray.empty, Value.bool false]) (ty := 25) (dst := some 70)  src (by kernel_rfl) (by kernel_rfl) (by kernel_rfl) (by kernel_rfl) (by kernel_rfl) (by kernel_rfl) (by kernel_rfl) (by kernel_rfl) (by kernel_rfl) hs (AppendW.mono h (fun v70 w25 h => ?_))
                refine reg_run [.plain] 6 [(2, [], Value.pointer (some ⟨b_1, 0, none⟩)), (4, [], Value.pointer (some ⟨b_2, 0, none⟩)), (6, [], Value.int .u64 many), (7, [], Value.pointer (some ⟨b_3, 0, none⟩)), (8, [], Value.int .i64 i), (70, [], Value.slice v70.ptr v70.len v70.cap), (71, [], Value.pointer (some ⟨b_3, 1, none⟩))] (by kernel_rfl) (by kernel_rfl) ?_
                obtain ⟨hc, h⟩ := h
                refine reg_store (t := 25) (a := (Go.Operand.tmp 71)) (x := (Go.Operand.tmp 70)) (b := b_3) (o := 1) (ty := 0) (dst := none) [Value.slice v70.ptr v70.len v70.cap] (by kernel_rfl) (by kernel_rfl) (by kernel_rfl) (k := 1) (by kernel_rfl) (by kernel_rfl) (by kernel_rfl) hc (fun w26 hw => ?_)
                replace h := h w26 hw
                clear hw
                refine reg_end [(2, Value.pointer (some ⟨b_1, 0, none⟩)), (4, Value.pointer (some ⟨b_2, 0, none⟩)), (6, Value.int .u64 many), (7, Value.pointer (some ⟨b_3, 0, none⟩)), (8, Value.int .i64 i)] (by kernel_rfl) (by kernel_rfl) ?_
                change WpE _ _ c_towpathref05_Decode_88 _ _ _
                refine wpE_region (id := 15) (ops := r_towpathref05_Decode_88) (by kernel_rfl) ?_
                refine reg_run [.plain, .plain, .plain] 3 [(2, [], Value.pointer (some ⟨b_1, 0, none⟩)), (4, [], Value.pointer (some ⟨b_2, 0, none⟩)), (6, [], Value.int .u64 many), (7, [], Value.pointer (some ⟨b_3, 0, none⟩)), (8, [], Value.int .i64 (IntKind.i64.wrap (i + 1)))] (by kernel_rfl) (by kernel_rfl) ?_
                refine reg_end [(2, Value.pointer (some ⟨b_1, 0, none⟩)), (4, Value.pointer (some ⟨b_2, 0, none⟩)), (6, Value.int .u64 many), (7, Value.pointer (some ⟨b_3, 0, none⟩)), (8, Value.int .i64 (IntKind.i64.wrap (i + 1)))] (by kernel_rfl) (by kernel_rfl) ?_
                have hb_ := again__h _ _ h
                exact ⟨_, hb_.2, [(2, Value.pointer (some ⟨b_1, 0, none⟩)), (4, Value.pointer (some ⟨b_2, 0, none⟩)), (6, Value.int .u64 many), (7, Value.pointer (some ⟨b_3, 0, none⟩)), (8, Value.int .i64 (IntKind.i64.wrap (i + 1)))], Sub.mk (by kernel_rfl), (IntKind.i64.wrap (i + 1)), rfl, hb_.1, rfl⟩
            · replace h := h.2 hb
              refine wpE_exit (id := 0) (by kernel_rfl) ?_
              change WpE _ _ c_towpathref05_Decode_90 _ _ _
              refine wpE_seq (x := c_towpathref05_Decode_91) (y := c_towpathref05_Decode_100) (by kernel_rfl) ?_
              refine wpE_seq (x := c_towpathref05_Decode_92) (y := c_towpathref05_Decode_94) (by kernel_rfl) ?_
              refine wpE_region (id := 21) (ops := r_towpathref05_Decode_92) (by kernel_rfl) ?_
              refine reg_run [] 0 [(2, [], Value.pointer (some ⟨b_1, 0, none⟩)), (4, [], Value.pointer (some ⟨b_2, 0, none⟩)), (7, [], Value.pointer (some ⟨b_3, 0, none⟩))] (by kernel_rfl) (by kernel_rfl) ?_
              obtain ⟨v72, hc, h⟩ := h
              refine reg_loadN (t := 89) (a := (Go.Operand.tmp 4)) (b := b_2) (o := 0) (ty := 89) (dst := some 72) [Value.bool v72.Gone, Value.slice v72.B.ptr v72.B.len v72.B.cap, Value.int .i64 v72.At, Value.int .i64 v72.Code] (by kernel_rfl) (by kernel_rfl) (by kernel_rfl) (k := 4) (by kernel_rfl) (by kernel_rfl) hc ?_
              refine reg_run [] 1 [(2, [], Value.pointer (some ⟨b_1, 0, none⟩)), (7, [], Value.pointer (some ⟨b_3, 0, none⟩)), (72, [], Value.agg #[Value.bool v72.Gone, Value.slice v72.B.ptr v72.B.len v72.B.cap, Value.int .i64 v72.At, Value.int .i64 v72.Code])] (by kernel_rfl) (by kernel_rfl) ?_
              refine reg_enter (op := (Go.Op.call (Go.Call.mk (Go.Callee.value (Go.Operand.func 47)) #[(Go.Operand.tmp 72)] #[89]))) (ty := 28) (dst := some 73) 47 #[Value.agg #[Value.bool v72.Gone, Value.slice v72.B.ptr v72.B.len v72.B.cap, Value.int .i64 v72.At, Value.int .i64 v72.Code]] (by kernel_rfl) (fun ww => by kernel_rfl) (Calls.mono h ?_)
              rintro _ w27 ⟨v73, rfl, h⟩
              refine ⟨_, rfl, ?_⟩
              refine reg_run [.plain] 3 [(2, [], Value.pointer (some ⟨b_1, 0, none⟩)), (7, [], Value.pointer (some ⟨b_3, 0, none⟩)), (74, [], Value.bool (v73 != 0))] (by kernel_rfl) (by kernel_rfl) ?_
              refine reg_end [(2, Value.pointer (some ⟨b_1, 0, none⟩)), (7, Value.pointer (some ⟨b_3, 0, none⟩)), (74, Value.bool (v73 != 0))] (by kernel_rfl) (by kernel_rfl) ?_
              change WpE _ _ c_towpathref05_Decode_94 _ _ _
              refine wpE_cond (o := (Operand.tmp 74)) (b := (v73 != 0)) (x := c_towpathref05_Decode_95) (y := c_towpathref05_Decode_99) (by kernel_rfl) (by kernel_rfl) (fun hb => ?_) (fun hb => ?_)
              · replace h := h.1 hb
                refine wpE_seq (x := c_towpathref05_Decode_96) (y := c_towpathref05_Decode_98) (by kernel_rfl) ?_
                refine wpE_region (id := 22) (ops := r_towpathref05_Decode_96) (by kernel_rfl) ?_
                refine reg_run [.plain] 1 [(2, [], Value.pointer (some ⟨b_1, 0, none⟩)), (75, [], Value.agg #[Value.int .i64 0, Value.slice none 0 0])] (by kernel_rfl) (by kernel_rfl) ?_
                obtain ⟨hc, h⟩ := h
                refine reg_store (t := 27) (a := (Go.Operand.tmp 2)) (x := (Go.Operand.tmp 75)) (b := b_1) (o := 0) (ty := 0) (dst := none) [Value.int .i64 0, Value.slice none 0 0] (by kernel_rfl) (by kernel_rfl) (by kernel_rfl) (k := 2) (by kernel_rfl) (by kernel_rfl) (by kernel_rfl) hc (fun w28 hw => ?_)
                replace h := h w28 hw
                clear hw
                refine reg_run [.plain] 3 [(2, [], Value.pointer (some ⟨b_1, 0, none⟩)), (3, [], Value.int .i64 4)] (by kernel_rfl) (by kernel_rfl) ?_
                refine reg_end [(2, Value.pointer (some ⟨b_1, 0, none⟩)), (3, Value.int .i64 4)] (by kernel_rfl) (by kernel_rfl) ?_
                change WpE _ _ c_towpathref05_Decode_98 _ _ _
                refine wpE_ret (by kernel_rfl) ?_
                obtain ⟨res5, hc_res5, h⟩ := h
                repeat (first | refine seqQ_ret ?_ | refine blockQ_ret ?_ | refine loopQ_ret ?_ | refine cutQ_ret ?_)
                exact retT (rs := [(Go.ResultVar.cell 2 27), (Go.ResultVar.tmp 3)]) (vs := [Value.agg #[Value.int .i64 res5.Number, Value.slice res5.Writes.ptr res5.Writes.len res5.Writes.cap], Value.int .i64 4]) (by kernel_rfl) (⟨b_1, 0, [Value.int .i64 res5.Number, Value.slice res5.Writes.ptr res5.Writes.len res5.Writes.cap], by kernel_rfl, hc_res5, (sizeP_of (k := 2) (by kernel_rfl) (by kernel_rfl)), .inl ⟨by kernel_rfl, rfl⟩, ⟨by kernel_rfl, trivial⟩⟩) (by kernel_rfl) ⟨res5, 4, rfl, h⟩
              · replace h := h.2 hb
                refine wpE_skip (by kernel_rfl) ?_
                change WpE _ _ c_towpathref05_Decode_100 _ _ _
                refine wpE_seq (x := c_towpathref05_Decode_101) (y := c_towpathref05_Decode_103) (by kernel_rfl) ?_
                refine wpE_region (id := 23) (ops := r_towpathref05_Decode_101) (by kernel_rfl) ?_
                refine reg_run [] 0 [(2, [], Value.pointer (some ⟨b_1, 0, none⟩)), (7, [], Value.pointer (some ⟨b_3, 0, none⟩))] (by kernel_rfl) (by kernel_rfl) ?_
                obtain ⟨v76, hc, h⟩ := h
                refine reg_loadN (t := 27) (a := (Go.Operand.tmp 7)) (b := b_3) (o := 0) (ty := 27) (dst := some 76) [Value.int .i64 v76.Number, Value.slice v76.Writes.ptr v76.Writes.len v76.Writes.cap] (by kernel_rfl) (by kernel_rfl) (by kernel_rfl) (k := 2) (by kernel_rfl) (by kernel_rfl) hc ?_
                refine reg_run [] 1 [(2, [], Value.pointer (some ⟨b_1, 0, none⟩)), (76, [], Value.agg #[Value.int .i64 v76.Number, Value.slice v76.Writes.ptr v76.Writes.len v76.Writes.cap])] (by kernel_rfl) (by kernel_rfl) ?_
                obtain ⟨hc, h⟩ := h
                refine reg_store (t := 27) (a := (Go.Operand.tmp 2)) (x := (Go.Operand.tmp 76)) (b := b_1) (o := 0) (ty := 0) (dst := none) [Value.int .i64 v76.Number, Value.slice v76.Writes.ptr v76.Writes.len v76.Writes.cap] (by kernel_rfl) (by kernel_rfl) (by kernel_rfl) (k := 2) (by kernel_rfl) (by kernel_rfl) (by kernel_rfl) hc (fun w29 hw => ?_)
                replace h := h w29 hw
                clear hw
                refine reg_run [.plain] 3 [(2, [], Value.pointer (some ⟨b_1, 0, none⟩)), (3, [], Value.int .i64 0)] (by kernel_rfl) (by kernel_rfl) ?_
                refine reg_end [(2, Value.pointer (some ⟨b_1, 0, none⟩)), (3, Value.int .i64 0)] (by kernel_rfl) (by kernel_rfl) ?_
                change WpE _ _ c_towpathref05_Decode_103 _ _ _
                refine wpE_ret (by kernel_rfl) ?_
                obtain ⟨res6, hc_res6, h⟩ := h
                repeat (first | refine seqQ_ret ?_ | refine blockQ_ret ?_ | refine loopQ_ret ?_ | refine cutQ_ret ?_)
                exact retT (rs := [(Go.ResultVar.cell 2 27), (Go.ResultVar.tmp 3)]) (vs := [Value.agg #[Value.int .i64 res6.Number, Value.slice res6.Writes.ptr res6.Writes.len res6.Writes.cap], Value.int .i64 0]) (by kernel_rfl) (⟨b_1, 0, [Value.int .i64 res6.Number, Value.slice res6.Writes.ptr res6.Writes.len res6.Writes.cap], by kernel_rfl, hc_res6, (sizeP_of (k := 2) (by kernel_rfl) (by kernel_rfl)), .inl ⟨by kernel_rfl, rfl⟩, ⟨by kernel_rfl, trivial⟩⟩) (by kernel_rfl) ⟨res6, 0, rfl, h⟩
  · rintro e w' ⟨v, rfl, r0, r1, rfl, h⟩; exact ⟨r0, r1, rfl, h⟩

/-! ### towpath/towpathref05.one (function 46) -/
noncomputable def c_towpathref05_one_0 : Code := (Try.f46.body).getD Code.skip
noncomputable def c_towpathref05_one_1 : Code := Code.l c_towpathref05_one_0
noncomputable def r_towpathref05_one_1 : Array Oper := Code.ops c_towpathref05_one_1
noncomputable def c_towpathref05_one_3 : Code := Code.r c_towpathref05_one_0
noncomputable def c_towpathref05_one_4 : Code := Code.l c_towpathref05_one_3
noncomputable def r_towpathref05_one_4 : Array Oper := Code.ops c_towpathref05_one_4
noncomputable def c_towpathref05_one_6 : Code := Code.r c_towpathref05_one_3
noncomputable def c_towpathref05_one_7 : Code := Code.l c_towpathref05_one_6
noncomputable def c_towpathref05_one_8 : Code := Code.l c_towpathref05_one_7
noncomputable def r_towpathref05_one_8 : Array Oper := Code.ops c_towpathref05_one_8
noncomputable def c_towpathref05_one_10 : Code := Code.r c_towpathref05_one_7
noncomputable def c_towpathref05_one_11 : Code := Code.l c_towpathref05_one_10
noncomputable def c_towpathref05_one_12 : Code := Code.l c_towpathref05_one_11
noncomputable def r_towpathref05_one_12 : Array Oper := Code.ops c_towpathref05_one_12
noncomputable def c_towpathref05_one_14 : Code := Code.r c_towpathref05_one_11
noncomputable def c_towpathref05_one_15 : Code := Code.r c_towpathref05_one_10
noncomputable def c_towpathref05_one_16 : Code := Code.r c_towpathref05_one_6
noncomputable def c_towpathref05_one_17 : Code := Code.l c_towpathref05_one_16
noncomputable def c_towpathref05_one_18 : Code := Code.l c_towpathref05_one_17
noncomputable def r_towpathref05_one_18 : Array Oper := Code.ops c_towpathref05_one_18
noncomputable def c_towpathref05_one_20 : Code := Code.r c_towpathref05_one_17
noncomputable def c_towpathref05_one_21 : Code := Code.l c_towpathref05_one_20
noncomputable def c_towpathref05_one_22 : Code := Code.l c_towpathref05_one_21
noncomputable def r_towpathref05_one_22 : Array Oper := Code.ops c_towpathref05_one_22
noncomputable def c_towpathref05_one_24 : Code := Code.r c_towpathref05_one_21
noncomputable def c_towpathref05_one_25 : Code := Code.r c_towpathref05_one_20
noncomputable def c_towpathref05_one_26 : Code := Code.r c_towpathref05_one_16
noncomputable def c_towpathref05_one_27 : Code := Code.l c_towpathref05_one_26
noncomputable def r_towpathref05_one_27 : Array Oper := Code.ops c_towpathref05_one_27
noncomputable def c_towpathref05_one_29 : Code := Code.r c_towpathref05_one_26
noncomputable def c_towpathref05_one_30 : Code := Code.l c_towpathref05_one_29
noncomputable def c_towpathref05_one_31 : Code := Code.l c_towpathref05_one_30
noncomputable def r_towpathref05_one_31 : Array Oper := Code.ops c_towpathref05_one_31
noncomputable def c_towpathref05_one_33 : Code := Code.r c_towpathref05_one_30
noncomputable def c_towpathref05_one_34 : Code := Code.l c_towpathref05_one_33
noncomputable def c_towpathref05_one_35 : Code := Code.l c_towpathref05_one_34
noncomputable def r_towpathref05_one_35 : Array Oper := Code.ops c_towpathref05_one_35
noncomputable def c_towpathref05_one_37 : Code := Code.r c_towpathref05_one_34
noncomputable def c_towpathref05_one_38 : Code := Code.r c_towpathref05_one_33
noncomputable def c_towpathref05_one_39 : Code := Code.r c_towpathref05_one_29
noncomputable def c_towpathref05_one_40 : Code := Code.l c_towpathref05_one_39
noncomputable def c_towpathref05_one_41 : Code := Code.l c_towpathref05_one_40
noncomputable def r_towpathref05_one_41 : Array Oper := Code.ops c_towpathref05_one_41
noncomputable def c_towpathref05_one_43 : Code := Code.r c_towpathref05_one_40
noncomputable def c_towpathref05_one_44 : Code := Code.l c_towpathref05_one_43
noncomputable def c_towpathref05_one_45 : Code := Code.l c_towpathref05_one_44
noncomputable def r_towpathref05_one_45 : Array Oper := Code.ops c_towpathref05_one_45
noncomputable def c_towpathref05_one_47 : Code := Code.r c_towpathref05_one_44
noncomputable def c_towpathref05_one_48 : Code := Code.r c_towpathref05_one_43
noncomputable def c_towpathref05_one_49 : Code := Code.r c_towpathref05_one_39
noncomputable def c_towpathref05_one_50 : Code := Code.l c_towpathref05_one_49
noncomputable def c_towpathref05_one_51 : Code := Code.l c_towpathref05_one_50
noncomputable def r_towpathref05_one_51 : Array Oper := Code.ops c_towpathref05_one_51
noncomputable def c_towpathref05_one_53 : Code := Code.r c_towpathref05_one_50
noncomputable def c_towpathref05_one_54 : Code := Code.l c_towpathref05_one_53
noncomputable def c_towpathref05_one_55 : Code := Code.l c_towpathref05_one_54
noncomputable def r_towpathref05_one_55 : Array Oper := Code.ops c_towpathref05_one_55
noncomputable def c_towpathref05_one_57 : Code := Code.r c_towpathref05_one_54
noncomputable def c_towpathref05_one_58 : Code := Code.r c_towpathref05_one_53
noncomputable def c_towpathref05_one_59 : Code := Code.r c_towpathref05_one_49
noncomputable def c_towpathref05_one_60 : Code := Code.l c_towpathref05_one_59
noncomputable def r_towpathref05_one_60 : Array Oper := Code.ops c_towpathref05_one_60
noncomputable def c_towpathref05_one_62 : Code := Code.r c_towpathref05_one_59
noncomputable def c_towpathref05_one_63 : Code := Code.l c_towpathref05_one_62
noncomputable def r_towpathref05_one_63 : Array Oper := Code.ops c_towpathref05_one_63
noncomputable def c_towpathref05_one_65 : Code := Code.r c_towpathref05_one_62
def o_towpathref05_one_12 : List Nat := [0, 1, 2, 3, 4, 5, 6]
def o_towpathref05_one_35 : List Nat := [0, 1, 2, 3, 4, 5, 6]
def o_towpathref05_one_63 : List Nat := [0, 1, 2, 3, 4, 5, 6, 7, 8]

set_option maxRecDepth 100000 in
set_option maxHeartbeats 4000000 in
theorem S_towpathref05_one {r : T_towpathref02_Reader} {w : World} {R : T_towpathref02_Reader → T_api_Write → Int → World → Prop} (h : F_towpathref05_one r R w) : C_towpathref05_one r w R := by
  unfold F_towpathref05_one at h
  unfold C_towpathref05_one
  refine Calls.mono (calls_of_wpE (args := [Value.agg #[Value.bool r.Gone, Value.slice r.B.ptr r.B.len r.B.cap, Value.int .i64 r.At, Value.int .i64 r.Code]]) (R := fun v w' => ∃ (r0 : T_towpathref02_Reader) (r1 : T_api_Write) (r2 : Int), v = Value.tuple #[Value.agg #[Value.bool r0.Gone, Value.slice r0.B.ptr r0.B.len r0.B.cap, Value.int .i64 r0.At, Value.int .i64 r0.Code], Value.agg #[Value.string r1.Key, Value.string r1.Val, Value.bool r1.Drop], Value.int .i64 r2] ∧ R r0 r1 r2 w') Try.func46 (c := c_towpathref05_one_0) (by kernel_rfl) 57 (by kernel_rfl) (by kernel_rfl) [(0, Value.agg #[Value.bool r.Gone, Value.slice r.B.ptr r.B.len r.B.cap, Value.int .i64 r.At, Value.int .i64 r.Code])] (by kernel_rfl) ?_) ?_
  · refine wpE_seq (x := c_towpathref05_one_1) (y := c_towpathref05_one_3) (by kernel_rfl) ?_
    refine wpE_region (id := 0) (ops := r_towpathref05_one_1) (by kernel_rfl) ?_
    refine reg_run [] 0 [(0, [], Value.agg #[Value.bool r.Gone, Value.slice r.B.ptr r.B.len r.B.cap, Value.int .i64 r.At, Value.int .i64 r.Code])] (by kernel_rfl) (by kernel_rfl) ?_
    refine reg_new (op := (Go.Op.box 89 (Go.Operand.tmp 0))) (ty := 0) (dst := some 1) (fun bb => Value.pointer (some ⟨bb, 0, none⟩)) (Obj.cells ([Value.bool r.Gone, Value.slice r.B.ptr r.B.len r.B.cap, Value.int .i64 r.At, Value.int .i64 r.Code]).toArray ty_towpathref02_Reader (0, 0)) (by kernel_rfl) (by kernel_rfl) (fun b_ w1 hb hw => ?_)
    replace h := h b_ w1 hb hw
    clear hb hw
    refine reg_run [] 1 [(1, [], Value.pointer (some ⟨b_, 0, none⟩))] (by kernel_rfl) (by kernel_rfl) ?_
    refine reg_new (op := (Go.Op.alloc 89)) (ty := 0) (dst := some 2) (fun bb => Value.pointer (some ⟨bb, 0, none⟩)) (Obj.cells ([Value.bool false, Value.slice none 0 0, Value.int .i64 0, Value.int .i64 0]).toArray ty_towpathref02_Reader (0, 0)) (by kernel_rfl) (by kernel_rfl) (fun b_1 w2 hb hw => ?_)
    replace h := h b_1 w2 hb hw
    clear hb hw
    refine reg_run [] 2 [(1, [], Value.pointer (some ⟨b_, 0, none⟩)), (2, [], Value.pointer (some ⟨b_1, 0, none⟩))] (by kernel_rfl) (by kernel_rfl) ?_
    refine reg_new (op := (Go.Op.alloc 61)) (ty := 0) (dst := some 3) (fun bb => Value.pointer (some ⟨bb, 0, none⟩)) (Obj.cells ([Value.string ByteArray.empty, Value.string ByteArray.empty, Value.bool false]).toArray ty_api_Write (0, 0)) (by kernel_rfl) (by kernel_rfl) (fun b_2 w3 hb hw => ?_)
    replace h := h b_2 w3 hb hw
    clear hb hw
    refine reg_run [.plain] 4 [(1, [], Value.pointer (some ⟨b_, 0, none⟩)), (2, [], Value.pointer (some ⟨b_1, 0, none⟩)), (3, [], Value.pointer (some ⟨b_2, 0, none⟩))] (by kernel_rfl) (by kernel_rfl) ?_
    refine reg_end [(1, Value.pointer (some ⟨b_, 0, none⟩)), (2, Value.pointer (some ⟨b_1, 0, none⟩)), (3, Value.pointer (some ⟨b_2, 0, none⟩))] (by kernel_rfl) (by kernel_rfl) ?_
    change WpE _ _ c_towpathref05_one_3 _ _ _
    refine wpE_seq (x := c_towpathref05_one_4) (y := c_towpathref05_one_6) (by kernel_rfl) ?_
    refine wpE_region (id := 1) (ops := r_towpathref05_one_4) (by kernel_rfl) ?_
    refine reg_run [] 0 [(1, [], Value.pointer (some ⟨b_, 0, none⟩)), (2, [], Value.pointer (some ⟨b_1, 0, none⟩)), (3, [], Value.pointer (some ⟨b_2, 0, none⟩))] (by kernel_rfl) (by kernel_rfl) ?_
    obtain ⟨v9, hc, h⟩ := h
    refine reg_loadN (t := 89) (a := (Go.Operand.tmp 1)) (b := b_) (o := 0) (ty := 89) (dst := some 9) [Value.bool v9.Gone, Value.slice v9.B.ptr v9.B.len v9.B.cap, Value.int .i64 v9.At, Value.int .i64 v9.Code] (by kernel_rfl) (by kernel_rfl) (by kernel_rfl) (k := 4) (by kernel_rfl) (by kernel_rfl) hc ?_
    refine reg_run [] 1 [(1, [], Value.pointer (some ⟨b_, 0, none⟩)), (2, [], Value.pointer (some ⟨b_1, 0, none⟩)), (3, [], Value.pointer (some ⟨b_2, 0, none⟩)), (9, [], Value.agg #[Value.bool v9.Gone, Value.slice v9.B.ptr v9.B.len v9.B.cap, Value.int .i64 v9.At, Value.int .i64 v9.Code])] (by kernel_rfl) (by kernel_rfl) ?_
    refine reg_enter (op := (Go.Op.call (Go.Call.mk (Go.Callee.value (Go.Operand.func 80)) #[(Go.Operand.tmp 9), (Go.Operand.const (Go.Value.int Go.IntKind.i64 64))] #[89, 3]))) (ty := 130) (dst := some 10) 80 #[Value.agg #[Value.bool v9.Gone, Value.slice v9.B.ptr v9.B.len v9.B.cap, Value.int .i64 v9.At, Value.int .i64 v9.Code], Value.int .i64 64] (by kernel_rfl) (fun ww => by kernel_rfl) (Calls.mono h ?_)
    rintro _ w4 ⟨v10, key, rfl, h⟩
    refine ⟨_, rfl, ?_⟩
    refine reg_run [.plain, .plain, .plain] 5 [(1, [], Value.pointer (some ⟨b_, 0, none⟩)), (2, [], Value.pointer (some ⟨b_1, 0, none⟩)), (3, [], Value.pointer (some ⟨b_2, 0, none⟩)), (11, [], Value.agg #[Value.bool v10.Gone, Value.slice v10.B.ptr v10.B.len v10.B.cap, Value.int .i64 v10.At, Value.int .i64 v10.Code]), (12, [], Value.string key)] (by kernel_rfl) (by kernel_rfl) ?_
    obtain ⟨hc, h⟩ := h
    refine reg_store (t := 89) (a := (Go.Operand.tmp 1)) (x := (Go.Operand.tmp 11)) (b := b_) (o := 0) (ty := 0) (dst := none) [Value.bool v10.Gone, Value.slice v10.B.ptr v10.B.len v10.B.cap, Value.int .i64 v10.At, Value.int .i64 v10.Code] (by kernel_rfl) (by kernel_rfl) (by kernel_rfl) (k := 4) (by kernel_rfl) (by kernel_rfl) (by kernel_rfl) hc (fun w5 hw => ?_)
    replace h := h w5 hw
    clear hw
    refine reg_run [.plain] 7 [(1, [], Value.pointer (some ⟨b_, 0, none⟩)), (2, [], Value.pointer (some ⟨b_1, 0, none⟩)), (3, [], Value.pointer (some ⟨b_2, 0, none⟩)), (5, [], Value.string key)] (by kernel_rfl) (by kernel_rfl) ?_
    refine reg_end [(1, Value.pointer (some ⟨b_, 0, none⟩)), (2, Value.pointer (some ⟨b_1, 0, none⟩)), (3, Value.pointer (some ⟨b_2, 0, none⟩)), (5, Value.string key)] (by kernel_rfl) (by kernel_rfl) ?_
    change WpE _ _ c_towpathref05_one_6 _ _ _
    refine wpE_seq (x := c_towpathref05_one_7) (y := c_towpathref05_one_16) (by kernel_rfl) ?_
    refine wpE_seq (x := c_towpathref05_one_8) (y := c_towpathref05_one_10) (by kernel_rfl) ?_
    refine wpE_region (id := 2) (ops := r_towpathref05_one_8) (by kernel_rfl) ?_
    refine reg_run [.plain] 1 [(1, [], Value.pointer (some ⟨b_, 0, none⟩)), (2, [], Value.pointer (some ⟨b_1, 0, none⟩)), (3, [], Value.pointer (some ⟨b_2, 0, none⟩)), (5, [], Value.string key), (13, [], Value.pointer (some ⟨b_, 3, none⟩))] (by kernel_rfl) (by kernel_rfl) ?_
    obtain ⟨v14, hc, h⟩ := h
    refine reg_load1 (t := 28) (a := (Go.Operand.tmp 13)) (b := b_) (o := 3) (ty := 28) (dst := some 14) (by kernel_rfl) (by kernel_rfl) (by kernel_rfl) hc ?_
    refine reg_run [.plain] 3 [(1, [], Value.pointer (some ⟨b_, 0, none⟩)), (2, [], Value.pointer (some ⟨b_1, 0, none⟩)), (3, [], Value.pointer (some ⟨b_2, 0, none⟩)), (5, [], Value.string key), (15, [], Value.bool (v14 != 0))] (by kernel_rfl) (by kernel_rfl) ?_
    refine reg_end [(1, Value.pointer (some ⟨b_, 0, none⟩)), (2, Value.pointer (some ⟨b_1, 0, none⟩)), (3, Value.pointer (some ⟨b_2, 0, none⟩)), (5, Value.string key), (15, Value.bool (v14 != 0))] (by kernel_rfl) (by kernel_rfl) ?_
    change WpE _ _ c_towpathref05_one_10 _ _ _
    refine wpE_cond (o := (Operand.tmp 15)) (b := (v14 != 0)) (x := c_towpathref05_one_11) (y := c_towpathref05_one_15) (by kernel_rfl) (by kernel_rfl) (fun hb => ?_) (fun hb => ?_)
    · replace h := h.1 hb
      refine wpE_seq (x := c_towpathref05_one_12) (y := c_towpathref05_one_14) (by kernel_rfl) ?_
      refine wpE_mixregion (id := 3) (ops := r_towpathref05_one_12) o_towpathref05_one_12 (by kernel_rfl) (by kernel_rfl) (by kernel_rfl) (by kernel_rfl) (fun w6 hw => ?_)
      replace h := h w6 hw
      clear hw
      refine mreg_run [] 0 [(1, [], Value.pointer (some ⟨b_, 0, none⟩)), (2, [], Value.pointer (some ⟨b_1, 0, none⟩)), (3, [], Value.pointer (some ⟨b_2, 0, none⟩))] (by kernel_rfl) (by kernel_rfl) ?_
      obtain ⟨v16, hc, h⟩ := h
      refine mreg_loadN (i := 0) (by kernel_rfl) (t := 89) (a := (Go.Operand.tmp 1)) (b := b_) (o := 0) (ty := 89) (dst := some 16) [Value.bool v16.Gone, Value.slice v16.B.ptr v16.B.len v16.B.cap, Value.int .i64 v16.At, Value.int .i64 v16.Code] (by kernel_rfl) (by kernel_rfl) (by kernel_rfl) (k := 4) (by kernel_rfl) (by kernel_rfl) hc ?_
      refine mreg_run [.plain, .plain] 3 [(2, [], Value.pointer (some ⟨b_1, 0, none⟩)), (3, [], Value.pointer (some ⟨b_2, 0, none⟩)), (16, [], Value.agg #[Value.bool v16.Gone, Value.slice v16.B.ptr v16.B.len v16.B.cap, Value.int .i64 v16.At, Value.int .i64 v16.Code]), (17, [], Value.agg #[Value.string ByteArray.empty, Value.string ByteArray.empty, Value.bool false]), (18, [], Value.pointer (some ⟨b_, 3, none⟩))] (by kernel_rfl) (by kernel_rfl) ?_
      obtain ⟨v19, hc, h⟩ := h
      refine mreg_load1 (i := 3) (by kernel_rfl) (t := 28) (a := (Go.Operand.tmp 18)) (b := b_) (o := 3) (ty := 28) (dst := some 19) (by kernel_rfl) (by kernel_rfl) (by kernel_rfl) hc ?_
      refine mreg_run [] 4 [(2, [], Value.pointer (some ⟨b_1, 0, none⟩)), (3, [], Value.pointer (some ⟨b_2, 0, none⟩)), (16, [], Value.agg #[Value.bool v16.Gone, Value.slice v16.B.ptr v16.B.len v16.B.cap, Value.int .i64 v16.At, Value.int .i64 v16.Code]), (17, [], Value.agg #[Value.string ByteArray.empty, Value.string ByteArray.empty, Value.bool false]), (19, [], Value.int .i64 v19)] (by kernel_rfl) (by kernel_rfl) ?_
      obtain ⟨hc, h⟩ := h
      refine mreg_store (t := 89) (a := (Go.Operand.tmp 2)) (x := (Go.Operand.tmp 16)) (b := b_1) (o := 0) (k := 4) (ty := 0) (dst := none) 4 [0] [(3, fun w' => w'.cell? ⟨b_, 3, none⟩ = some (Value.int .i64 v19))] [Value.bool v16.Gone, Value.slice v16.B.ptr v16.B.len v16.B.cap, Value.int .i64 v16.At, Value.int .i64 v16.Code] (by kernel_rfl) (by kernel_rfl) (by kernel_rfl) (by kernel_rfl) (by kernel_rfl) (by kernel_rfl) (by kernel_rfl) (by kernel_rfl) (by kernel_rfl) (by kernel_rfl) hc (fun w7 hw => ?_)
      replace h := h w7 hw
      clear hw
      obtain ⟨hk0, h⟩ := h
      refine ⟨⟨hk0, trivial⟩, ?_⟩
      refine mreg_run [] 5 [(2, [], Value.pointer (some ⟨b_1, 0, none⟩)), (3, [], Value.pointer (some ⟨b_2, 0, none⟩)), (17, [], Value.agg #[Value.string ByteArray.empty, Value.string ByteArray.empty, Value.bool false]), (19, [], Value.int .i64 v19)] (by kernel_rfl) (by kernel_rfl) ?_
      obtain ⟨hc, h⟩ := h
      refine mreg_store (t := 61) (a := (Go.Operand.tmp 3)) (x := (Go.Operand.tmp 17)) (b := b_2) (o := 0) (k := 3) (ty := 0) (dst := none) 5 [0, 1, 4] [(3, fun w' => w'.cell? ⟨b_, 3, none⟩ = some (Value.int .i64 v19))] [Value.string ByteArray.empty, Value.string ByteArray.empty, Value.bool false] (by kernel_rfl) (by kernel_rfl) (by kernel_rfl) (by kernel_rfl) (by kernel_rfl) (by kernel_rfl) (by kernel_rfl) (by kernel_rfl) (by kernel_rfl) (by kernel_rfl) hc (fun w8 hw => ?_)
      replace h := h w8 hw
      clear hw
      obtain ⟨hk0, h⟩ := h
      refine ⟨⟨hk0, trivial⟩, ?_⟩
      refine mreg_run [.plain] 7 [(2, [], Value.pointer (some ⟨b_1, 0, none⟩)), (3, [], Value.pointer (some ⟨b_2, 0, none⟩)), (4, [], Value.int .i64 v19)] (by kernel_rfl) (by kernel_rfl) ?_
      refine mreg_end [(2, Value.pointer (some ⟨b_1, 0, none⟩)), (3, Value.pointer (some ⟨b_2, 0, none⟩)), (4, Value.int .i64 v19)] (by kernel_rfl) (by kernel_rfl) (by kernel_rfl) ?_
      change WpE _ _ c_towpathref05_one_14 _ _ _
      refine wpE_ret (by kernel_rfl) ?_
      obtain ⟨res, hc_res, h⟩ := h
      obtain ⟨res1, hc_res1, h⟩ := h
      repeat (first | refine seqQ_ret ?_ | refine blockQ_ret ?_ | refine loopQ_ret ?_ | refine cutQ_ret ?_)
      exact retT (rs := [(Go.ResultVar.cell 2 89), (Go.ResultVar.cell 3 61), (Go.ResultVar.tmp 4)]) (vs := [Value.agg #[Value.bool res.Gone, Value.slice res.B.ptr res.B.len res.B.cap, Value.int .i64 res.At, Value.int .i64 res.Code], Value.agg #[Value.string res1.Key, Value.string res1.Val, Value.bool res1.Drop], Value.int .i64 v19]) (by kernel_rfl) (⟨b_1, 0, [Value.bool res.Gone, Value.slice res.B.ptr res.B.len res.B.cap, Value.int .i64 res.At, Value.int .i64 res.Code], by kernel_rfl, hc_res, (sizeP_of (k := 4) (by kernel_rfl) (by kernel_rfl)), .inl ⟨by kernel_rfl, rfl⟩, ⟨b_2, 0, [Value.string res1.Key, Value.string res1.Val, Value.bool res1.Drop], by kernel_rfl, hc_res1, (sizeP_of (k := 3) (by kernel_rfl) (by kernel_rfl)), .inl ⟨by kernel_rfl, rfl⟩, ⟨by kernel_rfl, trivial⟩⟩⟩) (by kernel_rfl) ⟨res, res1, v19, rfl, h⟩
    · replace h := h.2 hb
      refine wpE_skip (by kernel_rfl) ?_
      change WpE _ _ c_towpathref05_one_16 _ _ _
      refine wpE_seq (x := c_towpathref05_one_17) (y := c_towpathref05_one_26) (by kernel_rfl) ?_
      refine wpE_seq (x := c_towpathref05_one_18) (y := c_towpathref05_one_20) (by kernel_rfl) ?_
      refine wpE_region (id := 4) (ops := r_towpathref05_one_18) (by kernel_rfl) ?_
      refine reg_run [.plain, .plain, .plain] 3 [(1, [], Value.pointer (some ⟨b_, 0, none⟩)), (2, [], Value.pointer (some ⟨b_1, 0, none⟩)), (3, [], Value.pointer (some ⟨b_2, 0, none⟩)), (5, [], Value.string key), (22, [], Value.bool (((key.size : Nat) : Int) == 0))] (by kernel_rfl) (by kernel_rfl) ?_
      refine reg_end [(1, Value.pointer (some ⟨b_, 0, none⟩)), (2, Value.pointer (some ⟨b_1, 0, none⟩)), (3, Value.pointer (some ⟨b_2, 0, none⟩)), (5, Value.string key), (22, Value.bool (((key.size : Nat) : Int) == 0))] (by kernel_rfl) (by kernel_rfl) ?_
      change WpE _ _ c_towpathref05_one_20 _ _ _
      refine wpE_cond (o := (Operand.tmp 22)) (b := (((key.size : Nat) : Int) == 0)) (x := c_towpathref05_one_21) (y := c_towpathref05_one_25) (by kernel_rfl) (by kernel_rfl) (fun hb => ?_) (fun hb => ?_)
      · replace h := h.1 hb
        refine wpE_seq (x := c_towpathref05_one_22) (y := c_towpathref05_one_24) (by kernel_rfl) ?_
        refine wpE_region (id := 5) (ops := r_towpathref05_one_22) (by kernel_rfl) ?_
        refine reg_run [] 0 [(1, [], Value.pointer (some ⟨b_, 0, none⟩)), (2, [], Value.pointer (some ⟨b_1, 0, none⟩)), (3, [], Value.pointer (some ⟨b_2, 0, none⟩))] (by kernel_rfl) (by kernel_rfl) ?_
        obtain ⟨v23, hc, h⟩ := h
        refine reg_loadN (t := 89) (a := (Go.Operand.tmp 1)) (b := b_) (o := 0) (ty := 89) (dst := some 23) [Value.bool v23.Gone, Value.slice v23.B.ptr v23.B.len v23.B.cap, Value.int .i64 v23.At, Value.int .i64 v23.Code] (by kernel_rfl) (by kernel_rfl) (by kernel_rfl) (k := 4) (by kernel_rfl) (by kernel_rfl) hc ?_
        refine reg_run [.plain] 2 [(2, [], Value.pointer (some ⟨b_1, 0, none⟩)), (3, [], Value.pointer (some ⟨b_2, 0, none⟩)), (23, [], Value.agg #[Value.bool v23.Gone, Value.slice v23.B.ptr v23.B.len v23.B.cap, Value.int .i64 v23.At, Value.int .i64 v23.Code]), (24, [], Value.agg #[Value.string ByteArray.empty, Value.string ByteArray.empty, Value.bool false])] (by kernel_rfl) (by kernel_rfl) ?_
        obtain ⟨hc, h⟩ := h
        refine reg_store (t := 89) (a := (Go.Operand.tmp 2)) (x := (Go.Operand.tmp 23)) (b := b_1) (o := 0) (ty := 0) (dst := none) [Value.bool v23.Gone, Value.slice v23.B.ptr v23.B.len v23.B.cap, Value.int .i64 v23.At, Value.int .i64 v23.Code] (by kernel_rfl) (by kernel_rfl) (by kernel_rfl) (k := 4) (by kernel_rfl) (by kernel_rfl) (by kernel_rfl) hc (fun w9 hw => ?_)
        replace h := h w9 hw
        clear hw
        refine reg_run [] 3 [(2, [], Value.pointer (some ⟨b_1, 0, none⟩)), (3, [], Value.pointer (some ⟨b_2, 0, none⟩)), (24, [], Value.agg #[Value.string ByteArray.empty, Value.string ByteArray.empty, Value.bool false])] (by kernel_rfl) (by kernel_rfl) ?_
        obtain ⟨hc, h⟩ := h
        refine reg_store (t := 61) (a := (Go.Operand.tmp 3)) (x := (Go.Operand.tmp 24)) (b := b_2) (o := 0) (ty := 0) (dst := none) [Value.string ByteArray.empty, Value.string ByteArray.empty, Value.bool false] (by kernel_rfl) (by kernel_rfl) (by kernel_rfl) (k := 3) (by kernel_rfl) (by kernel_rfl) (by kernel_rfl) hc (fun w10 hw => ?_)
        replace h := h w10 hw
        clear hw
        refine reg_run [.plain] 5 [(2, [], Value.pointer (some ⟨b_1, 0, none⟩)), (3, [], Value.pointer (some ⟨b_2, 0, none⟩)), (4, [], Value.int .i64 1)] (by kernel_rfl) (by kernel_rfl) ?_
        refine reg_end [(2, Value.pointer (some ⟨b_1, 0, none⟩)), (3, Value.pointer (some ⟨b_2, 0, none⟩)), (4, Value.int .i64 1)] (by kernel_rfl) (by kernel_rfl) ?_
        change WpE _ _ c_towpathref05_one_24 _ _ _
        refine wpE_ret (by kernel_rfl) ?_
        obtain ⟨res2, hc_res2, h⟩ := h
        obtain ⟨res3, hc_res3, h⟩ := h
        repeat (first | refine seqQ_ret ?_ | refine blockQ_ret ?_ | refine loopQ_ret ?_ | refine cutQ_ret ?_)
        exact retT (rs := [(Go.ResultVar.cell 2 89), (Go.ResultVar.cell 3 61), (Go.ResultVar.tmp 4)]) (vs := [Value.agg #[Value.bool res2.Gone, Value.slice res2.B.ptr res2.B.len res2.B.cap, Value.int .i64 res2.At, Value.int .i64 res2.Code], Value.agg #[Value.string res3.Key, Value.string res3.Val, Value.bool res3.Drop], Value.int .i64 1]) (by kernel_rfl) (⟨b_1, 0, [Value.bool res2.Gone, Value.slice res2.B.ptr res2.B.len res2.B.cap, Value.int .i64 res2.At, Value.int .i64 res2.Code], by kernel_rfl, hc_res2, (sizeP_of (k := 4) (by kernel_rfl) (by kernel_rfl)), .inl ⟨by kernel_rfl, rfl⟩, ⟨b_2, 0, [Value.string res3.Key, Value.string res3.Val, Value.bool res3.Drop], by kernel_rfl, hc_res3, (sizeP_of (k := 3) (by kernel_rfl) (by kernel_rfl)), .inl ⟨by kernel_rfl, rfl⟩, ⟨by kernel_rfl, trivial⟩⟩⟩) (by kernel_rfl) ⟨res2, res3, 1, rfl, h⟩
      · replace h := h.2 hb
        refine wpE_skip (by kernel_rfl) ?_
        change WpE _ _ c_towpathref05_one_26 _ _ _
        refine wpE_seq (x := c_towpathref05_one_27) (y := c_towpathref05_one_29) (by kernel_rfl) ?_
        refine wpE_region (id := 6) (ops := r_towpathref05_one_27) (by kernel_rfl) ?_
        refine reg_run [] 0 [(1, [], Value.pointer (some ⟨b_, 0, none⟩)), (2, [], Value.pointer (some ⟨b_1, 0, none⟩)), (3, [], Value.pointer (some ⟨b_2, 0, none⟩)), (5, [], Value.string key)] (by kernel_rfl) (by kernel_rfl) ?_
        obtain ⟨v26, hc, h⟩ := h
        refine reg_loadN (t := 89) (a := (Go.Operand.tmp 1)) (b := b_) (o := 0) (ty := 89) (dst := some 26) [Value.bool v26.Gone, Value.slice v26.B.ptr v26.B.len v26.B.cap, Value.int .i64 v26.At, Value.int .i64 v26.Code] (by kernel_rfl) (by kernel_rfl) (by kernel_rfl) (k := 4) (by kernel_rfl) (by kernel_rfl) hc ?_
        refine reg_run [] 1 [(1, [], Value.pointer (some ⟨b_, 0, none⟩)), (2, [], Value.pointer (some ⟨b_1, 0, none⟩)), (3, [], Value.pointer (some ⟨b_2, 0, none⟩)), (5, [], Value.string key), (26, [], Value.agg #[Value.bool v26.Gone, Value.slice v26.B.ptr v26.B.len v26.B.cap, Value.int .i64 v26.At, Value.int .i64 v26.Code])] (by kernel_rfl) (by kernel_rfl) ?_
        refine reg_enter (op := (Go.Op.call (Go.Call.mk (Go.Callee.value (Go.Operand.func 81)) #[(Go.Operand.tmp 26), (Go.Operand.const (Go.Value.int Go.IntKind.i64 1))] #[89, 3]))) (ty := 90) (dst := some 27) 81 #[Value.agg #[Value.bool v26.Gone, Value.slice v26.B.ptr v26.B.len v26.B.cap, Value.int .i64 v26.At, Value.int .i64 v26.Code], Value.int .i64 1] (by kernel_rfl) (fun ww => by kernel_rfl) (Calls.mono h ?_)
        rintro _ w11 ⟨v27, drop, rfl, h⟩
        refine ⟨_, rfl, ?_⟩
        refine reg_run [.plain, .plain, .plain] 5 [(1, [], Value.pointer (some ⟨b_, 0, none⟩)), (2, [], Value.pointer (some ⟨b_1, 0, none⟩)), (3, [], Value.pointer (some ⟨b_2, 0, none⟩)), (5, [], Value.string key), (28, [], Value.agg #[Value.bool v27.Gone, Value.slice v27.B.ptr v27.B.len v27.B.cap, Value.int .i64 v27.At, Value.int .i64 v27.Code]), (29, [], Value.int .u64 drop)] (by kernel_rfl) (by kernel_rfl) ?_
        obtain ⟨hc, h⟩ := h
        refine reg_store (t := 89) (a := (Go.Operand.tmp 1)) (x := (Go.Operand.tmp 28)) (b := b_) (o := 0) (ty := 0) (dst := none) [Value.bool v27.Gone, Value.slice v27.B.ptr v27.B.len v27.B.cap, Value.int .i64 v27.At, Value.int .i64 v27.Code] (by kernel_rfl) (by kernel_rfl) (by kernel_rfl) (k := 4) (by kernel_rfl) (by kernel_rfl) (by kernel_rfl) hc (fun w12 hw => ?_)
        replace h := h w12 hw
        clear hw
        refine reg_run [.plain] 7 [(1, [], Value.pointer (some ⟨b_, 0, none⟩)), (2, [], Value.pointer (some ⟨b_1, 0, none⟩)), (3, [], Value.pointer (some ⟨b_2, 0, none⟩)), (5, [], Value.string key), (6, [], Value.int .u64 drop)] (by kernel_rfl) (by kernel_rfl) ?_
        refine reg_end [(1, Value.pointer (some ⟨b_, 0, none⟩)), (2, Value.pointer (some ⟨b_1, 0, none⟩)), (3, Value.pointer (some ⟨b_2, 0, none⟩)), (5, Value.string key), (6, Value.int .u64 drop)] (by kernel_rfl) (by kernel_rfl) ?_
        change WpE _ _ c_towpathref05_one_29 _ _ _
        refine wpE_seq (x := c_towpathref05_one_30) (y := c_towpathref05_one_39) (by kernel_rfl) ?_
        refine wpE_seq (x := c_towpathref05_one_31) (y := c_towpathref05_one_33) (by kernel_rfl) ?_
        refine wpE_region (id := 7) (ops := r_towpathref05_one_31) (by kernel_rfl) ?_
        refine reg_run [.plain] 1 [(1, [], Value.pointer (some ⟨b_, 0, none⟩)), (2, [], Value.pointer (some ⟨b_1, 0, none⟩)), (3, [], Value.pointer (some ⟨b_2, 0, none⟩)), (5, [], Value.string key), (6, [], Value.int .u64 drop), (30, [], Value.pointer (some ⟨b_, 3, none⟩))] (by kernel_rfl) (by kernel_rfl) ?_
        obtain ⟨v31, hc, h⟩ := h
        refine reg_load1 (t := 28) (a := (Go.Operand.tmp 30)) (b := b_) (o := 3) (ty := 28) (dst := some 31) (by kernel_rfl) (by kernel_rfl) (by kernel_rfl) hc ?_
        refine reg_run [.plain] 3 [(1, [], Value.pointer (some ⟨b_, 0, none⟩)), (2, [], Value.pointer (some ⟨b_1, 0, none⟩)), (3, [], Value.pointer (some ⟨b_2, 0, none⟩)), (5, [], Value.string key), (6, [], Value.int .u64 drop), (32, [], Value.bool (v31 != 0))] (by kernel_rfl) (by kernel_rfl) ?_
        refine reg_end [(1, Value.pointer (some ⟨b_, 0, none⟩)), (2, Value.pointer (some ⟨b_1, 0, none⟩)), (3, Value.pointer (some ⟨b_2, 0, none⟩)), (5, Value.string key), (6, Value.int .u64 drop), (32, Value.bool (v31 != 0))] (by kernel_rfl) (by kernel_rfl) ?_
        change WpE _ _ c_towpathref05_one_33 _ _ _
        refine wpE_cond (o := (Operand.tmp 32)) (b := (v31 != 0)) (x := c_towpathref05_one_34) (y := c_towpathref05_one_38) (by kernel_rfl) (by kernel_rfl) (fun hb => ?_) (fun hb => ?_)
        · replace h := h.1 hb
          refine wpE_seq (x := c_towpathref05_one_35) (y := c_towpathref05_one_37) (by kernel_rfl) ?_
          refine wpE_mixregion (id := 8) (ops := r_towpathref05_one_35) o_towpathref05_one_35 (by kernel_rfl) (by kernel_rfl) (by kernel_rfl) (by kernel_rfl) (fun w13 hw => ?_)
          replace h := h w13 hw
          clear hw
          refine mreg_run [] 0 [(1, [], Value.pointer (some ⟨b_, 0, none⟩)), (2, [], Value.pointer (some ⟨b_1, 0, none⟩)), (3, [], Value.pointer (some ⟨b_2, 0, none⟩))] (by kernel_rfl) (by kernel_rfl) ?_
          obtain ⟨v33, hc, h⟩ := h
          refine mreg_loadN (i := 0) (by kernel_rfl) (t := 89) (a := (Go.Operand.tmp 1)) (b := b_) (o := 0) (ty := 89) (dst := some 33) [Value.bool v33.Gone, Value.slice v33.B.ptr v33.B.len v33.B.cap, Value.int .i64 v33.At, Value.int .i64 v33.Code] (by kernel_rfl) (by kernel_rfl) (by kernel_rfl) (k := 4) (by kernel_rfl) (by kernel_rfl) hc ?_
          refine mreg_run [.plain, .plain] 3 [(2, [], Value.pointer (some ⟨b_1, 0, none⟩)), (3, [], Value.pointer (some ⟨b_2, 0, none⟩)), (33, [], Value.agg #[Value.bool v33.Gone, Value.slice v33.B.ptr v33.B.len v33.B.cap, Value.int .i64 v33.At, Value.int .i64 v33.Code]), (34, [], Value.agg #[Value.string ByteArray.empty, Value.string ByteArray.empty, Value.bool false]), (35, [], Value.pointer (some ⟨b_, 3, none⟩))] (by kernel_rfl) (by kernel_rfl) ?_
          obtain ⟨v36, hc, h⟩ := h
          refine mreg_load1 (i := 3) (by kernel_rfl) (t := 28) (a := (Go.Operand.tmp 35)) (b := b_) (o := 3) (ty := 28) (dst := some 36) (by kernel_rfl) (by kernel_rfl) (by kernel_rfl) hc ?_
          refine mreg_run [] 4 [(2, [], Value.pointer (some ⟨b_1, 0, none⟩)), (3, [], Value.pointer (some ⟨b_2, 0, none⟩)), (33, [], Value.agg #[Value.bool v33.Gone, Value.slice v33.B.ptr v33.B.len v33.B.cap, Value.int .i64 v33.At, Value.int .i64 v33.Code]), (34, [], Value.agg #[Value.string ByteArray.empty, Value.string ByteArray.empty, Value.bool false]), (36, [], Value.int .i64 v36)] (by kernel_rfl) (by kernel_rfl) ?_
          obtain ⟨hc, h⟩ := h
          refine mreg_store (t := 89) (a := (Go.Operand.tmp 2)) (x := (Go.Operand.tmp 33)) (b := b_1) (o := 0) (k := 4) (ty := 0) (dst := none) 4 [0] [(3, fun w' => w'.cell? ⟨b_, 3, none⟩ = some (Value.int .i64 v36))] [Value.bool v33.Gone, Value.slice v33.B.ptr v33.B.len v33.B.cap, Value.int .i64 v33.At, Value.int .i64 v33.Code] (by kernel_rfl) (by kernel_rfl) (by kernel_rfl) (by kernel_rfl) (by kernel_rfl) (by kernel_rfl) (by kernel_rfl) (by kernel_rfl) (by kernel_rfl) (by kernel_rfl) hc (fun w14 hw => ?_)
          replace h := h w14 hw
          clear hw
          obtain ⟨hk0, h⟩ := h
          refine ⟨⟨hk0, trivial⟩, ?_⟩
          refine mreg_run [] 5 [(2, [], Value.pointer (some ⟨b_1, 0, none⟩)), (3, [], Value.pointer (some ⟨b_2, 0, none⟩)), (34, [], Value.agg #[Value.string ByteArray.empty, Value.string ByteArray.empty, Value.bool false]), (36, [], Value.int .i64 v36)] (by kernel_rfl) (by kernel_rfl) ?_
          obtain ⟨hc, h⟩ := h
          refine mreg_store (t := 61) (a := (Go.Operand.tmp 3)) (x := (Go.Operand.tmp 34)) (b := b_2) (o := 0) (k := 3) (ty := 0) (dst := none) 5 [0, 1, 4] [(3, fun w' => w'.cell? ⟨b_, 3, none⟩ = some (Value.int .i64 v36))] [Value.string ByteArray.empty, Value.string ByteArray.empty, Value.bool false] (by kernel_rfl) (by kernel_rfl) (by kernel_rfl) (by kernel_rfl) (by kernel_rfl) (by kernel_rfl) (by kernel_rfl) (by kernel_rfl) (by kernel_rfl) (by kernel_rfl) hc (fun w15 hw => ?_)
          replace h := h w15 hw
          clear hw
          obtain ⟨hk0, h⟩ := h
          refine ⟨⟨hk0, trivial⟩, ?_⟩
          refine mreg_run [.plain] 7 [(2, [], Value.pointer (some ⟨b_1, 0, none⟩)), (3, [], Value.pointer (some ⟨b_2, 0, none⟩)), (4, [], Value.int .i64 v36)] (by kernel_rfl) (by kernel_rfl) ?_
          refine mreg_end [(2, Value.pointer (some ⟨b_1, 0, none⟩)), (3, Value.pointer (some ⟨b_2, 0, none⟩)), (4, Value.int .i64 v36)] (by kernel_rfl) (by kernel_rfl) (by kernel_rfl) ?_
          change WpE _ _ c_towpathref05_one_37 _ _ _
          refine wpE_ret (by kernel_rfl) ?_
          obtain ⟨res4, hc_res4, h⟩ := h
          obtain ⟨res5, hc_res5, h⟩ := h
          repeat (first | refine seqQ_ret ?_ | refine blockQ_ret ?_ | refine loopQ_ret ?_ | refine cutQ_ret ?_)
          exact retT (rs := [(Go.ResultVar.cell 2 89), (Go.ResultVar.cell 3 61), (Go.ResultVar.tmp 4)]) (vs := [Value.agg #[Value.bool res4.Gone, Value.slice res4.B.ptr res4.B.len res4.B.cap, Value.int .i64 res4.At, Value.int .i64 res4.Code], Value.agg #[Value.string res5.Key, Value.string res5.Val, Value.bool res5.Drop], Value.int .i64 v36]) (by kernel_rfl) (⟨b_1, 0, [Value.bool res4.Gone, Value.slice res4.B.ptr res4.B.len res4.B.cap, Value.int .i64 res4.At, Value.int .i64 res4.Code], by kernel_rfl, hc_res4, (sizeP_of (k := 4) (by kernel_rfl) (by kernel_rfl)), .inl ⟨by kernel_rfl, rfl⟩, ⟨b_2, 0, [Value.string res5.Key, Value.string res5.Val, Value.bool res5.Drop], by kernel_rfl, hc_res5, (sizeP_of (k := 3) (by kernel_rfl) (by kernel_rfl)), .inl ⟨by kernel_rfl, rfl⟩, ⟨by kernel_rfl, trivial⟩⟩⟩) (by kernel_rfl) ⟨res4, res5, v36, rfl, h⟩
        · replace h := h.2 hb
          refine wpE_skip (by kernel_rfl) ?_
          change WpE _ _ c_towpathref05_one_39 _ _ _
          refine wpE_seq (x := c_towpathref05_one_40) (y := c_towpathref05_one_49) (by kernel_rfl) ?_
          refine wpE_seq (x := c_towpathref05_one_41) (y := c_towpathref05_one_43) (by kernel_rfl) ?_
          refine wpE_region (id := 9) (ops := r_towpathref05_one_41) (by kernel_rfl) ?_
          refine reg_run [.plain, .plain] 2 [(1, [], Value.pointer (some ⟨b_, 0, none⟩)), (2, [], Value.pointer (some ⟨b_1, 0, none⟩)), (3, [], Value.pointer (some ⟨b_2, 0, none⟩)), (5, [], Value.string key), (6, [], Value.int .u64 drop), (38, [], Value.bool (decide (drop > 1)))] (by kernel_rfl) (by kernel_rfl) ?_
          refine reg_end [(1, Value.pointer (some ⟨b_, 0, none⟩)), (2, Value.pointer (some ⟨b_1, 0, none⟩)), (3, Value.pointer (some ⟨b_2, 0, none⟩)), (5, Value.string key), (6, Value.int .u64 drop), (38, Value.bool (decide (drop > 1)))] (by kernel_rfl) (by kernel_rfl) ?_
          change WpE _ _ c_towpathref05_one_43 _ _ _
          refine wpE_cond (o := (Operand.tmp 38)) (b := (decide (drop > 1))) (x := c_towpathref05_one_44) (y := c_towpathref05_one_48) (by kernel_rfl) (by kernel_rfl) (fun hb => ?_) (fun hb => ?_)
          · replace h := h.1 hb
            refine wpE_seq (x := c_towpathref05_one_45) (y := c_towpathref05_one_47) (by kernel_rfl) ?_
            refine wpE_region (id := 10) (ops := r_towpathref05_one_45) (by kernel_rfl) ?_
            refine reg_run [] 0 [(1, [], Value.pointer (some ⟨b_, 0, none⟩)), (2, [], Value.pointer (some ⟨b_1, 0, none⟩)), (3, [], Value.pointer (some ⟨b_2, 0, none⟩))] (by kernel_rfl) (by kernel_rfl) ?_
            obtain ⟨v39, hc, h⟩ := h
            refine reg_loadN (t := 89) (a := (Go.Operand.tmp 1)) (b := b_) (o := 0) (ty := 89) (dst := some 39) [Value.bool v39.Gone, Value.slice v39.B.ptr v39.B.len v39.B.cap, Value.int .i64 v39.At, Value.int .i64 v39.Code] (by kernel_rfl) (by kernel_rfl) (by kernel_rfl) (k := 4) (by kernel_rfl) (by kernel_rfl) hc ?_
            refine reg_run [.plain] 2 [(2, [], Value.pointer (some ⟨b_1, 0, none⟩)), (3, [], Value.pointer (some ⟨b_2, 0, none⟩)), (39, [], Value.agg #[Value.bool v39.Gone, Value.slice v39.B.ptr v39.B.len v39.B.cap, Value.int .i64 v39.At, Value.int .i64 v39.Code]), (40, [], Value.agg #[Value.string ByteArray.empty, Value.string ByteArray.empty, Value.bool false])] (by kernel_rfl) (by kernel_rfl) ?_
            obtain ⟨hc, h⟩ := h
            refine reg_store (t := 89) (a := (Go.Operand.tmp 2)) (x := (Go.Operand.tmp 39)) (b := b_1) (o := 0) (ty := 0) (dst := none) [Value.bool v39.Gone, Value.slice v39.B.ptr v39.B.len v39.B.cap, Value.int .i64 v39.At, Value.int .i64 v39.Code] (by kernel_rfl) (by kernel_rfl) (by kernel_rfl) (k := 4) (by kernel_rfl) (by kernel_rfl) (by kernel_rfl) hc (fun w16 hw => ?_)
            replace h := h w16 hw
            clear hw
            refine reg_run [] 3 [(2, [], Value.pointer (some ⟨b_1, 0, none⟩)), (3, [], Value.pointer (some ⟨b_2, 0, none⟩)), (40, [], Value.agg #[Value.string ByteArray.empty, Value.string ByteArray.empty, Value.bool false])] (by kernel_rfl) (by kernel_rfl) ?_
            obtain ⟨hc, h⟩ := h
            refine reg_store (t := 61) (a := (Go.Operand.tmp 3)) (x := (Go.Operand.tmp 40)) (b := b_2) (o := 0) (ty := 0) (dst := none) [Value.string ByteArray.empty, Value.string ByteArray.empty, Value.bool false] (by kernel_rfl) (by kernel_rfl) (by kernel_rfl) (k := 3) (by kernel_rfl) (by kernel_rfl) (by kernel_rfl) hc (fun w17 hw => ?_)
            replace h := h w17 hw
            clear hw
            refine reg_run [.plain] 5 [(2, [], Value.pointer (some ⟨b_1, 0, none⟩)), (3, [], Value.pointer (some ⟨b_2, 0, none⟩)), (4, [], Value.int .i64 4)] (by kernel_rfl) (by kernel_rfl) ?_
            refine reg_end [(2, Value.pointer (some ⟨b_1, 0, none⟩)), (3, Value.pointer (some ⟨b_2, 0, none⟩)), (4, Value.int .i64 4)] (by kernel_rfl) (by kernel_rfl) ?_
            change WpE _ _ c_towpathref05_one_47 _ _ _
            refine wpE_ret (by kernel_rfl) ?_
            obtain ⟨res6, hc_res6, h⟩ := h
            obtain ⟨res7, hc_res7, h⟩ := h
            repeat (first | refine seqQ_ret ?_ | refine blockQ_ret ?_ | refine loopQ_ret ?_ | refine cutQ_ret ?_)
            exact retT (rs := [(Go.ResultVar.cell 2 89), (Go.ResultVar.cell 3 61), (Go.ResultVar.tmp 4)]) (vs := [Value.agg #[Value.bool res6.Gone, Value.slice res6.B.ptr res6.B.len res6.B.cap, Value.int .i64 res6.At, Value.int .i64 res6.Code], Value.agg #[Value.string res7.Key, Value.string res7.Val, Value.bool res7.Drop], Value.int .i64 4]) (by kernel_rfl) (⟨b_1, 0, [Value.bool res6.Gone, Value.slice res6.B.ptr res6.B.len res6.B.cap, Value.int .i64 res6.At, Value.int .i64 res6.Code], by kernel_rfl, hc_res6, (sizeP_of (k := 4) (by kernel_rfl) (by kernel_rfl)), .inl ⟨by kernel_rfl, rfl⟩, ⟨b_2, 0, [Value.string res7.Key, Value.string res7.Val, Value.bool res7.Drop], by kernel_rfl, hc_res7, (sizeP_of (k := 3) (by kernel_rfl) (by kernel_rfl)), .inl ⟨by kernel_rfl, rfl⟩, ⟨by kernel_rfl, trivial⟩⟩⟩) (by kernel_rfl) ⟨res6, res7, 4, rfl, h⟩
          · replace h := h.2 hb
            refine wpE_skip (by kernel_rfl) ?_
            change WpE _ _ c_towpathref05_one_49 _ _ _
            refine wpE_seq (x := c_towpathref05_one_50) (y := c_towpathref05_one_59) (by kernel_rfl) ?_
            refine wpE_seq (x := c_towpathref05_one_51) (y := c_towpathref05_one_53) (by kernel_rfl) ?_
            refine wpE_region (id := 11) (ops := r_towpathref05_one_51) (by kernel_rfl) ?_
            refine reg_run [.plain, .plain] 2 [(1, [], Value.pointer (some ⟨b_, 0, none⟩)), (2, [], Value.pointer (some ⟨b_1, 0, none⟩)), (3, [], Value.pointer (some ⟨b_2, 0, none⟩)), (5, [], Value.string key), (42, [], Value.bool (drop == 1))] (by kernel_rfl) (by kernel_rfl) ?_
            refine reg_end [(1, Value.pointer (some ⟨b_, 0, none⟩)), (2, Value.pointer (some ⟨b_1, 0, none⟩)), (3, Value.pointer (some ⟨b_2, 0, none⟩)), (5, Value.string key), (42, Value.bool (drop == 1))] (by kernel_rfl) (by kernel_rfl) ?_
            change WpE _ _ c_towpathref05_one_53 _ _ _
            refine wpE_cond (o := (Operand.tmp 42)) (b := (drop == 1)) (x := c_towpathref05_one_54) (y := c_towpathref05_one_58) (by kernel_rfl) (by kernel_rfl) (fun hb => ?_) (fun hb => ?_)
            · replace h := h.1 hb
              refine wpE_seq (x := c_towpathref05_one_55) (y := c_towpathref05_one_57) (by kernel_rfl) ?_
              refine wpE_region (id := 12) (ops := r_towpathref05_one_55) (by kernel_rfl) ?_
              refine reg_run [] 0 [(1, [], Value.pointer (some ⟨b_, 0, none⟩)), (2, [], Value.pointer (some ⟨b_1, 0, none⟩)), (3, [], Value.pointer (some ⟨b_2, 0, none⟩)), (5, [], Value.string key)] (by kernel_rfl) (by kernel_rfl) ?_
              obtain ⟨v43, hc, h⟩ := h
              refine reg_loadN (t := 89) (a := (Go.Operand.tmp 1)) (b := b_) (o := 0) (ty := 89) (dst := some 43) [Value.bool v43.Gone, Value.slice v43.B.ptr v43.B.len v43.B.cap, Value.int .i64 v43.At, Value.int .i64 v43.Code] (by kernel_rfl) (by kernel_rfl) (by kernel_rfl) (k := 4) (by kernel_rfl) (by kernel_rfl) hc ?_
              refine reg_run [.plain, .plain] 3 [(2, [], Value.pointer (some ⟨b_1, 0, none⟩)), (3, [], Value.pointer (some ⟨b_2, 0, none⟩)), (43, [], Value.agg #[Value.bool v43.Gone, Value.slice v43.B.ptr v43.B.len v43.B.cap, Value.int .i64 v43.At, Value.int .i64 v43.Code]), (45, [], Value.agg #[Value.string key, Value.string ByteArray.empty, Value.bool true])] (by kernel_rfl) (by kernel_rfl) ?_
              obtain ⟨hc, h⟩ := h
              refine reg_store (t := 89) (a := (Go.Operand.tmp 2)) (x := (Go.Operand.tmp 43)) (b := b_1) (o := 0) (ty := 0) (dst := none) [Value.bool v43.Gone, Value.slice v43.B.ptr v43.B.len v43.B.cap, Value.int .i64 v43.At, Value.int .i64 v43.Code] (by kernel_rfl) (by kernel_rfl) (by kernel_rfl) (k := 4) (by kernel_rfl) (by kernel_rfl) (by kernel_rfl) hc (fun w18 hw => ?_)
              replace h := h w18 hw
              clear hw
              refine reg_run [] 4 [(2, [], Value.pointer (some ⟨b_1, 0, none⟩)), (3, [], Value.pointer (some ⟨b_2, 0, none⟩)), (45, [], Value.agg #[Value.string key, Value.string ByteArray.empty, Value.bool true])] (by kernel_rfl) (by kernel_rfl) ?_
              obtain ⟨hc, h⟩ := h
              refine reg_store (t := 61) (a := (Go.Operand.tmp 3)) (x := (Go.Operand.tmp 45)) (b := b_2) (o := 0) (ty := 0) (dst := none) [Value.string key, Value.string ByteArray.empty, Value.bool true] (by kernel_rfl) (by kernel_rfl) (by kernel_rfl) (k := 3) (by kernel_rfl) (by kernel_rfl) (by kernel_rfl) hc (fun w19 hw => ?_)
              replace h := h w19 hw
              clear hw
              refine reg_run [.plain] 6 [(2, [], Value.pointer (some ⟨b_1, 0, none⟩)), (3, [], Value.pointer (some ⟨b_2, 0, none⟩)), (4, [], Value.int .i64 0)] (by kernel_rfl) (by kernel_rfl) ?_
              refine reg_end [(2, Value.pointer (some ⟨b_1, 0, none⟩)), (3, Value.pointer (some ⟨b_2, 0, none⟩)), (4, Value.int .i64 0)] (by kernel_rfl) (by kernel_rfl) ?_
              change WpE _ _ c_towpathref05_one_57 _ _ _
              refine wpE_ret (by kernel_rfl) ?_
              obtain ⟨res8, hc_res8, h⟩ := h
              obtain ⟨res9, hc_res9, h⟩ := h
              repeat (first | refine seqQ_ret ?_ | refine blockQ_ret ?_ | refine loopQ_ret ?_ | refine cutQ_ret ?_)
              exact retT (rs := [(Go.ResultVar.cell 2 89), (Go.ResultVar.cell 3 61), (Go.ResultVar.tmp 4)]) (vs := [Value.agg #[Value.bool res8.Gone, Value.slice res8.B.ptr res8.B.len res8.B.cap, Value.int .i64 res8.At, Value.int .i64 res8.Code], Value.agg #[Value.string res9.Key, Value.string res9.Val, Value.bool res9.Drop], Value.int .i64 0]) (by kernel_rfl) (⟨b_1, 0, [Value.bool res8.Gone, Value.slice res8.B.ptr res8.B.len res8.B.cap, Value.int .i64 res8.At, Value.int .i64 res8.Code], by kernel_rfl, hc_res8, (sizeP_of (k := 4) (by kernel_rfl) (by kernel_rfl)), .inl ⟨by kernel_rfl, rfl⟩, ⟨b_2, 0, [Value.string res9.Key, Value.string res9.Val, Value.bool res9.Drop], by kernel_rfl, hc_res9, (sizeP_of (k := 3) (by kernel_rfl) (by kernel_rfl)), .inl ⟨by kernel_rfl, rfl⟩, ⟨by kernel_rfl, trivial⟩⟩⟩) (by kernel_rfl) ⟨res8, res9, 0, rfl, h⟩
            · replace h := h.2 hb
              refine wpE_skip (by kernel_rfl) ?_
              change WpE _ _ c_towpathref05_one_59 _ _ _
              refine wpE_seq (x := c_towpathref05_one_60) (y := c_towpathref05_one_62) (by kernel_rfl) ?_
              refine wpE_region (id := 13) (ops := r_towpathref05_one_60) (by kernel_rfl) ?_
              refine reg_run [] 0 [(1, [], Value.pointer (some ⟨b_, 0, none⟩)), (2, [], Value.pointer (some ⟨b_1, 0, none⟩)), (3, [], Value.pointer (some ⟨b_2, 0, none⟩)), (5, [], Value.string key)] (by kernel_rfl) (by kernel_rfl) ?_
              obtain ⟨v47, hc, h⟩ := h
              refine reg_loadN (t := 89) (a := (Go.Operand.tmp 1)) (b := b_) (o := 0) (ty := 89) (dst := some 47) [Value.bool v47.Gone, Value.slice v47.B.ptr v47.B.len v47.B.cap, Value.int .i64 v47.At, Value.int .i64 v47.Code] (by kernel_rfl) (by kernel_rfl) (by kernel_rfl) (k := 4) (by kernel_rfl) (by kernel_rfl) hc ?_
              refine reg_run [] 1 [(1, [], Value.pointer (some ⟨b_, 0, none⟩)), (2, [], Value.pointer (some ⟨b_1, 0, none⟩)), (3, [], Value.pointer (some ⟨b_2, 0, none⟩)), (5, [], Value.string key), (47, [], Value.agg #[Value.bool v47.Gone, Value.slice v47.B.ptr v47.B.len v47.B.cap, Value.int .i64 v47.At, Value.int .i64 v47.Code])] (by kernel_rfl) (by kernel_rfl) ?_
              refine reg_enter (op := (Go.Op.call (Go.Call.mk (Go.Callee.value (Go.Operand.func 80)) #[(Go.Operand.tmp 47), (Go.Operand.const (Go.Value.int Go.IntKind.i64 1024))] #[89, 3]))) (ty := 130) (dst := some 48) 80 #[Value.agg #[Value.bool v47.Gone, Value.slice v47.B.ptr v47.B.len v47.B.cap, Value.int .i64 v47.At, Value.int .i64 v47.Code], Value.int .i64 1024] (by kernel_rfl) (fun ww => by kernel_rfl) (Calls.mono h ?_)
              rintro _ w20 ⟨v48, val, rfl, h⟩
              refine ⟨_, rfl, ?_⟩
              refine reg_run [.plain, .plain, .plain] 5 [(1, [], Value.pointer (some ⟨b_, 0, none⟩)), (2, [], Value.pointer (some ⟨b_1, 0, none⟩)), (3, [], Value.pointer (some ⟨b_2, 0, none⟩)), (5, [], Value.string key), (49, [], Value.agg #[Value.bool v48.Gone, Value.slice v48.B.ptr v48.B.len v48.B.cap, Value.int .i64 v48.At, Value.int .i64 v48.Code]), (50, [], Value.string val)] (by kernel_rfl) (by kernel_rfl) ?_
              obtain ⟨hc, h⟩ := h
              refine reg_store (t := 89) (a := (Go.Operand.tmp 1)) (x := (Go.Operand.tmp 49)) (b := b_) (o := 0) (ty := 0) (dst := none) [Value.bool v48.Gone, Value.slice v48.B.ptr v48.B.len v48.B.cap, Value.int .i64 v48.At, Value.int .i64 v48.Code] (by kernel_rfl) (by kernel_rfl) (by kernel_rfl) (k := 4) (by kernel_rfl) (by kernel_rfl) (by kernel_rfl) hc (fun w21 hw => ?_)
              replace h := h w21 hw
              clear hw
              refine reg_run [.plain] 7 [(1, [], Value.pointer (some ⟨b_, 0, none⟩)), (2, [], Value.pointer (some ⟨b_1, 0, none⟩)), (3, [], Value.pointer (some ⟨b_2, 0, none⟩)), (5, [], Value.string key), (7, [], Value.string val)] (by kernel_rfl) (by kernel_rfl) ?_
              refine reg_end [(1, Value.pointer (some ⟨b_, 0, none⟩)), (2, Value.pointer (some ⟨b_1, 0, none⟩)), (3, Value.pointer (some ⟨b_2, 0, none⟩)), (5, Value.string key), (7, Value.string val)] (by kernel_rfl) (by kernel_rfl) ?_
              change WpE _ _ c_towpathref05_one_62 _ _ _
              refine wpE_seq (x := c_towpathref05_one_63) (y := c_towpathref05_one_65) (by kernel_rfl) ?_
              refine wpE_mixregion (id := 14) (ops := r_towpathref05_one_63) o_towpathref05_one_63 (by kernel_rfl) (by kernel_rfl) (by kernel_rfl) (by kernel_rfl) (fun w22 hw => ?_)
              replace h := h w22 hw
              clear hw
              refine mreg_run [] 0 [(1, [], Value.pointer (some ⟨b_, 0, none⟩)), (2, [], Value.pointer (some ⟨b_1, 0, none⟩)), (3, [], Value.pointer (some ⟨b_2, 0, none⟩)), (5, [], Value.string key), (7, [], Value.string val)] (by kernel_rfl) (by kernel_rfl) ?_
              obtain ⟨v51, hc, h⟩ := h
              refine mreg_loadN (i := 0) (by kernel_rfl) (t := 89) (a := (Go.Operand.tmp 1)) (b := b_) (o := 0) (ty := 89) (dst := some 51) [Value.bool v51.Gone, Value.slice v51.B.ptr v51.B.len v51.B.cap, Value.int .i64 v51.At, Value.int .i64 v51.Code] (by kernel_rfl) (by kernel_rfl) (by kernel_rfl) (k := 4) (by kernel_rfl) (by kernel_rfl) hc ?_
              refine mreg_run [.plain, .plain, .plain, .plain] 5 [(2, [], Value.pointer (some ⟨b_1, 0, none⟩)), (3, [], Value.pointer (some ⟨b_2, 0, none⟩)), (51, [], Value.agg #[Value.bool v51.Gone, Value.slice v51.B.ptr v51.B.len v51.B.cap, Value.int .i64 v51.At, Value.int .i64 v51.Code]), (54, [], Value.agg #[Value.string key, Value.string val, Value.bool false]), (55, [], Value.pointer (some ⟨b_, 3, none⟩))] (by kernel_rfl) (by kernel_rfl) ?_
              obtain ⟨v56, hc, h⟩ := h
              refine mreg_load1 (i := 5) (by kernel_rfl) (t := 28) (a := (Go.Operand.tmp 55)) (b := b_) (o := 3) (ty := 28) (dst := some 56) (by kernel_rfl) (by kernel_rfl) (by kernel_rfl) hc ?_
              refine mreg_run [] 6 [(2, [], Value.pointer (some ⟨b_1, 0, none⟩)), (3, [], Value.pointer (some ⟨b_2, 0, none⟩)), (51, [], Value.agg #[Value.bool v51.Gone, Value.slice v51.B.ptr v51.B.len v51.B.cap, Value.int .i64 v51.At, Value.int .i64 v51.Code]), (54, [], Value.agg #[Value.string key, Value.string val, Value.bool false]), (56, [], Value.int .i64 v56)] (by kernel_rfl) (by kernel_rfl) ?_
              obtain ⟨hc, h⟩ := h
              refine mreg_store (t := 89) (a := (Go.Operand.tmp 2)) (x := (Go.Operand.tmp 51)) (b := b_1) (o := 0) (k := 4) (ty := 0) (dst := none) 6 [0] [(5, fun w' => w'.cell? ⟨b_, 3, none⟩ = some (Value.int .i64 v56))] [Value.bool v51.Gone, Value.slice v51.B.ptr v51.B.len v51.B.cap, Value.int .i64 v51.At, Value.int .i64 v51.Code] (by kernel_rfl) (by kernel_rfl) (by kernel_rfl) (by kernel_rfl) (by kernel_rfl) (by kernel_rfl) (by kernel_rfl) (by kernel_rfl) (by kernel_rfl) (by kernel_rfl) hc (fun w23 hw => ?_)
              replace h := h w23 hw
              clear hw
              obtain ⟨hk0, h⟩ := h
              refine ⟨⟨hk0, trivial⟩, ?_⟩
              refine mreg_run [] 7 [(2, [], Value.pointer (some ⟨b_1, 0, none⟩)), (3, [], Value.pointer (some ⟨b_2, 0, none⟩)), (54, [], Value.agg #[Value.string key, Value.string val, Value.bool false]), (56, [], Value.int .i64 v56)] (by kernel_rfl) (by kernel_rfl) ?_
              obtain ⟨hc, h⟩ := h
              refine mreg_store (t := 61) (a := (Go.Operand.tmp 3)) (x := (Go.Operand.tmp 54)) (b := b_2) (o := 0) (k := 3) (ty := 0) (dst := none) 7 [0, 1, 2, 3, 6] [(5, fun w' => w'.cell? ⟨b_, 3, none⟩ = some (Value.int .i64 v56))] [Value.string key, Value.string val, Value.bool false] (by kernel_rfl) (by kernel_rfl) (by kernel_rfl) (by kernel_rfl) (by kernel_rfl) (by kernel_rfl) (by kernel_rfl) (by kernel_rfl) (by kernel_rfl) (by kernel_rfl) hc (fun w24 hw => ?_)
              replace h := h w24 hw
              clear hw
              obtain ⟨hk0, h⟩ := h
              refine ⟨⟨hk0, trivial⟩, ?_⟩
              refine mreg_run [.plain] 9 [(2, [], Value.pointer (some ⟨b_1, 0, none⟩)), (3, [], Value.pointer (some ⟨b_2, 0, none⟩)), (4, [], Value.int .i64 v56)] (by kernel_rfl) (by kernel_rfl) ?_
              refine mreg_end [(2, Value.pointer (some ⟨b_1, 0, none⟩)), (3, Value.pointer (some ⟨b_2, 0, none⟩)), (4, Value.int .i64 v56)] (by kernel_rfl) (by kernel_rfl) (by kernel_rfl) ?_
              change WpE _ _ c_towpathref05_one_65 _ _ _
              refine wpE_ret (by kernel_rfl) ?_
              obtain ⟨res10, hc_res10, h⟩ := h
              obtain ⟨res11, hc_res11, h⟩ := h
              repeat (first | refine seqQ_ret ?_ | refine blockQ_ret ?_ | refine loopQ_ret ?_ | refine cutQ_ret ?_)
              exact retT (rs := [(Go.ResultVar.cell 2 89), (Go.ResultVar.cell 3 61), (Go.ResultVar.tmp 4)]) (vs := [Value.agg #[Value.bool res10.Gone, Value.slice res10.B.ptr res10.B.len res10.B.cap, Value.int .i64 res10.At, Value.int .i64 res10.Code], Value.agg #[Value.string res11.Key, Value.string res11.Val, Value.bool res11.Drop], Value.int .i64 v56]) (by kernel_rfl) (⟨b_1, 0, [Value.bool res10.Gone, Value.slice res10.B.ptr res10.B.len res10.B.cap, Value.int .i64 res10.At, Value.int .i64 res10.Code], by kernel_rfl, hc_res10, (sizeP_of (k := 4) (by kernel_rfl) (by kernel_rfl)), .inl ⟨by kernel_rfl, rfl⟩, ⟨b_2, 0, [Value.string res11.Key, Value.string res11.Val, Value.bool res11.Drop], by kernel_rfl, hc_res11, (sizeP_of (k := 3) (by kernel_rfl) (by kernel_rfl)), .inl ⟨by kernel_rfl, rfl⟩, ⟨by kernel_rfl, trivial⟩⟩⟩) (by kernel_rfl) ⟨res10, res11, v56, rfl, h⟩
  · rintro e w' ⟨v, rfl, r0, r1, r2, rfl, h⟩; exact ⟨r0, r1, r2, rfl, h⟩
end Go.Proofs.Ytfmkemmgakdddaa
