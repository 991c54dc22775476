/- WRITTEN BY PROGRAM (dec.py): for each Go function the clean formula F, the call's contract C, and the proof S that F gives C. -/
import Derived.Test.YtpedclhflmhakaaRows
import Derived.Test.YtpedclhflmhakaaGF
namespace Go.Proofs.Ytpedclhflmhakaa
open Go
set_option linter.unusedVariables false

/-! ### towpath/feed.New (function 27) -/
noncomputable def c_feed_New_0 : Code := (Try.f27.body).getD Code.skip
noncomputable def c_feed_New_1 : Code := Code.l c_feed_New_0
noncomputable def r_feed_New_1 : Array Oper := Code.ops c_feed_New_1
noncomputable def c_feed_New_3 : Code := Code.r c_feed_New_0
noncomputable def c_feed_New_4 : Code := Code.l c_feed_New_3
noncomputable def c_feed_New_5 : Code := Code.l c_feed_New_4
noncomputable def r_feed_New_5 : Array Oper := Code.ops c_feed_New_5
noncomputable def c_feed_New_7 : Code := Code.r c_feed_New_4
noncomputable def c_feed_New_8 : Code := Code.l c_feed_New_7
noncomputable def c_feed_New_9 : Code := Code.l c_feed_New_8
noncomputable def r_feed_New_9 : Array Oper := Code.ops c_feed_New_9
noncomputable def c_feed_New_11 : Code := Code.r c_feed_New_8
noncomputable def c_feed_New_12 : Code := Code.r c_feed_New_7
noncomputable def c_feed_New_13 : Code := Code.r c_feed_New_3
noncomputable def c_feed_New_14 : Code := Code.l c_feed_New_13
noncomputable def c_feed_New_15 : Code := Code.l c_feed_New_14
noncomputable def r_feed_New_15 : Array Oper := Code.ops c_feed_New_15
noncomputable def c_feed_New_17 : Code := Code.r c_feed_New_14
noncomputable def c_feed_New_18 : Code := Code.l c_feed_New_17
noncomputable def c_feed_New_19 : Code := Code.l c_feed_New_18
noncomputable def r_feed_New_19 : Array Oper := Code.ops c_feed_New_19
noncomputable def c_feed_New_21 : Code := Code.r c_feed_New_18
noncomputable def c_feed_New_22 : Code := Code.r c_feed_New_17
noncomputable def c_feed_New_23 : Code := Code.r c_feed_New_13
noncomputable def c_feed_New_24 : Code := Code.l c_feed_New_23
noncomputable def r_feed_New_24 : Array Oper := Code.ops c_feed_New_24
noncomputable def c_feed_New_26 : Code := Code.r c_feed_New_23
noncomputable def c_feed_New_27 : Code := Code.l c_feed_New_26
noncomputable def r_feed_New_27 : Array Oper := Code.ops c_feed_New_27
noncomputable def c_feed_New_29 : Code := Code.r c_feed_New_26
noncomputable def c_feed_New_30 : Code := Code.l c_feed_New_29
noncomputable def c_feed_New_31 : Code := Code.l c_feed_New_30
noncomputable def r_feed_New_31 : Array Oper := Code.ops c_feed_New_31
noncomputable def c_feed_New_33 : Code := Code.r c_feed_New_30
noncomputable def c_feed_New_34 : Code := Code.l c_feed_New_33
noncomputable def c_feed_New_35 : Code := Code.l c_feed_New_34
noncomputable def c_feed_New_36 : Code := Code.l c_feed_New_35
noncomputable def r_feed_New_36 : Array Oper := Code.ops c_feed_New_36
noncomputable def c_feed_New_38 : Code := Code.r c_feed_New_35
noncomputable def c_feed_New_39 : Code := Code.l c_feed_New_38
noncomputable def c_feed_New_40 : Code := Code.l c_feed_New_39
noncomputable def c_feed_New_41 : Code := Code.r c_feed_New_39
noncomputable def c_feed_New_42 : Code := Code.r c_feed_New_38
noncomputable def c_feed_New_43 : Code := Code.l c_feed_New_42
noncomputable def c_feed_New_44 : Code := Code.l c_feed_New_43
noncomputable def c_feed_New_45 : Code := Code.l c_feed_New_44
noncomputable def r_feed_New_45 : Array Oper := Code.ops c_feed_New_45
noncomputable def c_feed_New_47 : Code := Code.r c_feed_New_44
noncomputable def c_feed_New_48 : Code := Code.l c_feed_New_47
noncomputable def c_feed_New_49 : Code := Code.l c_feed_New_48
noncomputable def r_feed_New_49 : Array Oper := Code.ops c_feed_New_49
noncomputable def c_feed_New_51 : Code := Code.r c_feed_New_48
noncomputable def c_feed_New_52 : Code := Code.l c_feed_New_51
noncomputable def c_feed_New_53 : Code := Code.l c_feed_New_52
noncomputable def r_feed_New_53 : Array Oper := Code.ops c_feed_New_53
noncomputable def c_feed_New_55 : Code := Code.r c_feed_New_52
noncomputable def c_feed_New_56 : Code := Code.r c_feed_New_51
noncomputable def c_feed_New_57 : Code := Code.r c_feed_New_47
noncomputable def c_feed_New_58 : Code := Code.l c_feed_New_57
noncomputable def r_feed_New_58 : Array Oper := Code.ops c_feed_New_58
noncomputable def c_feed_New_60 : Code := Code.r c_feed_New_57
noncomputable def r_feed_New_60 : Array Oper := Code.ops c_feed_New_60
noncomputable def c_feed_New_62 : Code := Code.r c_feed_New_42
noncomputable def r_feed_New_62 : Array Oper := Code.ops c_feed_New_62
noncomputable def c_feed_New_64 : Code := Code.r c_feed_New_29
noncomputable def c_feed_New_65 : Code := Code.l c_feed_New_64
noncomputable def c_feed_New_66 : Code := Code.l c_feed_New_65
noncomputable def r_feed_New_66 : Array Oper := Code.ops c_feed_New_66
noncomputable def c_feed_New_68 : Code := Code.r c_feed_New_65
noncomputable def c_feed_New_69 : Code := Code.l c_feed_New_68
noncomputable def c_feed_New_70 : Code := Code.l c_feed_New_69
noncomputable def r_feed_New_70 : Array Oper := Code.ops c_feed_New_70
noncomputable def c_feed_New_72 : Code := Code.r c_feed_New_69
noncomputable def c_feed_New_73 : Code := Code.r c_feed_New_68
noncomputable def c_feed_New_74 : Code := Code.r c_feed_New_64
noncomputable def c_feed_New_75 : Code := Code.l c_feed_New_74
noncomputable def r_feed_New_75 : Array Oper := Code.ops c_feed_New_75
noncomputable def c_feed_New_77 : Code := Code.r c_feed_New_74

set_option maxRecDepth 100000 in
set_option maxHeartbeats 4000000 in
theorem S_feed_New {s : Option Addr} {mark : Int} {beyond : Slc} {window : Int} {w : World} {R : Option Addr → Int → World → Prop} (h : F_feed_New s mark beyond window R w) : C_feed_New s mark beyond window w R := by
  unfold F_feed_New at h
  unfold C_feed_New
  refine Calls.mono (calls_of_wpE (args := [Value.pointer s, Value.int .i64 mark, Value.slice beyond.ptr beyond.len beyond.cap, Value.int .i64 window]) (R := fun v w' => ∃ (r0 : Option Addr) (r1 : Int), v = Value.tuple #[Value.pointer r0, Value.int .i64 r1] ∧ R r0 r1 w') Try.func27 (c := c_feed_New_0) (by kernel_rfl) 66 (by kernel_rfl) (by kernel_rfl) [(0, Value.pointer s), (1, Value.int .i64 mark), (2, Value.slice beyond.ptr beyond.len beyond.cap), (3, Value.int .i64 window)] (by kernel_rfl) ?_) ?_
  · refine wpE_seq (x := c_feed_New_1) (y := c_feed_New_3) (by kernel_rfl) ?_
    refine wpE_region (id := 0) (ops := r_feed_New_1) (by kernel_rfl) ?_
    refine reg_run [.plain, .plain] 2 [(0, [], Value.pointer s), (1, [], Value.int .i64 mark), (2, [], Value.slice beyond.ptr beyond.len beyond.cap), (3, [], Value.int .i64 window)] (by kernel_rfl) (by kernel_rfl) ?_
    refine reg_end [(0, Value.pointer s), (1, Value.int .i64 mark), (2, Value.slice beyond.ptr beyond.len beyond.cap), (3, Value.int .i64 window)] (by kernel_rfl) (by kernel_rfl) ?_
    change WpE _ _ c_feed_New_3 _ _ _
    refine wpE_seq (x := c_feed_New_4) (y := c_feed_New_13) (by kernel_rfl) ?_
    refine wpE_seq (x := c_feed_New_5) (y := c_feed_New_7) (by kernel_rfl) ?_
    refine wpE_region (id := 1) (ops := r_feed_New_5) (by kernel_rfl) ?_
    refine reg_run [.plain] 1 [(0, [], Value.pointer s), (1, [], Value.int .i64 mark), (2, [], Value.slice beyond.ptr beyond.len beyond.cap), (3, [], Value.int .i64 window), (14, [], Value.pointer s)] (by kernel_rfl) (by kernel_rfl) ?_
    refine reg_val (op := (Go.Op.binOp Go.BinOp.eql 28 (Go.Operand.tmp 14) (Go.Operand.const (Go.Value.pointer none)) 28)) (ty := 4) (dst := some 15) (Value.bool s.isNone) (by kernel_rfl) (fun ww => run_ptr_eql_R (p := s) (by kernel_rfl) (by kernel_rfl) (by kernel_rfl) ww) ?_
    refine reg_end [(0, Value.pointer s), (1, Value.int .i64 mark), (2, Value.slice beyond.ptr beyond.len beyond.cap), (3, Value.int .i64 window), (15, Value.bool s.isNone)] (by kernel_rfl) (by kernel_rfl) ?_
    change WpE _ _ c_feed_New_7 _ _ _
    refine wpE_cond (o := (Operand.tmp 15)) (b := s.isNone) (x := c_feed_New_8) (y := c_feed_New_12) (by kernel_rfl) (by kernel_rfl) (fun hb => ?_) (fun hb => ?_)
    · replace h := h.1 hb
      refine wpE_seq (x := c_feed_New_9) (y := c_feed_New_11) (by kernel_rfl) ?_
      refine wpE_region (id := 2) (ops := r_feed_New_9) (by kernel_rfl) ?_
      refine reg_run [.plain, .plain] 2 [(8, [], Value.pointer none), (9, [], Value.int .i64 2)] (by kernel_rfl) (by kernel_rfl) ?_
      refine reg_end [(8, Value.pointer none), (9, Value.int .i64 2)] (by kernel_rfl) (by kernel_rfl) ?_
      change WpE _ _ c_feed_New_11 _ _ _
      refine wpE_ret (by kernel_rfl) ?_
      repeat (first | refine seqQ_ret ?_ | refine blockQ_ret ?_ | refine loopQ_ret ?_ | refine cutQ_ret ?_)
      exact retT (rs := [(Go.ResultVar.tmp 8), (Go.ResultVar.tmp 9)]) (vs := [Value.pointer none, Value.int .i64 2]) (by kernel_rfl) (⟨by kernel_rfl, ⟨by kernel_rfl, trivial⟩⟩) (by kernel_rfl) ⟨none, 2, rfl, h⟩
    · replace h := h.2 hb
      refine wpE_skip (by kernel_rfl) ?_
      change WpE _ _ c_feed_New_13 _ _ _
      refine wpE_seq (x := c_feed_New_14) (y := c_feed_New_23) (by kernel_rfl) ?_
      refine wpE_seq (x := c_feed_New_15) (y := c_feed_New_17) (by kernel_rfl) ?_
      refine wpE_region (id := 3) (ops := r_feed_New_15) (by kernel_rfl) ?_
      refine reg_run [.plain, .plain, .plain, .plain, .plain, .pick, .plain, .plain, .plain, .pick] 10 [(0, [], Value.pointer s), (1, [], Value.int .i64 mark), (2, [], Value.slice beyond.ptr beyond.len beyond.cap), (3, [], Value.int .i64 window), (25, [], Value.bool (((decide (mark < 0)) || (decide (window < 1))) || (decide (window > 64))))] (by kernel_rfl) (by kernel_rfl) ?_
      refine reg_end [(0, Value.pointer s), (1, Value.int .i64 mark), (2, Value.slice beyond.ptr beyond.len beyond.cap), (3, Value.int .i64 window), (25, Value.bool (((decide (mark < 0)) || (decide (window < 1))) || (decide (window > 64))))] (by kernel_rfl) (by kernel_rfl) ?_
      change WpE _ _ c_feed_New_17 _ _ _
      refine wpE_cond (o := (Operand.tmp 25)) (b := (((decide (mark < 0)) || (decide (window < 1))) || (decide (window > 64)))) (x := c_feed_New_18) (y := c_feed_New_22) (by kernel_rfl) (by kernel_rfl) (fun hb => ?_) (fun hb => ?_)
      · replace h := h.1 hb
        refine wpE_seq (x := c_feed_New_19) (y := c_feed_New_21) (by kernel_rfl) ?_
        refine wpE_region (id := 4) (ops := r_feed_New_19) (by kernel_rfl) ?_
        refine reg_run [.plain, .plain] 2 [(8, [], Value.pointer none), (9, [], Value.int .i64 1)] (by kernel_rfl) (by kernel_rfl) ?_
        refine reg_end [(8, Value.pointer none), (9, Value.int .i64 1)] (by kernel_rfl) (by kernel_rfl) ?_
        change WpE _ _ c_feed_New_21 _ _ _
        refine wpE_ret (by kernel_rfl) ?_
        repeat (first | refine seqQ_ret ?_ | refine blockQ_ret ?_ | refine loopQ_ret ?_ | refine cutQ_ret ?_)
        exact retT (rs := [(Go.ResultVar.tmp 8), (Go.ResultVar.tmp 9)]) (vs := [Value.pointer none, Value.int .i64 1]) (by kernel_rfl) (⟨by kernel_rfl, ⟨by kernel_rfl, trivial⟩⟩) (by kernel_rfl) ⟨none, 1, rfl, h⟩
      · replace h := h.2 hb
        refine wpE_skip (by kernel_rfl) ?_
        change WpE _ _ c_feed_New_23 _ _ _
        refine wpE_seq (x := c_feed_New_24) (y := c_feed_New_26) (by kernel_rfl) ?_
        refine wpE_region (id := 5) (ops := r_feed_New_24) (by kernel_rfl) ?_
        refine reg_run [.plain, .plain] 2 [(0, [], Value.pointer s), (1, [], Value.int .i64 mark), (2, [], Value.slice beyond.ptr beyond.len beyond.cap), (3, [], Value.int .i64 window), (27, [], Value.int .i64 ((beyond.len : Nat) : Int))] (by kernel_rfl) (by kernel_rfl) ?_
        refine reg_new (op := (Go.Op.makeMap 56 (some (Go.Operand.tmp 27)))) (ty := 56) (dst := some 28) (fun bb => Value.map (some bb)) (Obj.map #[] 0) (by kernel_rfl) (by kernel_rfl) (fun b_ w1 hb hw => ?_)
        replace h := h b_ w1 hb hw
        clear hb hw
        refine reg_run [.plain] 4 [(0, [], Value.pointer s), (1, [], Value.int .i64 mark), (2, [], Value.slice beyond.ptr beyond.len beyond.cap), (3, [], Value.int .i64 window), (10, [], Value.map (some b_))] (by kernel_rfl) (by kernel_rfl) ?_
        refine reg_end [(0, Value.pointer s), (1, Value.int .i64 mark), (2, Value.slice beyond.ptr beyond.len beyond.cap), (3, Value.int .i64 window), (10, Value.map (some b_))] (by kernel_rfl) (by kernel_rfl) ?_
        change WpE _ _ c_feed_New_26 _ _ _
        refine wpE_seq (x := c_feed_New_27) (y := c_feed_New_29) (by kernel_rfl) ?_
        refine wpE_region (id := 6) (ops := r_feed_New_27) (by kernel_rfl) ?_
        refine reg_run [.plain, .plain] 2 [(0, [], Value.pointer s), (1, [], Value.int .i64 mark), (2, [], Value.slice beyond.ptr beyond.len beyond.cap), (3, [], Value.int .i64 window), (10, [], Value.map (some b_)), (11, [], Value.int .i64 mark)] (by kernel_rfl) (by kernel_rfl) ?_
        refine reg_end [(0, Value.pointer s), (1, Value.int .i64 mark), (2, Value.slice beyond.ptr beyond.len beyond.cap), (3, Value.int .i64 window), (10, Value.map (some b_)), (11, Value.int .i64 mark)] (by kernel_rfl) (by kernel_rfl) ?_
        change WpE _ _ c_feed_New_29 _ _ _
        refine wpE_seq (x := c_feed_New_30) (y := c_feed_New_64) (by kernel_rfl) ?_
        refine wpE_seq (x := c_feed_New_31) (y := c_feed_New_33) (by kernel_rfl) ?_
        refine wpE_region (id := 7) (ops := r_feed_New_31) (by kernel_rfl) ?_
        refine reg_run [.plain, .plain, .plain] 3 [(0, [], Value.pointer s), (1, [], Value.int .i64 mark), (3, [], Value.int .i64 window), (10, [], Value.map (some b_)), (11, [], Value.int .i64 mark), (30, [], Value.slice beyond.ptr beyond.len beyond.cap), (31, [], Value.int .i64 ((beyond.len : Nat) : Int)), (32, [], Value.int .i64 0)] (by kernel_rfl) (by kernel_rfl) ?_
        refine reg_end [(0, Value.pointer s), (1, Value.int .i64 mark), (3, Value.int .i64 window), (10, Value.map (some b_)), (11, Value.int .i64 mark), (30, Value.slice beyond.ptr beyond.len beyond.cap), (31, Value.int .i64 ((beyond.len : Nat) : Int)), (32, Value.int .i64 0)] (by kernel_rfl) (by kernel_rfl) ?_
        change WpE _ _ c_feed_New_33 _ _ _
        refine wpE_block (id := 0) (x := c_feed_New_34) (by kernel_rfl) ?_
        obtain ⟨I, μ, h0, hr⟩ := h
        refine wpE_loop (x := c_feed_New_35) (by kernel_rfl) (fun m l w => ∃ (last : Int) (t32 : Int), l = [(0, Value.pointer s), (1, Value.int .i64 mark), (3, Value.int .i64 window), (10, Value.map (some b_)), (11, Value.int .i64 last), (30, Value.slice beyond.ptr beyond.len beyond.cap), (31, Value.int .i64 ((beyond.len : Nat) : Int)), (32, Value.int .i64 t32)] ∧ I last t32 w ∧ μ last t32 w = m) (l' := [(0, Value.pointer s), (1, Value.int .i64 mark), (3, Value.int .i64 window), (10, Value.map (some b_)), (11, Value.int .i64 mark), (30, Value.slice beyond.ptr beyond.len beyond.cap), (31, Value.int .i64 ((beyond.len : Nat) : Int)), (32, Value.int .i64 0)]) (Sub.mk (by kernel_rfl)) ⟨mark, 0, rfl, h0, rfl⟩ ?_
        rintro _ _ w2 ⟨last, t32, rfl, hI, rfl⟩
        obtain ⟨again_, again__h, h⟩ : ∃ again_ : Int → Int → World → Prop, (∀ last' t32' w', again_ last' t32' w' → I last' t32' w' ∧ μ last' t32' w' < μ last t32 w2) ∧ F_feed_New_L0 s mark beyond window R b_ again_ last t32 w2 := ⟨_, fun _ _ _ h => h, hr last t32 w2 hI⟩
        clear h0 hI
        unfold F_feed_New_L0 at h
        refine wpE_seq (x := c_feed_New_36) (y := c_feed_New_38) (by kernel_rfl) ?_
        refine wpE_region (id := 8) (ops := r_feed_New_36) (by kernel_rfl) ?_
        refine reg_run [.plain] 1 [(0, [], Value.pointer s), (1, [], Value.int .i64 mark), (3, [], Value.int .i64 window), (10, [], Value.map (some b_)), (11, [], Value.int .i64 last), (30, [], Value.slice beyond.ptr beyond.len beyond.cap), (31, [], Value.int .i64 ((beyond.len : Nat) : Int)), (32, [], Value.int .i64 t32), (33, [], Value.bool (decide (t32 < ((beyond.len : Nat) : Int))))] (by kernel_rfl) (by kernel_rfl) ?_
        refine reg_end [(0, Value.pointer s), (1, Value.int .i64 mark), (3, Value.int .i64 window), (10, Value.map (some b_)), (11, Value.int .i64 last), (30, Value.slice beyond.ptr beyond.len beyond.cap), (31, Value.int .i64 ((beyond.len : Nat) : Int)), (32, Value.int .i64 t32), (33, Value.bool (decide (t32 < ((beyond.len : Nat) : Int))))] (by kernel_rfl) (by kernel_rfl) ?_
        change WpE _ _ c_feed_New_38 _ _ _
        refine wpE_seq (x := c_feed_New_39) (y := c_feed_New_42) (by kernel_rfl) ?_
        refine wpE_cond (o := (Operand.tmp 33)) (b := (decide (t32 < ((beyond.len : Nat) : Int)))) (x := c_feed_New_40) (y := c_feed_New_41) (by kernel_rfl) (by kernel_rfl) (fun hb => ?_) (fun hb => ?_)
        · replace h := h.1 hb
          refine wpE_skip (by kernel_rfl) ?_
          change WpE _ _ c_feed_New_42 _ _ _
          refine wpE_seq (x := c_feed_New_43) (y := c_feed_New_62) (by kernel_rfl) ?_
          refine wpE_block (id := 1) (x := c_feed_New_44) (by kernel_rfl) ?_
          refine wpE_seq (x := c_feed_New_45) (y := c_feed_New_47) (by kernel_rfl) ?_
          refine wpE_region (id := 9) (ops := r_feed_New_45) (by kernel_rfl) ?_
          refine reg_run [.plain] 1 [(0, [], Value.pointer s), (1, [], Value.int .i64 mark), (3, [], Value.int .i64 window), (10, [], Value.map (some b_)), (11, [], Value.int .i64 last), (30, [], Value.slice beyond.ptr beyond.len beyond.cap), (31, [], Value.int .i64 ((beyond.len : Nat) : Int)), (32, [], Value.int .i64 t32), (34, [], Value.int .i64 t32)] (by kernel_rfl) (by kernel_rfl) ?_
          obtain ⟨hp_7, h⟩ := h
          refine reg_conv [(0, [], Value.pointer s), (1, [], Value.int .i64 mark), (3, [], Value.int .i64 window), (10, [], Value.map (some b_)), (11, [], Value.int .i64 last), (30, [], Value.slice (some ⟨(pblk beyond.ptr), (poff beyond.ptr), none⟩) beyond.len beyond.cap), (31, [], Value.int .i64 ((beyond.len : Nat) : Int)), (32, [], Value.int .i64 t32), (34, [], Value.int .i64 t32)] (congrArg (fun pp => ([(0, [], Value.pointer s), (1, [], Value.int .i64 mark), (3, [], Value.int .i64 window), (10, [], Value.map (some b_)), (11, [], Value.int .i64 last), (30, [], Value.slice pp beyond.len beyond.cap), (31, [], Value.int .i64 ((beyond.len : Nat) : Int)), (32, [], Value.int .i64 t32), (34, [], Value.int .i64 t32)] : GEnv)) hp_7) ?_
          obtain ⟨h0, h1, h⟩ := h
          refine reg_indexS1 (t := 23) (e := 3) (x := (Go.Operand.tmp 30)) (ix := (Go.Operand.tmp 32)) (b := (pblk beyond.ptr)) (o := (poff beyond.ptr)) (l := beyond.len) (c := beyond.cap) (k := .i64) (j := t32) (ty := 0) (dst := some 35) (by kernel_rfl) (by kernel_rfl) (by kernel_rfl) (by kernel_rfl) (by kernel_rfl) h0 h1 ?_
          refine reg_run [] 2 [(0, [], Value.pointer s), (1, [], Value.int .i64 mark), (3, [], Value.int .i64 window), (10, [], Value.map (some b_)), (11, [], Value.int .i64 last), (30, [], Value.slice (some ⟨(pblk beyond.ptr), (poff beyond.ptr), none⟩) beyond.len beyond.cap), (31, [], Value.int .i64 ((beyond.len : Nat) : Int)), (32, [], Value.int .i64 t32), (34, [], Value.int .i64 t32), (35, [], Value.pointer (some ⟨(pblk beyond.ptr), (poff beyond.ptr) + t32.toNat, none⟩))] (by kernel_rfl) (by kernel_rfl) ?_
          obtain ⟨n_, hc, h⟩ := h
          refine reg_load1 (t := 3) (a := (Go.Operand.tmp 35)) (b := (pblk beyond.ptr)) (o := ((poff beyond.ptr) + t32.toNat)) (ty := 3) (dst := some 36) (by kernel_rfl) (by kernel_rfl) (by kernel_rfl) hc ?_
          refine reg_run [.plain, .plain] 5 [(0, [], Value.pointer s), (1, [], Value.int .i64 mark), (3, [], Value.int .i64 window), (10, [], Value.map (some b_)), (11, [], Value.int .i64 last), (12, [], Value.int .i64 t32), (13, [], Value.int .i64 n_), (30, [], Value.slice (some ⟨(pblk beyond.ptr), (poff beyond.ptr), none⟩) beyond.len beyond.cap), (31, [], Value.int .i64 ((beyond.len : Nat) : Int)), (32, [], Value.int .i64 t32)] (by kernel_rfl) (by kernel_rfl) ?_
          refine reg_conv [(0, [], Value.pointer s), (1, [], Value.int .i64 mark), (3, [], Value.int .i64 window), (10, [], Value.map (some b_)), (11, [], Value.int .i64 last), (12, [], Value.int .i64 t32), (13, [], Value.int .i64 n_), (30, [], Value.slice beyond.ptr beyond.len beyond.cap), (31, [], Value.int .i64 ((beyond.len : Nat) : Int)), (32, [], Value.int .i64 t32)] (congrArg (fun pp => ([(0, [], Value.pointer s), (1, [], Value.int .i64 mark), (3, [], Value.int .i64 window), (10, [], Value.map (some b_)), (11, [], Value.int .i64 last), (12, [], Value.int .i64 t32), (13, [], Value.int .i64 n_), (30, [], Value.slice pp beyond.len beyond.cap), (31, [], Value.int .i64 ((beyond.len : Nat) : Int)), (32, [], Value.int .i64 t32)] : GEnv)) hp_7.symm) ?_
          refine reg_end [(0, Value.pointer s), (1, Value.int .i64 mark), (3, Value.int .i64 window), (10, Value.map (some b_)), (11, Value.int .i64 last), (12, Value.int .i64 t32), (13, Value.int .i64 n_), (30, Value.slice beyond.ptr beyond.len beyond.cap), (31, Value.int .i64 ((beyond.len : Nat) : Int)), (32, Value.int .i64 t32)] (by kernel_rfl) (by kernel_rfl) ?_
          change WpE _ _ c_feed_New_47 _ _ _
          refine wpE_seq (x := c_feed_New_48) (y := c_feed_New_57) (by kernel_rfl) ?_
          refine wpE_seq (x := c_feed_New_49) (y := c_feed_New_51) (by kernel_rfl) ?_
          refine wpE_region (id := 10) (ops := r_feed_New_49) (by kernel_rfl) ?_
          refine reg_run [.plain, .plain, .plain, .plain, .plain, .plain, .plain, .plain, .plain, .plain, .plain, .pick, .pick] 13 [(0, [], Value.pointer s), (1, [], Value.int .i64 mark), (3, [], Value.int .i64 window), (10, [], Value.map (some b_)), (13, [], Value.int .i64 n_), (30, [], Value.slice beyond.ptr beyond.len beyond.cap), (31, [], Value.int .i64 ((beyond.len : Nat) : Int)), (32, [], Value.int .i64 t32), (49, [], Value.bool ((decide (n_ ≤ last)) || ((t32 == 0) && (decide ((IntKind.i64.wrap (n_ - 1)) ≤ last)))))] (by kernel_rfl) (by kernel_rfl) ?_
          refine reg_end [(0, Value.pointer s), (1, Value.int .i64 mark), (3, Value.int .i64 window), (10, Value.map (some b_)), (13, Value.int .i64 n_), (30, Value.slice beyond.ptr beyond.len beyond.cap), (31, Value.int .i64 ((beyond.len : Nat) : Int)), (32, Value.int .i64 t32), (49, Value.bool ((decide (n_ ≤ last)) || ((t32 == 0) && (decide ((IntKind.i64.wrap (n_ - 1)) ≤ last)))))] (by kernel_rfl) (by kernel_rfl) ?_
          change WpE _ _ c_feed_New_51 _ _ _
          refine wpE_cond (o := (Operand.tmp 49)) (b := ((decide (n_ ≤ last)) || ((t32 == 0) && (decide ((IntKind.i64.wrap (n_ - 1)) ≤ last))))) (x := c_feed_New_52) (y := c_feed_New_56) (by kernel_rfl) (by kernel_rfl) (fun hb => ?_) (fun hb => ?_)
          · replace h := h.1 hb
            refine wpE_seq (x := c_feed_New_53) (y := c_feed_New_55) (by kernel_rfl) ?_
            refine wpE_region (id := 11) (ops := r_feed_New_53) (by kernel_rfl) ?_
            refine reg_run [.plain, .plain] 2 [(8, [], Value.pointer none), (9, [], Value.int .i64 1)] (by kernel_rfl) (by kernel_rfl) ?_
            refine reg_end [(8, Value.pointer none), (9, Value.int .i64 1)] (by kernel_rfl) (by kernel_rfl) ?_
            change WpE _ _ c_feed_New_55 _ _ _
            refine wpE_ret (by kernel_rfl) ?_
            repeat (first | refine seqQ_ret ?_ | refine blockQ_ret ?_ | refine loopQ_ret ?_ | refine cutQ_ret ?_)
            exact retT (rs := [(Go.ResultVar.tmp 8), (Go.ResultVar.tmp 9)]) (vs := [Value.pointer none, Value.int .i64 1]) (by kernel_rfl) (⟨by kernel_rfl, ⟨by kernel_rfl, trivial⟩⟩) (by kernel_rfl) ⟨none, 1, rfl, h⟩
          · replace h := h.2 hb
            refine wpE_skip (by kernel_rfl) ?_
            change WpE _ _ c_feed_New_57 _ _ _
            refine wpE_seq (x := c_feed_New_58) (y := c_feed_New_60) (by kernel_rfl) ?_
            refine wpE_region (id := 12) (ops := r_feed_New_58) (by kernel_rfl) ?_
            refine reg_run [.plain, .plain] 2 [(0, [], Value.pointer s), (1, [], Value.int .i64 mark), (3, [], Value.int .i64 window), (10, [], Value.map (some b_)), (11, [], Value.int .i64 n_), (13, [], Value.int .i64 n_), (30, [], Value.slice beyond.ptr beyond.len beyond.cap), (31, [], Value.int .i64 ((beyond.len : Nat) : Int)), (32, [], Value.int .i64 t32)] (by kernel_rfl) (by kernel_rfl) ?_
            refine reg_end [(0, Value.pointer s), (1, Value.int .i64 mark), (3, Value.int .i64 window), (10, Value.map (some b_)), (11, Value.int .i64 n_), (13, Value.int .i64 n_), (30, Value.slice beyond.ptr beyond.len beyond.cap), (31, Value.int .i64 ((beyond.len : Nat) : Int)), (32, Value.int .i64 t32)] (by kernel_rfl) (by kernel_rfl) ?_
            change WpE _ _ c_feed_New_60 _ _ _
            refine wpE_region (id := 13) (ops := r_feed_New_60) (by kernel_rfl) ?_
            refine reg_run [.plain, .plain, .plain] 3 [(0, [], Value.pointer s), (1, [], Value.int .i64 mark), (3, [], Value.int .i64 window), (10, [], Value.map (some b_)), (11, [], Value.int .i64 n_), (30, [], Value.slice beyond.ptr beyond.len beyond.cap), (31, [], Value.int .i64 ((beyond.len : Nat) : Int)), (32, [], Value.int .i64 t32), (51, [], Value.map (some b_)), (52, [], Value.int .i64 n_), (53, [], Value.agg #[])] (by kernel_rfl) (by kernel_rfl) ?_
            obtain ⟨r, es, c, hr_, hm_, hi_, hn_, h⟩ := h
            refine reg_mapUpdateI (t := 56) (kt := 3) (et := 121) (x := (Go.Operand.tmp 51)) (k := (Go.Operand.tmp 52)) (v := (Go.Operand.tmp 53)) (m := (some b_)) (es := es) (j := n_) (vv := (Value.agg #[])) (ty := 0) (dst := none) r c (by kernel_rfl) (by kernel_rfl) hr_ (by kernel_rfl) (by kernel_rfl) (by kernel_rfl) (by kernel_rfl) (fun w_ => by kernel_rfl) hm_ hi_ hn_ (fun w3 hw => ?_)
            replace h := h w3 hw
            clear hw
            refine reg_end [(0, Value.pointer s), (1, Value.int .i64 mark), (3, Value.int .i64 window), (10, Value.map (some b_)), (11, Value.int .i64 n_), (30, Value.slice beyond.ptr beyond.len beyond.cap), (31, Value.int .i64 ((beyond.len : Nat) : Int)), (32, Value.int .i64 t32)] (by kernel_rfl) (by kernel_rfl) ?_
            change WpE _ _ c_feed_New_62 _ _ _
            refine wpE_region (id := 14) (ops := r_feed_New_62) (by kernel_rfl) ?_
            refine reg_run [.plain, .plain] 2 [(0, [], Value.pointer s), (1, [], Value.int .i64 mark), (3, [], Value.int .i64 window), (10, [], Value.map (some b_)), (11, [], Value.int .i64 n_), (30, [], Value.slice beyond.ptr beyond.len beyond.cap), (31, [], Value.int .i64 ((beyond.len : Nat) : Int)), (32, [], Value.int .i64 (IntKind.i64.wrap (t32 + 1)))] (by kernel_rfl) (by kernel_rfl) ?_
            refine reg_end [(0, Value.pointer s), (1, Value.int .i64 mark), (3, Value.int .i64 window), (10, Value.map (some b_)), (11, Value.int .i64 n_), (30, Value.slice beyond.ptr beyond.len beyond.cap), (31, Value.int .i64 ((beyond.len : Nat) : Int)), (32, Value.int .i64 (IntKind.i64.wrap (t32 + 1)))] (by kernel_rfl) (by kernel_rfl) ?_
            have hb_ := again__h _ _ _ h
            exact ⟨_, hb_.2, [(0, Value.pointer s), (1, Value.int .i64 mark), (3, Value.int .i64 window), (10, Value.map (some b_)), (11, Value.int .i64 n_), (30, Value.slice beyond.ptr beyond.len beyond.cap), (31, Value.int .i64 ((beyond.len : Nat) : Int)), (32, Value.int .i64 (IntKind.i64.wrap (t32 + 1)))], Sub.mk (by kernel_rfl), n_, (IntKind.i64.wrap (t32 + 1)), rfl, hb_.1, rfl⟩
        · replace h := h.2 hb
          refine wpE_exit (id := 0) (by kernel_rfl) ?_
          change WpE _ _ c_feed_New_64 _ _ _
          refine wpE_seq (x := c_feed_New_65) (y := c_feed_New_74) (by kernel_rfl) ?_
          refine wpE_seq (x := c_feed_New_66) (y := c_feed_New_68) (by kernel_rfl) ?_
          refine wpE_region (id := 15) (ops := r_feed_New_66) (by kernel_rfl) ?_
          refine reg_run [.plain, .plain] 2 [(0, [], Value.pointer s), (1, [], Value.int .i64 mark), (3, [], Value.int .i64 window), (10, [], Value.map (some b_)), (55, [], Value.int .i64 last), (56, [], Value.pointer s)] (by kernel_rfl) (by kernel_rfl) ?_
          refine reg_enter (op := (Go.Op.call (Go.Call.mk (Go.Callee.value (Go.Operand.func 47)) #[(Go.Operand.tmp 56)] #[28]))) (ty := 3) (dst := some 57) 47 #[Value.pointer s] (by kernel_rfl) (fun ww => by kernel_rfl) (Calls.mono h ?_)
          rintro _ w4 ⟨v57, rfl, h⟩
          refine ⟨_, rfl, ?_⟩
          refine reg_run [.plain] 4 [(0, [], Value.pointer s), (1, [], Value.int .i64 mark), (3, [], Value.int .i64 window), (10, [], Value.map (some b_)), (58, [], Value.bool (decide (last > v57)))] (by kernel_rfl) (by kernel_rfl) ?_
          refine reg_end [(0, Value.pointer s), (1, Value.int .i64 mark), (3, Value.int .i64 window), (10, Value.map (some b_)), (58, Value.bool (decide (last > v57)))] (by kernel_rfl) (by kernel_rfl) ?_
          change WpE _ _ c_feed_New_68 _ _ _
          refine wpE_cond (o := (Operand.tmp 58)) (b := (decide (last > v57))) (x := c_feed_New_69) (y := c_feed_New_73) (by kernel_rfl) (by kernel_rfl) (fun hb => ?_) (fun hb => ?_)
          · replace h := h.1 hb
            refine wpE_seq (x := c_feed_New_70) (y := c_feed_New_72) (by kernel_rfl) ?_
            refine wpE_region (id := 16) (ops := r_feed_New_70) (by kernel_rfl) ?_
            refine reg_run [.plain, .plain] 2 [(8, [], Value.pointer none), (9, [], Value.int .i64 6)] (by kernel_rfl) (by kernel_rfl) ?_
            refine reg_end [(8, Value.pointer none), (9, Value.int .i64 6)] (by kernel_rfl) (by kernel_rfl) ?_
            change WpE _ _ c_feed_New_72 _ _ _
            refine wpE_ret (by kernel_rfl) ?_
            repeat (first | refine seqQ_ret ?_ | refine blockQ_ret ?_ | refine loopQ_ret ?_ | refine cutQ_ret ?_)
            exact retT (rs := [(Go.ResultVar.tmp 8), (Go.ResultVar.tmp 9)]) (vs := [Value.pointer none, Value.int .i64 6]) (by kernel_rfl) (⟨by kernel_rfl, ⟨by kernel_rfl, trivial⟩⟩) (by kernel_rfl) ⟨none, 6, rfl, h⟩
          · replace h := h.2 hb
            refine wpE_skip (by kernel_rfl) ?_
            change WpE _ _ c_feed_New_74 _ _ _
            refine wpE_seq (x := c_feed_New_75) (y := c_feed_New_77) (by kernel_rfl) ?_
            refine wpE_region (id := 17) (ops := r_feed_New_75) (by kernel_rfl) ?_
            refine reg_run [.plain, .plain, .plain, .plain, .plain, .plain] 6 [(64, [], Value.agg #[Value.pointer s, Value.int .i64 mark, Value.int .i64 mark, Value.int .i64 window, Value.map (some b_), Value.pointer none, Value.bool false])] (by kernel_rfl) (by kernel_rfl) ?_
            refine reg_new (op := (Go.Op.box 59 (Go.Operand.tmp 64))) (ty := 26) (dst := some 65) (fun bb => Value.pointer (some ⟨bb, 0, none⟩)) (Obj.cells ([Value.pointer s, Value.int .i64 mark, Value.int .i64 mark, Value.int .i64 window, Value.map (some b_), Value.pointer none, Value.bool false]).toArray ty_feed_Feed (0, 0)) (by kernel_rfl) (by kernel_rfl) (fun b_1 w5 hb hw => ?_)
            replace h := h b_1 w5 hb hw
            clear hb hw
            refine reg_run [.plain, .plain] 9 [(8, [], Value.pointer (some ⟨b_1, 0, none⟩)), (9, [], Value.int .i64 0)] (by kernel_rfl) (by kernel_rfl) ?_
            refine reg_end [(8, Value.pointer (some ⟨b_1, 0, none⟩)), (9, Value.int .i64 0)] (by kernel_rfl) (by kernel_rfl) ?_
            change WpE _ _ c_feed_New_77 _ _ _
            refine wpE_ret (by kernel_rfl) ?_
            repeat (first | refine seqQ_ret ?_ | refine blockQ_ret ?_ | refine loopQ_ret ?_ | refine cutQ_ret ?_)
            exact retT (rs := [(Go.ResultVar.tmp 8), (Go.ResultVar.tmp 9)]) (vs := [Value.pointer (some ⟨b_1, 0, none⟩), Value.int .i64 0]) (by kernel_rfl) (⟨by kernel_rfl, ⟨by kernel_rfl, trivial⟩⟩) (by kernel_rfl) ⟨(some ⟨b_1, 0, none⟩), 0, rfl, h⟩
  · rintro e w' ⟨v, rfl, r0, r1, rfl, h⟩; exact ⟨r0, r1, rfl, h⟩

/-! ### (*towpath/feed.Feed).there (function 46) -/
noncomputable def c_feed_Feed_there_0 : Code := (Try.f46.body).getD Code.skip
noncomputable def c_feed_Feed_there_1 : Code := Code.l c_feed_Feed_there_0
noncomputable def r_feed_Feed_there_1 : Array Oper := Code.ops c_feed_Feed_there_1
noncomputable def c_feed_Feed_there_3 : Code := Code.r c_feed_Feed_there_0
noncomputable def c_feed_Feed_there_4 : Code := Code.l c_feed_Feed_there_3
noncomputable def r_feed_Feed_there_4 : Array Oper := Code.ops c_feed_Feed_there_4
noncomputable def c_feed_Feed_there_6 : Code := Code.r c_feed_Feed_there_3

set_option maxRecDepth 100000 in
set_option maxHeartbeats 4000000 in
theorem S_feed_Feed_there {f : Option Addr} {w : World} {R : Bool → World → Prop} (h : F_feed_Feed_there f R w) : C_feed_Feed_there f w R := by
  unfold F_feed_Feed_there at h
  unfold C_feed_Feed_there
  refine Calls.mono (calls_of_wpE (args := [Value.pointer f]) (R := fun v w' => ∃ (r0 : Bool), v = Value.bool r0 ∧ R r0 w') Try.func46 (c := c_feed_Feed_there_0) (by kernel_rfl) 12 (by kernel_rfl) (by kernel_rfl) [(0, Value.pointer f)] (by kernel_rfl) ?_) ?_
  · refine wpE_seq (x := c_feed_Feed_there_1) (y := c_feed_Feed_there_3) (by kernel_rfl) ?_
    refine wpE_region (id := 0) (ops := r_feed_Feed_there_1) (by kernel_rfl) ?_
    refine reg_run [.plain] 1 [(0, [], Value.pointer f)] (by kernel_rfl) (by kernel_rfl) ?_
    refine reg_end [(0, Value.pointer f)] (by kernel_rfl) (by kernel_rfl) ?_
    change WpE _ _ c_feed_Feed_there_3 _ _ _
    refine wpE_seq (x := c_feed_Feed_there_4) (y := c_feed_Feed_there_6) (by kernel_rfl) ?_
    refine wpE_region (id := 1) (ops := r_feed_Feed_there_4) (by kernel_rfl) ?_
    refine reg_run [.plain] 1 [(0, [], Value.pointer f), (3, [], Value.pointer f)] (by kernel_rfl) (by kernel_rfl) ?_
    refine reg_val (op := (Go.Op.binOp Go.BinOp.neq 26 (Go.Operand.tmp 3) (Go.Operand.const (Go.Value.pointer none)) 26)) (ty := 4) (dst := some 4) (Value.bool (!f.isNone)) (by kernel_rfl) (fun ww => run_ptr_neq_R (p := f) (by kernel_rfl) (by kernel_rfl) (by kernel_rfl) ww) ?_
    refine reg_run [.plain, .plain] 4 [(5, [], Value.bool (!f.isNone)), (6, [(5, true)], Value.pointer f)] (by kernel_rfl) (by kernel_rfl) ?_
    refine reg_split 5 (!f.isNone) (by kernel_rfl) (fun hb => ?_) (fun hb => ?_)
    · replace h := h.1 hb
      refine reg_run [] 4 [(5, [], Value.bool true), (6, [], Value.pointer f)] (by kernel_rfl) (by kernel_rfl) ?_
      refine reg_run [] 4 [(5, [], Value.bool true), (6, [], Value.pointer f)] (by kernel_rfl) (by kernel_rfl) ?_
      obtain ⟨hp_0, h⟩ := h
      refine reg_conv [(5, [], Value.bool true), (6, [], Value.pointer (some ⟨(pblk f), (poff f), none⟩))] (congrArg (fun pp => ([(5, [], Value.bool true), (6, [], Value.pointer pp)] : GEnv)) hp_0) ?_
      refine reg_run [.sure] 5 [(5, [], Value.bool true), (6, [], Value.pointer (some ⟨(pblk f), (poff f), none⟩)), (7, [], Value.pointer (some ⟨(pblk f), (poff f), none⟩))] (by kernel_rfl) (by kernel_rfl) ?_
      refine reg_run [.sure] 6 [(5, [], Value.bool true), (8, [], Value.pointer (some ⟨(pblk f), (poff f), none⟩))] (by kernel_rfl) (by kernel_rfl) ?_
      obtain ⟨v9, hc, h⟩ := h
      refine reg_load1 (t := 28) (a := (Go.Operand.tmp 8)) (b := (pblk f)) (o := (poff f)) (ty := 28) (dst := some 9) (by kernel_rfl) (by kernel_rfl) (by kernel_rfl) hc ?_
      refine reg_run [] 7 [(5, [], Value.bool true), (9, [], Value.pointer v9)] (by kernel_rfl) (by kernel_rfl) ?_
      refine reg_val (op := (Go.Op.binOp Go.BinOp.neq 28 (Go.Operand.tmp 9) (Go.Operand.const (Go.Value.pointer none)) 28)) (ty := 4) (dst := some 10) (Value.bool (!v9.isNone)) (by kernel_rfl) (fun ww => run_ptr_neq_R (p := v9) (by kernel_rfl) (by kernel_rfl) (by kernel_rfl) ww) ?_
      refine reg_run [.plain, .plain] 10 [(2, [], Value.bool (!v9.isNone))] (by kernel_rfl) (by kernel_rfl) ?_
      refine reg_end [(2, Value.bool (!v9.isNone))] (by kernel_rfl) (by kernel_rfl) ?_
      change WpE _ _ c_feed_Feed_there_6 _ _ _
      refine wpE_ret (by kernel_rfl) ?_
      repeat (first | refine seqQ_ret ?_ | refine blockQ_ret ?_ | refine loopQ_ret ?_ | refine cutQ_ret ?_)
      exact retS (rs := [(Go.ResultVar.tmp 2)]) (v := Value.bool (!v9.isNone)) (by kernel_rfl) (⟨by kernel_rfl, trivial⟩) ⟨(!v9.isNone), rfl, h⟩
    · replace h := h.2 hb
      refine reg_run [] 4 [(5, [], Value.bool false), (6, [], undef)] (by kernel_rfl) (by kernel_rfl) ?_
      refine reg_run [.skip, .skip, .skip, .skip, .plain, .plain] 10 [(2, [], Value.bool false)] (by kernel_rfl) (by kernel_rfl) ?_
      refine reg_end [(2, Value.bool false)] (by kernel_rfl) (by kernel_rfl) ?_
      change WpE _ _ c_feed_Feed_there_6 _ _ _
      refine wpE_ret (by kernel_rfl) ?_
      repeat (first | refine seqQ_ret ?_ | refine blockQ_ret ?_ | refine loopQ_ret ?_ | refine cutQ_ret ?_)
      exact retS (rs := [(Go.ResultVar.tmp 2)]) (v := Value.bool false) (by kernel_rfl) (⟨by kernel_rfl, trivial⟩) ⟨false, rfl, h⟩
  · rintro e w' ⟨v, rfl, r0, rfl, h⟩; exact ⟨r0, rfl, h⟩

/-! ### (*towpath/feed.Feed).skips (function 50) -/
noncomputable def c_feed_Feed_skips_0 : Code := (Try.f50.body).getD Code.skip
noncomputable def c_feed_Feed_skips_1 : Code := Code.l c_feed_Feed_skips_0
noncomputable def r_feed_Feed_skips_1 : Array Oper := Code.ops c_feed_Feed_skips_1
noncomputable def c_feed_Feed_skips_3 : Code := Code.r c_feed_Feed_skips_0
noncomputable def c_feed_Feed_skips_4 : Code := Code.l c_feed_Feed_skips_3
noncomputable def r_feed_Feed_skips_4 : Array Oper := Code.ops c_feed_Feed_skips_4
noncomputable def c_feed_Feed_skips_6 : Code := Code.r c_feed_Feed_skips_3
noncomputable def c_feed_Feed_skips_7 : Code := Code.l c_feed_Feed_skips_6
noncomputable def r_feed_Feed_skips_7 : Array Oper := Code.ops c_feed_Feed_skips_7
noncomputable def c_feed_Feed_skips_9 : Code := Code.r c_feed_Feed_skips_6
def o_feed_Feed_skips_4 : List Nat := [0, 1, 2, 3, 4, 5, 6, 7, 8, 9, 10, 11, 12, 13, 14, 15, 16, 17]

set_option maxRecDepth 100000 in
set_option maxHeartbeats 4000000 in
theorem S_feed_Feed_skips {f : Option Addr} {w : World} {R : Bool → World → Prop} (h : F_feed_Feed_skips f R w) : C_feed_Feed_skips f w R := by
  unfold F_feed_Feed_skips at h
  unfold C_feed_Feed_skips
  refine Calls.mono (calls_of_wpE (args := [Value.pointer f]) (R := fun v w' => ∃ (r0 : Bool), v = Value.bool r0 ∧ R r0 w') Try.func50 (c := c_feed_Feed_skips_0) (by kernel_rfl) 21 (by kernel_rfl) (by kernel_rfl) [(0, Value.pointer f)] (by kernel_rfl) ?_) ?_
  · refine wpE_seq (x := c_feed_Feed_skips_1) (y := c_feed_Feed_skips_3) (by kernel_rfl) ?_
    refine wpE_region (id := 0) (ops := r_feed_Feed_skips_1) (by kernel_rfl) ?_
    refine reg_run [.plain] 1 [(0, [], Value.pointer f)] (by kernel_rfl) (by kernel_rfl) ?_
    refine reg_end [(0, Value.pointer f)] (by kernel_rfl) (by kernel_rfl) ?_
    change WpE _ _ c_feed_Feed_skips_3 _ _ _
    refine wpE_seq (x := c_feed_Feed_skips_4) (y := c_feed_Feed_skips_6) (by kernel_rfl) ?_
    refine wpE_mixregion (id := 1) (ops := r_feed_Feed_skips_4) o_feed_Feed_skips_4 (by kernel_rfl) (by kernel_rfl) (by kernel_rfl) (by kernel_rfl) (fun w1 hw => ?_)
    replace h := h w1 hw
    clear hw
    refine mreg_run [.plain] 1 [(0, [], Value.pointer f), (6, [], Value.pointer f)] (by kernel_rfl) (by kernel_rfl) ?_
    obtain ⟨hp_3, h⟩ := h
    refine mreg_conv [(0, [], Value.pointer f), (6, [], Value.pointer (some ⟨(pblk f), (poff f), none⟩))] (congrArg (fun pp => ([(0, [], Value.pointer f), (6, [], Value.pointer pp)] : GEnv)) hp_3) ?_
    refine mreg_run [.plain] 2 [(0, [], Value.pointer f), (6, [], Value.pointer (some ⟨(pblk f), (poff f), none⟩)), (7, [], Value.pointer (some ⟨(pblk f), (poff f), none⟩))] (by kernel_rfl) (by kernel_rfl) ?_
    refine mreg_run [.plain] 3 [(0, [], Value.pointer f), (8, [], Value.pointer (some ⟨(pblk f), (poff f) + 4, none⟩))] (by kernel_rfl) (by kernel_rfl) ?_
    obtain ⟨v9, hc, h⟩ := h
    refine mreg_load1 (i := 3) (by kernel_rfl) (t := 56) (a := (Go.Operand.tmp 8)) (b := (pblk f)) (o := ((poff f) + 4)) (ty := 56) (dst := some 9) (by kernel_rfl) (by kernel_rfl) (by kernel_rfl) hc ?_
    refine mreg_run [.plain] 5 [(9, [], Value.map v9), (10, [], Value.pointer f)] (by kernel_rfl) (by kernel_rfl) ?_
    obtain ⟨hp_4, h⟩ := h
    refine mreg_conv [(9, [], Value.map v9), (10, [], Value.pointer (some ⟨(pblk f), (poff f), none⟩))] (congrArg (fun pp => ([(9, [], Value.map v9), (10, [], Value.pointer pp)] : GEnv)) hp_4) ?_
    refine mreg_run [.plain] 6 [(9, [], Value.map v9), (10, [], Value.pointer (some ⟨(pblk f), (poff f), none⟩)), (11, [], Value.pointer (some ⟨(pblk f), (poff f), none⟩))] (by kernel_rfl) (by kernel_rfl) ?_
    refine mreg_run [.plain] 7 [(9, [], Value.map v9), (12, [], Value.pointer (some ⟨(pblk f), (poff f) + 5, none⟩))] (by kernel_rfl) (by kernel_rfl) ?_
    obtain ⟨v13, hc, h⟩ := h
    refine mreg_load1 (i := 7) (by kernel_rfl) (t := 57) (a := (Go.Operand.tmp 12)) (b := (pblk f)) (o := ((poff f) + 5)) (ty := 57) (dst := some 13) (by kernel_rfl) (by kernel_rfl) (by kernel_rfl) hc ?_
    refine mreg_run [] 8 [(9, [], Value.map v9), (13, [], Value.pointer v13)] (by kernel_rfl) (by kernel_rfl) ?_
    obtain ⟨hp_5, h⟩ := h
    refine mreg_conv [(9, [], Value.map v9), (13, [], Value.pointer (some ⟨(pblk v13), (poff v13), none⟩))] (congrArg (fun pp => ([(9, [], Value.map v9), (13, [], Value.pointer pp)] : GEnv)) hp_5) ?_
    refine mreg_run [.plain] 9 [(9, [], Value.map v9), (13, [], Value.pointer (some ⟨(pblk v13), (poff v13), none⟩)), (14, [], Value.pointer (some ⟨(pblk v13), (poff v13), none⟩))] (by kernel_rfl) (by kernel_rfl) ?_
    refine mreg_run [.plain] 10 [(9, [], Value.map v9), (15, [], Value.pointer (some ⟨(pblk v13), (poff v13), none⟩))] (by kernel_rfl) (by kernel_rfl) ?_
    obtain ⟨v16, hc, h⟩ := h
    refine mreg_load1 (i := 10) (by kernel_rfl) (t := 3) (a := (Go.Operand.tmp 15)) (b := (pblk v13)) (o := (poff v13)) (ty := 3) (dst := some 16) (by kernel_rfl) (by kernel_rfl) (by kernel_rfl) hc ?_
    refine mreg_run [] 11 [(9, [], Value.map v9), (16, [], Value.int .i64 v16)] (by kernel_rfl) (by kernel_rfl) ?_
    obtain ⟨es, hm_, hi_, h⟩ := h
    refine mreg_lookupI (i := 11) (by kernel_rfl) (t := 56) (kt := 3) (et := 121) (x := (Go.Operand.tmp 9)) (k := (Go.Operand.tmp 16)) (m := v9) (es := es) (j := v16) (ty := 154) (dst := some 17) (by kernel_rfl) (by kernel_rfl) (by kernel_rfl) (by kernel_rfl) (by kernel_rfl) (fun w_ => by kernel_rfl) hm_ hi_ ?_
    refine mreg_run [.plain, .plain, .plain] 15 [(18, [], Value.agg #[]), (19, [], Value.bool (mapHas es v16))] (by kernel_rfl) (by kernel_rfl) ?_
    refine mreg_new (op := (Go.Op.alloc 121)) (ty := 0) (dst := some 3) 15 [] [(11, fun w' => MapAt w' v9 es), (10, fun w' => w'.cell? ⟨(pblk v13), (poff v13), none⟩ = some (Value.int .i64 v16)), (7, fun w' => w'.cell? ⟨(pblk f), (poff f) + 5, none⟩ = some (Value.pointer v13)), (3, fun w' => w'.cell? ⟨(pblk f), (poff f) + 4, none⟩ = some (Value.map v9))] (fun bb => Value.pointer (some ⟨bb, 0, none⟩)) (Obj.cells ([]).toArray ty_struct (0, 0)) (by kernel_rfl) (by kernel_rfl) (by kernel_rfl) (by kernel_rfl) (by kernel_rfl) (by kernel_rfl) (fun b_ w2 hb hw => ?_)
    replace h := h b_ w2 hb hw
    clear hb hw
    obtain ⟨hk0, hk1, hk2, hk3, h⟩ := h
    refine ⟨⟨hk0, hk1, hk2, hk3, trivial⟩, ?_⟩
    refine mreg_run [] 16 [(3, [], Value.pointer (some ⟨b_, 0, none⟩)), (18, [], Value.agg #[]), (19, [], Value.bool (mapHas es v16))] (by kernel_rfl) (by kernel_rfl) ?_
    obtain ⟨hc, h⟩ := h
    refine mreg_store (t := 121) (a := (Go.Operand.tmp 3)) (x := (Go.Operand.tmp 18)) (b := b_) (o := 0) (k := 0) (ty := 0) (dst := none) 16 [0, 1, 2, 3, 4, 5, 6, 7, 8, 9, 10, 11, 12, 13, 15] [] [] (by kernel_rfl) (by kernel_rfl) (by kernel_rfl) (by kernel_rfl) (by kernel_rfl) (by kernel_rfl) (by kernel_rfl) (by kernel_rfl) (by kernel_rfl) (by kernel_rfl) hc (fun w3 hw => ?_)
    replace h := h w3 hw
    clear hw
    refine ⟨trivial, ?_⟩
    refine mreg_run [.plain] 18 [(4, [], Value.bool (mapHas es v16))] (by kernel_rfl) (by kernel_rfl) ?_
    refine mreg_end [(4, Value.bool (mapHas es v16))] (by kernel_rfl) (by kernel_rfl) (by kernel_rfl) ?_
    change WpE _ _ c_feed_Feed_skips_6 _ _ _
    refine wpE_seq (x := c_feed_Feed_skips_7) (y := c_feed_Feed_skips_9) (by kernel_rfl) ?_
    refine wpE_region (id := 2) (ops := r_feed_Feed_skips_7) (by kernel_rfl) ?_
    refine reg_run [.plain, .plain] 2 [(2, [], Value.bool (mapHas es v16))] (by kernel_rfl) (by kernel_rfl) ?_
    refine reg_end [(2, Value.bool (mapHas es v16))] (by kernel_rfl) (by kernel_rfl) ?_
    change WpE _ _ c_feed_Feed_skips_9 _ _ _
    refine wpE_ret (by kernel_rfl) ?_
    repeat (first | refine seqQ_ret ?_ | refine blockQ_ret ?_ | refine loopQ_ret ?_ | refine cutQ_ret ?_)
    exact retS (rs := [(Go.ResultVar.tmp 2)]) (v := Value.bool (mapHas es v16)) (by kernel_rfl) (⟨by kernel_rfl, trivial⟩) ⟨(mapHas es v16), rfl, h⟩
  · rintro e w' ⟨v, rfl, r0, rfl, h⟩; exact ⟨r0, rfl, h⟩

/-! ### (*towpath/feed.Feed).near (function 51) -/
noncomputable def c_feed_Feed_near_0 : Code := (Try.f51.body).getD Code.skip
noncomputable def c_feed_Feed_near_1 : Code := Code.l c_feed_Feed_near_0
noncomputable def r_feed_Feed_near_1 : Array Oper := Code.ops c_feed_Feed_near_1
noncomputable def c_feed_Feed_near_3 : Code := Code.r c_feed_Feed_near_0
noncomputable def c_feed_Feed_near_4 : Code := Code.l c_feed_Feed_near_3
noncomputable def r_feed_Feed_near_4 : Array Oper := Code.ops c_feed_Feed_near_4
noncomputable def c_feed_Feed_near_6 : Code := Code.r c_feed_Feed_near_3

set_option maxRecDepth 100000 in
set_option maxHeartbeats 4000000 in
theorem S_feed_Feed_near {f : Option Addr} {mark : Int} {w : World} {R : Bool → World → Prop} (h : F_feed_Feed_near f mark R w) : C_feed_Feed_near f mark w R := by
  unfold F_feed_Feed_near at h
  unfold C_feed_Feed_near
  refine Calls.mono (calls_of_wpE (args := [Value.pointer f, Value.int .i64 mark]) (R := fun v w' => ∃ (r0 : Bool), v = Value.bool r0 ∧ R r0 w') Try.func51 (c := c_feed_Feed_near_0) (by kernel_rfl) 19 (by kernel_rfl) (by kernel_rfl) [(0, Value.pointer f), (1, Value.int .i64 mark)] (by kernel_rfl) ?_) ?_
  · refine wpE_seq (x := c_feed_Feed_near_1) (y := c_feed_Feed_near_3) (by kernel_rfl) ?_
    refine wpE_region (id := 0) (ops := r_feed_Feed_near_1) (by kernel_rfl) ?_
    refine reg_run [.plain] 1 [(0, [], Value.pointer f), (1, [], Value.int .i64 mark)] (by kernel_rfl) (by kernel_rfl) ?_
    refine reg_end [(0, Value.pointer f), (1, Value.int .i64 mark)] (by kernel_rfl) (by kernel_rfl) ?_
    change WpE _ _ c_feed_Feed_near_3 _ _ _
    refine wpE_seq (x := c_feed_Feed_near_4) (y := c_feed_Feed_near_6) (by kernel_rfl) ?_
    refine wpE_drawregion (id := 1) (ops := r_feed_Feed_near_4) (by kernel_rfl) (by kernel_rfl) (by kernel_rfl) ?_
    refine qreg_run [.plain] 1 [(0, [], Value.pointer f), (1, [], Value.int .i64 mark), (5, [], Value.pointer f)] (by kernel_rfl) (by kernel_rfl) ?_
    obtain ⟨hp_0, h⟩ := h
    refine qreg_conv [(0, [], Value.pointer f), (1, [], Value.int .i64 mark), (5, [], Value.pointer (some ⟨(pblk f), (poff f), none⟩))] (congrArg (fun pp => ([(0, [], Value.pointer f), (1, [], Value.int .i64 mark), (5, [], Value.pointer pp)] : GEnv)) hp_0) ?_
    refine qreg_run [.plain] 2 [(0, [], Value.pointer f), (1, [], Value.int .i64 mark), (5, [], Value.pointer (some ⟨(pblk f), (poff f), none⟩)), (6, [], Value.pointer (some ⟨(pblk f), (poff f), none⟩))] (by kernel_rfl) (by kernel_rfl) ?_
    refine qreg_run [.plain] 3 [(0, [], Value.pointer f), (1, [], Value.int .i64 mark), (7, [], Value.pointer (some ⟨(pblk f), (poff f) + 5, none⟩))] (by kernel_rfl) (by kernel_rfl) ?_
    obtain ⟨v8, hc, h⟩ := h
    refine qreg_load1 (t := 57) (a := (Go.Operand.tmp 7)) (b := (pblk f)) (o := ((poff f) + 5)) (ty := 57) (dst := some 8) (by kernel_rfl) (by kernel_rfl) (by kernel_rfl) hc ?_
    refine qreg_run [] 4 [(0, [], Value.pointer f), (1, [], Value.int .i64 mark), (8, [], Value.pointer v8)] (by kernel_rfl) (by kernel_rfl) ?_
    obtain ⟨hp_1, h⟩ := h
    refine qreg_conv [(0, [], Value.pointer f), (1, [], Value.int .i64 mark), (8, [], Value.pointer (some ⟨(pblk v8), (poff v8), none⟩))] (congrArg (fun pp => ([(0, [], Value.pointer f), (1, [], Value.int .i64 mark), (8, [], Value.pointer pp)] : GEnv)) hp_1) ?_
    refine qreg_run [.plain] 5 [(0, [], Value.pointer f), (1, [], Value.int .i64 mark), (8, [], Value.pointer (some ⟨(pblk v8), (poff v8), none⟩)), (9, [], Value.pointer (some ⟨(pblk v8), (poff v8), none⟩))] (by kernel_rfl) (by kernel_rfl) ?_
    refine qreg_run [.plain] 6 [(0, [], Value.pointer f), (1, [], Value.int .i64 mark), (10, [], Value.pointer (some ⟨(pblk v8), (poff v8), none⟩))] (by kernel_rfl) (by kernel_rfl) ?_
    obtain ⟨v11, hc, h⟩ := h
    refine qreg_load1 (t := 3) (a := (Go.Operand.tmp 10)) (b := (pblk v8)) (o := (poff v8)) (ty := 3) (dst := some 11) (by kernel_rfl) (by kernel_rfl) (by kernel_rfl) hc ?_
    refine qreg_run [.plain] 8 [(1, [], Value.int .i64 mark), (11, [], Value.int .i64 v11), (12, [], Value.pointer f)] (by kernel_rfl) (by kernel_rfl) ?_
    obtain ⟨hp_2, h⟩ := h
    refine qreg_conv [(1, [], Value.int .i64 mark), (11, [], Value.int .i64 v11), (12, [], Value.pointer (some ⟨(pblk f), (poff f), none⟩))] (congrArg (fun pp => ([(1, [], Value.int .i64 mark), (11, [], Value.int .i64 v11), (12, [], Value.pointer pp)] : GEnv)) hp_2) ?_
    refine qreg_run [.plain] 9 [(1, [], Value.int .i64 mark), (11, [], Value.int .i64 v11), (12, [], Value.pointer (some ⟨(pblk f), (poff f), none⟩)), (13, [], Value.pointer (some ⟨(pblk f), (poff f), none⟩))] (by kernel_rfl) (by kernel_rfl) ?_
    refine qreg_run [.plain] 10 [(1, [], Value.int .i64 mark), (11, [], Value.int .i64 v11), (14, [], Value.pointer (some ⟨(pblk f), (poff f) + 3, none⟩))] (by kernel_rfl) (by kernel_rfl) ?_
    obtain ⟨v15, hc, h⟩ := h
    refine qreg_load1 (t := 3) (a := (Go.Operand.tmp 14)) (b := (pblk f)) (o := ((poff f) + 3)) (ty := 3) (dst := some 15) (by kernel_rfl) (by kernel_rfl) (by kernel_rfl) hc ?_
    refine qreg_run [.plain, .plain, .plain, .plain] 15 [(4, [], Value.bool (decide ((IntKind.i64.wrap (v11 - v15)) ≤ mark)))] (by kernel_rfl) (by kernel_rfl) ?_
    refine qreg_end [(4, Value.bool (decide ((IntKind.i64.wrap (v11 - v15)) ≤ mark)))] (by kernel_rfl) (by kernel_rfl) (fun w1 hw => ?_)
    replace h := h w1 hw
    clear hw
    change WpE _ _ c_feed_Feed_near_6 _ _ _
    refine wpE_ret (by kernel_rfl) ?_
    repeat (first | refine seqQ_ret ?_ | refine blockQ_ret ?_ | refine loopQ_ret ?_ | refine cutQ_ret ?_)
    exact retS (rs := [(Go.ResultVar.tmp 4)]) (v := Value.bool (decide ((IntKind.i64.wrap (v11 - v15)) ≤ mark))) (by kernel_rfl) (⟨by kernel_rfl, trivial⟩) ⟨(decide ((IntKind.i64.wrap (v11 - v15)) ≤ mark)), rfl, h⟩
  · rintro e w' ⟨v, rfl, r0, rfl, h⟩; exact ⟨r0, rfl, h⟩
end Go.Proofs.Ytpedclhflmhakaa
