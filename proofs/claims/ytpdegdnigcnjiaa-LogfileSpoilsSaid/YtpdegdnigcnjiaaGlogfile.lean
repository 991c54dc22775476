/- WRITTEN BY PROGRAM (dec.py): for each Go function the clean formula F, the call's contract C, and the proof S that F gives C. -/
import Derived.Test.YtpdegdnigcnjiaaRows
import Derived.Test.YtpdegdnigcnjiaaGF
namespace Go.Proofs.Ytpdegdnigcnjiaa
open Go
set_option linter.unusedVariables false

/-! ### towpath/logfile.Encode (function 17) -/
noncomputable def c_logfile_Encode_0 : Code := (Try.f17.body).getD Code.skip
noncomputable def c_logfile_Encode_1 : Code := Code.l c_logfile_Encode_0
noncomputable def r_logfile_Encode_1 : Array Oper := Code.ops c_logfile_Encode_1
noncomputable def c_logfile_Encode_3 : Code := Code.r c_logfile_Encode_0
noncomputable def c_logfile_Encode_4 : Code := Code.l c_logfile_Encode_3
noncomputable def c_logfile_Encode_5 : Code := Code.l c_logfile_Encode_4
noncomputable def r_logfile_Encode_5 : Array Oper := Code.ops c_logfile_Encode_5
noncomputable def c_logfile_Encode_7 : Code := Code.r c_logfile_Encode_4
noncomputable def c_logfile_Encode_8 : Code := Code.l c_logfile_Encode_7
noncomputable def r_logfile_Encode_8 : Array Oper := Code.ops c_logfile_Encode_8
noncomputable def c_logfile_Encode_10 : Code := Code.r c_logfile_Encode_7
noncomputable def c_logfile_Encode_11 : Code := Code.l c_logfile_Encode_10
noncomputable def c_logfile_Encode_12 : Code := Code.l c_logfile_Encode_11
noncomputable def r_logfile_Encode_12 : Array Oper := Code.ops c_logfile_Encode_12
noncomputable def c_logfile_Encode_14 : Code := Code.r c_logfile_Encode_11
noncomputable def c_logfile_Encode_15 : Code := Code.r c_logfile_Encode_10
noncomputable def c_logfile_Encode_16 : Code := Code.r c_logfile_Encode_3
noncomputable def c_logfile_Encode_17 : Code := Code.l c_logfile_Encode_16
noncomputable def r_logfile_Encode_17 : Array Oper := Code.ops c_logfile_Encode_17
noncomputable def c_logfile_Encode_19 : Code := Code.r c_logfile_Encode_16
noncomputable def c_logfile_Encode_20 : Code := Code.l c_logfile_Encode_19
noncomputable def c_logfile_Encode_21 : Code := Code.l c_logfile_Encode_20
noncomputable def r_logfile_Encode_21 : Array Oper := Code.ops c_logfile_Encode_21
noncomputable def c_logfile_Encode_23 : Code := Code.r c_logfile_Encode_20
noncomputable def c_logfile_Encode_24 : Code := Code.l c_logfile_Encode_23
noncomputable def c_logfile_Encode_25 : Code := Code.l c_logfile_Encode_24
noncomputable def c_logfile_Encode_26 : Code := Code.l c_logfile_Encode_25
noncomputable def r_logfile_Encode_26 : Array Oper := Code.ops c_logfile_Encode_26
noncomputable def c_logfile_Encode_28 : Code := Code.r c_logfile_Encode_25
noncomputable def c_logfile_Encode_29 : Code := Code.l c_logfile_Encode_28
noncomputable def c_logfile_Encode_30 : Code := Code.l c_logfile_Encode_29
noncomputable def c_logfile_Encode_31 : Code := Code.r c_logfile_Encode_29
noncomputable def c_logfile_Encode_32 : Code := Code.r c_logfile_Encode_28
noncomputable def c_logfile_Encode_33 : Code := Code.l c_logfile_Encode_32
noncomputable def c_logfile_Encode_34 : Code := Code.l c_logfile_Encode_33
noncomputable def c_logfile_Encode_35 : Code := Code.l c_logfile_Encode_34
noncomputable def r_logfile_Encode_35 : Array Oper := Code.ops c_logfile_Encode_35
noncomputable def c_logfile_Encode_37 : Code := Code.r c_logfile_Encode_34
noncomputable def c_logfile_Encode_38 : Code := Code.l c_logfile_Encode_37
noncomputable def r_logfile_Encode_38 : Array Oper := Code.ops c_logfile_Encode_38
noncomputable def c_logfile_Encode_40 : Code := Code.r c_logfile_Encode_37
noncomputable def c_logfile_Encode_41 : Code := Code.l c_logfile_Encode_40
noncomputable def r_logfile_Encode_41 : Array Oper := Code.ops c_logfile_Encode_41
noncomputable def c_logfile_Encode_43 : Code := Code.r c_logfile_Encode_40
noncomputable def r_logfile_Encode_43 : Array Oper := Code.ops c_logfile_Encode_43
noncomputable def c_logfile_Encode_45 : Code := Code.r c_logfile_Encode_32
noncomputable def r_logfile_Encode_45 : Array Oper := Code.ops c_logfile_Encode_45
noncomputable def c_logfile_Encode_47 : Code := Code.r c_logfile_Encode_19
noncomputable def c_logfile_Encode_48 : Code := Code.l c_logfile_Encode_47
noncomputable def r_logfile_Encode_48 : Array Oper := Code.ops c_logfile_Encode_48
noncomputable def c_logfile_Encode_50 : Code := Code.r c_logfile_Encode_47

set_option maxRecDepth 100000 in
set_option maxHeartbeats 4000000 in
theorem S_logfile_Encode {l_ : Slc} {w : World} {R : Slc → Int → World → Prop} (h : F_logfile_Encode l_ R w) : C_logfile_Encode l_ w R := by
  unfold F_logfile_Encode at h
  unfold C_logfile_Encode
  refine Calls.mono (calls_of_wpE (args := [Value.slice l_.ptr l_.len l_.cap]) (R := fun v w' => ∃ (r0 : Slc) (r1 : Int), v = Value.tuple #[Value.slice r0.ptr r0.len r0.cap, Value.int .i64 r1] ∧ R r0 r1 w') Try.func17 (c := c_logfile_Encode_0) (by kernel_rfl) 39 (by kernel_rfl) (by kernel_rfl) [(0, Value.slice l_.ptr l_.len l_.cap)] (by kernel_rfl) ?_) ?_
  · refine wpE_seq (x := c_logfile_Encode_1) (y := c_logfile_Encode_3) (by kernel_rfl) ?_
    refine wpE_region (id := 0) (ops := r_logfile_Encode_1) (by kernel_rfl) ?_
    refine reg_run [.plain, .plain] 2 [(0, [], Value.slice l_.ptr l_.len l_.cap)] (by kernel_rfl) (by kernel_rfl) ?_
    refine reg_end [(0, Value.slice l_.ptr l_.len l_.cap)] (by kernel_rfl) (by kernel_rfl) ?_
    change WpE _ _ c_logfile_Encode_3 _ _ _
    refine wpE_seq (x := c_logfile_Encode_4) (y := c_logfile_Encode_16) (by kernel_rfl) ?_
    refine wpE_seq (x := c_logfile_Encode_5) (y := c_logfile_Encode_7) (by kernel_rfl) ?_
    refine wpE_region (id := 1) (ops := r_logfile_Encode_5) (by kernel_rfl) ?_
    refine reg_run [.plain] 1 [(0, [], Value.slice l_.ptr l_.len l_.cap), (10, [], Value.slice l_.ptr l_.len l_.cap)] (by kernel_rfl) (by kernel_rfl) ?_
    refine reg_enter (op := (Go.Op.call (Go.Call.mk (Go.Callee.value (Go.Operand.func 18)) #[(Go.Operand.tmp 10)] #[37]))) (ty := 29) (dst := some 11) 18 #[Value.slice l_.ptr l_.len l_.cap] (by kernel_rfl) (fun ww => by kernel_rfl) (Calls.mono h ?_)
    rintro _ w1 ⟨v11, rfl, h⟩
    refine ⟨_, rfl, ?_⟩
    refine reg_run [.plain] 3 [(0, [], Value.slice l_.ptr l_.len l_.cap), (4, [], Value.int .i64 v11)] (by kernel_rfl) (by kernel_rfl) ?_
    refine reg_end [(0, Value.slice l_.ptr l_.len l_.cap), (4, Value.int .i64 v11)] (by kernel_rfl) (by kernel_rfl) ?_
    change WpE _ _ c_logfile_Encode_7 _ _ _
    refine wpE_seq (x := c_logfile_Encode_8) (y := c_logfile_Encode_10) (by kernel_rfl) ?_
    refine wpE_region (id := 2) (ops := r_logfile_Encode_8) (by kernel_rfl) ?_
    refine reg_run [.plain, .plain] 2 [(0, [], Value.slice l_.ptr l_.len l_.cap), (4, [], Value.int .i64 v11), (13, [], Value.bool (v11 != 0))] (by kernel_rfl) (by kernel_rfl) ?_
    refine reg_end [(0, Value.slice l_.ptr l_.len l_.cap), (4, Value.int .i64 v11), (13, Value.bool (v11 != 0))] (by kernel_rfl) (by kernel_rfl) ?_
    change WpE _ _ c_logfile_Encode_10 _ _ _
    refine wpE_cond (o := (Operand.tmp 13)) (b := (v11 != 0)) (x := c_logfile_Encode_11) (y := c_logfile_Encode_15) (by kernel_rfl) (by kernel_rfl) (fun hb => ?_) (fun hb => ?_)
    · replace h := h.1 hb
      refine wpE_seq (x := c_logfile_Encode_12) (y := c_logfile_Encode_14) (by kernel_rfl) ?_
      refine wpE_region (id := 3) (ops := r_logfile_Encode_12) (by kernel_rfl) ?_
      refine reg_run [.plain, .plain, .plain] 3 [(2, [], Value.slice none 0 0), (3, [], Value.int .i64 v11)] (by kernel_rfl) (by kernel_rfl) ?_
      refine reg_end [(2, Value.slice none 0 0), (3, Value.int .i64 v11)] (by kernel_rfl) (by kernel_rfl) ?_
      change WpE _ _ c_logfile_Encode_14 _ _ _
      refine wpE_ret (by kernel_rfl) ?_
      repeat (first | refine seqQ_ret ?_ | refine blockQ_ret ?_ | refine loopQ_ret ?_ | refine cutQ_ret ?_)
      exact retT (rs := [(Go.ResultVar.tmp 2), (Go.ResultVar.tmp 3)]) (vs := [Value.slice none 0 0, Value.int .i64 v11]) (by kernel_rfl) (⟨by kernel_rfl, ⟨by kernel_rfl, trivial⟩⟩) (by kernel_rfl) ⟨(Slc.mk none 0 0), v11, rfl, h⟩
    · replace h := h.2 hb
      refine wpE_skip (by kernel_rfl) ?_
      change WpE _ _ c_logfile_Encode_16 _ _ _
      refine wpE_seq (x := c_logfile_Encode_17) (y := c_logfile_Encode_19) (by kernel_rfl) ?_
      refine wpE_region (id := 4) (ops := r_logfile_Encode_17) (by kernel_rfl) ?_
      refine reg_run [] 0 [(0, [], Value.slice l_.ptr l_.len l_.cap)] (by kernel_rfl) (by kernel_rfl) ?_
      refine reg_enter (op := (Go.Op.call (Go.Call.mk (Go.Callee.value (Go.Operand.func 46)) #[] #[]))) (ty := 93) (dst := some 15) 46 #[] (by kernel_rfl) (fun ww => by kernel_rfl) (Calls.mono h ?_)
      rintro _ w2 ⟨v15, rfl, h⟩
      refine ⟨_, rfl, ?_⟩
      refine reg_run [.plain] 2 [(0, [], Value.slice l_.ptr l_.len l_.cap), (5, [], Value.pointer v15)] (by kernel_rfl) (by kernel_rfl) ?_
      refine reg_end [(0, Value.slice l_.ptr l_.len l_.cap), (5, Value.pointer v15)] (by kernel_rfl) (by kernel_rfl) ?_
      change WpE _ _ c_logfile_Encode_19 _ _ _
      refine wpE_seq (x := c_logfile_Encode_20) (y := c_logfile_Encode_47) (by kernel_rfl) ?_
      refine wpE_seq (x := c_logfile_Encode_21) (y := c_logfile_Encode_23) (by kernel_rfl) ?_
      refine wpE_region (id := 5) (ops := r_logfile_Encode_21) (by kernel_rfl) ?_
      refine reg_run [.plain, .plain, .plain] 3 [(5, [], Value.pointer v15), (16, [], Value.slice l_.ptr l_.len l_.cap), (17, [], Value.int .i64 ((l_.len : Nat) : Int)), (18, [], Value.int .i64 0)] (by kernel_rfl) (by kernel_rfl) ?_
      refine reg_end [(5, Value.pointer v15), (16, Value.slice l_.ptr l_.len l_.cap), (17, Value.int .i64 ((l_.len : Nat) : Int)), (18, Value.int .i64 0)] (by kernel_rfl) (by kernel_rfl) ?_
      change WpE _ _ c_logfile_Encode_23 _ _ _
      refine wpE_block (id := 0) (x := c_logfile_Encode_24) (by kernel_rfl) ?_
      obtain ⟨I, μ, h0, hr⟩ := h
      refine wpE_loop (x := c_logfile_Encode_25) (by kernel_rfl) (fun m l w => ∃ (t18 : Int), l = [(5, Value.pointer v15), (16, Value.slice l_.ptr l_.len l_.cap), (17, Value.int .i64 ((l_.len : Nat) : Int)), (18, Value.int .i64 t18)] ∧ I t18 w ∧ μ t18 w = m) (l' := [(5, Value.pointer v15), (16, Value.slice l_.ptr l_.len l_.cap), (17, Value.int .i64 ((l_.len : Nat) : Int)), (18, Value.int .i64 0)]) (Sub.mk (by kernel_rfl)) ⟨0, rfl, h0, rfl⟩ ?_
      rintro _ _ w3 ⟨t18, rfl, hI, rfl⟩
      obtain ⟨again_, again__h, h⟩ : ∃ again_ : Int → World → Prop, (∀ t18' w', again_ t18' w' → I t18' w' ∧ μ t18' w' < μ t18 w3) ∧ F_logfile_Encode_L0 l_ R v15 again_ t18 w3 := ⟨_, fun _ _ h => h, hr t18 w3 hI⟩
      clear h0 hI
      unfold F_logfile_Encode_L0 at h
      refine wpE_seq (x := c_logfile_Encode_26) (y := c_logfile_Encode_28) (by kernel_rfl) ?_
      refine wpE_region (id := 6) (ops := r_logfile_Encode_26) (by kernel_rfl) ?_
      refine reg_run [.plain] 1 [(5, [], Value.pointer v15), (16, [], Value.slice l_.ptr l_.len l_.cap), (17, [], Value.int .i64 ((l_.len : Nat) : Int)), (18, [], Value.int .i64 t18), (19, [], Value.bool (decide (t18 < ((l_.len : Nat) : Int))))] (by kernel_rfl) (by kernel_rfl) ?_
      refine reg_end [(5, Value.pointer v15), (16, Value.slice l_.ptr l_.len l_.cap), (17, Value.int .i64 ((l_.len : Nat) : Int)), (18, Value.int .i64 t18), (19, Value.bool (decide (t18 < ((l_.len : Nat) : Int))))] (by kernel_rfl) (by kernel_rfl) ?_
      change WpE _ _ c_logfile_Encode_28 _ _ _
      refine wpE_seq (x := c_logfile_Encode_29) (y := c_logfile_Encode_32) (by kernel_rfl) ?_
      refine wpE_cond (o := (Operand.tmp 19)) (b := (decide (t18 < ((l_.len : Nat) : Int)))) (x := c_logfile_Encode_30) (y := c_logfile_Encode_31) (by kernel_rfl) (by kernel_rfl) (fun hb => ?_) (fun hb => ?_)
      · replace h := h.1 hb
        refine wpE_skip (by kernel_rfl) ?_
        change WpE _ _ c_logfile_Encode_32 _ _ _
        refine wpE_seq (x := c_logfile_Encode_33) (y := c_logfile_Encode_45) (by kernel_rfl) ?_
        refine wpE_block (id := 1) (x := c_logfile_Encode_34) (by kernel_rfl) ?_
        refine wpE_seq (x := c_logfile_Encode_35) (y := c_logfile_Encode_37) (by kernel_rfl) ?_
        refine wpE_region (id := 7) (ops := r_logfile_Encode_35) (by kernel_rfl) ?_
        refine reg_run [] 0 [(5, [], Value.pointer v15), (16, [], Value.slice l_.ptr l_.len l_.cap), (17, [], Value.int .i64 ((l_.len : Nat) : Int)), (18, [], Value.int .i64 t18)] (by kernel_rfl) (by kernel_rfl) ?_
        obtain ⟨hp_7, h⟩ := h
        refine reg_conv [(5, [], Value.pointer v15), (16, [], Value.slice (some ⟨(pblk l_.ptr), (poff l_.ptr), none⟩) l_.len l_.cap), (17, [], Value.int .i64 ((l_.len : Nat) : Int)), (18, [], Value.int .i64 t18)] (congrArg (fun pp => ([(5, [], Value.pointer v15), (16, [], Value.slice pp l_.len l_.cap), (17, [], Value.int .i64 ((l_.len : Nat) : Int)), (18, [], Value.int .i64 t18)] : GEnv)) hp_7) ?_
        obtain ⟨h0, h1, h⟩ := h
        refine reg_indexS (t := 37) (e := 49) (x := (Go.Operand.tmp 16)) (ix := (Go.Operand.tmp 18)) (b := (pblk l_.ptr)) (o := (poff l_.ptr)) (l := l_.len) (c := l_.cap) (k := .i64) (j := t18) (ty := 0) (dst := some 20) (sz := 2) (by kernel_rfl) (by kernel_rfl) (by kernel_rfl) (by kernel_rfl) (by kernel_rfl) h0 h1 ?_
        refine reg_run [] 1 [(5, [], Value.pointer v15), (16, [], Value.slice (some ⟨(pblk l_.ptr), (poff l_.ptr), none⟩) l_.len l_.cap), (17, [], Value.int .i64 ((l_.len : Nat) : Int)), (18, [], Value.int .i64 t18), (20, [], Value.pointer (some ⟨(pblk l_.ptr), (poff l_.ptr) + t18.toNat * 2, none⟩))] (by kernel_rfl) (by kernel_rfl) ?_
        obtain ⟨v21, hc, h⟩ := h
        refine reg_loadN (t := 49) (a := (Go.Operand.tmp 20)) (b := (pblk l_.ptr)) (o := ((poff l_.ptr) + t18.toNat * 2)) (ty := 49) (dst := some 21) [Value.int .i64 v21.Number, Value.slice v21.Writes.ptr v21.Writes.len v21.Writes.cap] (by kernel_rfl) (by kernel_rfl) (by kernel_rfl) (k := 2) (by kernel_rfl) (by kernel_rfl) hc ?_
        refine reg_run [] 2 [(5, [], Value.pointer v15), (16, [], Value.slice (some ⟨(pblk l_.ptr), (poff l_.ptr), none⟩) l_.len l_.cap), (17, [], Value.int .i64 ((l_.len : Nat) : Int)), (18, [], Value.int .i64 t18), (21, [], Value.agg #[Value.int .i64 v21.Number, Value.slice v21.Writes.ptr v21.Writes.len v21.Writes.cap])] (by kernel_rfl) (by kernel_rfl) ?_
        refine reg_new (op := (Go.Op.alloc 49)) (ty := 0) (dst := some 7) (fun bb => Value.pointer (some ⟨bb, 0, none⟩)) (Obj.cells ([Value.int .i64 0, Value.slice none 0 0]).toArray ty_api_Txn (0, 0)) (by kernel_rfl) (by kernel_rfl) (fun b_ w4 hb hw => ?_)
        replace h := h b_ w4 hb hw
        clear hb hw
        refine reg_run [] 3 [(5, [], Value.pointer v15), (7, [], Value.pointer (some ⟨b_, 0, none⟩)), (16, [], Value.slice (some ⟨(pblk l_.ptr), (poff l_.ptr), none⟩) l_.len l_.cap), (17, [], Value.int .i64 ((l_.len : Nat) : Int)), (18, [], Value.int .i64 t18), (21, [], Value.agg #[Value.int .i64 v21.Number, Value.slice v21.Writes.ptr v21.Writes.len v21.Writes.cap])] (by kernel_rfl) (by kernel_rfl) ?_
        obtain ⟨hc, h⟩ := h
        refine reg_store (t := 49) (a := (Go.Operand.tmp 7)) (x := (Go.Operand.tmp 21)) (b := b_) (o := 0) (ty := 0) (dst := none) [Value.int .i64 v21.Number, Value.slice v21.Writes.ptr v21.Writes.len v21.Writes.cap] (by kernel_rfl) (by kernel_rfl) (by kernel_rfl) (k := 2) (by kernel_rfl) (by kernel_rfl) (by kernel_rfl) hc (fun w5 hw => ?_)
        replace h := h w5 hw
        clear hw
        refine reg_run [] 4 [(5, [], Value.pointer v15), (7, [], Value.pointer (some ⟨b_, 0, none⟩)), (16, [], Value.slice (some ⟨(pblk l_.ptr), (poff l_.ptr), none⟩) l_.len l_.cap), (17, [], Value.int .i64 ((l_.len : Nat) : Int)), (18, [], Value.int .i64 t18)] (by kernel_rfl) (by kernel_rfl) ?_
        refine reg_conv [(5, [], Value.pointer v15), (7, [], Value.pointer (some ⟨b_, 0, none⟩)), (16, [], Value.slice l_.ptr l_.len l_.cap), (17, [], Value.int .i64 ((l_.len : Nat) : Int)), (18, [], Value.int .i64 t18)] (congrArg (fun pp => ([(5, [], Value.pointer v15), (7, [], Value.pointer (some ⟨b_, 0, none⟩)), (16, [], Value.slice pp l_.len l_.cap), (17, [], Value.int .i64 ((l_.len : Nat) : Int)), (18, [], Value.int .i64 t18)] : GEnv)) hp_7.symm) ?_
        refine reg_end [(5, Value.pointer v15), (7, Value.pointer (some ⟨b_, 0, none⟩)), (16, Value.slice l_.ptr l_.len l_.cap), (17, Value.int .i64 ((l_.len : Nat) : Int)), (18, Value.int .i64 t18)] (by kernel_rfl) (by kernel_rfl) ?_
        change WpE _ _ c_logfile_Encode_37 _ _ _
        refine wpE_seq (x := c_logfile_Encode_38) (y := c_logfile_Encode_40) (by kernel_rfl) ?_
        refine wpE_region (id := 8) (ops := r_logfile_Encode_38) (by kernel_rfl) ?_
        refine reg_run [] 0 [(5, [], Value.pointer v15), (7, [], Value.pointer (some ⟨b_, 0, none⟩)), (16, [], Value.slice l_.ptr l_.len l_.cap), (17, [], Value.int .i64 ((l_.len : Nat) : Int)), (18, [], Value.int .i64 t18)] (by kernel_rfl) (by kernel_rfl) ?_
        obtain ⟨v23, hc, h⟩ := h
        refine reg_loadN (t := 49) (a := (Go.Operand.tmp 7)) (b := b_) (o := 0) (ty := 49) (dst := some 23) [Value.int .i64 v23.Number, Value.slice v23.Writes.ptr v23.Writes.len v23.Writes.cap] (by kernel_rfl) (by kernel_rfl) (by kernel_rfl) (k := 2) (by kernel_rfl) (by kernel_rfl) hc ?_
        refine reg_run [] 1 [(5, [], Value.pointer v15), (16, [], Value.slice l_.ptr l_.len l_.cap), (17, [], Value.int .i64 ((l_.len : Nat) : Int)), (18, [], Value.int .i64 t18), (23, [], Value.agg #[Value.int .i64 v23.Number, Value.slice v23.Writes.ptr v23.Writes.len v23.Writes.cap])] (by kernel_rfl) (by kernel_rfl) ?_
        refine reg_enter (op := (Go.Op.call (Go.Call.mk (Go.Callee.value (Go.Operand.func 53)) #[(Go.Operand.tmp 23)] #[49]))) (ty := 32) (dst := some 24) 53 #[Value.agg #[Value.int .i64 v23.Number, Value.slice v23.Writes.ptr v23.Writes.len v23.Writes.cap]] (by kernel_rfl) (fun ww => by kernel_rfl) (Calls.mono h ?_)
        rintro _ w6 ⟨b_1, v24_1, rfl, h⟩
        refine ⟨_, rfl, ?_⟩
        refine reg_run [.plain, .plain, .plain, .plain, .plain] 7 [(5, [], Value.pointer v15), (8, [], Value.slice b_1.ptr b_1.len b_1.cap), (16, [], Value.slice l_.ptr l_.len l_.cap), (17, [], Value.int .i64 ((l_.len : Nat) : Int)), (18, [], Value.int .i64 t18)] (by kernel_rfl) (by kernel_rfl) ?_
        refine reg_end [(5, Value.pointer v15), (8, Value.slice b_1.ptr b_1.len b_1.cap), (16, Value.slice l_.ptr l_.len l_.cap), (17, Value.int .i64 ((l_.len : Nat) : Int)), (18, Value.int .i64 t18)] (by kernel_rfl) (by kernel_rfl) ?_
        change WpE _ _ c_logfile_Encode_40 _ _ _
        refine wpE_seq (x := c_logfile_Encode_41) (y := c_logfile_Encode_43) (by kernel_rfl) ?_
        refine wpE_region (id := 9) (ops := r_logfile_Encode_41) (by kernel_rfl) ?_
        refine reg_run [.plain, .plain] 2 [(5, [], Value.pointer v15), (8, [], Value.slice b_1.ptr b_1.len b_1.cap), (16, [], Value.slice l_.ptr l_.len l_.cap), (17, [], Value.int .i64 ((l_.len : Nat) : Int)), (18, [], Value.int .i64 t18), (27, [], Value.pointer v15), (28, [], Value.slice b_1.ptr b_1.len b_1.cap)] (by kernel_rfl) (by kernel_rfl) ?_
        obtain ⟨str, hs, h⟩ := h
        refine reg_toString (t := 22) (d := 9) (e := 5) (x := (Go.Operand.tmp 28)) (s := b_1) (ty := 9) (dst := some 29) (by kernel_rfl) (by kernel_rfl) (by kernel_rfl) (by kernel_rfl) (by kernel_rfl) hs ?_
        refine reg_run [] 3 [(5, [], Value.pointer v15), (8, [], Value.slice b_1.ptr b_1.len b_1.cap), (16, [], Value.slice l_.ptr l_.len l_.cap), (17, [], Value.int .i64 ((l_.len : Nat) : Int)), (18, [], Value.int .i64 t18), (27, [], Value.pointer v15), (29, [], Value.string str)] (by kernel_rfl) (by kernel_rfl) ?_
        refine reg_enter (op := (Go.Op.call (Go.Call.mk (Go.Callee.value (Go.Operand.func 48)) #[(Go.Operand.tmp 27), (Go.Operand.tmp 29)] #[93, 9]))) (ty := 0) (dst := some 30) 48 #[Value.pointer v15, Value.string str] (by kernel_rfl) (fun ww => by kernel_rfl) (Calls.mono h ?_)
        rintro _ w7 ⟨rfl, h⟩
        refine ⟨_, rfl, ?_⟩
        refine reg_end [(5, Value.pointer v15), (8, Value.slice b_1.ptr b_1.len b_1.cap), (16, Value.slice l_.ptr l_.len l_.cap), (17, Value.int .i64 ((l_.len : Nat) : Int)), (18, Value.int .i64 t18)] (by kernel_rfl) (by kernel_rfl) ?_
        change WpE _ _ c_logfile_Encode_43 _ _ _
        refine wpE_region (id := 10) (ops := r_logfile_Encode_43) (by kernel_rfl) ?_
        refine reg_run [.plain, .plain] 2 [(5, [], Value.pointer v15), (16, [], Value.slice l_.ptr l_.len l_.cap), (17, [], Value.int .i64 ((l_.len : Nat) : Int)), (18, [], Value.int .i64 t18), (31, [], Value.pointer v15), (32, [], Value.slice b_1.ptr b_1.len b_1.cap)] (by kernel_rfl) (by kernel_rfl) ?_
        refine reg_enter (op := (Go.Op.call (Go.Call.mk (Go.Callee.value (Go.Operand.func 54)) #[(Go.Operand.tmp 32)] #[22]))) (ty := 38) (dst := some 33) 54 #[Value.slice b_1.ptr b_1.len b_1.cap] (by kernel_rfl) (fun ww => by kernel_rfl) (Calls.mono h ?_)
        rintro _ w8 ⟨v33, rfl, h⟩
        refine ⟨_, rfl, ?_⟩
        refine reg_run [.plain] 4 [(5, [], Value.pointer v15), (16, [], Value.slice l_.ptr l_.len l_.cap), (17, [], Value.int .i64 ((l_.len : Nat) : Int)), (18, [], Value.int .i64 t18), (31, [], Value.pointer v15), (34, [], Value.int .u64 (IntKind.u64.wrap v33))] (by kernel_rfl) (by kernel_rfl) ?_
        refine reg_enter (op := (Go.Op.call (Go.Call.mk (Go.Callee.value (Go.Operand.func 49)) #[(Go.Operand.tmp 31), (Go.Operand.tmp 34), (Go.Operand.const (Go.Value.int Go.IntKind.i64 4))] #[93, 86, 3]))) (ty := 29) (dst := some 35) 49 #[Value.pointer v15, Value.int .u64 (IntKind.u64.wrap v33), Value.int .i64 4] (by kernel_rfl) (fun ww => by kernel_rfl) (Calls.mono h ?_)
        rintro _ w9 ⟨v35, rfl, h⟩
        refine ⟨_, rfl, ?_⟩
        refine reg_end [(5, Value.pointer v15), (16, Value.slice l_.ptr l_.len l_.cap), (17, Value.int .i64 ((l_.len : Nat) : Int)), (18, Value.int .i64 t18)] (by kernel_rfl) (by kernel_rfl) ?_
        change WpE _ _ c_logfile_Encode_45 _ _ _
        refine wpE_region (id := 11) (ops := r_logfile_Encode_45) (by kernel_rfl) ?_
        refine reg_run [.plain, .plain] 2 [(5, [], Value.pointer v15), (16, [], Value.slice l_.ptr l_.len l_.cap), (17, [], Value.int .i64 ((l_.len : Nat) : Int)), (18, [], Value.int .i64 (IntKind.i64.wrap (t18 + 1)))] (by kernel_rfl) (by kernel_rfl) ?_
        refine reg_end [(5, Value.pointer v15), (16, Value.slice l_.ptr l_.len l_.cap), (17, Value.int .i64 ((l_.len : Nat) : Int)), (18, Value.int .i64 (IntKind.i64.wrap (t18 + 1)))] (by kernel_rfl) (by kernel_rfl) ?_
        have hb_ := again__h _ _ h
        exact ⟨_, hb_.2, [(5, Value.pointer v15), (16, Value.slice l_.ptr l_.len l_.cap), (17, Value.int .i64 ((l_.len : Nat) : Int)), (18, Value.int .i64 (IntKind.i64.wrap (t18 + 1)))], Sub.mk (by kernel_rfl), (IntKind.i64.wrap (t18 + 1)), rfl, hb_.1, rfl⟩
      · replace h := h.2 hb
        refine wpE_exit (id := 0) (by kernel_rfl) ?_
        change WpE _ _ c_logfile_Encode_47 _ _ _
        refine wpE_seq (x := c_logfile_Encode_48) (y := c_logfile_Encode_50) (by kernel_rfl) ?_
        refine wpE_region (id := 12) (ops := r_logfile_Encode_48) (by kernel_rfl) ?_
        refine reg_run [.plain] 1 [(37, [], Value.pointer v15)] (by kernel_rfl) (by kernel_rfl) ?_
        refine reg_enter (op := (Go.Op.call (Go.Call.mk (Go.Callee.value (Go.Operand.func 50)) #[(Go.Operand.tmp 37)] #[93]))) (ty := 22) (dst := some 38) 50 #[Value.pointer v15] (by kernel_rfl) (fun ww => by kernel_rfl) (Calls.mono h ?_)
        rintro _ w10 ⟨v38, rfl, h⟩
        refine ⟨_, rfl, ?_⟩
        refine reg_run [.plain, .plain] 4 [(2, [], Value.slice v38.ptr v38.len v38.cap), (3, [], Value.int .i64 0)] (by kernel_rfl) (by kernel_rfl) ?_
        refine reg_end [(2, Value.slice v38.ptr v38.len v38.cap), (3, Value.int .i64 0)] (by kernel_rfl) (by kernel_rfl) ?_
        change WpE _ _ c_logfile_Encode_50 _ _ _
        refine wpE_ret (by kernel_rfl) ?_
        repeat (first | refine seqQ_ret ?_ | refine blockQ_ret ?_ | refine loopQ_ret ?_ | refine cutQ_ret ?_)
        exact retT (rs := [(Go.ResultVar.tmp 2), (Go.ResultVar.tmp 3)]) (vs := [Value.slice v38.ptr v38.len v38.cap, Value.int .i64 0]) (by kernel_rfl) (⟨by kernel_rfl, ⟨by kernel_rfl, trivial⟩⟩) (by kernel_rfl) ⟨v38, 0, rfl, h⟩
  · rintro e w' ⟨v, rfl, r0, r1, rfl, h⟩; exact ⟨r0, r1, rfl, h⟩

/-! ### towpath/logfile.Check (function 18) -/
noncomputable def c_logfile_Check_0 : Code := (Try.f18.body).getD Code.skip
noncomputable def c_logfile_Check_1 : Code := Code.l c_logfile_Check_0
noncomputable def r_logfile_Check_1 : Array Oper := Code.ops c_logfile_Check_1
noncomputable def c_logfile_Check_3 : Code := Code.r c_logfile_Check_0
noncomputable def c_logfile_Check_4 : Code := Code.l c_logfile_Check_3
noncomputable def r_logfile_Check_4 : Array Oper := Code.ops c_logfile_Check_4
noncomputable def c_logfile_Check_6 : Code := Code.r c_logfile_Check_3
noncomputable def c_logfile_Check_7 : Code := Code.l c_logfile_Check_6
noncomputable def c_logfile_Check_8 : Code := Code.l c_logfile_Check_7
noncomputable def r_logfile_Check_8 : Array Oper := Code.ops c_logfile_Check_8
noncomputable def c_logfile_Check_10 : Code := Code.r c_logfile_Check_7
noncomputable def c_logfile_Check_11 : Code := Code.l c_logfile_Check_10
noncomputable def c_logfile_Check_12 : Code := Code.l c_logfile_Check_11
noncomputable def c_logfile_Check_13 : Code := Code.l c_logfile_Check_12
noncomputable def r_logfile_Check_13 : Array Oper := Code.ops c_logfile_Check_13
noncomputable def c_logfile_Check_15 : Code := Code.r c_logfile_Check_12
noncomputable def c_logfile_Check_16 : Code := Code.l c_logfile_Check_15
noncomputable def c_logfile_Check_17 : Code := Code.l c_logfile_Check_16
noncomputable def c_logfile_Check_18 : Code := Code.r c_logfile_Check_16
noncomputable def c_logfile_Check_19 : Code := Code.r c_logfile_Check_15
noncomputable def c_logfile_Check_20 : Code := Code.l c_logfile_Check_19
noncomputable def c_logfile_Check_21 : Code := Code.l c_logfile_Check_20
noncomputable def c_logfile_Check_22 : Code := Code.l c_logfile_Check_21
noncomputable def r_logfile_Check_22 : Array Oper := Code.ops c_logfile_Check_22
noncomputable def c_logfile_Check_24 : Code := Code.r c_logfile_Check_21
noncomputable def c_logfile_Check_25 : Code := Code.l c_logfile_Check_24
noncomputable def r_logfile_Check_25 : Array Oper := Code.ops c_logfile_Check_25
noncomputable def c_logfile_Check_27 : Code := Code.r c_logfile_Check_24
noncomputable def c_logfile_Check_28 : Code := Code.l c_logfile_Check_27
noncomputable def r_logfile_Check_28 : Array Oper := Code.ops c_logfile_Check_28
noncomputable def c_logfile_Check_30 : Code := Code.r c_logfile_Check_27
noncomputable def c_logfile_Check_31 : Code := Code.l c_logfile_Check_30
noncomputable def c_logfile_Check_32 : Code := Code.l c_logfile_Check_31
noncomputable def r_logfile_Check_32 : Array Oper := Code.ops c_logfile_Check_32
noncomputable def c_logfile_Check_34 : Code := Code.r c_logfile_Check_31
noncomputable def c_logfile_Check_35 : Code := Code.r c_logfile_Check_30
noncomputable def c_logfile_Check_36 : Code := Code.r c_logfile_Check_19
noncomputable def r_logfile_Check_36 : Array Oper := Code.ops c_logfile_Check_36
noncomputable def c_logfile_Check_38 : Code := Code.r c_logfile_Check_6
noncomputable def c_logfile_Check_39 : Code := Code.l c_logfile_Check_38
noncomputable def r_logfile_Check_39 : Array Oper := Code.ops c_logfile_Check_39
noncomputable def c_logfile_Check_41 : Code := Code.r c_logfile_Check_38

set_option maxRecDepth 100000 in
set_option maxHeartbeats 4000000 in
theorem S_logfile_Check {l_ : Slc} {w : World} {R : Int → World → Prop} (h : F_logfile_Check l_ R w) : C_logfile_Check l_ w R := by
  unfold F_logfile_Check at h
  unfold C_logfile_Check
  refine Calls.mono (calls_of_wpE (args := [Value.slice l_.ptr l_.len l_.cap]) (R := fun v w' => ∃ (r0 : Int), v = Value.int .i64 r0 ∧ R r0 w') Try.func18 (c := c_logfile_Check_0) (by kernel_rfl) 21 (by kernel_rfl) (by kernel_rfl) [(0, Value.slice l_.ptr l_.len l_.cap)] (by kernel_rfl) ?_) ?_
  · refine wpE_seq (x := c_logfile_Check_1) (y := c_logfile_Check_3) (by kernel_rfl) ?_
    refine wpE_region (id := 0) (ops := r_logfile_Check_1) (by kernel_rfl) ?_
    refine reg_run [.plain] 1 [(0, [], Value.slice l_.ptr l_.len l_.cap)] (by kernel_rfl) (by kernel_rfl) ?_
    refine reg_end [(0, Value.slice l_.ptr l_.len l_.cap)] (by kernel_rfl) (by kernel_rfl) ?_
    change WpE _ _ c_logfile_Check_3 _ _ _
    refine wpE_seq (x := c_logfile_Check_4) (y := c_logfile_Check_6) (by kernel_rfl) ?_
    refine wpE_region (id := 1) (ops := r_logfile_Check_4) (by kernel_rfl) ?_
    refine reg_run [] 0 [(0, [], Value.slice l_.ptr l_.len l_.cap)] (by kernel_rfl) (by kernel_rfl) ?_
    refine reg_enter (op := (Go.Op.call (Go.Call.mk (Go.Callee.value (Go.Operand.func 55)) #[] #[]))) (ty := 50) (dst := some 7) 55 #[] (by kernel_rfl) (fun ww => by kernel_rfl) (Calls.mono h ?_)
    rintro _ w1 ⟨v7, rfl, h⟩
    refine ⟨_, rfl, ?_⟩
    refine reg_run [.plain] 2 [(0, [], Value.slice l_.ptr l_.len l_.cap), (3, [], v7)] (by kernel_rfl) (by kernel_rfl) ?_
    refine reg_end [(0, Value.slice l_.ptr l_.len l_.cap), (3, v7)] (by kernel_rfl) (by kernel_rfl) ?_
    change WpE _ _ c_logfile_Check_6 _ _ _
    refine wpE_seq (x := c_logfile_Check_7) (y := c_logfile_Check_38) (by kernel_rfl) ?_
    refine wpE_seq (x := c_logfile_Check_8) (y := c_logfile_Check_10) (by kernel_rfl) ?_
    refine wpE_region (id := 2) (ops := r_logfile_Check_8) (by kernel_rfl) ?_
    refine reg_run [.plain, .plain, .plain] 3 [(3, [], v7), (8, [], Value.slice l_.ptr l_.len l_.cap), (9, [], Value.int .i64 ((l_.len : Nat) : Int)), (10, [], Value.int .i64 0)] (by kernel_rfl) (by kernel_rfl) ?_
    refine reg_end [(3, v7), (8, Value.slice l_.ptr l_.len l_.cap), (9, Value.int .i64 ((l_.len : Nat) : Int)), (10, Value.int .i64 0)] (by kernel_rfl) (by kernel_rfl) ?_
    change WpE _ _ c_logfile_Check_10 _ _ _
    refine wpE_block (id := 0) (x := c_logfile_Check_11) (by kernel_rfl) ?_
    obtain ⟨I, μ, h0, hr⟩ := h
    refine wpE_loop (x := c_logfile_Check_12) (by kernel_rfl) (fun m l w => ∃ (t10 : Int), l = [(3, v7), (8, Value.slice l_.ptr l_.len l_.cap), (9, Value.int .i64 ((l_.len : Nat) : Int)), (10, Value.int .i64 t10)] ∧ I t10 w ∧ μ t10 w = m) (l' := [(3, v7), (8, Value.slice l_.ptr l_.len l_.cap), (9, Value.int .i64 ((l_.len : Nat) : Int)), (10, Value.int .i64 0)]) (Sub.mk (by kernel_rfl)) ⟨0, rfl, h0, rfl⟩ ?_
    rintro _ _ w2 ⟨t10, rfl, hI, rfl⟩
    obtain ⟨again_, again__h, h⟩ : ∃ again_ : Int → World → Prop, (∀ t10' w', again_ t10' w' → I t10' w' ∧ μ t10' w' < μ t10 w2) ∧ F_logfile_Check_L0 l_ R v7 again_ t10 w2 := ⟨_, fun _ _ h => h, hr t10 w2 hI⟩
    clear h0 hI
    unfold F_logfile_Check_L0 at h
    refine wpE_seq (x := c_logfile_Check_13) (y := c_logfile_Check_15) (by kernel_rfl) ?_
    refine wpE_region (id := 3) (ops := r_logfile_Check_13) (by kernel_rfl) ?_
    refine reg_run [.plain] 1 [(3, [], v7), (8, [], Value.slice l_.ptr l_.len l_.cap), (9, [], Value.int .i64 ((l_.len : Nat) : Int)), (10, [], Value.int .i64 t10), (11, [], Value.bool (decide (t10 < ((l_.len : Nat) : Int))))] (by kernel_rfl) (by kernel_rfl) ?_
    refine reg_end [(3, v7), (8, Value.slice l_.ptr l_.len l_.cap), (9, Value.int .i64 ((l_.len : Nat) : Int)), (10, Value.int .i64 t10), (11, Value.bool (decide (t10 < ((l_.len : Nat) : Int))))] (by kernel_rfl) (by kernel_rfl) ?_
    change WpE _ _ c_logfile_Check_15 _ _ _
    refine wpE_seq (x := c_logfile_Check_16) (y := c_logfile_Check_19) (by kernel_rfl) ?_
    refine wpE_cond (o := (Operand.tmp 11)) (b := (decide (t10 < ((l_.len : Nat) : Int)))) (x := c_logfile_Check_17) (y := c_logfile_Check_18) (by kernel_rfl) (by kernel_rfl) (fun hb => ?_) (fun hb => ?_)
    · replace h := h.1 hb
      refine wpE_skip (by kernel_rfl) ?_
      change WpE _ _ c_logfile_Check_19 _ _ _
      refine wpE_seq (x := c_logfile_Check_20) (y := c_logfile_Check_36) (by kernel_rfl) ?_
      refine wpE_block (id := 1) (x := c_logfile_Check_21) (by kernel_rfl) ?_
      refine wpE_seq (x := c_logfile_Check_22) (y := c_logfile_Check_24) (by kernel_rfl) ?_
      refine wpE_region (id := 4) (ops := r_logfile_Check_22) (by kernel_rfl) ?_
      refine reg_run [] 0 [(3, [], v7), (8, [], Value.slice l_.ptr l_.len l_.cap), (9, [], Value.int .i64 ((l_.len : Nat) : Int)), (10, [], Value.int .i64 t10)] (by kernel_rfl) (by kernel_rfl) ?_
      obtain ⟨hp_7, h⟩ := h
      refine reg_conv [(3, [], v7), (8, [], Value.slice (some ⟨(pblk l_.ptr), (poff l_.ptr), none⟩) l_.len l_.cap), (9, [], Value.int .i64 ((l_.len : Nat) : Int)), (10, [], Value.int .i64 t10)] (congrArg (fun pp => ([(3, [], v7), (8, [], Value.slice pp l_.len l_.cap), (9, [], Value.int .i64 ((l_.len : Nat) : Int)), (10, [], Value.int .i64 t10)] : GEnv)) hp_7) ?_
      obtain ⟨h0, h1, h⟩ := h
      refine reg_indexS (t := 37) (e := 49) (x := (Go.Operand.tmp 8)) (ix := (Go.Operand.tmp 10)) (b := (pblk l_.ptr)) (o := (poff l_.ptr)) (l := l_.len) (c := l_.cap) (k := .i64) (j := t10) (ty := 0) (dst := some 12) (sz := 2) (by kernel_rfl) (by kernel_rfl) (by kernel_rfl) (by kernel_rfl) (by kernel_rfl) h0 h1 ?_
      refine reg_run [] 1 [(3, [], v7), (8, [], Value.slice (some ⟨(pblk l_.ptr), (poff l_.ptr), none⟩) l_.len l_.cap), (9, [], Value.int .i64 ((l_.len : Nat) : Int)), (10, [], Value.int .i64 t10), (12, [], Value.pointer (some ⟨(pblk l_.ptr), (poff l_.ptr) + t10.toNat * 2, none⟩))] (by kernel_rfl) (by kernel_rfl) ?_
      obtain ⟨v13, hc, h⟩ := h
      refine reg_loadN (t := 49) (a := (Go.Operand.tmp 12)) (b := (pblk l_.ptr)) (o := ((poff l_.ptr) + t10.toNat * 2)) (ty := 49) (dst := some 13) [Value.int .i64 v13.Number, Value.slice v13.Writes.ptr v13.Writes.len v13.Writes.cap] (by kernel_rfl) (by kernel_rfl) (by kernel_rfl) (k := 2) (by kernel_rfl) (by kernel_rfl) hc ?_
      refine reg_run [] 2 [(3, [], v7), (8, [], Value.slice (some ⟨(pblk l_.ptr), (poff l_.ptr), none⟩) l_.len l_.cap), (9, [], Value.int .i64 ((l_.len : Nat) : Int)), (10, [], Value.int .i64 t10), (13, [], Value.agg #[Value.int .i64 v13.Number, Value.slice v13.Writes.ptr v13.Writes.len v13.Writes.cap])] (by kernel_rfl) (by kernel_rfl) ?_
      refine reg_new (op := (Go.Op.alloc 49)) (ty := 0) (dst := some 5) (fun bb => Value.pointer (some ⟨bb, 0, none⟩)) (Obj.cells ([Value.int .i64 0, Value.slice none 0 0]).toArray ty_api_Txn (0, 0)) (by kernel_rfl) (by kernel_rfl) (fun b_ w3 hb hw => ?_)
      replace h := h b_ w3 hb hw
      clear hb hw
      refine reg_run [] 3 [(3, [], v7), (5, [], Value.pointer (some ⟨b_, 0, none⟩)), (8, [], Value.slice (some ⟨(pblk l_.ptr), (poff l_.ptr), none⟩) l_.len l_.cap), (9, [], Value.int .i64 ((l_.len : Nat) : Int)), (10, [], Value.int .i64 t10), (13, [], Value.agg #[Value.int .i64 v13.Number, Value.slice v13.Writes.ptr v13.Writes.len v13.Writes.cap])] (by kernel_rfl) (by kernel_rfl) ?_
      obtain ⟨hc, h⟩ := h
      refine reg_store (t := 49) (a := (Go.Operand.tmp 5)) (x := (Go.Operand.tmp 13)) (b := b_) (o := 0) (ty := 0) (dst := none) [Value.int .i64 v13.Number, Value.slice v13.Writes.ptr v13.Writes.len v13.Writes.cap] (by kernel_rfl) (by kernel_rfl) (by kernel_rfl) (k := 2) (by kernel_rfl) (by kernel_rfl) (by kernel_rfl) hc (fun w4 hw => ?_)
      replace h := h w4 hw
      clear hw
      refine reg_run [] 4 [(3, [], v7), (5, [], Value.pointer (some ⟨b_, 0, none⟩)), (8, [], Value.slice (some ⟨(pblk l_.ptr), (poff l_.ptr), none⟩) l_.len l_.cap), (9, [], Value.int .i64 ((l_.len : Nat) : Int)), (10, [], Value.int .i64 t10)] (by kernel_rfl) (by kernel_rfl) ?_
      refine reg_conv [(3, [], v7), (5, [], Value.pointer (some ⟨b_, 0, none⟩)), (8, [], Value.slice l_.ptr l_.len l_.cap), (9, [], Value.int .i64 ((l_.len : Nat) : Int)), (10, [], Value.int .i64 t10)] (congrArg (fun pp => ([(3, [], v7), (5, [], Value.pointer (some ⟨b_, 0, none⟩)), (8, [], Value.slice pp l_.len l_.cap), (9, [], Value.int .i64 ((l_.len : Nat) : Int)), (10, [], Value.int .i64 t10)] : GEnv)) hp_7.symm) ?_
      refine reg_end [(3, v7), (5, Value.pointer (some ⟨b_, 0, none⟩)), (8, Value.slice l_.ptr l_.len l_.cap), (9, Value.int .i64 ((l_.len : Nat) : Int)), (10, Value.int .i64 t10)] (by kernel_rfl) (by kernel_rfl) ?_
      change WpE _ _ c_logfile_Check_24 _ _ _
      refine wpE_seq (x := c_logfile_Check_25) (y := c_logfile_Check_27) (by kernel_rfl) ?_
      refine wpE_region (id := 5) (ops := r_logfile_Check_25) (by kernel_rfl) ?_
      refine reg_run [.plain] 1 [(3, [], v7), (5, [], Value.pointer (some ⟨b_, 0, none⟩)), (8, [], Value.slice l_.ptr l_.len l_.cap), (9, [], Value.int .i64 ((l_.len : Nat) : Int)), (10, [], Value.int .i64 t10), (14, [], v7)] (by kernel_rfl) (by kernel_rfl) ?_
      obtain ⟨v15, hc, h⟩ := h
      refine reg_loadN (t := 49) (a := (Go.Operand.tmp 5)) (b := b_) (o := 0) (ty := 49) (dst := some 15) [Value.int .i64 v15.Number, Value.slice v15.Writes.ptr v15.Writes.len v15.Writes.cap] (by kernel_rfl) (by kernel_rfl) (by kernel_rfl) (k := 2) (by kernel_rfl) (by kernel_rfl) hc ?_
      refine reg_run [] 2 [(3, [], v7), (8, [], Value.slice l_.ptr l_.len l_.cap), (9, [], Value.int .i64 ((l_.len : Nat) : Int)), (10, [], Value.int .i64 t10), (14, [], v7), (15, [], Value.agg #[Value.int .i64 v15.Number, Value.slice v15.Writes.ptr v15.Writes.len v15.Writes.cap])] (by kernel_rfl) (by kernel_rfl) ?_
      refine reg_enterV (fo := (Go.Operand.tmp 14)) (aa := #[(Go.Operand.tmp 15)]) (ts := #[49]) (fv := v7) (ty := 29) (dst := some 16) #[Value.agg #[Value.int .i64 v15.Number, Value.slice v15.Writes.ptr v15.Writes.len v15.Writes.cap]] (by kernel_rfl) (by kernel_rfl) (by kernel_rfl) (CallsV.mono h ?_)
      rintro _ w5 ⟨v16, rfl, h⟩
      refine ⟨_, rfl, ?_⟩
      refine reg_run [.plain] 4 [(3, [], v7), (6, [], Value.int .i64 v16), (8, [], Value.slice l_.ptr l_.len l_.cap), (9, [], Value.int .i64 ((l_.len : Nat) : Int)), (10, [], Value.int .i64 t10)] (by kernel_rfl) (by kernel_rfl) ?_
      refine reg_end [(3, v7), (6, Value.int .i64 v16), (8, Value.slice l_.ptr l_.len l_.cap), (9, Value.int .i64 ((l_.len : Nat) : Int)), (10, Value.int .i64 t10)] (by kernel_rfl) (by kernel_rfl) ?_
      change WpE _ _ c_logfile_Check_27 _ _ _
      refine wpE_seq (x := c_logfile_Check_28) (y := c_logfile_Check_30) (by kernel_rfl) ?_
      refine wpE_region (id := 6) (ops := r_logfile_Check_28) (by kernel_rfl) ?_
      refine reg_run [.plain, .plain] 2 [(3, [], v7), (6, [], Value.int .i64 v16), (8, [], Value.slice l_.ptr l_.len l_.cap), (9, [], Value.int .i64 ((l_.len : Nat) : Int)), (10, [], Value.int .i64 t10), (18, [], Value.bool (v16 != 0))] (by kernel_rfl) (by kernel_rfl) ?_
      refine reg_end [(3, v7), (6, Value.int .i64 v16), (8, Value.slice l_.ptr l_.len l_.cap), (9, Value.int .i64 ((l_.len : Nat) : Int)), (10, Value.int .i64 t10), (18, Value.bool (v16 != 0))] (by kernel_rfl) (by kernel_rfl) ?_
      change WpE _ _ c_logfile_Check_30 _ _ _
      refine wpE_cond (o := (Operand.tmp 18)) (b := (v16 != 0)) (x := c_logfile_Check_31) (y := c_logfile_Check_35) (by kernel_rfl) (by kernel_rfl) (fun hb => ?_) (fun hb => ?_)
      · replace h := h.1 hb
        refine wpE_seq (x := c_logfile_Check_32) (y := c_logfile_Check_34) (by kernel_rfl) ?_
        refine wpE_region (id := 7) (ops := r_logfile_Check_32) (by kernel_rfl) ?_
        refine reg_run [.plain, .plain] 2 [(2, [], Value.int .i64 v16)] (by kernel_rfl) (by kernel_rfl) ?_
        refine reg_end [(2, Value.int .i64 v16)] (by kernel_rfl) (by kernel_rfl) ?_
        change WpE _ _ c_logfile_Check_34 _ _ _
        refine wpE_ret (by kernel_rfl) ?_
        repeat (first | refine seqQ_ret ?_ | refine blockQ_ret ?_ | refine loopQ_ret ?_ | refine cutQ_ret ?_)
        exact retS (rs := [(Go.ResultVar.tmp 2)]) (v := Value.int .i64 v16) (by kernel_rfl) (⟨by kernel_rfl, trivial⟩) ⟨v16, rfl, h⟩
      · replace h := h.2 hb
        refine wpE_skip (by kernel_rfl) ?_
        change WpE _ _ c_logfile_Check_36 _ _ _
        refine wpE_region (id := 8) (ops := r_logfile_Check_36) (by kernel_rfl) ?_
        refine reg_run [.plain, .plain] 2 [(3, [], v7), (8, [], Value.slice l_.ptr l_.len l_.cap), (9, [], Value.int .i64 ((l_.len : Nat) : Int)), (10, [], Value.int .i64 (IntKind.i64.wrap (t10 + 1)))] (by kernel_rfl) (by kernel_rfl) ?_
        refine reg_end [(3, v7), (8, Value.slice l_.ptr l_.len l_.cap), (9, Value.int .i64 ((l_.len : Nat) : Int)), (10, Value.int .i64 (IntKind.i64.wrap (t10 + 1)))] (by kernel_rfl) (by kernel_rfl) ?_
        have hb_ := again__h _ _ h
        exact ⟨_, hb_.2, [(3, v7), (8, Value.slice l_.ptr l_.len l_.cap), (9, Value.int .i64 ((l_.len : Nat) : Int)), (10, Value.int .i64 (IntKind.i64.wrap (t10 + 1)))], Sub.mk (by kernel_rfl), (IntKind.i64.wrap (t10 + 1)), rfl, hb_.1, rfl⟩
    · replace h := h.2 hb
      refine wpE_exit (id := 0) (by kernel_rfl) ?_
      change WpE _ _ c_logfile_Check_38 _ _ _
      refine wpE_seq (x := c_logfile_Check_39) (y := c_logfile_Check_41) (by kernel_rfl) ?_
      refine wpE_region (id := 9) (ops := r_logfile_Check_39) (by kernel_rfl) ?_
      refine reg_run [.plain] 1 [(2, [], Value.int .i64 0)] (by kernel_rfl) (by kernel_rfl) ?_
      refine reg_end [(2, Value.int .i64 0)] (by kernel_rfl) (by kernel_rfl) ?_
      change WpE _ _ c_logfile_Check_41 _ _ _
      refine wpE_ret (by kernel_rfl) ?_
      repeat (first | refine seqQ_ret ?_ | refine blockQ_ret ?_ | refine loopQ_ret ?_ | refine cutQ_ret ?_)
      exact retS (rs := [(Go.ResultVar.tmp 2)]) (v := Value.int .i64 0) (by kernel_rfl) (⟨by kernel_rfl, trivial⟩) ⟨0, rfl, h⟩
  · rintro e w' ⟨v, rfl, r0, rfl, h⟩; exact ⟨r0, rfl, h⟩

/-! ### towpath/logfile.Read (function 19) -/
noncomputable def c_logfile_Read_0 : Code := (Try.f19.body).getD Code.skip
noncomputable def c_logfile_Read_1 : Code := Code.l c_logfile_Read_0
noncomputable def r_logfile_Read_1 : Array Oper := Code.ops c_logfile_Read_1
noncomputable def c_logfile_Read_3 : Code := Code.r c_logfile_Read_0
noncomputable def c_logfile_Read_4 : Code := Code.l c_logfile_Read_3
noncomputable def c_logfile_Read_5 : Code := Code.l c_logfile_Read_4
noncomputable def r_logfile_Read_5 : Array Oper := Code.ops c_logfile_Read_5
noncomputable def c_logfile_Read_7 : Code := Code.r c_logfile_Read_4
noncomputable def c_logfile_Read_8 : Code := Code.l c_logfile_Read_7
noncomputable def c_logfile_Read_9 : Code := Code.l c_logfile_Read_8
noncomputable def c_logfile_Read_10 : Code := Code.l c_logfile_Read_9
noncomputable def r_logfile_Read_10 : Array Oper := Code.ops c_logfile_Read_10
noncomputable def c_logfile_Read_12 : Code := Code.r c_logfile_Read_9
noncomputable def r_logfile_Read_12 : Array Oper := Code.ops c_logfile_Read_12
noncomputable def c_logfile_Read_14 : Code := Code.r c_logfile_Read_8
noncomputable def c_logfile_Read_15 : Code := Code.l c_logfile_Read_14
noncomputable def c_logfile_Read_16 : Code := Code.l c_logfile_Read_15
noncomputable def c_logfile_Read_17 : Code := Code.l c_logfile_Read_16
noncomputable def r_logfile_Read_17 : Array Oper := Code.ops c_logfile_Read_17
noncomputable def c_logfile_Read_19 : Code := Code.r c_logfile_Read_16
noncomputable def c_logfile_Read_20 : Code := Code.l c_logfile_Read_19
noncomputable def c_logfile_Read_21 : Code := Code.l c_logfile_Read_20
noncomputable def r_logfile_Read_21 : Array Oper := Code.ops c_logfile_Read_21
noncomputable def c_logfile_Read_23 : Code := Code.r c_logfile_Read_20
noncomputable def c_logfile_Read_24 : Code := Code.r c_logfile_Read_19
noncomputable def c_logfile_Read_25 : Code := Code.r c_logfile_Read_15
noncomputable def r_logfile_Read_25 : Array Oper := Code.ops c_logfile_Read_25
noncomputable def c_logfile_Read_27 : Code := Code.r c_logfile_Read_3
noncomputable def c_logfile_Read_28 : Code := Code.l c_logfile_Read_27
noncomputable def r_logfile_Read_28 : Array Oper := Code.ops c_logfile_Read_28
noncomputable def c_logfile_Read_30 : Code := Code.r c_logfile_Read_27
def o_logfile_Read_21 : List Nat := [0, 1, 2, 3, 4]
def o_logfile_Read_28 : List Nat := [0, 1, 2, 3, 4, 5]

set_option maxRecDepth 100000 in
set_option maxHeartbeats 4000000 in
theorem S_logfile_Read {b_ : Slc} {w : World} {R : Slc → Int → Int → World → Prop} (h : F_logfile_Read b_ R w) : C_logfile_Read b_ w R := by
  unfold F_logfile_Read at h
  unfold C_logfile_Read
  refine Calls.mono (calls_of_wpY (args := [Value.slice b_.ptr b_.len b_.cap]) (R := fun v w' => ∃ (r0 : Slc) (r1 : Int) (r2 : Int), v = Value.tuple #[Value.slice r0.ptr r0.len r0.cap, Value.int .i64 r1, Value.int .i64 r2] ∧ R r0 r1 r2 w') Try.func19 (c := c_logfile_Read_0) (by kernel_rfl) 27 (by kernel_rfl) (by kernel_rfl) [(0, Value.slice b_.ptr b_.len b_.cap)] (by kernel_rfl) ?_) ?_
  · letI : Rnd := rndY Try.prog Try.f19 (fun v w' => ∃ (r0 : Slc) (r1 : Int) (r2 : Int), v = Value.tuple #[Value.slice r0.ptr r0.len r0.cap, Value.int .i64 r1, Value.int .i64 r2] ∧ R r0 r1 r2 w')
    refine wpE_seq (x := c_logfile_Read_1) (y := c_logfile_Read_3) (by kernel_rfl) ?_
    refine wpE_region (id := 0) (ops := r_logfile_Read_1) (by kernel_rfl) ?_
    refine reg_run [] 0 [(0, [], Value.slice b_.ptr b_.len b_.cap)] (by kernel_rfl) (by kernel_rfl) ?_
    refine reg_new (op := (Go.Op.alloc 37)) (ty := 0) (dst := some 2) (fun bb => Value.pointer (some ⟨bb, 0, none⟩)) (Obj.cells ([Value.slice none 0 0]).toArray ty_sl_api_Txn (0, 0)) (by kernel_rfl) (by kernel_rfl) (fun b_1 w1 hb hw => ?_)
    replace h := h b_1 w1 hb hw
    clear hb hw
    refine reg_run [] 1 [(0, [], Value.slice b_.ptr b_.len b_.cap), (2, [], Value.pointer (some ⟨b_1, 0, none⟩))] (by kernel_rfl) (by kernel_rfl) ?_
    refine reg_new (op := (Go.Op.alloc 3)) (ty := 0) (dst := some 3) (fun bb => Value.pointer (some ⟨bb, 0, none⟩)) (Obj.cells ([Value.int .i64 0]).toArray ty_int (0, 0)) (by kernel_rfl) (by kernel_rfl) (fun b_2 w2 hb hw => ?_)
    replace h := h b_2 w2 hb hw
    clear hb hw
    refine reg_run [] 2 [(0, [], Value.slice b_.ptr b_.len b_.cap), (2, [], Value.pointer (some ⟨b_1, 0, none⟩)), (3, [], Value.pointer (some ⟨b_2, 0, none⟩))] (by kernel_rfl) (by kernel_rfl) ?_
    refine reg_new (op := (Go.Op.alloc 29)) (ty := 0) (dst := some 4) (fun bb => Value.pointer (some ⟨bb, 0, none⟩)) (Obj.cells ([Value.int .i64 0]).toArray ty_api_Errno (0, 0)) (by kernel_rfl) (by kernel_rfl) (fun b_3 w3 hb hw => ?_)
    replace h := h b_3 w3 hb hw
    clear hb hw
    refine reg_end [(0, Value.slice b_.ptr b_.len b_.cap), (2, Value.pointer (some ⟨b_1, 0, none⟩)), (3, Value.pointer (some ⟨b_2, 0, none⟩)), (4, Value.pointer (some ⟨b_3, 0, none⟩))] (by kernel_rfl) (by kernel_rfl) ?_
    change WpE _ _ c_logfile_Read_3 _ _ _
    refine wpE_seq_range (x := c_logfile_Read_4) (r1 := c_logfile_Read_5) (b := c_logfile_Read_7) (id := 0) (rg := c_logfile_Read_8) (rest := c_logfile_Read_27) (assign := c_logfile_Read_9) (body := c_logfile_Read_14) (g := (Operand.tmp 8)) (ps := [9, 10]) (psa := #[9, 10]) (by kernel_rfl) (by kernel_rfl) (by kernel_rfl) (by kernel_rfl) (by kernel_rfl) ?_
    refine wpE_region (id := 1) (ops := r_logfile_Read_5) (by kernel_rfl) ?_
    refine reg_run [.plain] 1 [(2, [], Value.pointer (some ⟨b_1, 0, none⟩)), (3, [], Value.pointer (some ⟨b_2, 0, none⟩)), (4, [], Value.pointer (some ⟨b_3, 0, none⟩)), (7, [], Value.slice b_.ptr b_.len b_.cap)] (by kernel_rfl) (by kernel_rfl) ?_
    refine reg_enter (op := (Go.Op.call (Go.Call.mk (Go.Callee.value (Go.Operand.func 56)) #[(Go.Operand.tmp 7), (Go.Operand.tmp 4)] #[22, 110]))) (ty := 108) (dst := some 8) 56 #[Value.slice b_.ptr b_.len b_.cap, Value.pointer (some ⟨b_3, 0, none⟩)] (by kernel_rfl) (fun ww => by kernel_rfl) (Calls.mono h ?_)
    rintro _ w4 ⟨v8, rfl, h⟩
    refine ⟨_, rfl, ?_⟩
    refine reg_end [(2, Value.pointer (some ⟨b_1, 0, none⟩)), (3, Value.pointer (some ⟨b_2, 0, none⟩)), (4, Value.pointer (some ⟨b_3, 0, none⟩)), (8, v8)] (by kernel_rfl) (by kernel_rfl) ?_
    refine rangeJ_mk (gv := v8) (by kernel_rfl) (by kernel_rfl) (fun rec_ D w5 hD_ hw_ hB_ => ?_)
    have hB_ : ∀ (t9 : Int) (t10 : T_api_Txn) (w6 : World) (Kb : Bool → World → Prop), w6.heap[D + 1]? = some (.loop (rec_ .ready none)) → (F_logfile_Read_S1 b_1 b_2 b_3 rec_ D Kb t9 t10 w6) → CallsY (P := Try.prog) (yieldV (D + 1)) #[Value.int .i64 t9, Value.agg #[Value.int .i64 t10.Number, Value.slice t10.Writes.ptr t10.Writes.len t10.Writes.cap]] w6 (fun e_ W_ => ∃ b_, e_ = Ending.returned (.bool b_) ∧ Kb b_ W_) := by
      clear h
      intro t9 t10 w6 Kb hl_ hf_
      refine hB_ [Value.int .i64 t9, Value.agg #[Value.int .i64 t10.Number, Value.slice t10.Writes.ptr t10.Writes.len t10.Writes.cap]] w6 _ (by kernel_rfl) hl_ ?_
      letI : Rnd := mkRnd (some (D + 1)) [] noEsc
      change WpE _ _ c_logfile_Read_9 _ _ _
      clear hl_
      have h := hf_
      clear hf_
      unfold F_logfile_Read_S1 at h
      refine wpE_seq (x := c_logfile_Read_10) (y := c_logfile_Read_12) (by kernel_rfl) ?_
      refine wpE_region (id := 2) (ops := r_logfile_Read_10) (by kernel_rfl) ?_
      refine reg_run [.plain] 1 [(2, [], Value.pointer (some ⟨b_1, 0, none⟩)), (3, [], Value.pointer (some ⟨b_2, 0, none⟩)), (4, [], Value.pointer (some ⟨b_3, 0, none⟩)), (5, [], Value.int .i64 t9), (10, [], Value.agg #[Value.int .i64 t10.Number, Value.slice t10.Writes.ptr t10.Writes.len t10.Writes.cap])] (by kernel_rfl) (by kernel_rfl) ?_
      refine reg_end [(2, Value.pointer (some ⟨b_1, 0, none⟩)), (3, Value.pointer (some ⟨b_2, 0, none⟩)), (4, Value.pointer (some ⟨b_3, 0, none⟩)), (5, Value.int .i64 t9), (10, Value.agg #[Value.int .i64 t10.Number, Value.slice t10.Writes.ptr t10.Writes.len t10.Writes.cap])] (by kernel_rfl) (by kernel_rfl) ?_
      change WpE _ _ c_logfile_Read_12 _ _ _
      refine wpE_region (id := 3) (ops := r_logfile_Read_12) (by kernel_rfl) ?_
      refine reg_run [] 0 [(2, [], Value.pointer (some ⟨b_1, 0, none⟩)), (3, [], Value.pointer (some ⟨b_2, 0, none⟩)), (4, [], Value.pointer (some ⟨b_3, 0, none⟩)), (5, [], Value.int .i64 t9), (10, [], Value.agg #[Value.int .i64 t10.Number, Value.slice t10.Writes.ptr t10.Writes.len t10.Writes.cap])] (by kernel_rfl) (by kernel_rfl) ?_
      refine reg_new (op := (Go.Op.alloc 49)) (ty := 0) (dst := some 6) (fun bb => Value.pointer (some ⟨bb, 0, none⟩)) (Obj.cells ([Value.int .i64 0, Value.slice none 0 0]).toArray ty_api_Txn (0, 0)) (by kernel_rfl) (by kernel_rfl) (fun b_4 w8 hb hw => ?_)
      replace h := h b_4 w8 hb hw
      clear hb hw
      refine reg_run [] 1 [(2, [], Value.pointer (some ⟨b_1, 0, none⟩)), (3, [], Value.pointer (some ⟨b_2, 0, none⟩)), (4, [], Value.pointer (some ⟨b_3, 0, none⟩)), (5, [], Value.int .i64 t9), (6, [], Value.pointer (some ⟨b_4, 0, none⟩)), (10, [], Value.agg #[Value.int .i64 t10.Number, Value.slice t10.Writes.ptr t10.Writes.len t10.Writes.cap])] (by kernel_rfl) (by kernel_rfl) ?_
      obtain ⟨hc, h⟩ := h
      refine reg_store (t := 49) (a := (Go.Operand.tmp 6)) (x := (Go.Operand.tmp 10)) (b := b_4) (o := 0) (ty := 0) (dst := none) [Value.int .i64 t10.Number, Value.slice t10.Writes.ptr t10.Writes.len t10.Writes.cap] (by kernel_rfl) (by kernel_rfl) (by kernel_rfl) (k := 2) (by kernel_rfl) (by kernel_rfl) (by kernel_rfl) hc (fun w9 hw => ?_)
      replace h := h w9 hw
      clear hw
      refine reg_end [(2, Value.pointer (some ⟨b_1, 0, none⟩)), (3, Value.pointer (some ⟨b_2, 0, none⟩)), (4, Value.pointer (some ⟨b_3, 0, none⟩)), (5, Value.int .i64 t9), (6, Value.pointer (some ⟨b_4, 0, none⟩))] (by kernel_rfl) (by kernel_rfl) ?_
      refine And.intro h.1 (fun w7 hw_ => ?_)
      replace h := h.2 w7 hw_
      clear hw_
      unfold F_logfile_Read_B0 at h
      change WpE _ _ c_logfile_Read_14 _ _ _
      refine wpE_block (id := 1) (x := c_logfile_Read_15) (by kernel_rfl) ?_
      refine wpE_seq (x := c_logfile_Read_16) (y := c_logfile_Read_25) (by kernel_rfl) ?_
      refine wpE_seq (x := c_logfile_Read_17) (y := c_logfile_Read_19) (by kernel_rfl) ?_
      refine wpE_region (id := 4) (ops := r_logfile_Read_17) (by kernel_rfl) ?_
      refine reg_run [.plain] 1 [(2, [], Value.pointer (some ⟨b_1, 0, none⟩)), (3, [], Value.pointer (some ⟨b_2, 0, none⟩)), (4, [], Value.pointer (some ⟨b_3, 0, none⟩)), (5, [], Value.int .i64 t9), (6, [], Value.pointer (some ⟨b_4, 0, none⟩)), (11, [], Value.pointer (some ⟨b_4, 0, none⟩))] (by kernel_rfl) (by kernel_rfl) ?_
      obtain ⟨v12, hc, h⟩ := h
      refine reg_load1 (t := 3) (a := (Go.Operand.tmp 11)) (b := b_4) (o := 0) (ty := 3) (dst := some 12) (by kernel_rfl) (by kernel_rfl) (by kernel_rfl) hc ?_
      refine reg_run [] 2 [(2, [], Value.pointer (some ⟨b_1, 0, none⟩)), (3, [], Value.pointer (some ⟨b_2, 0, none⟩)), (4, [], Value.pointer (some ⟨b_3, 0, none⟩)), (5, [], Value.int .i64 t9), (6, [], Value.pointer (some ⟨b_4, 0, none⟩)), (12, [], Value.int .i64 v12)] (by kernel_rfl) (by kernel_rfl) ?_
      obtain ⟨v13, hc, h⟩ := h
      refine reg_load1 (t := 37) (a := (Go.Operand.tmp 2)) (b := b_1) (o := 0) (ty := 37) (dst := some 13) (by kernel_rfl) (by kernel_rfl) (by kernel_rfl) hc ?_
      refine reg_run [.plain, .plain, .plain] 6 [(2, [], Value.pointer (some ⟨b_1, 0, none⟩)), (3, [], Value.pointer (some ⟨b_2, 0, none⟩)), (4, [], Value.pointer (some ⟨b_3, 0, none⟩)), (5, [], Value.int .i64 t9), (6, [], Value.pointer (some ⟨b_4, 0, none⟩)), (16, [], Value.bool (v12 != (IntKind.i64.wrap (((v13.len : Nat) : Int) + 1))))] (by kernel_rfl) (by kernel_rfl) ?_
      refine reg_end [(2, Value.pointer (some ⟨b_1, 0, none⟩)), (3, Value.pointer (some ⟨b_2, 0, none⟩)), (4, Value.pointer (some ⟨b_3, 0, none⟩)), (5, Value.int .i64 t9), (6, Value.pointer (some ⟨b_4, 0, none⟩)), (16, Value.bool (v12 != (IntKind.i64.wrap (((v13.len : Nat) : Int) + 1))))] (by kernel_rfl) (by kernel_rfl) ?_
      change WpE _ _ c_logfile_Read_19 _ _ _
      refine wpE_cond (o := (Operand.tmp 16)) (b := (v12 != (IntKind.i64.wrap (((v13.len : Nat) : Int) + 1)))) (x := c_logfile_Read_20) (y := c_logfile_Read_24) (by kernel_rfl) (by kernel_rfl) (fun hb => ?_) (fun hb => ?_)
      · replace h := h.1 hb
        refine wpE_seq (x := c_logfile_Read_21) (y := c_logfile_Read_23) (by kernel_rfl) ?_
        refine wpE_mixregionY (id := 5) (ops := r_logfile_Read_21) o_logfile_Read_21 (by kernel_rfl) (by kernel_rfl) (by kernel_rfl) (by kernel_rfl) (by kernel_rfl) (fun w10 hw => ?_)
        replace h := h w10 hw
        clear hw
        refine mreg_run [] 0 [(2, [], Value.pointer (some ⟨b_1, 0, none⟩)), (3, [], Value.pointer (some ⟨b_2, 0, none⟩)), (4, [], Value.pointer (some ⟨b_3, 0, none⟩))] (by kernel_rfl) (by kernel_rfl) ?_
        obtain ⟨v17, hc, h⟩ := h
        refine mreg_load1 (i := 0) (by kernel_rfl) (t := 37) (a := (Go.Operand.tmp 2)) (b := b_1) (o := 0) (ty := 37) (dst := some 17) (by kernel_rfl) (by kernel_rfl) (by kernel_rfl) hc ?_
        refine mreg_run [] 1 [(2, [], Value.pointer (some ⟨b_1, 0, none⟩)), (3, [], Value.pointer (some ⟨b_2, 0, none⟩)), (4, [], Value.pointer (some ⟨b_3, 0, none⟩)), (17, [], Value.slice v17.ptr v17.len v17.cap)] (by kernel_rfl) (by kernel_rfl) ?_
        obtain ⟨v18, hc, h⟩ := h
        refine mreg_load1 (i := 1) (by kernel_rfl) (t := 3) (a := (Go.Operand.tmp 3)) (b := b_2) (o := 0) (ty := 3) (dst := some 18) (by kernel_rfl) (by kernel_rfl) (by kernel_rfl) hc ?_
        refine mreg_run [] 2 [(2, [], Value.pointer (some ⟨b_1, 0, none⟩)), (3, [], Value.pointer (some ⟨b_2, 0, none⟩)), (4, [], Value.pointer (some ⟨b_3, 0, none⟩)), (17, [], Value.slice v17.ptr v17.len v17.cap), (18, [], Value.int .i64 v18)] (by kernel_rfl) (by kernel_rfl) ?_
        obtain ⟨hc, h⟩ := h
        refine mreg_store (t := 37) (a := (Go.Operand.tmp 2)) (x := (Go.Operand.tmp 17)) (b := b_1) (o := 0) (k := 1) (ty := 0) (dst := none) 2 [0] [(1, fun w' => w'.cell? ⟨b_2, 0, none⟩ = some (Value.int .i64 v18))] [Value.slice v17.ptr v17.len v17.cap] (by kernel_rfl) (by kernel_rfl) (by kernel_rfl) (by kernel_rfl) (by kernel_rfl) (by kernel_rfl) (by kernel_rfl) (by kernel_rfl) (by kernel_rfl) (by kernel_rfl) hc (fun w11 hw => ?_)
        replace h := h w11 hw
        clear hw
        obtain ⟨hk0, h⟩ := h
        refine ⟨⟨hk0, trivial⟩, ?_⟩
        refine mreg_run [] 3 [(3, [], Value.pointer (some ⟨b_2, 0, none⟩)), (4, [], Value.pointer (some ⟨b_3, 0, none⟩)), (18, [], Value.int .i64 v18)] (by kernel_rfl) (by kernel_rfl) ?_
        obtain ⟨hc, h⟩ := h
        refine mreg_store (t := 3) (a := (Go.Operand.tmp 3)) (x := (Go.Operand.tmp 18)) (b := b_2) (o := 0) (k := 1) (ty := 0) (dst := none) 3 [0, 1, 2] [] [Value.int .i64 v18] (by kernel_rfl) (by kernel_rfl) (by kernel_rfl) (by kernel_rfl) (by kernel_rfl) (by kernel_rfl) (by kernel_rfl) (by kernel_rfl) (by kernel_rfl) (by kernel_rfl) hc (fun w12 hw => ?_)
        replace h := h w12 hw
        clear hw
        refine ⟨trivial, ?_⟩
        refine mreg_run [] 4 [(4, [], Value.pointer (some ⟨b_3, 0, none⟩))] (by kernel_rfl) (by kernel_rfl) ?_
        obtain ⟨hc, h⟩ := h
        refine mreg_store (t := 29) (a := (Go.Operand.tmp 4)) (x := (Go.Operand.const (Go.Value.int Go.IntKind.i64 6))) (b := b_3) (o := 0) (k := 1) (ty := 0) (dst := none) 4 [0, 1, 2, 3] [] [Value.int .i64 6] (by kernel_rfl) (by kernel_rfl) (by kernel_rfl) (by kernel_rfl) (by kernel_rfl) (by kernel_rfl) (by kernel_rfl) (by kernel_rfl) (by kernel_rfl) (by kernel_rfl) hc (fun w13 hw => ?_)
        replace h := h w13 hw
        clear hw
        refine ⟨trivial, ?_⟩
        refine mreg_end [] (by kernel_rfl) (by kernel_rfl) (by kernel_rfl) ?_
        change WpE _ _ c_logfile_Read_23 _ _ _
        refine wpE_ret (by kernel_rfl) ?_
        exact And.intro h.1 ⟨false, rfl, h.2 _ rfl⟩
      · replace h := h.2 hb
        refine wpE_skip (by kernel_rfl) ?_
        change WpE _ _ c_logfile_Read_25 _ _ _
        refine wpE_region (id := 6) (ops := r_logfile_Read_25) (by kernel_rfl) ?_
        refine reg_run [] 0 [(2, [], Value.pointer (some ⟨b_1, 0, none⟩)), (3, [], Value.pointer (some ⟨b_2, 0, none⟩)), (5, [], Value.int .i64 t9), (6, [], Value.pointer (some ⟨b_4, 0, none⟩))] (by kernel_rfl) (by kernel_rfl) ?_
        obtain ⟨v19, hc, h⟩ := h
        refine reg_load1 (t := 37) (a := (Go.Operand.tmp 2)) (b := b_1) (o := 0) (ty := 37) (dst := some 19) (by kernel_rfl) (by kernel_rfl) (by kernel_rfl) hc ?_
        refine reg_run [] 1 [(2, [], Value.pointer (some ⟨b_1, 0, none⟩)), (3, [], Value.pointer (some ⟨b_2, 0, none⟩)), (5, [], Value.int .i64 t9), (6, [], Value.pointer (some ⟨b_4, 0, none⟩)), (19, [], Value.slice v19.ptr v19.len v19.cap)] (by kernel_rfl) (by kernel_rfl) ?_
        obtain ⟨v20, hc, h⟩ := h
        refine reg_loadN (t := 49) (a := (Go.Operand.tmp 6)) (b := b_4) (o := 0) (ty := 49) (dst := some 20) [Value.int .i64 v20.Number, Value.slice v20.Writes.ptr v20.Writes.len v20.Writes.cap] (by kernel_rfl) (by kernel_rfl) (by kernel_rfl) (k := 2) (by kernel_rfl) (by kernel_rfl) hc ?_
        refine reg_run [] 2 [(2, [], Value.pointer (some ⟨b_1, 0, none⟩)), (3, [], Value.pointer (some ⟨b_2, 0, none⟩)), (5, [], Value.int .i64 t9), (19, [], Value.slice v19.ptr v19.len v19.cap), (20, [], Value.agg #[Value.int .i64 v20.Number, Value.slice v20.Writes.ptr v20.Writes.len v20.Writes.cap])] (by kernel_rfl) (by kernel_rfl) ?_
        refine reg_new (op := (Go.Op.buildSlice 37 1 #[(0, (Go.Operand.tmp 20))])) (ty := 37) (dst := some 21) (fun bb => Value.slice (some ⟨bb, 0, none⟩) 1 1) (Obj.cells ([Value.int .i64 v20.Number, Value.slice v20.Writes.ptr v20.Writes.len v20.Writes.cap]).toArray ty_api_Txn (0, 0)) (by kernel_rfl) (by kernel_rfl) (fun b_5 w15 hb hw => ?_)
        replace h := h b_5 w15 hb hw
        clear hb hw
        refine reg_run [] 3 [(2, [], Value.pointer (some ⟨b_1, 0, none⟩)), (3, [], Value.pointer (some ⟨b_2, 0, none⟩)), (5, [], Value.int .i64 t9), (19, [], Value.slice v19.ptr v19.len v19.cap), (21, [], Value.slice (some ⟨b_5, 0, none⟩) 1 1)] (by kernel_rfl) (by kernel_rfl) ?_
        obtain ⟨src, hs, h⟩ := h
        refine reg_append (t := 37) (tx := 37) (e := 49) (a := (Go.Operand.tmp 19)) (xo := (Go.Operand.tmp 21)) (s := v19) (x := (Slc.mk (some ⟨b_5, 0, none⟩) 1 1)) (sz := 2) (by_ := 32) (zs := [Value.int .i64 0, Value.slice none 0 0]) (ty := 37) (dst := some 22)  src (by kernel_rfl) (by kernel_rfl) (by kernel_rfl) (by kernel_rfl) (by kernel_rfl) (by kernel_rfl) (by kernel_rfl) (by kernel_rfl) (by kernel_rfl) hs (AppendW.mono h (fun v22 w16 h => ?_))
        refine reg_run [.plain] 5 [(2, [], Value.pointer (some ⟨b_1, 0, none⟩)), (3, [], Value.pointer (some ⟨b_2, 0, none⟩)), (22, [], Value.slice v22.ptr v22.len v22.cap), (23, [], Value.int .i64 t9)] (by kernel_rfl) (by kernel_rfl) ?_
        obtain ⟨hc, h⟩ := h
        refine reg_store (t := 37) (a := (Go.Operand.tmp 2)) (x := (Go.Operand.tmp 22)) (b := b_1) (o := 0) (ty := 0) (dst := none) [Value.slice v22.ptr v22.len v22.cap] (by kernel_rfl) (by kernel_rfl) (by kernel_rfl) (k := 1) (by kernel_rfl) (by kernel_rfl) (by kernel_rfl) hc (fun w17 hw => ?_)
        replace h := h w17 hw
        clear hw
        refine reg_run [] 6 [(3, [], Value.pointer (some ⟨b_2, 0, none⟩)), (23, [], Value.int .i64 t9)] (by kernel_rfl) (by kernel_rfl) ?_
        obtain ⟨hc, h⟩ := h
        refine reg_store (t := 3) (a := (Go.Operand.tmp 3)) (x := (Go.Operand.tmp 23)) (b := b_2) (o := 0) (ty := 0) (dst := none) [Value.int .i64 t9] (by kernel_rfl) (by kernel_rfl) (by kernel_rfl) (k := 1) (by kernel_rfl) (by kernel_rfl) (by kernel_rfl) hc (fun w18 hw => ?_)
        replace h := h w18 hw
        clear hw
        refine reg_end [] (by kernel_rfl) (by kernel_rfl) ?_
        exact And.intro h.1 ⟨true, rfl, h.2 _ rfl⟩
    replace h := h rec_ D w5 hD_ hw_ hB_
    clear hB_ hw_
    have hA_ : ∀ w21, F_logfile_Read_A2 R b_1 b_2 b_3 D w21 → @WpE (rndD Try.prog Try.f19 (fun v w' => ∃ (r0 : Slc) (r1 : Int) (r2 : Int), v = Value.tuple #[Value.slice r0.ptr r0.len r0.cap, Value.int .i64 r1, Value.int .i64 r2] ∧ R r0 r1 r2 w') D) Try.prog 27 c_logfile_Read_27 (fun _ _ _ => False) [(2, Value.pointer (some ⟨b_1, 0, none⟩)), (3, Value.pointer (some ⟨b_2, 0, none⟩)), (4, Value.pointer (some ⟨b_3, 0, none⟩)), (8, v8)] w21 := by
      clear h
      intro w21 h
      letI : Rnd := rndD Try.prog Try.f19 (fun v w' => ∃ (r0 : Slc) (r1 : Int) (r2 : Int), v = Value.tuple #[Value.slice r0.ptr r0.len r0.cap, Value.int .i64 r1, Value.int .i64 r2] ∧ R r0 r1 r2 w') D
      unfold F_logfile_Read_A2 at h
      change WpE _ _ c_logfile_Read_27 _ _ _
      refine wpE_seq (x := c_logfile_Read_28) (y := c_logfile_Read_30) (by kernel_rfl) ?_
      refine wpE_mixregionY (id := 7) (ops := r_logfile_Read_28) o_logfile_Read_28 (by kernel_rfl) (by kernel_rfl) (by kernel_rfl) (by kernel_rfl) (by kernel_rfl) (fun w24 hw => ?_)
      replace h := h w24 hw
      clear hw
      refine mreg_run [] 0 [(2, [], Value.pointer (some ⟨b_1, 0, none⟩)), (3, [], Value.pointer (some ⟨b_2, 0, none⟩)), (4, [], Value.pointer (some ⟨b_3, 0, none⟩))] (by kernel_rfl) (by kernel_rfl) ?_
      obtain ⟨v24, hc, h⟩ := h
      refine mreg_load1 (i := 0) (by kernel_rfl) (t := 37) (a := (Go.Operand.tmp 2)) (b := b_1) (o := 0) (ty := 37) (dst := some 24) (by kernel_rfl) (by kernel_rfl) (by kernel_rfl) hc ?_
      refine mreg_run [] 1 [(2, [], Value.pointer (some ⟨b_1, 0, none⟩)), (3, [], Value.pointer (some ⟨b_2, 0, none⟩)), (4, [], Value.pointer (some ⟨b_3, 0, none⟩)), (24, [], Value.slice v24.ptr v24.len v24.cap)] (by kernel_rfl) (by kernel_rfl) ?_
      obtain ⟨v25, hc, h⟩ := h
      refine mreg_load1 (i := 1) (by kernel_rfl) (t := 3) (a := (Go.Operand.tmp 3)) (b := b_2) (o := 0) (ty := 3) (dst := some 25) (by kernel_rfl) (by kernel_rfl) (by kernel_rfl) hc ?_
      refine mreg_run [] 2 [(2, [], Value.pointer (some ⟨b_1, 0, none⟩)), (3, [], Value.pointer (some ⟨b_2, 0, none⟩)), (4, [], Value.pointer (some ⟨b_3, 0, none⟩)), (24, [], Value.slice v24.ptr v24.len v24.cap), (25, [], Value.int .i64 v25)] (by kernel_rfl) (by kernel_rfl) ?_
      obtain ⟨v26, hc, h⟩ := h
      refine mreg_load1 (i := 2) (by kernel_rfl) (t := 29) (a := (Go.Operand.tmp 4)) (b := b_3) (o := 0) (ty := 29) (dst := some 26) (by kernel_rfl) (by kernel_rfl) (by kernel_rfl) hc ?_
      refine mreg_run [] 3 [(2, [], Value.pointer (some ⟨b_1, 0, none⟩)), (3, [], Value.pointer (some ⟨b_2, 0, none⟩)), (4, [], Value.pointer (some ⟨b_3, 0, none⟩)), (24, [], Value.slice v24.ptr v24.len v24.cap), (25, [], Value.int .i64 v25), (26, [], Value.int .i64 v26)] (by kernel_rfl) (by kernel_rfl) ?_
      obtain ⟨hc, h⟩ := h
      refine mreg_store (t := 37) (a := (Go.Operand.tmp 2)) (x := (Go.Operand.tmp 24)) (b := b_1) (o := 0) (k := 1) (ty := 0) (dst := none) 3 [0] [(2, fun w' => w'.cell? ⟨b_3, 0, none⟩ = some (Value.int .i64 v26)), (1, fun w' => w'.cell? ⟨b_2, 0, none⟩ = some (Value.int .i64 v25))] [Value.slice v24.ptr v24.len v24.cap] (by kernel_rfl) (by kernel_rfl) (by kernel_rfl) (by kernel_rfl) (by kernel_rfl) (by kernel_rfl) (by kernel_rfl) (by kernel_rfl) (by kernel_rfl) (by kernel_rfl) hc (fun w25 hw => ?_)
      replace h := h w25 hw
      clear hw
      obtain ⟨hk0, hk1, h⟩ := h
      refine ⟨⟨hk0, hk1, trivial⟩, ?_⟩
      refine mreg_run [] 4 [(2, [], Value.pointer (some ⟨b_1, 0, none⟩)), (3, [], Value.pointer (some ⟨b_2, 0, none⟩)), (4, [], Value.pointer (some ⟨b_3, 0, none⟩)), (25, [], Value.int .i64 v25), (26, [], Value.int .i64 v26)] (by kernel_rfl) (by kernel_rfl) ?_
      obtain ⟨hc, h⟩ := h
      refine mreg_store (t := 3) (a := (Go.Operand.tmp 3)) (x := (Go.Operand.tmp 25)) (b := b_2) (o := 0) (k := 1) (ty := 0) (dst := none) 4 [0, 1, 3] [(2, fun w' => w'.cell? ⟨b_3, 0, none⟩ = some (Value.int .i64 v26))] [Value.int .i64 v25] (by kernel_rfl) (by kernel_rfl) (by kernel_rfl) (by kernel_rfl) (by kernel_rfl) (by kernel_rfl) (by kernel_rfl) (by kernel_rfl) (by kernel_rfl) (by kernel_rfl) hc (fun w26 hw => ?_)
      replace h := h w26 hw
      clear hw
      obtain ⟨hk0, h⟩ := h
      refine ⟨⟨hk0, trivial⟩, ?_⟩
      refine mreg_run [] 5 [(2, [], Value.pointer (some ⟨b_1, 0, none⟩)), (3, [], Value.pointer (some ⟨b_2, 0, none⟩)), (4, [], Value.pointer (some ⟨b_3, 0, none⟩)), (26, [], Value.int .i64 v26)] (by kernel_rfl) (by kernel_rfl) ?_
      obtain ⟨hc, h⟩ := h
      refine mreg_store (t := 29) (a := (Go.Operand.tmp 4)) (x := (Go.Operand.tmp 26)) (b := b_3) (o := 0) (k := 1) (ty := 0) (dst := none) 5 [0, 1, 2, 3, 4] [] [Value.int .i64 v26] (by kernel_rfl) (by kernel_rfl) (by kernel_rfl) (by kernel_rfl) (by kernel_rfl) (by kernel_rfl) (by kernel_rfl) (by kernel_rfl) (by kernel_rfl) (by kernel_rfl) hc (fun w27 hw => ?_)
      replace h := h w27 hw
      clear hw
      refine ⟨trivial, ?_⟩
      refine mreg_end [(2, Value.pointer (some ⟨b_1, 0, none⟩)), (3, Value.pointer (some ⟨b_2, 0, none⟩)), (4, Value.pointer (some ⟨b_3, 0, none⟩))] (by kernel_rfl) (by kernel_rfl) (by kernel_rfl) ?_
      change WpE _ _ c_logfile_Read_30 _ _ _
      refine wpE_retD (by kernel_rfl) h.1 ?_
      replace h := h.2 _ rfl
      obtain ⟨res, hc_res, h⟩ := h
      obtain ⟨res1, hc_res1, h⟩ := h
      obtain ⟨res2, hc_res2, h⟩ := h
      repeat (first | refine seqQ_ret ?_ | refine blockQ_ret ?_ | refine loopQ_ret ?_ | refine cutQ_ret ?_)
      exact retT (rs := [(Go.ResultVar.cell 2 37), (Go.ResultVar.cell 3 3), (Go.ResultVar.cell 4 29)]) (vs := [Value.slice res.ptr res.len res.cap, Value.int .i64 res1, Value.int .i64 res2]) (by kernel_rfl) (⟨b_1, 0, [Value.slice res.ptr res.len res.cap], by kernel_rfl, hc_res, (sizeP_of (k := 1) (by kernel_rfl) (by kernel_rfl)), .inr ⟨by kernel_rfl, rfl⟩, ⟨b_2, 0, [Value.int .i64 res1], by kernel_rfl, hc_res1, (sizeP_of (k := 1) (by kernel_rfl) (by kernel_rfl)), .inr ⟨by kernel_rfl, rfl⟩, ⟨b_3, 0, [Value.int .i64 res2], by kernel_rfl, hc_res2, (sizeP_of (k := 1) (by kernel_rfl) (by kernel_rfl)), .inr ⟨by kernel_rfl, rfl⟩, trivial⟩⟩⟩) (by kernel_rfl) ⟨res, res1, res2, rfl, h⟩
    refine CallsV.mono h ?_
    rintro e_ w22 ⟨hv_, st_, pe_, hl_, hst_, h⟩
    refine ⟨hv_, st_, pe_, hl_, hst_, ?_⟩
    replace h := h _ rfl
    rcases h with h | ⟨rfl, h⟩
    · obtain ⟨hpe_, h⟩ := h
      subst hpe_
      exact hA_ _ h
    · refine And.intro h.1 ?_
      replace h := h.2 _ rfl
      obtain ⟨res3, hc_res3, h⟩ := h
      obtain ⟨res4, hc_res4, h⟩ := h
      obtain ⟨res5, hc_res5, h⟩ := h
      repeat (first | refine seqQ_ret ?_ | refine blockQ_ret ?_ | refine loopQ_ret ?_ | refine cutQ_ret ?_)
      exact retT (rs := [(Go.ResultVar.cell 2 37), (Go.ResultVar.cell 3 3), (Go.ResultVar.cell 4 29)]) (vs := [Value.slice res3.ptr res3.len res3.cap, Value.int .i64 res4, Value.int .i64 res5]) (by kernel_rfl) (⟨b_1, 0, [Value.slice res3.ptr res3.len res3.cap], by kernel_rfl, hc_res3, (sizeP_of (k := 1) (by kernel_rfl) (by kernel_rfl)), .inr ⟨by kernel_rfl, rfl⟩, ⟨b_2, 0, [Value.int .i64 res4], by kernel_rfl, hc_res4, (sizeP_of (k := 1) (by kernel_rfl) (by kernel_rfl)), .inr ⟨by kernel_rfl, rfl⟩, ⟨b_3, 0, [Value.int .i64 res5], by kernel_rfl, hc_res5, (sizeP_of (k := 1) (by kernel_rfl) (by kernel_rfl)), .inr ⟨by kernel_rfl, rfl⟩, trivial⟩⟩⟩) (by kernel_rfl) ⟨res3, res4, res5, rfl, h⟩
  · rintro e w' ⟨v, rfl, r0, r1, r2, rfl, h⟩; exact ⟨r0, r1, r2, rfl, h⟩

/-! ### towpath/logfile.turns (function 55) -/
noncomputable def c_logfile_turns_0 : Code := (Try.f55.body).getD Code.skip
noncomputable def c_logfile_turns_1 : Code := Code.l c_logfile_turns_0
noncomputable def r_logfile_turns_1 : Array Oper := Code.ops c_logfile_turns_1
noncomputable def c_logfile_turns_3 : Code := Code.r c_logfile_turns_0
noncomputable def c_logfile_turns_4 : Code := Code.l c_logfile_turns_3
noncomputable def r_logfile_turns_4 : Array Oper := Code.ops c_logfile_turns_4
noncomputable def c_logfile_turns_6 : Code := Code.r c_logfile_turns_3
noncomputable def c_logfile_turns_7 : Code := Code.l c_logfile_turns_6
noncomputable def r_logfile_turns_7 : Array Oper := Code.ops c_logfile_turns_7
noncomputable def c_logfile_turns_9 : Code := Code.r c_logfile_turns_6

set_option maxRecDepth 100000 in
set_option maxHeartbeats 4000000 in
theorem S_logfile_turns {w : World} {R : Value → World → Prop} (h : F_logfile_turns R w) : C_logfile_turns w R := by
  unfold F_logfile_turns at h
  unfold C_logfile_turns
  refine Calls.mono (calls_of_wpE (args := []) (R := fun v w' => ∃ (r0 : Value), v = r0 ∧ R r0 w') Try.func55 (c := c_logfile_turns_0) (by kernel_rfl) 3 (by kernel_rfl) (by kernel_rfl) [] (by kernel_rfl) ?_) ?_
  · refine wpE_seq (x := c_logfile_turns_1) (y := c_logfile_turns_3) (by kernel_rfl) ?_
    refine wpE_region (id := 0) (ops := r_logfile_turns_1) (by kernel_rfl) ?_
    refine reg_run [.plain] 1 [] (by kernel_rfl) (by kernel_rfl) ?_
    refine reg_end [] (by kernel_rfl) (by kernel_rfl) ?_
    change WpE _ _ c_logfile_turns_3 _ _ _
    refine wpE_seq (x := c_logfile_turns_4) (y := c_logfile_turns_6) (by kernel_rfl) ?_
    refine wpE_region (id := 1) (ops := r_logfile_turns_4) (by kernel_rfl) ?_
    refine reg_run [] 0 [] (by kernel_rfl) (by kernel_rfl) ?_
    refine reg_new (op := (Go.Op.alloc 3)) (ty := 0) (dst := some 1) (fun bb => Value.pointer (some ⟨bb, 0, none⟩)) (Obj.cells ([Value.int .i64 0]).toArray ty_int (0, 0)) (by kernel_rfl) (by kernel_rfl) (fun b_ w1 hb hw => ?_)
    replace h := h b_ w1 hb hw
    clear hb hw
    refine reg_run [] 1 [(1, [], Value.pointer (some ⟨b_, 0, none⟩))] (by kernel_rfl) (by kernel_rfl) ?_
    obtain ⟨hc, h⟩ := h
    refine reg_store (t := 3) (a := (Go.Operand.tmp 1)) (x := (Go.Operand.const (Go.Value.int Go.IntKind.i64 1))) (b := b_) (o := 0) (ty := 0) (dst := none) [Value.int .i64 1] (by kernel_rfl) (by kernel_rfl) (by kernel_rfl) (k := 1) (by kernel_rfl) (by kernel_rfl) (by kernel_rfl) hc (fun w2 hw => ?_)
    replace h := h w2 hw
    clear hw
    refine reg_end [(1, Value.pointer (some ⟨b_, 0, none⟩))] (by kernel_rfl) (by kernel_rfl) ?_
    change WpE _ _ c_logfile_turns_6 _ _ _
    refine wpE_seq (x := c_logfile_turns_7) (y := c_logfile_turns_9) (by kernel_rfl) ?_
    refine wpE_region (id := 2) (ops := r_logfile_turns_7) (by kernel_rfl) ?_
    refine reg_run [.plain, .plain] 2 [(0, [], Value.func (.func 82) #[] #[Value.pointer (some ⟨b_, 0, none⟩)])] (by kernel_rfl) (by kernel_rfl) ?_
    refine reg_end [(0, Value.func (.func 82) #[] #[Value.pointer (some ⟨b_, 0, none⟩)])] (by kernel_rfl) (by kernel_rfl) ?_
    change WpE _ _ c_logfile_turns_9 _ _ _
    refine wpE_ret (by kernel_rfl) ?_
    repeat (first | refine seqQ_ret ?_ | refine blockQ_ret ?_ | refine loopQ_ret ?_ | refine cutQ_ret ?_)
    exact retS (rs := [(Go.ResultVar.tmp 0)]) (v := Value.func (.func 82) #[] #[Value.pointer (some ⟨b_, 0, none⟩)]) (by kernel_rfl) (⟨by kernel_rfl, trivial⟩) ⟨(Value.func (.func 82) #[] #[Value.pointer (some ⟨b_, 0, none⟩)]), rfl, h⟩
  · rintro e w' ⟨v, rfl, r0, rfl, h⟩; exact ⟨_, rfl, h⟩

/-! ### towpath/logfile.records (function 56) -/
noncomputable def c_logfile_records_0 : Code := (Try.f56.body).getD Code.skip
noncomputable def c_logfile_records_1 : Code := Code.l c_logfile_records_0
noncomputable def r_logfile_records_1 : Array Oper := Code.ops c_logfile_records_1
noncomputable def c_logfile_records_3 : Code := Code.r c_logfile_records_0
noncomputable def c_logfile_records_4 : Code := Code.l c_logfile_records_3
noncomputable def r_logfile_records_4 : Array Oper := Code.ops c_logfile_records_4
noncomputable def c_logfile_records_6 : Code := Code.r c_logfile_records_3

set_option maxRecDepth 100000 in
set_option maxHeartbeats 4000000 in
theorem S_logfile_records {b_ : Slc} {e : Option Addr} {w : World} {R : Value → World → Prop} (h : F_logfile_records b_ e R w) : C_logfile_records b_ e w R := by
  unfold F_logfile_records at h
  unfold C_logfile_records
  refine Calls.mono (calls_of_wpE (args := [Value.slice b_.ptr b_.len b_.cap, Value.pointer e]) (R := fun v w' => ∃ (r0 : Value), v = r0 ∧ R r0 w') Try.func56 (c := c_logfile_records_0) (by kernel_rfl) 6 (by kernel_rfl) (by kernel_rfl) [(0, Value.slice b_.ptr b_.len b_.cap), (1, Value.pointer e)] (by kernel_rfl) ?_) ?_
  · refine wpE_seq (x := c_logfile_records_1) (y := c_logfile_records_3) (by kernel_rfl) ?_
    refine wpE_region (id := 0) (ops := r_logfile_records_1) (by kernel_rfl) ?_
    refine reg_run [] 0 [(0, [], Value.slice b_.ptr b_.len b_.cap), (1, [], Value.pointer e)] (by kernel_rfl) (by kernel_rfl) ?_
    refine reg_new (op := (Go.Op.box 22 (Go.Operand.tmp 0))) (ty := 0) (dst := some 2) (fun bb => Value.pointer (some ⟨bb, 0, none⟩)) (Obj.cells ([Value.slice b_.ptr b_.len b_.cap]).toArray ty_sl_uint8 (0, 0)) (by kernel_rfl) (by kernel_rfl) (fun b_1 w1 hb hw => ?_)
    replace h := h b_1 w1 hb hw
    clear hb hw
    refine reg_run [] 1 [(1, [], Value.pointer e), (2, [], Value.pointer (some ⟨b_1, 0, none⟩))] (by kernel_rfl) (by kernel_rfl) ?_
    refine reg_new (op := (Go.Op.box 110 (Go.Operand.tmp 1))) (ty := 0) (dst := some 3) (fun bb => Value.pointer (some ⟨bb, 0, none⟩)) (Obj.cells ([Value.pointer e]).toArray ty_ptr_api_Errno (0, 0)) (by kernel_rfl) (by kernel_rfl) (fun b_2 w2 hb hw => ?_)
    replace h := h b_2 w2 hb hw
    clear hb hw
    refine reg_run [.plain] 3 [(2, [], Value.pointer (some ⟨b_1, 0, none⟩)), (3, [], Value.pointer (some ⟨b_2, 0, none⟩))] (by kernel_rfl) (by kernel_rfl) ?_
    refine reg_end [(2, Value.pointer (some ⟨b_1, 0, none⟩)), (3, Value.pointer (some ⟨b_2, 0, none⟩))] (by kernel_rfl) (by kernel_rfl) ?_
    change WpE _ _ c_logfile_records_3 _ _ _
    refine wpE_seq (x := c_logfile_records_4) (y := c_logfile_records_6) (by kernel_rfl) ?_
    refine wpE_region (id := 1) (ops := r_logfile_records_4) (by kernel_rfl) ?_
    refine reg_run [.plain, .plain] 2 [(4, [], Value.func (.func 83) #[] #[Value.pointer (some ⟨b_1, 0, none⟩), Value.pointer (some ⟨b_2, 0, none⟩)])] (by kernel_rfl) (by kernel_rfl) ?_
    refine reg_end [(4, Value.func (.func 83) #[] #[Value.pointer (some ⟨b_1, 0, none⟩), Value.pointer (some ⟨b_2, 0, none⟩)])] (by kernel_rfl) (by kernel_rfl) ?_
    change WpE _ _ c_logfile_records_6 _ _ _
    refine wpE_ret (by kernel_rfl) ?_
    repeat (first | refine seqQ_ret ?_ | refine blockQ_ret ?_ | refine loopQ_ret ?_ | refine cutQ_ret ?_)
    exact retS (rs := [(Go.ResultVar.tmp 4)]) (v := Value.func (.func 83) #[] #[Value.pointer (some ⟨b_1, 0, none⟩), Value.pointer (some ⟨b_2, 0, none⟩)]) (by kernel_rfl) (⟨by kernel_rfl, trivial⟩) ⟨(Value.func (.func 83) #[] #[Value.pointer (some ⟨b_1, 0, none⟩), Value.pointer (some ⟨b_2, 0, none⟩)]), rfl, h⟩
  · rintro e w' ⟨v, rfl, r0, rfl, h⟩; exact ⟨_, rfl, h⟩

/-! ### towpath/logfile.turns$1 (function 82) -/
noncomputable def c_logfile_turns_1_0 : Code := (Try.f82.body).getD Code.skip
noncomputable def c_logfile_turns_1_1 : Code := Code.l c_logfile_turns_1_0
noncomputable def r_logfile_turns_1_1 : Array Oper := Code.ops c_logfile_turns_1_1
noncomputable def c_logfile_turns_1_3 : Code := Code.r c_logfile_turns_1_0
noncomputable def c_logfile_turns_1_4 : Code := Code.l c_logfile_turns_1_3
noncomputable def c_logfile_turns_1_5 : Code := Code.l c_logfile_turns_1_4
noncomputable def r_logfile_turns_1_5 : Array Oper := Code.ops c_logfile_turns_1_5
noncomputable def c_logfile_turns_1_7 : Code := Code.r c_logfile_turns_1_4
noncomputable def c_logfile_turns_1_8 : Code := Code.l c_logfile_turns_1_7
noncomputable def r_logfile_turns_1_8 : Array Oper := Code.ops c_logfile_turns_1_8
noncomputable def c_logfile_turns_1_10 : Code := Code.r c_logfile_turns_1_7
noncomputable def c_logfile_turns_1_11 : Code := Code.l c_logfile_turns_1_10
noncomputable def c_logfile_turns_1_12 : Code := Code.l c_logfile_turns_1_11
noncomputable def r_logfile_turns_1_12 : Array Oper := Code.ops c_logfile_turns_1_12
noncomputable def c_logfile_turns_1_14 : Code := Code.r c_logfile_turns_1_11
noncomputable def c_logfile_turns_1_15 : Code := Code.r c_logfile_turns_1_10
noncomputable def c_logfile_turns_1_16 : Code := Code.r c_logfile_turns_1_3
noncomputable def c_logfile_turns_1_17 : Code := Code.l c_logfile_turns_1_16
noncomputable def c_logfile_turns_1_18 : Code := Code.l c_logfile_turns_1_17
noncomputable def r_logfile_turns_1_18 : Array Oper := Code.ops c_logfile_turns_1_18
noncomputable def c_logfile_turns_1_20 : Code := Code.r c_logfile_turns_1_17
noncomputable def c_logfile_turns_1_21 : Code := Code.l c_logfile_turns_1_20
noncomputable def c_logfile_turns_1_22 : Code := Code.l c_logfile_turns_1_21
noncomputable def r_logfile_turns_1_22 : Array Oper := Code.ops c_logfile_turns_1_22
noncomputable def c_logfile_turns_1_24 : Code := Code.r c_logfile_turns_1_21
noncomputable def c_logfile_turns_1_25 : Code := Code.r c_logfile_turns_1_20
noncomputable def c_logfile_turns_1_26 : Code := Code.r c_logfile_turns_1_16
noncomputable def c_logfile_turns_1_27 : Code := Code.l c_logfile_turns_1_26
noncomputable def r_logfile_turns_1_27 : Array Oper := Code.ops c_logfile_turns_1_27
noncomputable def c_logfile_turns_1_29 : Code := Code.r c_logfile_turns_1_26
noncomputable def c_logfile_turns_1_30 : Code := Code.l c_logfile_turns_1_29
noncomputable def r_logfile_turns_1_30 : Array Oper := Code.ops c_logfile_turns_1_30
noncomputable def c_logfile_turns_1_32 : Code := Code.r c_logfile_turns_1_29

set_option maxRecDepth 100000 in
set_option maxHeartbeats 4000000 in
theorem S_logfile_turns_1 {t_ : T_api_Txn} {t1 : Option Addr} {w : World} {R : Int → World → Prop} (h : F_logfile_turns_1 t_ t1 R w) : C_logfile_turns_1 t_ t1 w R := by
  unfold F_logfile_turns_1 at h
  unfold C_logfile_turns_1
  refine Calls.mono (calls_of_wpE (args := [Value.agg #[Value.int .i64 t_.Number, Value.slice t_.Writes.ptr t_.Writes.len t_.Writes.cap], Value.pointer t1]) (R := fun v w' => ∃ (r0 : Int), v = Value.int .i64 r0 ∧ R r0 w') Try.func82 (c := c_logfile_turns_1_0) (by kernel_rfl) 16 (by kernel_rfl) (by kernel_rfl) [(0, Value.agg #[Value.int .i64 t_.Number, Value.slice t_.Writes.ptr t_.Writes.len t_.Writes.cap]), (1, Value.pointer t1)] (by kernel_rfl) ?_) ?_
  · refine wpE_seq (x := c_logfile_turns_1_1) (y := c_logfile_turns_1_3) (by kernel_rfl) ?_
    refine wpE_region (id := 0) (ops := r_logfile_turns_1_1) (by kernel_rfl) ?_
    refine reg_run [] 0 [(0, [], Value.agg #[Value.int .i64 t_.Number, Value.slice t_.Writes.ptr t_.Writes.len t_.Writes.cap]), (1, [], Value.pointer t1)] (by kernel_rfl) (by kernel_rfl) ?_
    refine reg_new (op := (Go.Op.box 49 (Go.Operand.tmp 0))) (ty := 0) (dst := some 2) (fun bb => Value.pointer (some ⟨bb, 0, none⟩)) (Obj.cells ([Value.int .i64 t_.Number, Value.slice t_.Writes.ptr t_.Writes.len t_.Writes.cap]).toArray ty_api_Txn (0, 0)) (by kernel_rfl) (by kernel_rfl) (fun b_ w1 hb hw => ?_)
    replace h := h b_ w1 hb hw
    clear hb hw
    refine reg_run [.plain] 2 [(1, [], Value.pointer t1), (2, [], Value.pointer (some ⟨b_, 0, none⟩))] (by kernel_rfl) (by kernel_rfl) ?_
    refine reg_end [(1, Value.pointer t1), (2, Value.pointer (some ⟨b_, 0, none⟩))] (by kernel_rfl) (by kernel_rfl) ?_
    change WpE _ _ c_logfile_turns_1_3 _ _ _
    refine wpE_seq (x := c_logfile_turns_1_4) (y := c_logfile_turns_1_16) (by kernel_rfl) ?_
    refine wpE_seq (x := c_logfile_turns_1_5) (y := c_logfile_turns_1_7) (by kernel_rfl) ?_
    refine wpE_region (id := 1) (ops := r_logfile_turns_1_5) (by kernel_rfl) ?_
    refine reg_run [] 0 [(1, [], Value.pointer t1), (2, [], Value.pointer (some ⟨b_, 0, none⟩))] (by kernel_rfl) (by kernel_rfl) ?_
    obtain ⟨v5, hc, h⟩ := h
    refine reg_loadN (t := 49) (a := (Go.Operand.tmp 2)) (b := b_) (o := 0) (ty := 49) (dst := some 5) [Value.int .i64 v5.Number, Value.slice v5.Writes.ptr v5.Writes.len v5.Writes.cap] (by kernel_rfl) (by kernel_rfl) (by kernel_rfl) (k := 2) (by kernel_rfl) (by kernel_rfl) hc ?_
    refine reg_run [] 1 [(1, [], Value.pointer t1), (2, [], Value.pointer (some ⟨b_, 0, none⟩)), (5, [], Value.agg #[Value.int .i64 v5.Number, Value.slice v5.Writes.ptr v5.Writes.len v5.Writes.cap])] (by kernel_rfl) (by kernel_rfl) ?_
    refine reg_enter (op := (Go.Op.call (Go.Call.mk (Go.Callee.value (Go.Operand.func 22)) #[(Go.Operand.tmp 5)] #[49]))) (ty := 29) (dst := some 6) 22 #[Value.agg #[Value.int .i64 v5.Number, Value.slice v5.Writes.ptr v5.Writes.len v5.Writes.cap]] (by kernel_rfl) (fun ww => by kernel_rfl) (Calls.mono h ?_)
    rintro _ w2 ⟨v6, rfl, h⟩
    refine ⟨_, rfl, ?_⟩
    refine reg_run [.plain] 3 [(1, [], Value.pointer t1), (2, [], Value.pointer (some ⟨b_, 0, none⟩)), (4, [], Value.int .i64 v6)] (by kernel_rfl) (by kernel_rfl) ?_
    refine reg_end [(1, Value.pointer t1), (2, Value.pointer (some ⟨b_, 0, none⟩)), (4, Value.int .i64 v6)] (by kernel_rfl) (by kernel_rfl) ?_
    change WpE _ _ c_logfile_turns_1_7 _ _ _
    refine wpE_seq (x := c_logfile_turns_1_8) (y := c_logfile_turns_1_10) (by kernel_rfl) ?_
    refine wpE_region (id := 2) (ops := r_logfile_turns_1_8) (by kernel_rfl) ?_
    refine reg_run [.plain, .plain] 2 [(1, [], Value.pointer t1), (2, [], Value.pointer (some ⟨b_, 0, none⟩)), (4, [], Value.int .i64 v6), (8, [], Value.bool (v6 != 0))] (by kernel_rfl) (by kernel_rfl) ?_
    refine reg_end [(1, Value.pointer t1), (2, Value.pointer (some ⟨b_, 0, none⟩)), (4, Value.int .i64 v6), (8, Value.bool (v6 != 0))] (by kernel_rfl) (by kernel_rfl) ?_
    change WpE _ _ c_logfile_turns_1_10 _ _ _
    refine wpE_cond (o := (Operand.tmp 8)) (b := (v6 != 0)) (x := c_logfile_turns_1_11) (y := c_logfile_turns_1_15) (by kernel_rfl) (by kernel_rfl) (fun hb => ?_) (fun hb => ?_)
    · replace h := h.1 hb
      refine wpE_seq (x := c_logfile_turns_1_12) (y := c_logfile_turns_1_14) (by kernel_rfl) ?_
      refine wpE_region (id := 3) (ops := r_logfile_turns_1_12) (by kernel_rfl) ?_
      refine reg_run [.plain, .plain] 2 [(3, [], Value.int .i64 v6)] (by kernel_rfl) (by kernel_rfl) ?_
      refine reg_end [(3, Value.int .i64 v6)] (by kernel_rfl) (by kernel_rfl) ?_
      change WpE _ _ c_logfile_turns_1_14 _ _ _
      refine wpE_ret (by kernel_rfl) ?_
      repeat (first | refine seqQ_ret ?_ | refine blockQ_ret ?_ | refine loopQ_ret ?_ | refine cutQ_ret ?_)
      exact retS (rs := [(Go.ResultVar.tmp 3)]) (v := Value.int .i64 v6) (by kernel_rfl) (⟨by kernel_rfl, trivial⟩) ⟨v6, rfl, h⟩
    · replace h := h.2 hb
      refine wpE_skip (by kernel_rfl) ?_
      change WpE _ _ c_logfile_turns_1_16 _ _ _
      refine wpE_seq (x := c_logfile_turns_1_17) (y := c_logfile_turns_1_26) (by kernel_rfl) ?_
      refine wpE_seq (x := c_logfile_turns_1_18) (y := c_logfile_turns_1_20) (by kernel_rfl) ?_
      refine wpE_region (id := 4) (ops := r_logfile_turns_1_18) (by kernel_rfl) ?_
      refine reg_run [.plain] 1 [(1, [], Value.pointer t1), (10, [], Value.pointer (some ⟨b_, 0, none⟩))] (by kernel_rfl) (by kernel_rfl) ?_
      obtain ⟨v11, hc, h⟩ := h
      refine reg_load1 (t := 3) (a := (Go.Operand.tmp 10)) (b := b_) (o := 0) (ty := 3) (dst := some 11) (by kernel_rfl) (by kernel_rfl) (by kernel_rfl) hc ?_
      refine reg_run [] 2 [(1, [], Value.pointer t1), (11, [], Value.int .i64 v11)] (by kernel_rfl) (by kernel_rfl) ?_
      obtain ⟨hp_3, h⟩ := h
      refine reg_conv [(1, [], Value.pointer (some ⟨(pblk t1), (poff t1), none⟩)), (11, [], Value.int .i64 v11)] (congrArg (fun pp => ([(1, [], Value.pointer pp), (11, [], Value.int .i64 v11)] : GEnv)) hp_3) ?_
      obtain ⟨v12, hc, h⟩ := h
      refine reg_load1 (t := 3) (a := (Go.Operand.tmp 1)) (b := (pblk t1)) (o := (poff t1)) (ty := 3) (dst := some 12) (by kernel_rfl) (by kernel_rfl) (by kernel_rfl) hc ?_
      refine reg_run [.plain] 4 [(1, [], Value.pointer (some ⟨(pblk t1), (poff t1), none⟩)), (13, [], Value.bool (v11 != v12))] (by kernel_rfl) (by kernel_rfl) ?_
      refine reg_conv [(1, [], Value.pointer t1), (13, [], Value.bool (v11 != v12))] (congrArg (fun pp => ([(1, [], Value.pointer pp), (13, [], Value.bool (v11 != v12))] : GEnv)) hp_3.symm) ?_
      refine reg_end [(1, Value.pointer t1), (13, Value.bool (v11 != v12))] (by kernel_rfl) (by kernel_rfl) ?_
      change WpE _ _ c_logfile_turns_1_20 _ _ _
      refine wpE_cond (o := (Operand.tmp 13)) (b := (v11 != v12)) (x := c_logfile_turns_1_21) (y := c_logfile_turns_1_25) (by kernel_rfl) (by kernel_rfl) (fun hb => ?_) (fun hb => ?_)
      · replace h := h.1 hb
        refine wpE_seq (x := c_logfile_turns_1_22) (y := c_logfile_turns_1_24) (by kernel_rfl) ?_
        refine wpE_region (id := 5) (ops := r_logfile_turns_1_22) (by kernel_rfl) ?_
        refine reg_run [.plain] 1 [(3, [], Value.int .i64 6)] (by kernel_rfl) (by kernel_rfl) ?_
        refine reg_end [(3, Value.int .i64 6)] (by kernel_rfl) (by kernel_rfl) ?_
        change WpE _ _ c_logfile_turns_1_24 _ _ _
        refine wpE_ret (by kernel_rfl) ?_
        repeat (first | refine seqQ_ret ?_ | refine blockQ_ret ?_ | refine loopQ_ret ?_ | refine cutQ_ret ?_)
        exact retS (rs := [(Go.ResultVar.tmp 3)]) (v := Value.int .i64 6) (by kernel_rfl) (⟨by kernel_rfl, trivial⟩) ⟨6, rfl, h⟩
      · replace h := h.2 hb
        refine wpE_skip (by kernel_rfl) ?_
        change WpE _ _ c_logfile_turns_1_26 _ _ _
        refine wpE_seq (x := c_logfile_turns_1_27) (y := c_logfile_turns_1_29) (by kernel_rfl) ?_
        refine wpE_region (id := 6) (ops := r_logfile_turns_1_27) (by kernel_rfl) ?_
        refine reg_run [] 0 [(1, [], Value.pointer t1)] (by kernel_rfl) (by kernel_rfl) ?_
        obtain ⟨hp_5, h⟩ := h
        refine reg_conv [(1, [], Value.pointer (some ⟨(pblk t1), (poff t1), none⟩))] (congrArg (fun pp => ([(1, [], Value.pointer pp)] : GEnv)) hp_5) ?_
        obtain ⟨v14, hc, h⟩ := h
        refine reg_load1 (t := 3) (a := (Go.Operand.tmp 1)) (b := (pblk t1)) (o := (poff t1)) (ty := 3) (dst := some 14) (by kernel_rfl) (by kernel_rfl) (by kernel_rfl) hc ?_
        refine reg_run [.plain] 2 [(1, [], Value.pointer (some ⟨(pblk t1), (poff t1), none⟩)), (15, [], Value.int .i64 (IntKind.i64.wrap (v14 + 1)))] (by kernel_rfl) (by kernel_rfl) ?_
        obtain ⟨hc, h⟩ := h
        refine reg_store (t := 3) (a := (Go.Operand.tmp 1)) (x := (Go.Operand.tmp 15)) (b := (pblk t1)) (o := (poff t1)) (ty := 0) (dst := none) [Value.int .i64 (IntKind.i64.wrap (v14 + 1))] (by kernel_rfl) (by kernel_rfl) (by kernel_rfl) (k := 1) (by kernel_rfl) (by kernel_rfl) (by kernel_rfl) hc (fun w3 hw => ?_)
        replace h := h w3 hw
        clear hw
        refine reg_end [] (by kernel_rfl) (by kernel_rfl) ?_
        change WpE _ _ c_logfile_turns_1_29 _ _ _
        refine wpE_seq (x := c_logfile_turns_1_30) (y := c_logfile_turns_1_32) (by kernel_rfl) ?_
        refine wpE_region (id := 7) (ops := r_logfile_turns_1_30) (by kernel_rfl) ?_
        refine reg_run [.plain] 1 [(3, [], Value.int .i64 0)] (by kernel_rfl) (by kernel_rfl) ?_
        refine reg_end [(3, Value.int .i64 0)] (by kernel_rfl) (by kernel_rfl) ?_
        change WpE _ _ c_logfile_turns_1_32 _ _ _
        refine wpE_ret (by kernel_rfl) ?_
        repeat (first | refine seqQ_ret ?_ | refine blockQ_ret ?_ | refine loopQ_ret ?_ | refine cutQ_ret ?_)
        exact retS (rs := [(Go.ResultVar.tmp 3)]) (v := Value.int .i64 0) (by kernel_rfl) (⟨by kernel_rfl, trivial⟩) ⟨0, rfl, h⟩
  · rintro e w' ⟨v, rfl, r0, rfl, h⟩; exact ⟨r0, rfl, h⟩

/-! ### towpath/logfile.records$1 (function 83) -/
noncomputable def c_logfile_records_1_0 : Code := (Try.f83.body).getD Code.skip
noncomputable def c_logfile_records_1_1 : Code := Code.l c_logfile_records_1_0
noncomputable def r_logfile_records_1_1 : Array Oper := Code.ops c_logfile_records_1_1
noncomputable def c_logfile_records_1_3 : Code := Code.r c_logfile_records_1_0
noncomputable def c_logfile_records_1_4 : Code := Code.l c_logfile_records_1_3
noncomputable def r_logfile_records_1_4 : Array Oper := Code.ops c_logfile_records_1_4
noncomputable def c_logfile_records_1_6 : Code := Code.r c_logfile_records_1_3
noncomputable def c_logfile_records_1_7 : Code := Code.l c_logfile_records_1_6
noncomputable def c_logfile_records_1_8 : Code := Code.l c_logfile_records_1_7
noncomputable def c_logfile_records_1_9 : Code := Code.l c_logfile_records_1_8
noncomputable def c_logfile_records_1_10 : Code := Code.l c_logfile_records_1_9
noncomputable def r_logfile_records_1_10 : Array Oper := Code.ops c_logfile_records_1_10
noncomputable def c_logfile_records_1_12 : Code := Code.r c_logfile_records_1_9
noncomputable def c_logfile_records_1_13 : Code := Code.l c_logfile_records_1_12
noncomputable def c_logfile_records_1_14 : Code := Code.r c_logfile_records_1_12
noncomputable def c_logfile_records_1_15 : Code := Code.r c_logfile_records_1_8
noncomputable def c_logfile_records_1_16 : Code := Code.l c_logfile_records_1_15
noncomputable def c_logfile_records_1_17 : Code := Code.l c_logfile_records_1_16
noncomputable def c_logfile_records_1_18 : Code := Code.l c_logfile_records_1_17
noncomputable def r_logfile_records_1_18 : Array Oper := Code.ops c_logfile_records_1_18
noncomputable def c_logfile_records_1_20 : Code := Code.r c_logfile_records_1_17
noncomputable def c_logfile_records_1_21 : Code := Code.l c_logfile_records_1_20
noncomputable def r_logfile_records_1_21 : Array Oper := Code.ops c_logfile_records_1_21
noncomputable def c_logfile_records_1_23 : Code := Code.r c_logfile_records_1_20
noncomputable def c_logfile_records_1_24 : Code := Code.l c_logfile_records_1_23
noncomputable def r_logfile_records_1_24 : Array Oper := Code.ops c_logfile_records_1_24
noncomputable def c_logfile_records_1_26 : Code := Code.r c_logfile_records_1_23
noncomputable def c_logfile_records_1_27 : Code := Code.l c_logfile_records_1_26
noncomputable def c_logfile_records_1_28 : Code := Code.l c_logfile_records_1_27
noncomputable def r_logfile_records_1_28 : Array Oper := Code.ops c_logfile_records_1_28
noncomputable def c_logfile_records_1_30 : Code := Code.r c_logfile_records_1_27
noncomputable def c_logfile_records_1_31 : Code := Code.l c_logfile_records_1_30
noncomputable def c_logfile_records_1_32 : Code := Code.l c_logfile_records_1_31
noncomputable def r_logfile_records_1_32 : Array Oper := Code.ops c_logfile_records_1_32
noncomputable def c_logfile_records_1_34 : Code := Code.r c_logfile_records_1_31
noncomputable def c_logfile_records_1_35 : Code := Code.r c_logfile_records_1_30
noncomputable def c_logfile_records_1_36 : Code := Code.r c_logfile_records_1_26
noncomputable def c_logfile_records_1_37 : Code := Code.l c_logfile_records_1_36
noncomputable def c_logfile_records_1_38 : Code := Code.l c_logfile_records_1_37
noncomputable def r_logfile_records_1_38 : Array Oper := Code.ops c_logfile_records_1_38
noncomputable def c_logfile_records_1_40 : Code := Code.r c_logfile_records_1_37
noncomputable def c_logfile_records_1_41 : Code := Code.l c_logfile_records_1_40
noncomputable def c_logfile_records_1_42 : Code := Code.l c_logfile_records_1_41
noncomputable def r_logfile_records_1_42 : Array Oper := Code.ops c_logfile_records_1_42
noncomputable def c_logfile_records_1_44 : Code := Code.r c_logfile_records_1_41
noncomputable def c_logfile_records_1_45 : Code := Code.r c_logfile_records_1_40
noncomputable def c_logfile_records_1_46 : Code := Code.r c_logfile_records_1_36
noncomputable def c_logfile_records_1_47 : Code := Code.l c_logfile_records_1_46
noncomputable def r_logfile_records_1_47 : Array Oper := Code.ops c_logfile_records_1_47
noncomputable def c_logfile_records_1_49 : Code := Code.r c_logfile_records_1_46
noncomputable def c_logfile_records_1_50 : Code := Code.l c_logfile_records_1_49
noncomputable def c_logfile_records_1_51 : Code := Code.l c_logfile_records_1_50
noncomputable def r_logfile_records_1_51 : Array Oper := Code.ops c_logfile_records_1_51
noncomputable def c_logfile_records_1_53 : Code := Code.r c_logfile_records_1_50
noncomputable def c_logfile_records_1_54 : Code := Code.l c_logfile_records_1_53
noncomputable def c_logfile_records_1_55 : Code := Code.l c_logfile_records_1_54
noncomputable def r_logfile_records_1_55 : Array Oper := Code.ops c_logfile_records_1_55
noncomputable def c_logfile_records_1_57 : Code := Code.r c_logfile_records_1_54
noncomputable def c_logfile_records_1_58 : Code := Code.r c_logfile_records_1_53
noncomputable def c_logfile_records_1_59 : Code := Code.r c_logfile_records_1_49
noncomputable def c_logfile_records_1_60 : Code := Code.l c_logfile_records_1_59
noncomputable def r_logfile_records_1_60 : Array Oper := Code.ops c_logfile_records_1_60
noncomputable def c_logfile_records_1_62 : Code := Code.r c_logfile_records_1_59
noncomputable def c_logfile_records_1_63 : Code := Code.l c_logfile_records_1_62
noncomputable def c_logfile_records_1_64 : Code := Code.r c_logfile_records_1_62
noncomputable def c_logfile_records_1_65 : Code := Code.r c_logfile_records_1_15
noncomputable def r_logfile_records_1_65 : Array Oper := Code.ops c_logfile_records_1_65

set_option maxRecDepth 100000 in
set_option maxHeartbeats 4000000 in
theorem S_logfile_records_1 {yield : Value} {t1 : Option Addr} {t2 : Option Addr} {w : World} {R : World → Prop} (h : F_logfile_records_1 yield t1 t2 R w) : C_logfile_records_1 yield t1 t2 w R := by
  unfold F_logfile_records_1 at h
  unfold C_logfile_records_1
  refine Calls.mono (calls_of_wpY (args := [yield, Value.pointer t1, Value.pointer t2]) (R := fun v w' => v = Value.tuple #[] ∧ R w') Try.func83 (c := c_logfile_records_1_0) (by kernel_rfl) 65 (by kernel_rfl) (by kernel_rfl) [(0, yield), (1, Value.pointer t1), (2, Value.pointer t2)] (by kernel_rfl) ?_) ?_
  · letI : Rnd := rndY Try.prog Try.f83 (fun v w' => v = Value.tuple #[] ∧ R w')
    refine wpE_seq (x := c_logfile_records_1_1) (y := c_logfile_records_1_3) (by kernel_rfl) ?_
    refine wpE_region (id := 0) (ops := r_logfile_records_1_1) (by kernel_rfl) ?_
    refine reg_run [] 0 [(0, [], yield), (1, [], Value.pointer t1), (2, [], Value.pointer t2)] (by kernel_rfl) (by kernel_rfl) ?_
    obtain ⟨hp_1, h⟩ := h
    refine reg_conv [(0, [], yield), (1, [], Value.pointer (some ⟨(pblk t1), (poff t1), none⟩)), (2, [], Value.pointer t2)] (congrArg (fun pp => ([(0, [], yield), (1, [], Value.pointer pp), (2, [], Value.pointer t2)] : GEnv)) hp_1) ?_
    obtain ⟨v11, hc, h⟩ := h
    refine reg_load1 (t := 22) (a := (Go.Operand.tmp 1)) (b := (pblk t1)) (o := (poff t1)) (ty := 22) (dst := some 11) (by kernel_rfl) (by kernel_rfl) (by kernel_rfl) hc ?_
    refine reg_run [] 1 [(0, [], yield), (1, [], Value.pointer (some ⟨(pblk t1), (poff t1), none⟩)), (2, [], Value.pointer t2), (11, [], Value.slice v11.ptr v11.len v11.cap)] (by kernel_rfl) (by kernel_rfl) ?_
    refine reg_enter (op := (Go.Op.call (Go.Call.mk (Go.Callee.value (Go.Operand.func 37)) #[(Go.Operand.tmp 11)] #[22]))) (ty := 82) (dst := some 12) 37 #[Value.slice v11.ptr v11.len v11.cap] (by kernel_rfl) (fun ww => by kernel_rfl) (Calls.mono h ?_)
    rintro _ w1 ⟨v12, rfl, h⟩
    refine ⟨_, rfl, ?_⟩
    refine reg_run [.plain] 3 [(0, [], yield), (1, [], Value.pointer (some ⟨(pblk t1), (poff t1), none⟩)), (2, [], Value.pointer t2), (4, [], Value.pointer v12)] (by kernel_rfl) (by kernel_rfl) ?_
    refine reg_conv [(0, [], yield), (1, [], Value.pointer t1), (2, [], Value.pointer t2), (4, [], Value.pointer v12)] (congrArg (fun pp => ([(0, [], yield), (1, [], Value.pointer pp), (2, [], Value.pointer t2), (4, [], Value.pointer v12)] : GEnv)) hp_1.symm) ?_
    refine reg_end [(0, yield), (1, Value.pointer t1), (2, Value.pointer t2), (4, Value.pointer v12)] (by kernel_rfl) (by kernel_rfl) ?_
    change WpE _ _ c_logfile_records_1_3 _ _ _
    refine wpE_seq (x := c_logfile_records_1_4) (y := c_logfile_records_1_6) (by kernel_rfl) ?_
    refine wpE_region (id := 1) (ops := r_logfile_records_1_4) (by kernel_rfl) ?_
    refine reg_run [] 0 [(0, [], yield), (1, [], Value.pointer t1), (2, [], Value.pointer t2), (4, [], Value.pointer v12)] (by kernel_rfl) (by kernel_rfl) ?_
    obtain ⟨hp_3, h⟩ := h
    refine reg_conv [(0, [], yield), (1, [], Value.pointer (some ⟨(pblk t1), (poff t1), none⟩)), (2, [], Value.pointer t2), (4, [], Value.pointer v12)] (congrArg (fun pp => ([(0, [], yield), (1, [], Value.pointer pp), (2, [], Value.pointer t2), (4, [], Value.pointer v12)] : GEnv)) hp_3) ?_
    obtain ⟨v13, hc, h⟩ := h
    refine reg_load1 (t := 22) (a := (Go.Operand.tmp 1)) (b := (pblk t1)) (o := (poff t1)) (ty := 22) (dst := some 13) (by kernel_rfl) (by kernel_rfl) (by kernel_rfl) hc ?_
    refine reg_run [.plain, .plain] 3 [(0, [], yield), (1, [], Value.pointer (some ⟨(pblk t1), (poff t1), none⟩)), (2, [], Value.pointer t2), (4, [], Value.pointer v12), (5, [], Value.int .i64 ((v13.len : Nat) : Int))] (by kernel_rfl) (by kernel_rfl) ?_
    refine reg_conv [(0, [], yield), (1, [], Value.pointer t1), (2, [], Value.pointer t2), (4, [], Value.pointer v12), (5, [], Value.int .i64 ((v13.len : Nat) : Int))] (congrArg (fun pp => ([(0, [], yield), (1, [], Value.pointer pp), (2, [], Value.pointer t2), (4, [], Value.pointer v12), (5, [], Value.int .i64 ((v13.len : Nat) : Int))] : GEnv)) hp_3.symm) ?_
    refine reg_end [(0, yield), (1, Value.pointer t1), (2, Value.pointer t2), (4, Value.pointer v12), (5, Value.int .i64 ((v13.len : Nat) : Int))] (by kernel_rfl) (by kernel_rfl) ?_
    change WpE _ _ c_logfile_records_1_6 _ _ _
    refine wpE_block (id := 0) (x := c_logfile_records_1_7) (by kernel_rfl) ?_
    obtain ⟨I, μ, h0, hr⟩ := h
    refine wpE_loop (x := c_logfile_records_1_8) (by kernel_rfl) (fun m l w => ∃ (left : Int), l = [(0, yield), (1, Value.pointer t1), (2, Value.pointer t2), (4, Value.pointer v12), (5, Value.int .i64 left)] ∧ I left w ∧ μ left w = m) (l' := [(0, yield), (1, Value.pointer t1), (2, Value.pointer t2), (4, Value.pointer v12), (5, Value.int .i64 ((v13.len : Nat) : Int))]) (Sub.mk (by kernel_rfl)) ⟨((v13.len : Nat) : Int), rfl, h0, rfl⟩ ?_
    rintro _ _ w2 ⟨left, rfl, hI, rfl⟩
    obtain ⟨again_, again__h, h⟩ : ∃ again_ : Int → World → Prop, (∀ left' w', again_ left' w' → I left' w' ∧ μ left' w' < μ left w2) ∧ F_logfile_records_1_L0 yield t1 t2 R v12 again_ left w2 := ⟨_, fun _ _ h => h, hr left w2 hI⟩
    clear h0 hI
    unfold F_logfile_records_1_L0 at h
    refine wpE_seq (x := c_logfile_records_1_9) (y := c_logfile_records_1_15) (by kernel_rfl) ?_
    refine wpE_seq (x := c_logfile_records_1_10) (y := c_logfile_records_1_12) (by kernel_rfl) ?_
    refine wpE_region (id := 2) (ops := r_logfile_records_1_10) (by kernel_rfl) ?_
    refine reg_run [.plain, .plain] 2 [(0, [], yield), (1, [], Value.pointer t1), (2, [], Value.pointer t2), (4, [], Value.pointer v12), (5, [], Value.int .i64 left), (16, [], Value.bool (decide (left > 0)))] (by kernel_rfl) (by kernel_rfl) ?_
    refine reg_end [(0, yield), (1, Value.pointer t1), (2, Value.pointer t2), (4, Value.pointer v12), (5, Value.int .i64 left), (16, Value.bool (decide (left > 0)))] (by kernel_rfl) (by kernel_rfl) ?_
    change WpE _ _ c_logfile_records_1_12 _ _ _
    refine wpE_cond (o := (Operand.tmp 16)) (b := (decide (left > 0))) (x := c_logfile_records_1_13) (y := c_logfile_records_1_14) (by kernel_rfl) (by kernel_rfl) (fun hb => ?_) (fun hb => ?_)
    · replace h := h.1 hb
      refine wpE_skip (by kernel_rfl) ?_
      change WpE _ _ c_logfile_records_1_15 _ _ _
      refine wpE_seq (x := c_logfile_records_1_16) (y := c_logfile_records_1_65) (by kernel_rfl) ?_
      refine wpE_block (id := 1) (x := c_logfile_records_1_17) (by kernel_rfl) ?_
      refine wpE_seq (x := c_logfile_records_1_18) (y := c_logfile_records_1_20) (by kernel_rfl) ?_
      refine wpE_region (id := 4) (ops := r_logfile_records_1_18) (by kernel_rfl) ?_
      refine reg_run [.plain] 1 [(0, [], yield), (1, [], Value.pointer t1), (2, [], Value.pointer t2), (4, [], Value.pointer v12), (5, [], Value.int .i64 left), (19, [], Value.pointer v12)] (by kernel_rfl) (by kernel_rfl) ?_
      refine reg_enter (op := (Go.Op.call (Go.Call.mk (Go.Callee.value (Go.Operand.func 45)) #[(Go.Operand.tmp 19), (Go.Operand.const (Go.Value.int Go.IntKind.i64 65536))] #[82, 3]))) (ty := 9) (dst := some 20) 45 #[Value.pointer v12, Value.int .i64 65536] (by kernel_rfl) (fun ww => by kernel_rfl) (Calls.mono h ?_)
      rintro _ w3 ⟨v20, rfl, h⟩
      refine ⟨_, rfl, ?_⟩
      refine reg_run [] 2 [(0, [], yield), (1, [], Value.pointer t1), (2, [], Value.pointer t2), (4, [], Value.pointer v12), (5, [], Value.int .i64 left), (20, [], Value.string v20)] (by kernel_rfl) (by kernel_rfl) ?_
      refine reg_ofString (t := 9) (d := 22) (e := 5) (x := (Go.Operand.tmp 20)) (str := v20) (ty := 22) (dst := some 21) (by kernel_rfl) (by kernel_rfl) (by kernel_rfl) (by kernel_rfl) (by kernel_rfl) (fun s w4 hs => ?_)
      replace h := h s w4 hs
      clear hs
      refine reg_run [.plain] 4 [(0, [], yield), (1, [], Value.pointer t1), (2, [], Value.pointer t2), (4, [], Value.pointer v12), (5, [], Value.int .i64 left), (6, [], Value.slice s.ptr s.len s.cap)] (by kernel_rfl) (by kernel_rfl) ?_
      refine reg_end [(0, yield), (1, Value.pointer t1), (2, Value.pointer t2), (4, Value.pointer v12), (5, Value.int .i64 left), (6, Value.slice s.ptr s.len s.cap)] (by kernel_rfl) (by kernel_rfl) ?_
      change WpE _ _ c_logfile_records_1_20 _ _ _
      refine wpE_seq (x := c_logfile_records_1_21) (y := c_logfile_records_1_23) (by kernel_rfl) ?_
      refine wpE_region (id := 5) (ops := r_logfile_records_1_21) (by kernel_rfl) ?_
      refine reg_run [.plain] 1 [(0, [], yield), (1, [], Value.pointer t1), (2, [], Value.pointer t2), (4, [], Value.pointer v12), (5, [], Value.int .i64 left), (6, [], Value.slice s.ptr s.len s.cap), (22, [], Value.pointer v12)] (by kernel_rfl) (by kernel_rfl) ?_
      refine reg_enter (op := (Go.Op.call (Go.Call.mk (Go.Callee.value (Go.Operand.func 39)) #[(Go.Operand.tmp 22)] #[82]))) (ty := 3) (dst := some 23) 39 #[Value.pointer v12] (by kernel_rfl) (fun ww => by kernel_rfl) (Calls.mono h ?_)
      rintro _ w5 ⟨v23, rfl, h⟩
      refine ⟨_, rfl, ?_⟩
      refine reg_run [.plain] 3 [(0, [], yield), (1, [], Value.pointer t1), (2, [], Value.pointer t2), (4, [], Value.pointer v12), (5, [], Value.int .i64 left), (6, [], Value.slice s.ptr s.len s.cap), (7, [], Value.int .i64 v23)] (by kernel_rfl) (by kernel_rfl) ?_
      refine reg_end [(0, yield), (1, Value.pointer t1), (2, Value.pointer t2), (4, Value.pointer v12), (5, Value.int .i64 left), (6, Value.slice s.ptr s.len s.cap), (7, Value.int .i64 v23)] (by kernel_rfl) (by kernel_rfl) ?_
      change WpE _ _ c_logfile_records_1_23 _ _ _
      refine wpE_seq (x := c_logfile_records_1_24) (y := c_logfile_records_1_26) (by kernel_rfl) ?_
      refine wpE_region (id := 6) (ops := r_logfile_records_1_24) (by kernel_rfl) ?_
      refine reg_run [.plain] 1 [(0, [], yield), (1, [], Value.pointer t1), (2, [], Value.pointer t2), (4, [], Value.pointer v12), (5, [], Value.int .i64 left), (6, [], Value.slice s.ptr s.len s.cap), (7, [], Value.int .i64 v23), (24, [], Value.pointer v12)] (by kernel_rfl) (by kernel_rfl) ?_
      refine reg_enter (op := (Go.Op.call (Go.Call.mk (Go.Callee.value (Go.Operand.func 44)) #[(Go.Operand.tmp 24), (Go.Operand.const (Go.Value.int Go.IntKind.i64 4))] #[82, 3]))) (ty := 86) (dst := some 25) 44 #[Value.pointer v12, Value.int .i64 4] (by kernel_rfl) (fun ww => by kernel_rfl) (Calls.mono h ?_)
      rintro _ w6 ⟨v25, rfl, h⟩
      refine ⟨_, rfl, ?_⟩
      refine reg_run [.plain] 3 [(0, [], yield), (1, [], Value.pointer t1), (2, [], Value.pointer t2), (4, [], Value.pointer v12), (5, [], Value.int .i64 left), (6, [], Value.slice s.ptr s.len s.cap), (7, [], Value.int .i64 v23), (8, [], Value.int .u64 v25)] (by kernel_rfl) (by kernel_rfl) ?_
      refine reg_end [(0, yield), (1, Value.pointer t1), (2, Value.pointer t2), (4, Value.pointer v12), (5, Value.int .i64 left), (6, Value.slice s.ptr s.len s.cap), (7, Value.int .i64 v23), (8, Value.int .u64 v25)] (by kernel_rfl) (by kernel_rfl) ?_
      change WpE _ _ c_logfile_records_1_26 _ _ _
      refine wpE_seq (x := c_logfile_records_1_27) (y := c_logfile_records_1_36) (by kernel_rfl) ?_
      refine wpE_seq_cut (x := c_logfile_records_1_28) (y := c_logfile_records_1_30) (by kernel_rfl) (fun l w => ∃ (t34 : Bool), l = [(0, yield), (1, Value.pointer t1), (2, Value.pointer t2), (4, Value.pointer v12), (6, Value.slice s.ptr s.len s.cap), (8, Value.int .u64 v25), (34, Value.bool t34)] ∧ F_logfile_records_1_k1 yield t1 t2 R v12 again_ s v25 t34 w) ?_ ?_
      · refine wpE_region (id := 7) (ops := r_logfile_records_1_28) (by kernel_rfl) ?_
        refine reg_run [.plain, .plain, .plain, .plain, .plain] 5 [(0, [], yield), (1, [], Value.pointer t1), (2, [], Value.pointer t2), (4, [], Value.pointer v12), (6, [], Value.slice s.ptr s.len s.cap), (7, [], Value.int .i64 v23), (8, [], Value.int .u64 v25), (29, [], Value.bool (v23 == left)), (30, [(29, false)], Value.pointer v12)] (by kernel_rfl) (by kernel_rfl) ?_
        refine reg_split 29 (v23 == left) (by kernel_rfl) (fun hb => ?_) (fun hb => ?_)
        · replace h := h.1 hb
          refine reg_run [] 5 [(0, [], yield), (1, [], Value.pointer t1), (2, [], Value.pointer t2), (4, [], Value.pointer v12), (6, [], Value.slice s.ptr s.len s.cap), (7, [], Value.int .i64 v23), (8, [], Value.int .u64 v25), (29, [], Value.bool true), (30, [], undef)] (by kernel_rfl) (by kernel_rfl) ?_
          refine reg_run [.skip, .skip, .skip, .plain] 9 [(0, [], yield), (1, [], Value.pointer t1), (2, [], Value.pointer t2), (4, [], Value.pointer v12), (6, [], Value.slice s.ptr s.len s.cap), (8, [], Value.int .u64 v25), (34, [], Value.bool true)] (by kernel_rfl) (by kernel_rfl) ?_
          refine reg_end [(0, yield), (1, Value.pointer t1), (2, Value.pointer t2), (4, Value.pointer v12), (6, Value.slice s.ptr s.len s.cap), (8, Value.int .u64 v25), (34, Value.bool true)] (by kernel_rfl) (by kernel_rfl) ?_
          exact ⟨[(0, yield), (1, Value.pointer t1), (2, Value.pointer t2), (4, Value.pointer v12), (6, Value.slice s.ptr s.len s.cap), (8, Value.int .u64 v25), (34, Value.bool true)], Sub.mk (by kernel_rfl), true, rfl, h⟩
        · replace h := h.2 hb
          refine reg_run [] 5 [(0, [], yield), (1, [], Value.pointer t1), (2, [], Value.pointer t2), (4, [], Value.pointer v12), (6, [], Value.slice s.ptr s.len s.cap), (7, [], Value.int .i64 v23), (8, [], Value.int .u64 v25), (29, [], Value.bool false), (30, [], Value.pointer v12)] (by kernel_rfl) (by kernel_rfl) ?_
          refine reg_run [] 5 [(0, [], yield), (1, [], Value.pointer t1), (2, [], Value.pointer t2), (4, [], Value.pointer v12), (6, [], Value.slice s.ptr s.len s.cap), (7, [], Value.int .i64 v23), (8, [], Value.int .u64 v25), (29, [], Value.bool false), (30, [], Value.pointer v12)] (by kernel_rfl) (by kernel_rfl) ?_
          refine reg_enter (op := (Go.Op.call (Go.Call.mk (Go.Callee.value (Go.Operand.func 39)) #[(Go.Operand.tmp 30)] #[82]))) (ty := 3) (dst := some 31) 39 #[Value.pointer v12] (by kernel_rfl) (fun ww => by kernel_rfl) (Calls.mono h ?_)
          rintro _ w21 ⟨v31, rfl, h⟩
          refine ⟨_, rfl, ?_⟩
          refine reg_run [.sure, .sure, .plain] 9 [(0, [], yield), (1, [], Value.pointer t1), (2, [], Value.pointer t2), (4, [], Value.pointer v12), (6, [], Value.slice s.ptr s.len s.cap), (8, [], Value.int .u64 v25), (34, [], Value.bool (v31 == v23))] (by kernel_rfl) (by kernel_rfl) ?_
          refine reg_end [(0, yield), (1, Value.pointer t1), (2, Value.pointer t2), (4, Value.pointer v12), (6, Value.slice s.ptr s.len s.cap), (8, Value.int .u64 v25), (34, Value.bool (v31 == v23))] (by kernel_rfl) (by kernel_rfl) ?_
          exact ⟨[(0, yield), (1, Value.pointer t1), (2, Value.pointer t2), (4, Value.pointer v12), (6, Value.slice s.ptr s.len s.cap), (8, Value.int .u64 v25), (34, Value.bool (v31 == v23))], Sub.mk (by kernel_rfl), (v31 == v23), rfl, h⟩
      · rintro _ w7 ⟨t34, rfl, h⟩
        unfold F_logfile_records_1_k1 at h
        refine wpE_cond (o := (Operand.tmp 34)) (b := t34) (x := c_logfile_records_1_31) (y := c_logfile_records_1_35) (by kernel_rfl) (by kernel_rfl) (fun hb => ?_) (fun hb => ?_)
        · replace h := h.1 hb
          refine wpE_seq (x := c_logfile_records_1_32) (y := c_logfile_records_1_34) (by kernel_rfl) ?_
          refine wpE_tailregionY (id := 8) (ops := r_logfile_records_1_32) (by kernel_rfl) 4 (by kernel_rfl) (by kernel_rfl) (by kernel_rfl) (fun w8 hw => ?_)
          replace h := h w8 hw
          clear hw
          refine qreg_run [] 0 [(2, [], Value.pointer t2), (4, [], Value.pointer v12)] (by kernel_rfl) (by kernel_rfl) ?_
          obtain ⟨hp_20, h⟩ := h
          refine qreg_conv [(2, [], Value.pointer (some ⟨(pblk t2), (poff t2), none⟩)), (4, [], Value.pointer v12)] (congrArg (fun pp => ([(2, [], Value.pointer pp), (4, [], Value.pointer v12)] : GEnv)) hp_20) ?_
          obtain ⟨v35, hc, h⟩ := h
          refine qreg_load1 (t := 110) (a := (Go.Operand.tmp 2)) (b := (pblk t2)) (o := (poff t2)) (ty := 110) (dst := some 35) (by kernel_rfl) (by kernel_rfl) (by kernel_rfl) hc ?_
          refine qreg_run [.plain] 2 [(35, [], Value.pointer v35), (36, [], Value.pointer v12)] (by kernel_rfl) (by kernel_rfl) ?_
          obtain ⟨v37, hq, h⟩ := h
          refine qreg_enterS (op := (Go.Op.call (Go.Call.mk (Go.Callee.value (Go.Operand.func 40)) #[(Go.Operand.tmp 36)] #[82]))) (ty := 29) (dst := some 37) 40 #[Value.pointer v12] (Value.int .i64 v37) (by kernel_rfl) (fun ww => by kernel_rfl) (Calls.mono hq (by rintro _ w'' ⟨_, rfl, rfl, hE⟩; exact ⟨rfl, hE⟩)) ?_
          clear hq
          refine qreg_run [] 3 [(35, [], Value.pointer v35), (37, [], Value.int .i64 v37)] (by kernel_rfl) (by kernel_rfl) ?_
          obtain ⟨hp_21, h⟩ := h
          refine qreg_conv [(35, [], Value.pointer (some ⟨(pblk v35), (poff v35), none⟩)), (37, [], Value.int .i64 v37)] (congrArg (fun pp => ([(35, [], Value.pointer pp), (37, [], Value.int .i64 v37)] : GEnv)) hp_21) ?_
          refine qreg_run [.plain] 4 [(35, [], Value.pointer (some ⟨(pblk v35), (poff v35), none⟩)), (37, [], Value.int .i64 v37), (38, [], Value.pointer (some ⟨(pblk v35), (poff v35), none⟩))] (by kernel_rfl) (by kernel_rfl) ?_
          refine qreg_run [] 4 [(37, [], Value.int .i64 v37), (38, [], Value.pointer (some ⟨(pblk v35), (poff v35), none⟩))] (by kernel_rfl) (by kernel_rfl) ?_
          refine qreg_tailY (by kernel_rfl) ?_
          refine reg_run [] 4 [(37, [], Value.int .i64 v37), (38, [], Value.pointer (some ⟨(pblk v35), (poff v35), none⟩))] (by kernel_rfl) (by kernel_rfl) ?_
          obtain ⟨hc, h⟩ := h
          refine reg_store (t := 29) (a := (Go.Operand.tmp 38)) (x := (Go.Operand.tmp 37)) (b := (pblk v35)) (o := (poff v35)) (ty := 0) (dst := none) [Value.int .i64 v37] (by kernel_rfl) (by kernel_rfl) (by kernel_rfl) (k := 1) (by kernel_rfl) (by kernel_rfl) (by kernel_rfl) hc (fun w10 hw => ?_)
          replace h := h w10 hw
          clear hw
          refine reg_end [] (by kernel_rfl) (by kernel_rfl) ?_
          change WpE _ _ c_logfile_records_1_34 _ _ _
          refine wpE_ret (by kernel_rfl) ?_
          repeat (first | refine seqQ_ret ?_ | refine blockQ_ret ?_ | refine loopQ_ret ?_ | refine cutQ_ret ?_)
          exact retT (rs := []) (vs := []) (by kernel_rfl) (trivial) (by kernel_rfl) ⟨rfl, h⟩
        · replace h := h.2 hb
          refine wpE_skip (by kernel_rfl) ?_
          change WpE _ _ c_logfile_records_1_36 _ _ _
          refine wpE_seq (x := c_logfile_records_1_37) (y := c_logfile_records_1_46) (by kernel_rfl) ?_
          refine wpE_seq (x := c_logfile_records_1_38) (y := c_logfile_records_1_40) (by kernel_rfl) ?_
          refine wpE_region (id := 9) (ops := r_logfile_records_1_38) (by kernel_rfl) ?_
          refine reg_run [.plain, .plain, .plain] 3 [(0, [], yield), (1, [], Value.pointer t1), (2, [], Value.pointer t2), (4, [], Value.pointer v12), (6, [], Value.slice s.ptr s.len s.cap), (40, [], Value.int .u32 (IntKind.u32.wrap v25)), (41, [], Value.slice s.ptr s.len s.cap)] (by kernel_rfl) (by kernel_rfl) ?_
          refine reg_enter (op := (Go.Op.call (Go.Call.mk (Go.Callee.value (Go.Operand.func 54)) #[(Go.Operand.tmp 41)] #[22]))) (ty := 38) (dst := some 42) 54 #[Value.slice s.ptr s.len s.cap] (by kernel_rfl) (fun ww => by kernel_rfl) (Calls.mono h ?_)
          rintro _ w11 ⟨v42, rfl, h⟩
          refine ⟨_, rfl, ?_⟩
          refine reg_run [.plain] 5 [(0, [], yield), (1, [], Value.pointer t1), (2, [], Value.pointer t2), (4, [], Value.pointer v12), (6, [], Value.slice s.ptr s.len s.cap), (43, [], Value.bool ((IntKind.u32.wrap v25) != v42))] (by kernel_rfl) (by kernel_rfl) ?_
          refine reg_end [(0, yield), (1, Value.pointer t1), (2, Value.pointer t2), (4, Value.pointer v12), (6, Value.slice s.ptr s.len s.cap), (43, Value.bool ((IntKind.u32.wrap v25) != v42))] (by kernel_rfl) (by kernel_rfl) ?_
          change WpE _ _ c_logfile_records_1_40 _ _ _
          refine wpE_cond (o := (Operand.tmp 43)) (b := ((IntKind.u32.wrap v25) != v42)) (x := c_logfile_records_1_41) (y := c_logfile_records_1_45) (by kernel_rfl) (by kernel_rfl) (fun hb => ?_) (fun hb => ?_)
          · replace h := h.1 hb
            refine wpE_seq (x := c_logfile_records_1_42) (y := c_logfile_records_1_44) (by kernel_rfl) ?_
            refine wpE_region (id := 10) (ops := r_logfile_records_1_42) (by kernel_rfl) ?_
            refine reg_run [] 0 [(2, [], Value.pointer t2)] (by kernel_rfl) (by kernel_rfl) ?_
            obtain ⟨hp_24, h⟩ := h
            refine reg_conv [(2, [], Value.pointer (some ⟨(pblk t2), (poff t2), none⟩))] (congrArg (fun pp => ([(2, [], Value.pointer pp)] : GEnv)) hp_24) ?_
            obtain ⟨v44, hc, h⟩ := h
            refine reg_load1 (t := 110) (a := (Go.Operand.tmp 2)) (b := (pblk t2)) (o := (poff t2)) (ty := 110) (dst := some 44) (by kernel_rfl) (by kernel_rfl) (by kernel_rfl) hc ?_
            refine reg_run [] 1 [(44, [], Value.pointer v44)] (by kernel_rfl) (by kernel_rfl) ?_
            obtain ⟨hp_25, h⟩ := h
            refine reg_conv [(44, [], Value.pointer (some ⟨(pblk v44), (poff v44), none⟩))] (congrArg (fun pp => ([(44, [], Value.pointer pp)] : GEnv)) hp_25) ?_
            refine reg_run [.plain] 2 [(44, [], Value.pointer (some ⟨(pblk v44), (poff v44), none⟩)), (45, [], Value.pointer (some ⟨(pblk v44), (poff v44), none⟩))] (by kernel_rfl) (by kernel_rfl) ?_
            refine reg_run [] 2 [(45, [], Value.pointer (some ⟨(pblk v44), (poff v44), none⟩))] (by kernel_rfl) (by kernel_rfl) ?_
            obtain ⟨hc, h⟩ := h
            refine reg_store (t := 29) (a := (Go.Operand.tmp 45)) (x := (Go.Operand.const (Go.Value.int Go.IntKind.i64 4))) (b := (pblk v44)) (o := (poff v44)) (ty := 0) (dst := none) [Value.int .i64 4] (by kernel_rfl) (by kernel_rfl) (by kernel_rfl) (k := 1) (by kernel_rfl) (by kernel_rfl) (by kernel_rfl) hc (fun w12 hw => ?_)
            replace h := h w12 hw
            clear hw
            refine reg_end [] (by kernel_rfl) (by kernel_rfl) ?_
            change WpE _ _ c_logfile_records_1_44 _ _ _
            refine wpE_ret (by kernel_rfl) ?_
            repeat (first | refine seqQ_ret ?_ | refine blockQ_ret ?_ | refine loopQ_ret ?_ | refine cutQ_ret ?_)
            exact retT (rs := []) (vs := []) (by kernel_rfl) (trivial) (by kernel_rfl) ⟨rfl, h⟩
          · replace h := h.2 hb
            refine wpE_skip (by kernel_rfl) ?_
            change WpE _ _ c_logfile_records_1_46 _ _ _
            refine wpE_seq (x := c_logfile_records_1_47) (y := c_logfile_records_1_49) (by kernel_rfl) ?_
            refine wpE_region (id := 11) (ops := r_logfile_records_1_47) (by kernel_rfl) ?_
            refine reg_run [.plain] 1 [(0, [], yield), (1, [], Value.pointer t1), (2, [], Value.pointer t2), (4, [], Value.pointer v12), (47, [], Value.slice s.ptr s.len s.cap)] (by kernel_rfl) (by kernel_rfl) ?_
            refine reg_enter (op := (Go.Op.call (Go.Call.mk (Go.Callee.value (Go.Operand.func 84)) #[(Go.Operand.tmp 47)] #[22]))) (ty := 56) (dst := some 48) 84 #[Value.slice s.ptr s.len s.cap] (by kernel_rfl) (fun ww => by kernel_rfl) (Calls.mono h ?_)
            rintro _ w13 ⟨v48, f, rfl, h⟩
            refine ⟨_, rfl, ?_⟩
            refine reg_run [.plain, .plain, .plain] 5 [(0, [], yield), (1, [], Value.pointer t1), (2, [], Value.pointer t2), (4, [], Value.pointer v12), (49, [], Value.agg #[Value.int .i64 v48.Number, Value.slice v48.Writes.ptr v48.Writes.len v48.Writes.cap]), (50, [], Value.int .i64 f)] (by kernel_rfl) (by kernel_rfl) ?_
            refine reg_new (op := (Go.Op.alloc 49)) (ty := 0) (dst := some 9) (fun bb => Value.pointer (some ⟨bb, 0, none⟩)) (Obj.cells ([Value.int .i64 0, Value.slice none 0 0]).toArray ty_api_Txn (0, 0)) (by kernel_rfl) (by kernel_rfl) (fun b_ w14 hb hw => ?_)
            replace h := h b_ w14 hb hw
            clear hb hw
            refine reg_run [] 6 [(0, [], yield), (1, [], Value.pointer t1), (2, [], Value.pointer t2), (4, [], Value.pointer v12), (9, [], Value.pointer (some ⟨b_, 0, none⟩)), (49, [], Value.agg #[Value.int .i64 v48.Number, Value.slice v48.Writes.ptr v48.Writes.len v48.Writes.cap]), (50, [], Value.int .i64 f)] (by kernel_rfl) (by kernel_rfl) ?_
            obtain ⟨hc, h⟩ := h
            refine reg_store (t := 49) (a := (Go.Operand.tmp 9)) (x := (Go.Operand.tmp 49)) (b := b_) (o := 0) (ty := 0) (dst := none) [Value.int .i64 v48.Number, Value.slice v48.Writes.ptr v48.Writes.len v48.Writes.cap] (by kernel_rfl) (by kernel_rfl) (by kernel_rfl) (k := 2) (by kernel_rfl) (by kernel_rfl) (by kernel_rfl) hc (fun w15 hw => ?_)
            replace h := h w15 hw
            clear hw
            refine reg_run [.plain] 8 [(0, [], yield), (1, [], Value.pointer t1), (2, [], Value.pointer t2), (4, [], Value.pointer v12), (9, [], Value.pointer (some ⟨b_, 0, none⟩)), (10, [], Value.int .i64 f)] (by kernel_rfl) (by kernel_rfl) ?_
            refine reg_end [(0, yield), (1, Value.pointer t1), (2, Value.pointer t2), (4, Value.pointer v12), (9, Value.pointer (some ⟨b_, 0, none⟩)), (10, Value.int .i64 f)] (by kernel_rfl) (by kernel_rfl) ?_
            change WpE _ _ c_logfile_records_1_49 _ _ _
            refine wpE_seq (x := c_logfile_records_1_50) (y := c_logfile_records_1_59) (by kernel_rfl) ?_
            refine wpE_seq (x := c_logfile_records_1_51) (y := c_logfile_records_1_53) (by kernel_rfl) ?_
            refine wpE_region (id := 12) (ops := r_logfile_records_1_51) (by kernel_rfl) ?_
            refine reg_run [.plain, .plain] 2 [(0, [], yield), (1, [], Value.pointer t1), (2, [], Value.pointer t2), (4, [], Value.pointer v12), (9, [], Value.pointer (some ⟨b_, 0, none⟩)), (10, [], Value.int .i64 f), (52, [], Value.bool (f != 0))] (by kernel_rfl) (by kernel_rfl) ?_
            refine reg_end [(0, yield), (1, Value.pointer t1), (2, Value.pointer t2), (4, Value.pointer v12), (9, Value.pointer (some ⟨b_, 0, none⟩)), (10, Value.int .i64 f), (52, Value.bool (f != 0))] (by kernel_rfl) (by kernel_rfl) ?_
            change WpE _ _ c_logfile_records_1_53 _ _ _
            refine wpE_cond (o := (Operand.tmp 52)) (b := (f != 0)) (x := c_logfile_records_1_54) (y := c_logfile_records_1_58) (by kernel_rfl) (by kernel_rfl) (fun hb => ?_) (fun hb => ?_)
            · replace h := h.1 hb
              refine wpE_seq (x := c_logfile_records_1_55) (y := c_logfile_records_1_57) (by kernel_rfl) ?_
              refine wpE_region (id := 13) (ops := r_logfile_records_1_55) (by kernel_rfl) ?_
              refine reg_run [] 0 [(2, [], Value.pointer t2), (10, [], Value.int .i64 f)] (by kernel_rfl) (by kernel_rfl) ?_
              obtain ⟨hp_28, h⟩ := h
              refine reg_conv [(2, [], Value.pointer (some ⟨(pblk t2), (poff t2), none⟩)), (10, [], Value.int .i64 f)] (congrArg (fun pp => ([(2, [], Value.pointer pp), (10, [], Value.int .i64 f)] : GEnv)) hp_28) ?_
              obtain ⟨v53, hc, h⟩ := h
              refine reg_load1 (t := 110) (a := (Go.Operand.tmp 2)) (b := (pblk t2)) (o := (poff t2)) (ty := 110) (dst := some 53) (by kernel_rfl) (by kernel_rfl) (by kernel_rfl) hc ?_
              refine reg_run [.plain] 2 [(53, [], Value.pointer v53), (54, [], Value.int .i64 f)] (by kernel_rfl) (by kernel_rfl) ?_
              obtain ⟨hp_29, h⟩ := h
              refine reg_conv [(53, [], Value.pointer (some ⟨(pblk v53), (poff v53), none⟩)), (54, [], Value.int .i64 f)] (congrArg (fun pp => ([(53, [], Value.pointer pp), (54, [], Value.int .i64 f)] : GEnv)) hp_29) ?_
              refine reg_run [.plain] 3 [(53, [], Value.pointer (some ⟨(pblk v53), (poff v53), none⟩)), (54, [], Value.int .i64 f), (55, [], Value.pointer (some ⟨(pblk v53), (poff v53), none⟩))] (by kernel_rfl) (by kernel_rfl) ?_
              refine reg_run [] 3 [(54, [], Value.int .i64 f), (55, [], Value.pointer (some ⟨(pblk v53), (poff v53), none⟩))] (by kernel_rfl) (by kernel_rfl) ?_
              obtain ⟨hc, h⟩ := h
              refine reg_store (t := 29) (a := (Go.Operand.tmp 55)) (x := (Go.Operand.tmp 54)) (b := (pblk v53)) (o := (poff v53)) (ty := 0) (dst := none) [Value.int .i64 f] (by kernel_rfl) (by kernel_rfl) (by kernel_rfl) (k := 1) (by kernel_rfl) (by kernel_rfl) (by kernel_rfl) hc (fun w16 hw => ?_)
              replace h := h w16 hw
              clear hw
              refine reg_end [] (by kernel_rfl) (by kernel_rfl) ?_
              change WpE _ _ c_logfile_records_1_57 _ _ _
              refine wpE_ret (by kernel_rfl) ?_
              repeat (first | refine seqQ_ret ?_ | refine blockQ_ret ?_ | refine loopQ_ret ?_ | refine cutQ_ret ?_)
              exact retT (rs := []) (vs := []) (by kernel_rfl) (trivial) (by kernel_rfl) ⟨rfl, h⟩
            · replace h := h.2 hb
              refine wpE_skip (by kernel_rfl) ?_
              change WpE _ _ c_logfile_records_1_59 _ _ _
              refine wpE_seq (x := c_logfile_records_1_60) (y := c_logfile_records_1_62) (by kernel_rfl) ?_
              refine wpE_tailregionY (id := 14) (ops := r_logfile_records_1_60) (by kernel_rfl) 7 (by kernel_rfl) (by kernel_rfl) (by kernel_rfl) (fun w17 hw => ?_)
              replace h := h w17 hw
              clear hw
              refine qreg_run [.plain] 1 [(0, [], yield), (1, [], Value.pointer t1), (2, [], Value.pointer t2), (4, [], Value.pointer v12), (9, [], Value.pointer (some ⟨b_, 0, none⟩)), (56, [], yield)] (by kernel_rfl) (by kernel_rfl) ?_
              obtain ⟨hp_31, h⟩ := h
              refine qreg_conv [(0, [], yield), (1, [], Value.pointer (some ⟨(pblk t1), (poff t1), none⟩)), (2, [], Value.pointer t2), (4, [], Value.pointer v12), (9, [], Value.pointer (some ⟨b_, 0, none⟩)), (56, [], yield)] (congrArg (fun pp => ([(0, [], yield), (1, [], Value.pointer pp), (2, [], Value.pointer t2), (4, [], Value.pointer v12), (9, [], Value.pointer (some ⟨b_, 0, none⟩)), (56, [], yield)] : GEnv)) hp_31) ?_
              obtain ⟨v57, hc, h⟩ := h
              refine qreg_load1 (t := 22) (a := (Go.Operand.tmp 1)) (b := (pblk t1)) (o := (poff t1)) (ty := 22) (dst := some 57) (by kernel_rfl) (by kernel_rfl) (by kernel_rfl) hc ?_
              refine qreg_run [.plain, .plain] 4 [(0, [], yield), (1, [], Value.pointer (some ⟨(pblk t1), (poff t1), none⟩)), (2, [], Value.pointer t2), (4, [], Value.pointer v12), (9, [], Value.pointer (some ⟨b_, 0, none⟩)), (56, [], yield), (58, [], Value.int .i64 ((v57.len : Nat) : Int)), (59, [], Value.pointer v12)] (by kernel_rfl) (by kernel_rfl) ?_
              obtain ⟨v60, hq, h⟩ := h
              refine qreg_enterS (op := (Go.Op.call (Go.Call.mk (Go.Callee.value (Go.Operand.func 39)) #[(Go.Operand.tmp 59)] #[82]))) (ty := 3) (dst := some 60) 39 #[Value.pointer v12] (Value.int .i64 v60) (by kernel_rfl) (fun ww => by kernel_rfl) (Calls.mono hq (by rintro _ w'' ⟨_, rfl, rfl, hE⟩; exact ⟨rfl, hE⟩)) ?_
              clear hq
              refine qreg_run [.plain] 6 [(0, [], yield), (1, [], Value.pointer (some ⟨(pblk t1), (poff t1), none⟩)), (2, [], Value.pointer t2), (4, [], Value.pointer v12), (9, [], Value.pointer (some ⟨b_, 0, none⟩)), (56, [], yield), (61, [], Value.int .i64 (IntKind.i64.wrap (((v57.len : Nat) : Int) - v60)))] (by kernel_rfl) (by kernel_rfl) ?_
              obtain ⟨v62, hc, h⟩ := h
              refine qreg_loadN (t := 49) (a := (Go.Operand.tmp 9)) (b := b_) (o := 0) (ty := 49) (dst := some 62) [Value.int .i64 v62.Number, Value.slice v62.Writes.ptr v62.Writes.len v62.Writes.cap] (by kernel_rfl) (by kernel_rfl) (by kernel_rfl) (k := 2) (by kernel_rfl) (by kernel_rfl) hc ?_
              refine qreg_run [] 7 [(0, [], yield), (1, [], Value.pointer (some ⟨(pblk t1), (poff t1), none⟩)), (2, [], Value.pointer t2), (4, [], Value.pointer v12), (56, [], yield), (61, [], Value.int .i64 (IntKind.i64.wrap (((v57.len : Nat) : Int) - v60))), (62, [], Value.agg #[Value.int .i64 v62.Number, Value.slice v62.Writes.ptr v62.Writes.len v62.Writes.cap])] (by kernel_rfl) (by kernel_rfl) ?_
              refine qreg_tailY (by kernel_rfl) ?_
              refine reg_run [] 7 [(0, [], yield), (1, [], Value.pointer (some ⟨(pblk t1), (poff t1), none⟩)), (2, [], Value.pointer t2), (4, [], Value.pointer v12), (56, [], yield), (61, [], Value.int .i64 (IntKind.i64.wrap (((v57.len : Nat) : Int) - v60))), (62, [], Value.agg #[Value.int .i64 v62.Number, Value.slice v62.Writes.ptr v62.Writes.len v62.Writes.cap])] (by kernel_rfl) (by kernel_rfl) ?_
              refine reg_enterY rfl (fo := (Go.Operand.tmp 56)) (aa := #[(Go.Operand.tmp 61), (Go.Operand.tmp 62)]) (ts := #[3, 49]) (fv := yield) (ty := 4) (dst := some 63) #[Value.int .i64 (IntKind.i64.wrap (((v57.len : Nat) : Int) - v60)), Value.agg #[Value.int .i64 v62.Number, Value.slice v62.Writes.ptr v62.Writes.len v62.Writes.cap]] (by kernel_rfl) (by kernel_rfl) (by kernel_rfl) (CallsY.mono h ?_)
              rintro _ w19 ⟨v63, rfl, h⟩
              refine ⟨_, rfl, ?_⟩
              refine reg_run [.plain] 9 [(0, [], yield), (1, [], Value.pointer (some ⟨(pblk t1), (poff t1), none⟩)), (2, [], Value.pointer t2), (4, [], Value.pointer v12), (64, [], Value.bool (!v63))] (by kernel_rfl) (by kernel_rfl) ?_
              refine reg_conv [(0, [], yield), (1, [], Value.pointer t1), (2, [], Value.pointer t2), (4, [], Value.pointer v12), (64, [], Value.bool (!v63))] (congrArg (fun pp => ([(0, [], yield), (1, [], Value.pointer pp), (2, [], Value.pointer t2), (4, [], Value.pointer v12), (64, [], Value.bool (!v63))] : GEnv)) hp_31.symm) ?_
              refine reg_end [(0, yield), (1, Value.pointer t1), (2, Value.pointer t2), (4, Value.pointer v12), (64, Value.bool (!v63))] (by kernel_rfl) (by kernel_rfl) ?_
              change WpE _ _ c_logfile_records_1_62 _ _ _
              refine wpE_cond (o := (Operand.tmp 64)) (b := (!v63)) (x := c_logfile_records_1_63) (y := c_logfile_records_1_64) (by kernel_rfl) (by kernel_rfl) (fun hb => ?_) (fun hb => ?_)
              · replace h := h.1 hb
                refine wpE_ret (by kernel_rfl) ?_
                repeat (first | refine seqQ_ret ?_ | refine blockQ_ret ?_ | refine loopQ_ret ?_ | refine cutQ_ret ?_)
                exact retT (rs := []) (vs := []) (by kernel_rfl) (trivial) (by kernel_rfl) ⟨rfl, h⟩
              · replace h := h.2 hb
                refine wpE_skip (by kernel_rfl) ?_
                change WpE _ _ c_logfile_records_1_65 _ _ _
                refine wpE_region (id := 3) (ops := r_logfile_records_1_65) (by kernel_rfl) ?_
                refine reg_run [.plain] 1 [(0, [], yield), (1, [], Value.pointer t1), (2, [], Value.pointer t2), (4, [], Value.pointer v12), (17, [], Value.pointer v12)] (by kernel_rfl) (by kernel_rfl) ?_
                refine reg_enter (op := (Go.Op.call (Go.Call.mk (Go.Callee.value (Go.Operand.func 39)) #[(Go.Operand.tmp 17)] #[82]))) (ty := 3) (dst := some 18) 39 #[Value.pointer v12] (by kernel_rfl) (fun ww => by kernel_rfl) (Calls.mono h ?_)
                rintro _ w20 ⟨v18, rfl, h⟩
                refine ⟨_, rfl, ?_⟩
                refine reg_run [.plain] 3 [(0, [], yield), (1, [], Value.pointer t1), (2, [], Value.pointer t2), (4, [], Value.pointer v12), (5, [], Value.int .i64 v18)] (by kernel_rfl) (by kernel_rfl) ?_
                refine reg_end [(0, yield), (1, Value.pointer t1), (2, Value.pointer t2), (4, Value.pointer v12), (5, Value.int .i64 v18)] (by kernel_rfl) (by kernel_rfl) ?_
                have hb_ := again__h _ _ h
                exact ⟨_, hb_.2, [(0, yield), (1, Value.pointer t1), (2, Value.pointer t2), (4, Value.pointer v12), (5, Value.int .i64 v18)], Sub.mk (by kernel_rfl), v18, rfl, hb_.1, rfl⟩
    · replace h := h.2 hb
      refine wpE_exit (id := 0) (by kernel_rfl) ?_
      repeat (first | refine seqQ_exit ?_ | refine loopQ_exit ?_ | refine cutQ_exit ?_ | refine blockQ_hit ?_ | refine blockQ_miss (by kernel_rfl) ?_)
      refine retQ_normal ?_
      repeat (first | refine seqQ_ret ?_ | refine blockQ_ret ?_ | refine loopQ_ret ?_ | refine cutQ_ret ?_)
      exact retT (rs := []) (vs := []) (by kernel_rfl) (trivial) (by kernel_rfl) ⟨rfl, h⟩
  · rintro e w' ⟨v, rfl, rfl, h⟩; exact ⟨rfl, h⟩
end Go.Proofs.Ytpdegdnigcnjiaa
