/- WRITTEN BY PROGRAM (dec.py): for each Go function the clean formula F, the call's contract C, and the proof S that F gives C. -/
import Derived.Test.YtfmkemmgakdddaaGreatDoorRows
import Derived.Test.YtfmkemmgakdddaaGreatDoorGF
namespace Go.Proofs.YtfmkemmgakdddaaGreatDoor
open Go
set_option linter.unusedVariables false
set_option maxRecDepth 100000
set_option maxHeartbeats 4000000

/-! ### towpath/towpathlaw01.Beyond (function 4) -/
noncomputable def c4_0 := (Tryz.f4.body).getD Code.skip
noncomputable def c4_3 := Code.r c4_0
noncomputable def c4_6 := Code.r c4_3
noncomputable def c4_7 := Code.l c4_6
noncomputable def c4_10 := Code.r c4_7
noncomputable def c4_11 := Code.l c4_10
noncomputable def c4_12 := Code.l c4_11
noncomputable def c4_13 := Code.l c4_12
noncomputable def c4_16 := Code.r c4_13
noncomputable def c4_17 := Code.l c4_16
noncomputable def c4_18 := Code.r c4_16
noncomputable def c4_19 := Code.r c4_12
noncomputable def c4_20 := Code.l c4_19
noncomputable def c4_21 := Code.l c4_20
noncomputable def c4_22 := Code.l c4_21
noncomputable def r4_22 := Code.ops c4_22
noncomputable def c4_24 := Code.r c4_21
noncomputable def c4_27 := Code.r c4_24
noncomputable def c4_28 := Code.l c4_27
noncomputable def c4_31 := Code.r c4_28
noncomputable def c4_32 := Code.r c4_27
noncomputable def c4_33 := Code.r c4_19
noncomputable def r4_33 := Code.ops c4_33
noncomputable def c4_35 := Code.r c4_6
noncomputable def c4_38 := Code.r c4_35

theorem S_towpathlaw01_Beyond {l_ : Slc} {w : World} {R : Bool → World → Prop} (h : F_towpathlaw01_Beyond l_ R w) : C_towpathlaw01_Beyond l_ w R := by
  unfold F_towpathlaw01_Beyond at h
  unfold C_towpathlaw01_Beyond
  refine Calls.mono (calls_of_wpE (args := [Value.slice l_.ptr l_.len l_.cap]) (R := fun v w' => ∃ (r0 : Bool), v = Value.bool r0 ∧ R r0 w') Tryz.func4 (c := c4_0) (by kernel_rfl) 19 (by kernel_rfl) (by kernel_rfl) [(0, Value.slice l_.ptr l_.len l_.cap)] (by kernel_rfl) ?_) ?_
  · refine Zp c4_3 P1 [(0, .slice l_.ptr l_.len l_.cap)] ?_
    refine Zp c4_6 P1 [(0, .slice l_.ptr l_.len l_.cap), (3, .int .i64 0)] ?_
    refine Zs c4_7 c4_35 ?_
    refine Zp c4_10 P1 [(0, .slice l_.ptr l_.len l_.cap), (3, .int .i64 0), (4, .int .i64 0)] ?_
    refine Zb 0 c4_11 ?_
    obtain ⟨I, μ, h0, hr⟩ := h
    refine wpE_loop (x := c4_12) (by kernel_rfl) (fun m l w => ∃ (n_ : Int) (i : Int), l = [(0, Value.slice l_.ptr l_.len l_.cap), (3, Value.int .i64 n_), (4, Value.int .i64 i)] ∧ I n_ i w ∧ μ n_ i w = m) (l' := [(0, Value.slice l_.ptr l_.len l_.cap), (3, Value.int .i64 0), (4, Value.int .i64 0)]) (Sub.mk (by kernel_rfl)) ⟨0, 0, rfl, h0, rfl⟩ ?_
    rintro _ _ w1 ⟨n_, i, rfl, hI, rfl⟩
    obtain ⟨again_, again__h, h⟩ : ∃ again_ : Int → Int → World → Prop, (∀ n_' i' w', again_ n_' i' w' → I n_' i' w' ∧ μ n_' i' w' < μ n_ i w1) ∧ F_towpathlaw01_Beyond_L0 l_ R again_ n_ i w1 := ⟨_, fun _ _ _ h => h, hr n_ i w1 hI⟩
    clear h0 hI
    unfold F_towpathlaw01_Beyond_L0 at h
    refine Zs c4_13 c4_19 ?_
    refine Zp c4_16 P4 [(0, .slice l_.ptr l_.len l_.cap), (3, .int .i64 n_), (4, .int .i64 i), (8, .bool (decide (i < ((l_.len : Nat) : Int))))] ?_
    refine Zc 8 (decide (i < ((l_.len : Nat) : Int))) c4_17 c4_18 (fun hb => ?_) (fun hb => ?_)
    · replace h := h.1 hb
      refine wpE_skip (by kernel_rfl) ?_
      change WpE _ _ c4_19 _ _ _
      refine Zs c4_20 c4_33 ?_
      refine Zb 1 c4_21 ?_
      refine Zt r4_22 c4_24 ?_
      refine Zn P3 3 [(0, [], .slice l_.ptr l_.len l_.cap), (3, [], .int .i64 n_), (4, [], .int .i64 i), (11, [], .int .i64 n_), (12, [], .slice l_.ptr l_.len l_.cap), (13, [], .int .i64 i)] ?_
      obtain ⟨hp_7, h⟩ := h
      refine Zv (fun pp => [(0, [], .slice l_.ptr l_.len l_.cap), (3, [], .int .i64 n_), (4, [], .int .i64 i), (11, [], .int .i64 n_), (12, [], .slice pp l_.len l_.cap), (13, [], .int .i64 i)]) hp_7 ?_
      obtain ⟨h0, h1, h⟩ := h
      refine Zi 54 3 12 13 (pblk l_.ptr) (poff l_.ptr) l_.len l_.cap i 14 0 h0 h1 ?_
      refine Zn [] 4 [(0, [], .slice l_.ptr l_.len l_.cap), (3, [], .int .i64 n_), (4, [], .int .i64 i), (11, [], .int .i64 n_), (14, [], .pointer (some ⟨(pblk l_.ptr), (poff l_.ptr) + i.toNat, none⟩))] ?_
      obtain ⟨v15, hc, h⟩ := h
      refine Zl 3 14 (pblk l_.ptr) ((poff l_.ptr) + i.toNat) 3 15 hc ?_
      refine Zf P2 [(0, .slice l_.ptr l_.len l_.cap), (3, .int .i64 (IntKind.i64.wrap (n_ + v15))), (4, .int .i64 i)] ?_
      change WpE _ _ c4_24 _ _ _
      refine Zp c4_27 P2 [(0, .slice l_.ptr l_.len l_.cap), (3, .int .i64 (IntKind.i64.wrap (n_ + v15))), (4, .int .i64 i), (18, .bool (decide ((IntKind.i64.wrap (n_ + v15)) > 1048576)))] ?_
      refine Zc 18 (decide ((IntKind.i64.wrap (n_ + v15)) > 1048576)) c4_28 c4_32 (fun hb => ?_) (fun hb => ?_)
      · replace h := h.1 hb
        refine Zp c4_31 P1 [(2, .bool true)] ?_
        refine wpE_ret (by kernel_rfl) ?_
        repeat (first | refine seqQ_ret ?_ | refine blockQ_ret ?_ | refine loopQ_ret ?_ | refine cutQ_ret ?_)
        exact retS (rs := [(ResultVar.tmp 2)]) (v := Value.bool true) (by kernel_rfl) (⟨by kernel_rfl, trivial⟩) ⟨true, rfl, h⟩
      · replace h := h.2 hb
        refine wpE_skip (by kernel_rfl) ?_
        change WpE _ _ c4_33 _ _ _
        refine Zr r4_33 ?_
        refine Zf P3 [(0, .slice l_.ptr l_.len l_.cap), (3, .int .i64 (IntKind.i64.wrap (n_ + v15))), (4, .int .i64 (IntKind.i64.wrap (i + 1)))] ?_
        have hb_ := again__h _ _ _ h
        exact ⟨_, hb_.2, [(0, Value.slice l_.ptr l_.len l_.cap), (3, Value.int .i64 (IntKind.i64.wrap (n_ + v15))), (4, Value.int .i64 (IntKind.i64.wrap (i + 1)))], Sub.mk (by kernel_rfl), (IntKind.i64.wrap (n_ + v15)), (IntKind.i64.wrap (i + 1)), rfl, hb_.1, rfl⟩
    · replace h := h.2 hb
      refine wpE_exit (id := 0) (by kernel_rfl) ?_
      change WpE _ _ c4_35 _ _ _
      refine Zp c4_38 P1 [(2, .bool false)] ?_
      refine wpE_ret (by kernel_rfl) ?_
      repeat (first | refine seqQ_ret ?_ | refine blockQ_ret ?_ | refine loopQ_ret ?_ | refine cutQ_ret ?_)
      exact retS (rs := [(ResultVar.tmp 2)]) (v := Value.bool false) (by kernel_rfl) (⟨by kernel_rfl, trivial⟩) ⟨false, rfl, h⟩
  · rintro e w' ⟨v, rfl, r0, rfl, h⟩; exact ⟨r0, rfl, h⟩

/-! ### towpath/towpathlaw01.TxnSize (function 5) -/
noncomputable def c5_0 := (Tryz.f5.body).getD Code.skip
noncomputable def c5_1 := Code.l c5_0
noncomputable def r5_1 := Code.ops c5_1
noncomputable def c5_3 := Code.r c5_0
noncomputable def c5_4 := Code.l c5_3
noncomputable def r5_4 := Code.ops c5_4
noncomputable def c5_6 := Code.r c5_3

theorem S_towpathlaw01_TxnSize {t_ : T_api_Txn} {w : World} {R : Int → World → Prop} (h : F_towpathlaw01_TxnSize t_ R w) : C_towpathlaw01_TxnSize t_ w R := by
  unfold F_towpathlaw01_TxnSize at h
  unfold C_towpathlaw01_TxnSize
  refine Calls.mono (calls_of_wpE (args := [Value.agg #[Value.int .i64 t_.Number, Value.slice t_.Writes.ptr t_.Writes.len t_.Writes.cap]]) (R := fun v w' => ∃ (r0 : Int), v = Value.int .i64 r0 ∧ R r0 w') Tryz.func5 (c := c5_0) (by kernel_rfl) 7 (by kernel_rfl) (by kernel_rfl) [(0, Value.agg #[Value.int .i64 t_.Number, Value.slice t_.Writes.ptr t_.Writes.len t_.Writes.cap])] (by kernel_rfl) ?_) ?_
  · refine Zt r5_1 c5_3 ?_
    refine Zn [] 0 [(0, [], .agg #[.int .i64 t_.Number, .slice t_.Writes.ptr t_.Writes.len t_.Writes.cap])] ?_
    refine Zw (some 1) (fun bb => .pointer (some ⟨bb, 0, none⟩)) (Obj.cells ([.int .i64 t_.Number, .slice t_.Writes.ptr t_.Writes.len t_.Writes.cap]).toArray ty_api_Txn (0, 0)) (fun b_ w1 hb hw => ?_)
    replace h := h b_ w1 hb hw
    clear hb hw
    refine Zf P1 [(1, .pointer (some ⟨b_, 0, none⟩))] ?_
    change WpE _ _ c5_3 _ _ _
    refine Zt r5_4 c5_6 ?_
    refine Zn P1 1 [(3, [], .pointer (some ⟨b_, 1, none⟩))] ?_
    obtain ⟨v4, hc, h⟩ := h
    refine Zl 22 3 b_ 1 22 4 hc ?_
    refine Zn [] 2 [(4, [], .slice v4.ptr v4.len v4.cap)] ?_
    refine Zm 17 #[.slice v4.ptr v4.len v4.cap] (some 5) (Calls.mono h ?_)
    rintro _ w2 ⟨v5, rfl, h⟩
    refine ⟨_, rfl, ?_⟩
    refine Zf P2 [(2, .int .i64 (IntKind.i64.wrap (1 + v5)))] ?_
    change WpE _ _ c5_6 _ _ _
    refine wpE_ret (by kernel_rfl) ?_
    repeat (first | refine seqQ_ret ?_ | refine blockQ_ret ?_ | refine loopQ_ret ?_ | refine cutQ_ret ?_)
    exact retS (rs := [(ResultVar.tmp 2)]) (v := Value.int .i64 (IntKind.i64.wrap (1 + v5))) (by kernel_rfl) (⟨by kernel_rfl, trivial⟩) ⟨(IntKind.i64.wrap (1 + v5)), rfl, h⟩
  · rintro e w' ⟨v, rfl, r0, rfl, h⟩; exact ⟨r0, rfl, h⟩

/-! ### towpath/towpathlaw01.TwinTxn (function 6) -/
noncomputable def c6_0 := (Tryz.f6.body).getD Code.skip
noncomputable def c6_1 := Code.l c6_0
noncomputable def r6_1 := Code.ops c6_1
noncomputable def c6_3 := Code.r c6_0
noncomputable def c6_4 := Code.l c6_3
noncomputable def r6_4 := Code.ops c6_4
noncomputable def c6_6 := Code.r c6_3
def o_towpathlaw01_TwinTxn_4 : List Nat := [0, 1, 2, 3, 4, 5, 6]

theorem S_towpathlaw01_TwinTxn {x : T_api_Txn} {w : World} {R : T_api_Txn → World → Prop} (h : F_towpathlaw01_TwinTxn x R w) : C_towpathlaw01_TwinTxn x w R := by
  unfold F_towpathlaw01_TwinTxn at h
  unfold C_towpathlaw01_TwinTxn
  refine Calls.mono (calls_of_wpE (args := [Value.agg #[Value.int .i64 x.Number, Value.slice x.Writes.ptr x.Writes.len x.Writes.cap]]) (R := fun v w' => ∃ (r0 : T_api_Txn), v = Value.agg #[Value.int .i64 r0.Number, Value.slice r0.Writes.ptr r0.Writes.len r0.Writes.cap] ∧ R r0 w') Tryz.func6 (c := c6_0) (by kernel_rfl) 9 (by kernel_rfl) (by kernel_rfl) [(0, Value.agg #[Value.int .i64 x.Number, Value.slice x.Writes.ptr x.Writes.len x.Writes.cap])] (by kernel_rfl) ?_) ?_
  · refine Zt r6_1 c6_3 ?_
    refine Zn [] 0 [(0, [], .agg #[.int .i64 x.Number, .slice x.Writes.ptr x.Writes.len x.Writes.cap])] ?_
    refine Zw (some 1) (fun bb => .pointer (some ⟨bb, 0, none⟩)) (Obj.cells ([.int .i64 x.Number, .slice x.Writes.ptr x.Writes.len x.Writes.cap]).toArray ty_api_Txn (0, 0)) (fun b_ w1 hb hw => ?_)
    replace h := h b_ w1 hb hw
    clear hb hw
    refine Zn [] 1 [(1, [], .pointer (some ⟨b_, 0, none⟩))] ?_
    refine Zw (some 2) (fun bb => .pointer (some ⟨bb, 0, none⟩)) (Obj.cells ([.int .i64 0, .slice none 0 0]).toArray ty_api_Txn (0, 0)) (fun b_1 w2 hb hw => ?_)
    replace h := h b_1 w2 hb hw
    clear hb hw
    refine Ze [(1, .pointer (some ⟨b_, 0, none⟩)), (2, .pointer (some ⟨b_1, 0, none⟩))] ?_
    change WpE _ _ c6_3 _ _ _
    refine Zs c6_4 c6_6 ?_
    refine wpE_mixregion (id := 1) (ops := r6_4) o_towpathlaw01_TwinTxn_4 (by kernel_rfl) (by kernel_rfl) (by kernel_rfl) (by kernel_rfl) (fun w3 hw => ?_)
    replace h := h w3 hw
    clear hw
    refine mreg_run P1 1 [(1, [], Value.pointer (some ⟨b_, 0, none⟩)), (2, [], Value.pointer (some ⟨b_1, 0, none⟩)), (3, [], Value.pointer (some ⟨b_, 0, none⟩))] (by kernel_rfl) (by kernel_rfl) ?_
    obtain ⟨v4, hc, h⟩ := h
    refine mreg_load1 (i := 1) (by kernel_rfl) (t := 3) (a := (Operand.tmp 3)) (b := b_) (o := 0) (ty := 3) (dst := some 4) (by kernel_rfl) (by kernel_rfl) (by kernel_rfl) hc ?_
    refine mreg_run P1 3 [(2, [], Value.pointer (some ⟨b_1, 0, none⟩)), (4, [], Value.int .i64 v4), (5, [], Value.pointer (some ⟨b_, 1, none⟩))] (by kernel_rfl) (by kernel_rfl) ?_
    obtain ⟨v6, hc, h⟩ := h
    refine mreg_load1 (i := 3) (by kernel_rfl) (t := 22) (a := (Operand.tmp 5)) (b := b_) (o := 1) (ty := 22) (dst := some 6) (by kernel_rfl) (by kernel_rfl) (by kernel_rfl) hc ?_
    refine mreg_run [] 4 [(2, [], Value.pointer (some ⟨b_1, 0, none⟩)), (4, [], Value.int .i64 v4), (6, [], Value.slice v6.ptr v6.len v6.cap)] (by kernel_rfl) (by kernel_rfl) ?_
    refine mreg_enter (op := (Op.call (Call.mk (Callee.value (Operand.func 18)) #[(Operand.tmp 6)] #[22]))) (ty := 22) (dst := some 7) 4 [3, 2] [(1, fun w' => w'.cell? ⟨b_, 0, none⟩ = some (Value.int .i64 v4))] 18 #[Value.slice v6.ptr v6.len v6.cap] (by kernel_rfl) (by kernel_rfl) (by kernel_rfl) (by kernel_rfl) (by kernel_rfl) (fun ww => by kernel_rfl) (Calls.mono h ?_)
    rintro _ w4 ⟨v7, rfl, h⟩
    obtain ⟨hk0, h⟩ := h
    refine ⟨_, rfl, ⟨hk0, trivial⟩, ?_⟩
    refine mreg_run P1 6 [(2, [], Value.pointer (some ⟨b_1, 0, none⟩)), (8, [], Value.agg #[Value.int .i64 v4, Value.slice v7.ptr v7.len v7.cap])] (by kernel_rfl) (by kernel_rfl) ?_
    obtain ⟨hc, h⟩ := h
    refine mreg_store (t := 24) (a := (Operand.tmp 2)) (x := (Operand.tmp 8)) (b := b_1) (o := 0) (k := 2) (ty := 0) (dst := none) 6 [0, 1, 2, 3, 4, 5] [] [Value.int .i64 v4, Value.slice v7.ptr v7.len v7.cap] (by kernel_rfl) (by kernel_rfl) (by kernel_rfl) (by kernel_rfl) (by kernel_rfl) (by kernel_rfl) (by kernel_rfl) (by kernel_rfl) (by kernel_rfl) (by kernel_rfl) hc (fun w5 hw => ?_)
    replace h := h w5 hw
    clear hw
    refine ⟨trivial, ?_⟩
    refine mreg_end [(2, Value.pointer (some ⟨b_1, 0, none⟩))] (by kernel_rfl) (by kernel_rfl) (by kernel_rfl) ?_
    change WpE _ _ c6_6 _ _ _
    refine wpE_ret (by kernel_rfl) ?_
    obtain ⟨res, hc_res, h⟩ := h
    repeat (first | refine seqQ_ret ?_ | refine blockQ_ret ?_ | refine loopQ_ret ?_ | refine cutQ_ret ?_)
    exact retS (rs := [(ResultVar.cell 2 24)]) (v := Value.agg #[Value.int .i64 res.Number, Value.slice res.Writes.ptr res.Writes.len res.Writes.cap]) (by kernel_rfl) (⟨b_1, 0, [Value.int .i64 res.Number, Value.slice res.Writes.ptr res.Writes.len res.Writes.cap], by kernel_rfl, hc_res, (sizeP_of (k := 2) (by kernel_rfl) (by kernel_rfl)), .inl ⟨by kernel_rfl, rfl⟩, trivial⟩) ⟨res, rfl, h⟩
  · rintro e w' ⟨v, rfl, r0, rfl, h⟩; exact ⟨r0, rfl, h⟩

/-! ### towpath/towpathlaw01.SameBytes (function 12) -/
noncomputable def c12_0 := (Tryz.f12.body).getD Code.skip
noncomputable def c12_3 := Code.r c12_0
noncomputable def c12_4 := Code.l c12_3
noncomputable def c12_7 := Code.r c12_4
noncomputable def c12_8 := Code.l c12_7
noncomputable def c12_11 := Code.r c12_8
noncomputable def c12_12 := Code.r c12_7
noncomputable def c12_13 := Code.r c12_3
noncomputable def c12_14 := Code.l c12_13
noncomputable def c12_17 := Code.r c12_14
noncomputable def c12_18 := Code.l c12_17
noncomputable def c12_19 := Code.l c12_18
noncomputable def c12_20 := Code.l c12_19
noncomputable def c12_23 := Code.r c12_20
noncomputable def c12_24 := Code.l c12_23
noncomputable def c12_25 := Code.r c12_23
noncomputable def c12_26 := Code.r c12_19
noncomputable def c12_27 := Code.l c12_26
noncomputable def c12_28 := Code.l c12_27
noncomputable def c12_29 := Code.l c12_28
noncomputable def r12_29 := Code.ops c12_29
noncomputable def c12_31 := Code.r c12_28
noncomputable def c12_32 := Code.l c12_31
noncomputable def c12_35 := Code.r c12_32
noncomputable def c12_36 := Code.r c12_31
noncomputable def c12_37 := Code.r c12_26
noncomputable def r12_37 := Code.ops c12_37
noncomputable def c12_39 := Code.r c12_13
noncomputable def c12_42 := Code.r c12_39

theorem S_towpathlaw01_SameBytes {a_ : Slc} {b_ : Slc} {w : World} {R : Bool → World → Prop} (h : F_towpathlaw01_SameBytes a_ b_ R w) : C_towpathlaw01_SameBytes a_ b_ w R := by
  unfold F_towpathlaw01_SameBytes at h
  unfold C_towpathlaw01_SameBytes
  refine Calls.mono (calls_of_wpE (args := [Value.slice a_.ptr a_.len a_.cap, Value.slice b_.ptr b_.len b_.cap]) (R := fun v w' => ∃ (r0 : Bool), v = Value.bool r0 ∧ R r0 w') Tryz.func12 (c := c12_0) (by kernel_rfl) 26 (by kernel_rfl) (by kernel_rfl) [(0, Value.slice a_.ptr a_.len a_.cap), (1, Value.slice b_.ptr b_.len b_.cap)] (by kernel_rfl) ?_) ?_
  · refine Zp c12_3 P1 [(0, .slice a_.ptr a_.len a_.cap), (1, .slice b_.ptr b_.len b_.cap)] ?_
    refine Zs c12_4 c12_13 ?_
    refine Zp c12_7 (Pl 5) [(0, .slice a_.ptr a_.len a_.cap), (1, .slice b_.ptr b_.len b_.cap), (10, .bool (((a_.len : Nat) : Int) != ((b_.len : Nat) : Int)))] ?_
    refine Zc 10 (((a_.len : Nat) : Int) != ((b_.len : Nat) : Int)) c12_8 c12_12 (fun hb => ?_) (fun hb => ?_)
    · replace h := h.1 hb
      refine Zp c12_11 P1 [(4, .bool false)] ?_
      refine wpE_ret (by kernel_rfl) ?_
      repeat (first | refine seqQ_ret ?_ | refine blockQ_ret ?_ | refine loopQ_ret ?_ | refine cutQ_ret ?_)
      exact retS (rs := [(ResultVar.tmp 4)]) (v := Value.bool false) (by kernel_rfl) (⟨by kernel_rfl, trivial⟩) ⟨false, rfl, h⟩
    · replace h := h.2 hb
      refine wpE_skip (by kernel_rfl) ?_
      change WpE _ _ c12_13 _ _ _
      refine Zs c12_14 c12_39 ?_
      refine Zp c12_17 P1 [(0, .slice a_.ptr a_.len a_.cap), (1, .slice b_.ptr b_.len b_.cap), (5, .int .i64 0)] ?_
      refine Zb 0 c12_18 ?_
      obtain ⟨I, μ, h0, hr⟩ := h
      refine wpE_loop (x := c12_19) (by kernel_rfl) (fun m l w => ∃ (i : Int), l = [(0, Value.slice a_.ptr a_.len a_.cap), (1, Value.slice b_.ptr b_.len b_.cap), (5, Value.int .i64 i)] ∧ I i w ∧ μ i w = m) (l' := [(0, Value.slice a_.ptr a_.len a_.cap), (1, Value.slice b_.ptr b_.len b_.cap), (5, Value.int .i64 0)]) (Sub.mk (by kernel_rfl)) ⟨0, rfl, h0, rfl⟩ ?_
      rintro _ _ w1 ⟨i, rfl, hI, rfl⟩
      obtain ⟨again_, again__h, h⟩ : ∃ again_ : Int → World → Prop, (∀ i' w', again_ i' w' → I i' w' ∧ μ i' w' < μ i w1) ∧ F_towpathlaw01_SameBytes_L0 a_ b_ R again_ i w1 := ⟨_, fun _ _ h => h, hr i w1 hI⟩
      clear h0 hI
      unfold F_towpathlaw01_SameBytes_L0 at h
      refine Zs c12_20 c12_26 ?_
      refine Zp c12_23 P4 [(0, .slice a_.ptr a_.len a_.cap), (1, .slice b_.ptr b_.len b_.cap), (5, .int .i64 i), (14, .bool (decide (i < ((a_.len : Nat) : Int))))] ?_
      refine Zc 14 (decide (i < ((a_.len : Nat) : Int))) c12_24 c12_25 (fun hb => ?_) (fun hb => ?_)
      · replace h := h.1 hb
        refine wpE_skip (by kernel_rfl) ?_
        change WpE _ _ c12_26 _ _ _
        refine Zs c12_27 c12_37 ?_
        refine Zb 1 c12_28 ?_
        refine Zs c12_29 c12_31 ?_
        refine wpE_drawregion (id := 6) (ops := r12_29) (by kernel_rfl) (by kernel_rfl) (by kernel_rfl) ?_
        refine qreg_run P2 2 [(0, [], Value.slice a_.ptr a_.len a_.cap), (1, [], Value.slice b_.ptr b_.len b_.cap), (5, [], Value.int .i64 i), (17, [], Value.slice a_.ptr a_.len a_.cap), (18, [], Value.int .i64 i)] (by kernel_rfl) (by kernel_rfl) ?_
        obtain ⟨hp_14, h⟩ := h
        refine qreg_conv [(0, [], Value.slice a_.ptr a_.len a_.cap), (1, [], Value.slice b_.ptr b_.len b_.cap), (5, [], Value.int .i64 i), (17, [], Value.slice (some ⟨(pblk a_.ptr), (poff a_.ptr), none⟩) a_.len a_.cap), (18, [], Value.int .i64 i)] (congrArg (fun pp => ([(0, [], Value.slice a_.ptr a_.len a_.cap), (1, [], Value.slice b_.ptr b_.len b_.cap), (5, [], Value.int .i64 i), (17, [], Value.slice pp a_.len a_.cap), (18, [], Value.int .i64 i)] : GEnv)) hp_14) ?_
        obtain ⟨h0, h1, h⟩ := h
        refine qreg_indexS1 (t := 28) (e := 5) (x := (Operand.tmp 17)) (ix := (Operand.tmp 18)) (b := (pblk a_.ptr)) (o := (poff a_.ptr)) (l := a_.len) (c := a_.cap) (k := .i64) (j := i) (ty := 0) (dst := some 19) (by kernel_rfl) (by kernel_rfl) (by kernel_rfl) (by kernel_rfl) (by kernel_rfl) h0 h1 ?_
        refine qreg_run [] 3 [(0, [], Value.slice a_.ptr a_.len a_.cap), (1, [], Value.slice b_.ptr b_.len b_.cap), (5, [], Value.int .i64 i), (19, [], Value.pointer (some ⟨(pblk a_.ptr), (poff a_.ptr) + i.toNat, none⟩))] (by kernel_rfl) (by kernel_rfl) ?_
        obtain ⟨v20, hc, h⟩ := h
        refine qreg_load1 (t := 5) (a := (Operand.tmp 19)) (b := (pblk a_.ptr)) (o := ((poff a_.ptr) + i.toNat)) (ty := 5) (dst := some 20) (by kernel_rfl) (by kernel_rfl) (by kernel_rfl) hc ?_
        refine qreg_run P2 6 [(0, [], Value.slice a_.ptr a_.len a_.cap), (1, [], Value.slice b_.ptr b_.len b_.cap), (5, [], Value.int .i64 i), (20, [], Value.int .u8 v20), (21, [], Value.slice b_.ptr b_.len b_.cap), (22, [], Value.int .i64 i)] (by kernel_rfl) (by kernel_rfl) ?_
        obtain ⟨hp_15, h⟩ := h
        refine qreg_conv [(0, [], Value.slice a_.ptr a_.len a_.cap), (1, [], Value.slice b_.ptr b_.len b_.cap), (5, [], Value.int .i64 i), (20, [], Value.int .u8 v20), (21, [], Value.slice (some ⟨(pblk b_.ptr), (poff b_.ptr), none⟩) b_.len b_.cap), (22, [], Value.int .i64 i)] (congrArg (fun pp => ([(0, [], Value.slice a_.ptr a_.len a_.cap), (1, [], Value.slice b_.ptr b_.len b_.cap), (5, [], Value.int .i64 i), (20, [], Value.int .u8 v20), (21, [], Value.slice pp b_.len b_.cap), (22, [], Value.int .i64 i)] : GEnv)) hp_15) ?_
        obtain ⟨h0, h1, h⟩ := h
        refine qreg_indexS1 (t := 28) (e := 5) (x := (Operand.tmp 21)) (ix := (Operand.tmp 22)) (b := (pblk b_.ptr)) (o := (poff b_.ptr)) (l := b_.len) (c := b_.cap) (k := .i64) (j := i) (ty := 0) (dst := some 23) (by kernel_rfl) (by kernel_rfl) (by kernel_rfl) (by kernel_rfl) (by kernel_rfl) h0 h1 ?_
        refine qreg_run [] 7 [(0, [], Value.slice a_.ptr a_.len a_.cap), (1, [], Value.slice b_.ptr b_.len b_.cap), (5, [], Value.int .i64 i), (20, [], Value.int .u8 v20), (23, [], Value.pointer (some ⟨(pblk b_.ptr), (poff b_.ptr) + i.toNat, none⟩))] (by kernel_rfl) (by kernel_rfl) ?_
        obtain ⟨v24, hc, h⟩ := h
        refine qreg_load1 (t := 5) (a := (Operand.tmp 23)) (b := (pblk b_.ptr)) (o := ((poff b_.ptr) + i.toNat)) (ty := 5) (dst := some 24) (by kernel_rfl) (by kernel_rfl) (by kernel_rfl) hc ?_
        refine qreg_run P1 9 [(0, [], Value.slice a_.ptr a_.len a_.cap), (1, [], Value.slice b_.ptr b_.len b_.cap), (5, [], Value.int .i64 i), (25, [], Value.bool (v20 != v24))] (by kernel_rfl) (by kernel_rfl) ?_
        refine qreg_end [(0, Value.slice a_.ptr a_.len a_.cap), (1, Value.slice b_.ptr b_.len b_.cap), (5, Value.int .i64 i), (25, Value.bool (v20 != v24))] (by kernel_rfl) (by kernel_rfl) (fun w2 hw => ?_)
        replace h := h w2 hw
        clear hw
        change WpE _ _ c12_31 _ _ _
        refine Zc 25 (v20 != v24) c12_32 c12_36 (fun hb => ?_) (fun hb => ?_)
        · replace h := h.1 hb
          refine Zp c12_35 P1 [(4, .bool false)] ?_
          refine wpE_ret (by kernel_rfl) ?_
          repeat (first | refine seqQ_ret ?_ | refine blockQ_ret ?_ | refine loopQ_ret ?_ | refine cutQ_ret ?_)
          exact retS (rs := [(ResultVar.tmp 4)]) (v := Value.bool false) (by kernel_rfl) (⟨by kernel_rfl, trivial⟩) ⟨false, rfl, h⟩
        · replace h := h.2 hb
          refine wpE_skip (by kernel_rfl) ?_
          change WpE _ _ c12_37 _ _ _
          refine Zr r12_37 ?_
          refine Zf P3 [(0, .slice a_.ptr a_.len a_.cap), (1, .slice b_.ptr b_.len b_.cap), (5, .int .i64 (IntKind.i64.wrap (i + 1)))] ?_
          have hb_ := again__h _ _ h
          exact ⟨_, hb_.2, [(0, Value.slice a_.ptr a_.len a_.cap), (1, Value.slice b_.ptr b_.len b_.cap), (5, Value.int .i64 (IntKind.i64.wrap (i + 1)))], Sub.mk (by kernel_rfl), (IntKind.i64.wrap (i + 1)), rfl, hb_.1, rfl⟩
      · replace h := h.2 hb
        refine wpE_exit (id := 0) (by kernel_rfl) ?_
        change WpE _ _ c12_39 _ _ _
        refine Zp c12_42 P1 [(4, .bool true)] ?_
        refine wpE_ret (by kernel_rfl) ?_
        repeat (first | refine seqQ_ret ?_ | refine blockQ_ret ?_ | refine loopQ_ret ?_ | refine cutQ_ret ?_)
        exact retS (rs := [(ResultVar.tmp 4)]) (v := Value.bool true) (by kernel_rfl) (⟨by kernel_rfl, trivial⟩) ⟨true, rfl, h⟩
  · rintro e w' ⟨v, rfl, r0, rfl, h⟩; exact ⟨r0, rfl, h⟩

/-! ### towpath/towpathlaw01.LeftTxn (function 13) -/
noncomputable def c13_0 := (Tryz.f13.body).getD Code.skip
noncomputable def c13_1 := Code.l c13_0
noncomputable def r13_1 := Code.ops c13_1
noncomputable def c13_3 := Code.r c13_0
noncomputable def c13_4 := Code.l c13_3
noncomputable def r13_4 := Code.ops c13_4
noncomputable def c13_6 := Code.r c13_3

theorem S_towpathlaw01_LeftTxn {t_ : T_api_Txn} {x : T_api_Txn} {w : World} {R : Bool → World → Prop} (h : F_towpathlaw01_LeftTxn t_ x R w) : C_towpathlaw01_LeftTxn t_ x w R := by
  unfold F_towpathlaw01_LeftTxn at h
  unfold C_towpathlaw01_LeftTxn
  refine Calls.mono (calls_of_wpE (args := [Value.agg #[Value.int .i64 t_.Number, Value.slice t_.Writes.ptr t_.Writes.len t_.Writes.cap], Value.agg #[Value.int .i64 x.Number, Value.slice x.Writes.ptr x.Writes.len x.Writes.cap]]) (R := fun v w' => ∃ (r0 : Bool), v = Value.bool r0 ∧ R r0 w') Tryz.func13 (c := c13_0) (by kernel_rfl) 17 (by kernel_rfl) (by kernel_rfl) [(0, Value.agg #[Value.int .i64 t_.Number, Value.slice t_.Writes.ptr t_.Writes.len t_.Writes.cap]), (1, Value.agg #[Value.int .i64 x.Number, Value.slice x.Writes.ptr x.Writes.len x.Writes.cap])] (by kernel_rfl) ?_) ?_
  · refine Zt r13_1 c13_3 ?_
    refine Zn [] 0 [(0, [], .agg #[.int .i64 t_.Number, .slice t_.Writes.ptr t_.Writes.len t_.Writes.cap]), (1, [], .agg #[.int .i64 x.Number, .slice x.Writes.ptr x.Writes.len x.Writes.cap])] ?_
    refine Zw (some 2) (fun bb => .pointer (some ⟨bb, 0, none⟩)) (Obj.cells ([.int .i64 t_.Number, .slice t_.Writes.ptr t_.Writes.len t_.Writes.cap]).toArray ty_api_Txn (0, 0)) (fun b_ w1 hb hw => ?_)
    replace h := h b_ w1 hb hw
    clear hb hw
    refine Zn [] 1 [(1, [], .agg #[.int .i64 x.Number, .slice x.Writes.ptr x.Writes.len x.Writes.cap]), (2, [], .pointer (some ⟨b_, 0, none⟩))] ?_
    refine Zw (some 3) (fun bb => .pointer (some ⟨bb, 0, none⟩)) (Obj.cells ([.int .i64 x.Number, .slice x.Writes.ptr x.Writes.len x.Writes.cap]).toArray ty_api_Txn (0, 0)) (fun b_1 w2 hb hw => ?_)
    replace h := h b_1 w2 hb hw
    clear hb hw
    refine Zf P1 [(2, .pointer (some ⟨b_, 0, none⟩)), (3, .pointer (some ⟨b_1, 0, none⟩))] ?_
    change WpE _ _ c13_3 _ _ _
    refine Zt r13_4 c13_6 ?_
    refine Zn P1 1 [(2, [], .pointer (some ⟨b_, 0, none⟩)), (3, [], .pointer (some ⟨b_1, 0, none⟩)), (5, [], .pointer (some ⟨b_, 0, none⟩))] ?_
    obtain ⟨v6, hc, h⟩ := h
    refine Zl 3 5 b_ 0 3 6 hc ?_
    refine Zn P1 3 [(2, [], .pointer (some ⟨b_, 0, none⟩)), (3, [], .pointer (some ⟨b_1, 0, none⟩)), (6, [], .int .i64 v6), (7, [], .pointer (some ⟨b_1, 0, none⟩))] ?_
    obtain ⟨v8, hc, h⟩ := h
    refine Zl 3 7 b_1 0 3 8 hc ?_
    refine Zn P3 7 [(3, [], .pointer (some ⟨b_1, 0, none⟩)), (10, [], .bool (v6 == v8)), (11, [(10, true)], .pointer (some ⟨b_, 1, none⟩))] ?_
    refine reg_split 10 (v6 == v8) (by kernel_rfl) (fun hb => ?_) (fun hb => ?_)
    · replace h := h.1 hb
      refine Zn [] 7 [(3, [], .pointer (some ⟨b_1, 0, none⟩)), (10, [], .bool true), (11, [], .pointer (some ⟨b_, 1, none⟩))] ?_
      refine Zn [] 7 [(3, [], .pointer (some ⟨b_1, 0, none⟩)), (10, [], .bool true), (11, [], .pointer (some ⟨b_, 1, none⟩))] ?_
      obtain ⟨v12, hc, h⟩ := h
      refine Zl 22 11 b_ 1 22 12 hc ?_
      refine Zn [.sure] 9 [(10, [], .bool true), (12, [], .slice v12.ptr v12.len v12.cap), (13, [], .pointer (some ⟨b_1, 1, none⟩))] ?_
      obtain ⟨v14, hc, h⟩ := h
      refine Zl 22 13 b_1 1 22 14 hc ?_
      refine Zn [] 10 [(10, [], .bool true), (12, [], .slice v12.ptr v12.len v12.cap), (14, [], .slice v14.ptr v14.len v14.cap)] ?_
      refine Zm 30 #[.slice v12.ptr v12.len v12.cap, .slice v14.ptr v14.len v14.cap] (some 15) (Calls.mono h ?_)
      rintro _ w3 ⟨v15, rfl, h⟩
      refine ⟨_, rfl, ?_⟩
      refine Zf P2 [(4, .bool v15)] ?_
      change WpE _ _ c13_6 _ _ _
      refine wpE_ret (by kernel_rfl) ?_
      repeat (first | refine seqQ_ret ?_ | refine blockQ_ret ?_ | refine loopQ_ret ?_ | refine cutQ_ret ?_)
      exact retS (rs := [(ResultVar.tmp 4)]) (v := Value.bool v15) (by kernel_rfl) (⟨by kernel_rfl, trivial⟩) ⟨v15, rfl, h⟩
    · replace h := h.2 hb
      refine Zn [] 7 [(3, [], .pointer (some ⟨b_1, 0, none⟩)), (10, [], .bool false), (11, [], undef)] ?_
      refine Zf [.skip, .skip, .skip, .skip, .plain, .plain] [(4, .bool false)] ?_
      change WpE _ _ c13_6 _ _ _
      refine wpE_ret (by kernel_rfl) ?_
      repeat (first | refine seqQ_ret ?_ | refine blockQ_ret ?_ | refine loopQ_ret ?_ | refine cutQ_ret ?_)
      exact retS (rs := [(ResultVar.tmp 4)]) (v := Value.bool false) (by kernel_rfl) (⟨by kernel_rfl, trivial⟩) ⟨false, rfl, h⟩
  · rintro e w' ⟨v, rfl, r0, rfl, h⟩; exact ⟨r0, rfl, h⟩

/-! ### (*towpath/towpathlaw01.Book).Txn (function 14) -/
noncomputable def c14_0 := (Tryz.f14.body).getD Code.skip
noncomputable def c14_1 := Code.l c14_0
noncomputable def r14_1 := Code.ops c14_1
noncomputable def c14_3 := Code.r c14_0
noncomputable def r14_3 := Code.ops c14_3

theorem S_towpathlaw01_Book_Txn {b_ : Option Addr} {t_ : T_api_Txn} {w : World} {R : World → Prop} (h : F_towpathlaw01_Book_Txn b_ t_ R w) : C_towpathlaw01_Book_Txn b_ t_ w R := by
  unfold F_towpathlaw01_Book_Txn at h
  unfold C_towpathlaw01_Book_Txn
  refine Calls.mono (calls_of_wpE (args := [Value.pointer b_, Value.agg #[Value.int .i64 t_.Number, Value.slice t_.Writes.ptr t_.Writes.len t_.Writes.cap]]) (R := fun v w' => v = Value.tuple #[] ∧ R w') Tryz.func14 (c := c14_0) (by kernel_rfl) 8 (by kernel_rfl) (by kernel_rfl) [(0, Value.pointer b_), (1, Value.agg #[Value.int .i64 t_.Number, Value.slice t_.Writes.ptr t_.Writes.len t_.Writes.cap])] (by kernel_rfl) ?_) ?_
  · refine Zt r14_1 c14_3 ?_
    refine Zn [] 0 [(0, [], .pointer b_), (1, [], .agg #[.int .i64 t_.Number, .slice t_.Writes.ptr t_.Writes.len t_.Writes.cap])] ?_
    refine Zw (some 3) (fun bb => .pointer (some ⟨bb, 0, none⟩)) (Obj.cells ([.int .i64 t_.Number, .slice t_.Writes.ptr t_.Writes.len t_.Writes.cap]).toArray ty_api_Txn (0, 0)) (fun b_1 w1 hb hw => ?_)
    replace h := h b_1 w1 hb hw
    clear hb hw
    refine Ze [(0, .pointer b_), (3, .pointer (some ⟨b_1, 0, none⟩))] ?_
    change WpE _ _ c14_3 _ _ _
    refine Zr r14_3 ?_
    refine Zn P2 2 [(4, [], .pointer b_), (5, [], .pointer (some ⟨b_1, 1, none⟩))] ?_
    obtain ⟨v6, hc, h⟩ := h
    refine Zl 22 5 b_1 1 22 6 hc ?_
    refine Zn [] 3 [(4, [], .pointer b_), (6, [], .slice v6.ptr v6.len v6.cap)] ?_
    refine Zm 31 #[.pointer b_, .slice v6.ptr v6.len v6.cap] (some 7) (Calls.mono h ?_)
    rintro _ w2 ⟨rfl, h⟩
    refine ⟨_, rfl, ?_⟩
    refine Ze [] ?_
    repeat (first | refine seqQ_exit ?_ | refine loopQ_exit ?_ | refine cutQ_exit ?_ | refine blockQ_hit ?_ | refine blockQ_miss (by kernel_rfl) ?_)
    refine retQ_normal ?_
    repeat (first | refine seqQ_ret ?_ | refine blockQ_ret ?_ | refine loopQ_ret ?_ | refine cutQ_ret ?_)
    exact retT (rs := []) (vs := []) (by kernel_rfl) (trivial) (by kernel_rfl) ⟨rfl, h⟩
  · rintro e w' ⟨v, rfl, rfl, h⟩; exact ⟨rfl, h⟩

/-! ### (*towpath/towpathlaw01.Book).Bytes (function 15) -/
noncomputable def c15_0 := (Tryz.f15.body).getD Code.skip
noncomputable def r15_0 := Code.ops c15_0

theorem S_towpathlaw01_Book_Bytes {b_ : Option Addr} {l_ : Slc} {w : World} {R : World → Prop} (h : F_towpathlaw01_Book_Bytes b_ l_ R w) : C_towpathlaw01_Book_Bytes b_ l_ w R := by
  unfold F_towpathlaw01_Book_Bytes at h
  unfold C_towpathlaw01_Book_Bytes
  refine Calls.mono (calls_of_wpE (args := [Value.pointer b_, Value.slice l_.ptr l_.len l_.cap]) (R := fun v w' => v = Value.tuple #[] ∧ R w') Tryz.func15 (c := c15_0) (by kernel_rfl) 7 (by kernel_rfl) (by kernel_rfl) [(0, Value.pointer b_), (1, Value.slice l_.ptr l_.len l_.cap)] (by kernel_rfl) ?_) ?_
  · refine Zr r15_0 ?_
    refine Zn P2 2 [(4, [], .pointer b_), (5, [], .slice l_.ptr l_.len l_.cap)] ?_
    refine Zm 32 #[.pointer b_, .slice l_.ptr l_.len l_.cap] (some 6) (Calls.mono h ?_)
    rintro _ w1 ⟨rfl, h⟩
    refine ⟨_, rfl, ?_⟩
    refine Ze [] ?_
    repeat (first | refine seqQ_exit ?_ | refine loopQ_exit ?_ | refine cutQ_exit ?_ | refine blockQ_hit ?_ | refine blockQ_miss (by kernel_rfl) ?_)
    refine retQ_normal ?_
    repeat (first | refine seqQ_ret ?_ | refine blockQ_ret ?_ | refine loopQ_ret ?_ | refine cutQ_ret ?_)
    exact retT (rs := []) (vs := []) (by kernel_rfl) (trivial) (by kernel_rfl) ⟨rfl, h⟩
  · rintro e w' ⟨v, rfl, rfl, h⟩; exact ⟨rfl, h⟩

/-! ### (*towpath/towpathlaw01.Book).Apart (function 16) -/
noncomputable def c16_0 := (Tryz.f16.body).getD Code.skip
noncomputable def c16_3 := Code.r c16_0
noncomputable def c16_4 := Code.l c16_3
noncomputable def r16_4 := Code.ops c16_4
noncomputable def c16_6 := Code.r c16_3
noncomputable def c16_7 := Code.l c16_6
noncomputable def r16_7 := Code.ops c16_7
noncomputable def c16_9 := Code.r c16_6
noncomputable def c16_10 := Code.l c16_9
noncomputable def r16_10 := Code.ops c16_10
noncomputable def c16_12 := Code.r c16_9
noncomputable def c16_13 := Code.l c16_12
noncomputable def r16_13 := Code.ops c16_13
noncomputable def c16_15 := Code.r c16_12
noncomputable def c16_16 := Code.l c16_15
noncomputable def r16_16 := Code.ops c16_16
noncomputable def c16_18 := Code.r c16_15
noncomputable def c16_19 := Code.l c16_18
noncomputable def r16_19 := Code.ops c16_19
noncomputable def c16_21 := Code.r c16_18
noncomputable def c16_22 := Code.l c16_21
noncomputable def r16_22 := Code.ops c16_22
noncomputable def c16_24 := Code.r c16_21
noncomputable def c16_25 := Code.l c16_24
noncomputable def r16_25 := Code.ops c16_25
noncomputable def c16_27 := Code.r c16_24
noncomputable def c16_28 := Code.l c16_27
noncomputable def r16_28 := Code.ops c16_28
noncomputable def c16_30 := Code.r c16_27
noncomputable def c16_31 := Code.l c16_30
noncomputable def r16_31 := Code.ops c16_31
noncomputable def c16_33 := Code.r c16_30
noncomputable def c16_34 := Code.l c16_33
noncomputable def r16_34 := Code.ops c16_34
noncomputable def c16_36 := Code.r c16_33
noncomputable def c16_37 := Code.l c16_36
noncomputable def r16_37 := Code.ops c16_37
noncomputable def c16_39 := Code.r c16_36
noncomputable def c16_40 := Code.l c16_39
noncomputable def r16_40 := Code.ops c16_40
noncomputable def c16_42 := Code.r c16_39
noncomputable def c16_43 := Code.l c16_42
noncomputable def r16_43 := Code.ops c16_43
noncomputable def c16_45 := Code.r c16_42
noncomputable def c16_46 := Code.l c16_45
noncomputable def r16_46 := Code.ops c16_46
noncomputable def c16_48 := Code.r c16_45
noncomputable def c16_49 := Code.l c16_48
noncomputable def r16_49 := Code.ops c16_49
noncomputable def c16_51 := Code.r c16_48
noncomputable def c16_52 := Code.l c16_51
noncomputable def r16_52 := Code.ops c16_52
noncomputable def c16_54 := Code.r c16_51
noncomputable def c16_55 := Code.l c16_54
noncomputable def r16_55 := Code.ops c16_55
noncomputable def c16_57 := Code.r c16_54
noncomputable def c16_58 := Code.l c16_57
noncomputable def r16_58 := Code.ops c16_58
noncomputable def c16_60 := Code.r c16_57
noncomputable def c16_61 := Code.l c16_60
noncomputable def r16_61 := Code.ops c16_61
noncomputable def c16_63 := Code.r c16_60
noncomputable def c16_64 := Code.l c16_63
noncomputable def r16_64 := Code.ops c16_64
noncomputable def c16_66 := Code.r c16_63
noncomputable def c16_67 := Code.l c16_66
noncomputable def r16_67 := Code.ops c16_67
noncomputable def c16_69 := Code.r c16_66
noncomputable def c16_70 := Code.l c16_69
noncomputable def r16_70 := Code.ops c16_70
noncomputable def c16_72 := Code.r c16_69

theorem S_towpathlaw01_Book_Apart {b_ : Option Addr} {w : World} {R : Bool → World → Prop} (h : F_towpathlaw01_Book_Apart b_ R w) : C_towpathlaw01_Book_Apart b_ w R := by
  unfold F_towpathlaw01_Book_Apart at h
  unfold C_towpathlaw01_Book_Apart
  refine Calls.mono (calls_of_wpE (args := [Value.pointer b_]) (R := fun v w' => ∃ (r0 : Bool), v = Value.bool r0 ∧ R r0 w') Tryz.func16 (c := c16_0) (by kernel_rfl) 89 (by kernel_rfl) (by kernel_rfl) [(0, Value.pointer b_)] (by kernel_rfl) ?_) ?_
  · refine Zp c16_3 P1 [(0, .pointer b_)] ?_
    refine Zt r16_4 c16_6 ?_
    refine Zn P1 1 [(0, [], .pointer b_), (3, [], .pointer b_)] ?_
    refine Zm 33 #[.pointer b_] (some 4) (Calls.mono h ?_)
    rintro _ w1 ⟨rfl, h⟩
    refine ⟨_, rfl, ?_⟩
    refine Ze [(0, .pointer b_)] ?_
    change WpE _ _ c16_6 _ _ _
    refine Zt r16_7 c16_9 ?_
    refine Zn P1 1 [(0, [], .pointer b_), (5, [], .pointer b_)] ?_
    refine Zm 34 #[.pointer b_] (some 6) (Calls.mono h ?_)
    rintro _ w2 ⟨rfl, h⟩
    refine ⟨_, rfl, ?_⟩
    refine Ze [(0, .pointer b_)] ?_
    change WpE _ _ c16_9 _ _ _
    refine Zt r16_10 c16_12 ?_
    refine Zn P1 1 [(0, [], .pointer b_), (7, [], .pointer b_)] ?_
    refine Zm 35 #[.pointer b_] (some 8) (Calls.mono h ?_)
    rintro _ w3 ⟨rfl, h⟩
    refine ⟨_, rfl, ?_⟩
    refine Ze [(0, .pointer b_)] ?_
    change WpE _ _ c16_12 _ _ _
    refine Zt r16_13 c16_15 ?_
    refine Zn P1 1 [(0, [], .pointer b_), (9, [], .pointer b_)] ?_
    refine Zm 36 #[.pointer b_] (some 10) (Calls.mono h ?_)
    rintro _ w4 ⟨rfl, h⟩
    refine ⟨_, rfl, ?_⟩
    refine Ze [(0, .pointer b_)] ?_
    change WpE _ _ c16_15 _ _ _
    refine Zt r16_16 c16_18 ?_
    refine Zn P1 1 [(0, [], .pointer b_), (11, [], .pointer b_)] ?_
    refine Zm 37 #[.pointer b_] (some 12) (Calls.mono h ?_)
    rintro _ w5 ⟨rfl, h⟩
    refine ⟨_, rfl, ?_⟩
    refine Ze [(0, .pointer b_)] ?_
    change WpE _ _ c16_18 _ _ _
    refine Zt r16_19 c16_21 ?_
    refine Zn P1 1 [(0, [], .pointer b_), (13, [], .pointer b_)] ?_
    refine Zm 38 #[.pointer b_] (some 14) (Calls.mono h ?_)
    rintro _ w6 ⟨rfl, h⟩
    refine ⟨_, rfl, ?_⟩
    refine Ze [(0, .pointer b_)] ?_
    change WpE _ _ c16_21 _ _ _
    refine Zt r16_22 c16_24 ?_
    refine Zn P1 1 [(0, [], .pointer b_), (15, [], .pointer b_)] ?_
    refine Zm 39 #[.pointer b_] (some 16) (Calls.mono h ?_)
    rintro _ w7 ⟨rfl, h⟩
    refine ⟨_, rfl, ?_⟩
    refine Ze [(0, .pointer b_)] ?_
    change WpE _ _ c16_24 _ _ _
    refine Zt r16_25 c16_27 ?_
    refine Zn P1 1 [(0, [], .pointer b_), (17, [], .pointer b_)] ?_
    refine Zm 40 #[.pointer b_] (some 18) (Calls.mono h ?_)
    rintro _ w8 ⟨rfl, h⟩
    refine ⟨_, rfl, ?_⟩
    refine Ze [(0, .pointer b_)] ?_
    change WpE _ _ c16_27 _ _ _
    refine Zt r16_28 c16_30 ?_
    refine Zn P1 1 [(0, [], .pointer b_), (19, [], .pointer b_)] ?_
    refine Zm 41 #[.pointer b_] (some 20) (Calls.mono h ?_)
    rintro _ w9 ⟨rfl, h⟩
    refine ⟨_, rfl, ?_⟩
    refine Ze [(0, .pointer b_)] ?_
    change WpE _ _ c16_30 _ _ _
    refine Zt r16_31 c16_33 ?_
    refine Zn P1 1 [(0, [], .pointer b_), (21, [], .pointer b_)] ?_
    refine Zm 42 #[.pointer b_] (some 22) (Calls.mono h ?_)
    rintro _ w10 ⟨rfl, h⟩
    refine ⟨_, rfl, ?_⟩
    refine Ze [(0, .pointer b_)] ?_
    change WpE _ _ c16_33 _ _ _
    refine Zt r16_34 c16_36 ?_
    refine Zn P1 1 [(0, [], .pointer b_), (23, [], .pointer b_)] ?_
    refine Zm 43 #[.pointer b_] (some 24) (Calls.mono h ?_)
    rintro _ w11 ⟨rfl, h⟩
    refine ⟨_, rfl, ?_⟩
    refine Ze [(0, .pointer b_)] ?_
    change WpE _ _ c16_36 _ _ _
    refine Zt r16_37 c16_39 ?_
    refine Zn P1 1 [(0, [], .pointer b_), (25, [], .pointer b_)] ?_
    refine Zm 44 #[.pointer b_] (some 26) (Calls.mono h ?_)
    rintro _ w12 ⟨rfl, h⟩
    refine ⟨_, rfl, ?_⟩
    refine Ze [(0, .pointer b_)] ?_
    change WpE _ _ c16_39 _ _ _
    refine Zt r16_40 c16_42 ?_
    refine Zn P1 1 [(0, [], .pointer b_), (27, [], .pointer b_)] ?_
    refine Zm 45 #[.pointer b_] (some 28) (Calls.mono h ?_)
    rintro _ w13 ⟨rfl, h⟩
    refine ⟨_, rfl, ?_⟩
    refine Ze [(0, .pointer b_)] ?_
    change WpE _ _ c16_42 _ _ _
    refine Zt r16_43 c16_45 ?_
    refine Zn P1 1 [(0, [], .pointer b_), (29, [], .pointer b_)] ?_
    refine Zm 46 #[.pointer b_] (some 30) (Calls.mono h ?_)
    rintro _ w14 ⟨rfl, h⟩
    refine ⟨_, rfl, ?_⟩
    refine Ze [(0, .pointer b_)] ?_
    change WpE _ _ c16_45 _ _ _
    refine Zt r16_46 c16_48 ?_
    refine Zn P1 1 [(0, [], .pointer b_), (31, [], .pointer b_)] ?_
    refine Zm 47 #[.pointer b_] (some 32) (Calls.mono h ?_)
    rintro _ w15 ⟨rfl, h⟩
    refine ⟨_, rfl, ?_⟩
    refine Ze [(0, .pointer b_)] ?_
    change WpE _ _ c16_48 _ _ _
    refine Zt r16_49 c16_51 ?_
    refine Zn P1 1 [(0, [], .pointer b_), (33, [], .pointer b_)] ?_
    refine Zm 48 #[.pointer b_] (some 34) (Calls.mono h ?_)
    rintro _ w16 ⟨rfl, h⟩
    refine ⟨_, rfl, ?_⟩
    refine Ze [(0, .pointer b_)] ?_
    change WpE _ _ c16_51 _ _ _
    refine Zt r16_52 c16_54 ?_
    refine Zn P1 1 [(0, [], .pointer b_), (35, [], .pointer b_)] ?_
    refine Zm 49 #[.pointer b_] (some 36) (Calls.mono h ?_)
    rintro _ w17 ⟨rfl, h⟩
    refine ⟨_, rfl, ?_⟩
    refine Ze [(0, .pointer b_)] ?_
    change WpE _ _ c16_54 _ _ _
    refine Zt r16_55 c16_57 ?_
    refine Zn P1 1 [(0, [], .pointer b_), (37, [], .pointer b_)] ?_
    refine Zm 50 #[.pointer b_] (some 38) (Calls.mono h ?_)
    rintro _ w18 ⟨rfl, h⟩
    refine ⟨_, rfl, ?_⟩
    refine Ze [(0, .pointer b_)] ?_
    change WpE _ _ c16_57 _ _ _
    refine Zt r16_58 c16_60 ?_
    refine Zn P1 1 [(0, [], .pointer b_), (39, [], .pointer b_)] ?_
    refine Zm 51 #[.pointer b_] (some 40) (Calls.mono h ?_)
    rintro _ w19 ⟨rfl, h⟩
    refine ⟨_, rfl, ?_⟩
    refine Ze [(0, .pointer b_)] ?_
    change WpE _ _ c16_60 _ _ _
    refine Zt r16_61 c16_63 ?_
    refine Zn P1 1 [(0, [], .pointer b_), (41, [], .pointer b_)] ?_
    refine Zm 52 #[.pointer b_] (some 42) (Calls.mono h ?_)
    rintro _ w20 ⟨rfl, h⟩
    refine ⟨_, rfl, ?_⟩
    refine Ze [(0, .pointer b_)] ?_
    change WpE _ _ c16_63 _ _ _
    refine Zt r16_64 c16_66 ?_
    refine Zn P1 1 [(0, [], .pointer b_), (43, [], .pointer b_)] ?_
    refine Zm 53 #[.pointer b_] (some 44) (Calls.mono h ?_)
    rintro _ w21 ⟨rfl, h⟩
    refine ⟨_, rfl, ?_⟩
    refine Ze [(0, .pointer b_)] ?_
    change WpE _ _ c16_66 _ _ _
    refine Zt r16_67 c16_69 ?_
    refine Zn P1 1 [(0, [], .pointer b_), (45, [], .pointer b_)] ?_
    refine Zm 54 #[.pointer b_] (some 46) (Calls.mono h ?_)
    rintro _ w22 ⟨rfl, h⟩
    refine ⟨_, rfl, ?_⟩
    refine Ze [(0, .pointer b_)] ?_
    change WpE _ _ c16_69 _ _ _
    refine Zt r16_70 c16_72 ?_
    refine Zn P1 1 [(0, [], .pointer b_), (47, [], .pointer b_)] ?_
    refine Zm 55 #[.pointer b_] (some 48) (Calls.mono h ?_)
    rintro _ w23 ⟨v48, rfl, h⟩
    refine ⟨_, rfl, ?_⟩
    refine Zn P2 4 [(0, [], .pointer b_), (49, [], .bool v48), (50, [(49, true)], .pointer b_)] ?_
    refine reg_split 49 v48 (by kernel_rfl) (fun hb => ?_) (fun hb => ?_)
    · replace h := h.1 hb
      refine Zn [] 4 [(0, [], .pointer b_), (49, [], .bool true), (50, [], .pointer b_)] ?_
      refine Zn [] 4 [(0, [], .pointer b_), (49, [], .bool true), (50, [], .pointer b_)] ?_
      refine Zm 56 #[.pointer b_] (some 51) (Calls.mono h ?_)
      rintro _ w24 ⟨v51, rfl, h⟩
      refine ⟨_, rfl, ?_⟩
      refine Zn P3 8 [(0, [], .pointer b_), (53, [], .bool v51), (54, [(53, true)], .pointer b_)] ?_
      refine reg_split 53 v51 (by kernel_rfl) (fun hb => ?_) (fun hb => ?_)
      · replace h := h.1 hb
        refine Zn [] 8 [(0, [], .pointer b_), (53, [], .bool true), (54, [], .pointer b_)] ?_
        refine Zn [] 8 [(0, [], .pointer b_), (53, [], .bool true), (54, [], .pointer b_)] ?_
        refine Zm 57 #[.pointer b_] (some 55) (Calls.mono h ?_)
        rintro _ w25 ⟨v55, rfl, h⟩
        refine ⟨_, rfl, ?_⟩
        refine Zn P3 12 [(0, [], .pointer b_), (57, [], .bool v55), (58, [(57, true)], .pointer b_)] ?_
        refine reg_split 57 v55 (by kernel_rfl) (fun hb => ?_) (fun hb => ?_)
        · replace h := h.1 hb
          refine Zn [] 12 [(0, [], .pointer b_), (57, [], .bool true), (58, [], .pointer b_)] ?_
          refine Zn [] 12 [(0, [], .pointer b_), (57, [], .bool true), (58, [], .pointer b_)] ?_
          refine Zm 58 #[.pointer b_] (some 59) (Calls.mono h ?_)
          rintro _ w26 ⟨v59, rfl, h⟩
          refine ⟨_, rfl, ?_⟩
          refine Zn P3 16 [(0, [], .pointer b_), (61, [], .bool v59), (62, [(61, true)], .pointer b_)] ?_
          refine reg_split 61 v59 (by kernel_rfl) (fun hb => ?_) (fun hb => ?_)
          · replace h := h.1 hb
            refine Zn [] 16 [(0, [], .pointer b_), (61, [], .bool true), (62, [], .pointer b_)] ?_
            refine Zn [] 16 [(0, [], .pointer b_), (61, [], .bool true), (62, [], .pointer b_)] ?_
            refine Zm 59 #[.pointer b_] (some 63) (Calls.mono h ?_)
            rintro _ w27 ⟨v63, rfl, h⟩
            refine ⟨_, rfl, ?_⟩
            refine Zn P3 20 [(0, [], .pointer b_), (65, [], .bool v63), (66, [(65, true)], .pointer b_)] ?_
            refine reg_split 65 v63 (by kernel_rfl) (fun hb => ?_) (fun hb => ?_)
            · replace h := h.1 hb
              refine Zn [] 20 [(0, [], .pointer b_), (65, [], .bool true), (66, [], .pointer b_)] ?_
              refine Zn [] 20 [(0, [], .pointer b_), (65, [], .bool true), (66, [], .pointer b_)] ?_
              refine Zm 60 #[.pointer b_] (some 67) (Calls.mono h ?_)
              rintro _ w28 ⟨v67, rfl, h⟩
              refine ⟨_, rfl, ?_⟩
              refine Zn P3 24 [(0, [], .pointer b_), (69, [], .bool v67), (70, [(69, true)], .pointer b_)] ?_
              refine reg_split 69 v67 (by kernel_rfl) (fun hb => ?_) (fun hb => ?_)
              · replace h := h.1 hb
                refine Zn [] 24 [(0, [], .pointer b_), (69, [], .bool true), (70, [], .pointer b_)] ?_
                refine Zn [] 24 [(0, [], .pointer b_), (69, [], .bool true), (70, [], .pointer b_)] ?_
                refine Zm 61 #[.pointer b_] (some 71) (Calls.mono h ?_)
                rintro _ w29 ⟨v71, rfl, h⟩
                refine ⟨_, rfl, ?_⟩
                refine Zn P3 28 [(0, [], .pointer b_), (73, [], .bool v71), (74, [(73, true)], .pointer b_)] ?_
                refine reg_split 73 v71 (by kernel_rfl) (fun hb => ?_) (fun hb => ?_)
                · replace h := h.1 hb
                  refine Zn [] 28 [(0, [], .pointer b_), (73, [], .bool true), (74, [], .pointer b_)] ?_
                  refine Zn [] 28 [(0, [], .pointer b_), (73, [], .bool true), (74, [], .pointer b_)] ?_
                  refine Zm 62 #[.pointer b_] (some 75) (Calls.mono h ?_)
                  rintro _ w30 ⟨v75, rfl, h⟩
                  refine ⟨_, rfl, ?_⟩
                  refine Zn P3 32 [(0, [], .pointer b_), (77, [], .bool v75), (78, [(77, true)], .pointer b_)] ?_
                  refine reg_split 77 v75 (by kernel_rfl) (fun hb => ?_) (fun hb => ?_)
                  · replace h := h.1 hb
                    refine Zn [] 32 [(0, [], .pointer b_), (77, [], .bool true), (78, [], .pointer b_)] ?_
                    refine Zn [] 32 [(0, [], .pointer b_), (77, [], .bool true), (78, [], .pointer b_)] ?_
                    refine Zm 63 #[.pointer b_] (some 79) (Calls.mono h ?_)
                    rintro _ w31 ⟨v79, rfl, h⟩
                    refine ⟨_, rfl, ?_⟩
                    refine Zn P3 36 [(0, [], .pointer b_), (81, [], .bool v79), (82, [(81, true)], .pointer b_)] ?_
                    refine reg_split 81 v79 (by kernel_rfl) (fun hb => ?_) (fun hb => ?_)
                    · replace h := h.1 hb
                      refine Zn [] 36 [(0, [], .pointer b_), (81, [], .bool true), (82, [], .pointer b_)] ?_
                      refine Zn [] 36 [(0, [], .pointer b_), (81, [], .bool true), (82, [], .pointer b_)] ?_
                      refine Zm 64 #[.pointer b_] (some 83) (Calls.mono h ?_)
                      rintro _ w32 ⟨v83, rfl, h⟩
                      refine ⟨_, rfl, ?_⟩
                      refine Zn P3 40 [(85, [], .bool v83), (86, [(85, true)], .pointer b_)] ?_
                      refine reg_split 85 v83 (by kernel_rfl) (fun hb => ?_) (fun hb => ?_)
                      · replace h := h.1 hb
                        refine Zn [] 40 [(85, [], .bool true), (86, [], .pointer b_)] ?_
                        refine Zn [] 40 [(85, [], .bool true), (86, [], .pointer b_)] ?_
                        refine Zm 65 #[.pointer b_] (some 87) (Calls.mono h ?_)
                        rintro _ w33 ⟨v87, rfl, h⟩
                        refine ⟨_, rfl, ?_⟩
                        refine Zf P2 [(2, .bool v87)] ?_
                        change WpE _ _ c16_72 _ _ _
                        refine wpE_ret (by kernel_rfl) ?_
                        repeat (first | refine seqQ_ret ?_ | refine blockQ_ret ?_ | refine loopQ_ret ?_ | refine cutQ_ret ?_)
                        exact retS (rs := [(ResultVar.tmp 2)]) (v := Value.bool v87) (by kernel_rfl) (⟨by kernel_rfl, trivial⟩) ⟨v87, rfl, h⟩
                      · replace h := h.2 hb
                        refine Zn [] 40 [(85, [], .bool false), (86, [], undef)] ?_
                        refine Zf [.skip, .plain, .plain] [(2, .bool false)] ?_
                        change WpE _ _ c16_72 _ _ _
                        refine wpE_ret (by kernel_rfl) ?_
                        repeat (first | refine seqQ_ret ?_ | refine blockQ_ret ?_ | refine loopQ_ret ?_ | refine cutQ_ret ?_)
                        exact retS (rs := [(ResultVar.tmp 2)]) (v := Value.bool false) (by kernel_rfl) (⟨by kernel_rfl, trivial⟩) ⟨false, rfl, h⟩
                    · replace h := h.2 hb
                      refine Zn [] 36 [(0, [], .pointer b_), (81, [], .bool false), (82, [], undef)] ?_
                      refine Zf [.skip, .plain, .plain, .skip, .skip, .plain, .plain] [(2, .bool false)] ?_
                      change WpE _ _ c16_72 _ _ _
                      refine wpE_ret (by kernel_rfl) ?_
                      repeat (first | refine seqQ_ret ?_ | refine blockQ_ret ?_ | refine loopQ_ret ?_ | refine cutQ_ret ?_)
                      exact retS (rs := [(ResultVar.tmp 2)]) (v := Value.bool false) (by kernel_rfl) (⟨by kernel_rfl, trivial⟩) ⟨false, rfl, h⟩
                  · replace h := h.2 hb
                    refine Zn [] 32 [(0, [], .pointer b_), (77, [], .bool false), (78, [], undef)] ?_
                    refine Zf [.skip, .plain, .plain, .skip, .skip, .plain, .plain, .skip, .skip, .plain, .plain] [(2, .bool false)] ?_
                    change WpE _ _ c16_72 _ _ _
                    refine wpE_ret (by kernel_rfl) ?_
                    repeat (first | refine seqQ_ret ?_ | refine blockQ_ret ?_ | refine loopQ_ret ?_ | refine cutQ_ret ?_)
                    exact retS (rs := [(ResultVar.tmp 2)]) (v := Value.bool false) (by kernel_rfl) (⟨by kernel_rfl, trivial⟩) ⟨false, rfl, h⟩
                · replace h := h.2 hb
                  refine Zn [] 28 [(0, [], .pointer b_), (73, [], .bool false), (74, [], undef)] ?_
                  refine Zf [.skip, .plain, .plain, .skip, .skip, .plain, .plain, .skip, .skip, .plain, .plain, .skip, .skip, .plain, .plain] [(2, .bool false)] ?_
                  change WpE _ _ c16_72 _ _ _
                  refine wpE_ret (by kernel_rfl) ?_
                  repeat (first | refine seqQ_ret ?_ | refine blockQ_ret ?_ | refine loopQ_ret ?_ | refine cutQ_ret ?_)
                  exact retS (rs := [(ResultVar.tmp 2)]) (v := Value.bool false) (by kernel_rfl) (⟨by kernel_rfl, trivial⟩) ⟨false, rfl, h⟩
              · replace h := h.2 hb
                refine Zn [] 24 [(0, [], .pointer b_), (69, [], .bool false), (70, [], undef)] ?_
                refine Zf [.skip, .plain, .plain, .skip, .skip, .plain, .plain, .skip, .skip, .plain, .plain, .skip, .skip, .plain, .plain, .skip, .skip, .plain, .plain] [(2, .bool false)] ?_
                change WpE _ _ c16_72 _ _ _
                refine wpE_ret (by kernel_rfl) ?_
                repeat (first | refine seqQ_ret ?_ | refine blockQ_ret ?_ | refine loopQ_ret ?_ | refine cutQ_ret ?_)
                exact retS (rs := [(ResultVar.tmp 2)]) (v := Value.bool false) (by kernel_rfl) (⟨by kernel_rfl, trivial⟩) ⟨false, rfl, h⟩
            · replace h := h.2 hb
              refine Zn [] 20 [(0, [], .pointer b_), (65, [], .bool false), (66, [], undef)] ?_
              refine Zf [.skip, .plain, .plain, .skip, .skip, .plain, .plain, .skip, .skip, .plain, .plain, .skip, .skip, .plain, .plain, .skip, .skip, .plain, .plain, .skip, .skip, .plain, .plain] [(2, .bool false)] ?_
              change WpE _ _ c16_72 _ _ _
              refine wpE_ret (by kernel_rfl) ?_
              repeat (first | refine seqQ_ret ?_ | refine blockQ_ret ?_ | refine loopQ_ret ?_ | refine cutQ_ret ?_)
              exact retS (rs := [(ResultVar.tmp 2)]) (v := Value.bool false) (by kernel_rfl) (⟨by kernel_rfl, trivial⟩) ⟨false, rfl, h⟩
          · replace h := h.2 hb
            refine Zn [] 16 [(0, [], .pointer b_), (61, [], .bool false), (62, [], undef)] ?_
            refine Zf [.skip, .plain, .plain, .skip, .skip, .plain, .plain, .skip, .skip, .plain, .plain, .skip, .skip, .plain, .plain, .skip, .skip, .plain, .plain, .skip, .skip, .plain, .plain, .skip, .skip, .plain, .plain] [(2, .bool false)] ?_
            change WpE _ _ c16_72 _ _ _
            refine wpE_ret (by kernel_rfl) ?_
            repeat (first | refine seqQ_ret ?_ | refine blockQ_ret ?_ | refine loopQ_ret ?_ | refine cutQ_ret ?_)
            exact retS (rs := [(ResultVar.tmp 2)]) (v := Value.bool false) (by kernel_rfl) (⟨by kernel_rfl, trivial⟩) ⟨false, rfl, h⟩
        · replace h := h.2 hb
          refine Zn [] 12 [(0, [], .pointer b_), (57, [], .bool false), (58, [], undef)] ?_
          refine Zf [.skip, .plain, .plain, .skip, .skip, .plain, .plain, .skip, .skip, .plain, .plain, .skip, .skip, .plain, .plain, .skip, .skip, .plain, .plain, .skip, .skip, .plain, .plain, .skip, .skip, .plain, .plain, .skip, .skip, .plain, .plain] [(2, .bool false)] ?_
          change WpE _ _ c16_72 _ _ _
          refine wpE_ret (by kernel_rfl) ?_
          repeat (first | refine seqQ_ret ?_ | refine blockQ_ret ?_ | refine loopQ_ret ?_ | refine cutQ_ret ?_)
          exact retS (rs := [(ResultVar.tmp 2)]) (v := Value.bool false) (by kernel_rfl) (⟨by kernel_rfl, trivial⟩) ⟨false, rfl, h⟩
      · replace h := h.2 hb
        refine Zn [] 8 [(0, [], .pointer b_), (53, [], .bool false), (54, [], undef)] ?_
        refine Zf [.skip, .plain, .plain, .skip, .skip, .plain, .plain, .skip, .skip, .plain, .plain, .skip, .skip, .plain, .plain, .skip, .skip, .plain, .plain, .skip, .skip, .plain, .plain, .skip, .skip, .plain, .plain, .skip, .skip, .plain, .plain, .skip, .skip, .plain, .plain] [(2, .bool false)] ?_
        change WpE _ _ c16_72 _ _ _
        refine wpE_ret (by kernel_rfl) ?_
        repeat (first | refine seqQ_ret ?_ | refine blockQ_ret ?_ | refine loopQ_ret ?_ | refine cutQ_ret ?_)
        exact retS (rs := [(ResultVar.tmp 2)]) (v := Value.bool false) (by kernel_rfl) (⟨by kernel_rfl, trivial⟩) ⟨false, rfl, h⟩
    · replace h := h.2 hb
      refine Zn [] 4 [(0, [], .pointer b_), (49, [], .bool false), (50, [], undef)] ?_
      refine Zf [.skip, .plain, .plain, .skip, .skip, .plain, .plain, .skip, .skip, .plain, .plain, .skip, .skip, .plain, .plain, .skip, .skip, .plain, .plain, .skip, .skip, .plain, .plain, .skip, .skip, .plain, .plain, .skip, .skip, .plain, .plain, .skip, .skip, .plain, .plain, .skip, .skip, .plain, .plain] [(2, .bool false)] ?_
      change WpE _ _ c16_72 _ _ _
      refine wpE_ret (by kernel_rfl) ?_
      repeat (first | refine seqQ_ret ?_ | refine blockQ_ret ?_ | refine loopQ_ret ?_ | refine cutQ_ret ?_)
      exact retS (rs := [(ResultVar.tmp 2)]) (v := Value.bool false) (by kernel_rfl) (⟨by kernel_rfl, trivial⟩) ⟨false, rfl, h⟩
  · rintro e w' ⟨v, rfl, r0, rfl, h⟩; exact ⟨r0, rfl, h⟩

/-! ### towpath/towpathlaw01.WritesSize (function 17) -/
noncomputable def c17_0 := (Tryz.f17.body).getD Code.skip
noncomputable def c17_3 := Code.r c17_0
noncomputable def c17_6 := Code.r c17_3
noncomputable def c17_7 := Code.l c17_6
noncomputable def c17_10 := Code.r c17_7
noncomputable def c17_11 := Code.l c17_10
noncomputable def c17_12 := Code.l c17_11
noncomputable def c17_13 := Code.l c17_12
noncomputable def c17_16 := Code.r c17_13
noncomputable def c17_17 := Code.l c17_16
noncomputable def c17_18 := Code.r c17_16
noncomputable def c17_19 := Code.r c17_12
noncomputable def c17_20 := Code.l c17_19
noncomputable def c17_21 := Code.l c17_20
noncomputable def r17_21 := Code.ops c17_21
noncomputable def c17_23 := Code.r c17_19
noncomputable def r17_23 := Code.ops c17_23
noncomputable def c17_25 := Code.r c17_6
noncomputable def c17_28 := Code.r c17_25

theorem S_towpathlaw01_WritesSize {l_ : Slc} {w : World} {R : Int → World → Prop} (h : F_towpathlaw01_WritesSize l_ R w) : C_towpathlaw01_WritesSize l_ w R := by
  unfold F_towpathlaw01_WritesSize at h
  unfold C_towpathlaw01_WritesSize
  refine Calls.mono (calls_of_wpE (args := [Value.slice l_.ptr l_.len l_.cap]) (R := fun v w' => ∃ (r0 : Int), v = Value.int .i64 r0 ∧ R r0 w') Tryz.func17 (c := c17_0) (by kernel_rfl) 33 (by kernel_rfl) (by kernel_rfl) [(0, Value.slice l_.ptr l_.len l_.cap)] (by kernel_rfl) ?_) ?_
  · refine Zp c17_3 P1 [(0, .slice l_.ptr l_.len l_.cap)] ?_
    refine Zp c17_6 P3 [(0, .slice l_.ptr l_.len l_.cap), (3, .int .i64 ((l_.len : Nat) : Int))] ?_
    refine Zs c17_7 c17_25 ?_
    refine Zp c17_10 P1 [(0, .slice l_.ptr l_.len l_.cap), (3, .int .i64 ((l_.len : Nat) : Int)), (4, .int .i64 0)] ?_
    refine Zb 0 c17_11 ?_
    obtain ⟨I, μ, h0, hr⟩ := h
    refine wpE_loop (x := c17_12) (by kernel_rfl) (fun m l w => ∃ (n_ : Int) (i : Int), l = [(0, Value.slice l_.ptr l_.len l_.cap), (3, Value.int .i64 n_), (4, Value.int .i64 i)] ∧ I n_ i w ∧ μ n_ i w = m) (l' := [(0, Value.slice l_.ptr l_.len l_.cap), (3, Value.int .i64 ((l_.len : Nat) : Int)), (4, Value.int .i64 0)]) (Sub.mk (by kernel_rfl)) ⟨((l_.len : Nat) : Int), 0, rfl, h0, rfl⟩ ?_
    rintro _ _ w1 ⟨n_, i, rfl, hI, rfl⟩
    obtain ⟨again_, again__h, h⟩ : ∃ again_ : Int → Int → World → Prop, (∀ n_' i' w', again_ n_' i' w' → I n_' i' w' ∧ μ n_' i' w' < μ n_ i w1) ∧ F_towpathlaw01_WritesSize_L0 l_ R again_ n_ i w1 := ⟨_, fun _ _ _ h => h, hr n_ i w1 hI⟩
    clear h0 hI
    unfold F_towpathlaw01_WritesSize_L0 at h
    refine Zs c17_13 c17_19 ?_
    refine Zp c17_16 [.plain, .plain, .plain, .plain, .plain, .plain, .plain, .pick] [(0, .slice l_.ptr l_.len l_.cap), (3, .int .i64 n_), (4, .int .i64 i), (14, .bool ((decide (i < ((l_.len : Nat) : Int))) && (decide (n_ ≤ 1048576))))] ?_
    refine Zc 14 ((decide (i < ((l_.len : Nat) : Int))) && (decide (n_ ≤ 1048576))) c17_17 c17_18 (fun hb => ?_) (fun hb => ?_)
    · replace h := h.1 hb
      refine wpE_skip (by kernel_rfl) ?_
      change WpE _ _ c17_19 _ _ _
      refine Zs c17_20 c17_23 ?_
      refine Zb 1 c17_21 ?_
      refine wpE_drawregion (id := 5) (ops := r17_21) (by kernel_rfl) (by kernel_rfl) (by kernel_rfl) ?_
      refine qreg_run P3 3 [(0, [], Value.slice l_.ptr l_.len l_.cap), (3, [], Value.int .i64 n_), (4, [], Value.int .i64 i), (17, [], Value.int .i64 n_), (18, [], Value.slice l_.ptr l_.len l_.cap), (19, [], Value.int .i64 i)] (by kernel_rfl) (by kernel_rfl) ?_
      obtain ⟨hp_6, h⟩ := h
      refine qreg_conv [(0, [], Value.slice l_.ptr l_.len l_.cap), (3, [], Value.int .i64 n_), (4, [], Value.int .i64 i), (17, [], Value.int .i64 n_), (18, [], Value.slice (some ⟨(pblk l_.ptr), (poff l_.ptr), none⟩) l_.len l_.cap), (19, [], Value.int .i64 i)] (congrArg (fun pp => ([(0, [], Value.slice l_.ptr l_.len l_.cap), (3, [], Value.int .i64 n_), (4, [], Value.int .i64 i), (17, [], Value.int .i64 n_), (18, [], Value.slice pp l_.len l_.cap), (19, [], Value.int .i64 i)] : GEnv)) hp_6) ?_
      obtain ⟨h0, h1, h⟩ := h
      refine qreg_indexS (t := 22) (e := 62) (x := (Operand.tmp 18)) (ix := (Operand.tmp 19)) (b := (pblk l_.ptr)) (o := (poff l_.ptr)) (l := l_.len) (c := l_.cap) (k := .i64) (j := i) (ty := 0) (dst := some 20) (sz := 3) (by kernel_rfl) (by kernel_rfl) (by kernel_rfl) (by kernel_rfl) (by kernel_rfl) h0 h1 ?_
      refine qreg_run P1 5 [(0, [], Value.slice l_.ptr l_.len l_.cap), (3, [], Value.int .i64 n_), (4, [], Value.int .i64 i), (17, [], Value.int .i64 n_), (21, [], Value.pointer (some ⟨(pblk l_.ptr), (poff l_.ptr) + i.toNat * 3, none⟩))] (by kernel_rfl) (by kernel_rfl) ?_
      obtain ⟨v22, hc, h⟩ := h
      refine qreg_load1 (t := 9) (a := (Operand.tmp 21)) (b := (pblk l_.ptr)) (o := ((poff l_.ptr) + i.toNat * 3)) (ty := 9) (dst := some 22) (by kernel_rfl) (by kernel_rfl) (by kernel_rfl) hc ?_
      refine qreg_run P4 10 [(0, [], Value.slice l_.ptr l_.len l_.cap), (3, [], Value.int .i64 n_), (4, [], Value.int .i64 i), (24, [], Value.int .i64 (IntKind.i64.wrap (n_ + ((v22.size : Nat) : Int)))), (25, [], Value.slice l_.ptr l_.len l_.cap), (26, [], Value.int .i64 i)] (by kernel_rfl) (by kernel_rfl) ?_
      obtain ⟨hp_7, h⟩ := h
      refine qreg_conv [(0, [], Value.slice l_.ptr l_.len l_.cap), (3, [], Value.int .i64 n_), (4, [], Value.int .i64 i), (24, [], Value.int .i64 (IntKind.i64.wrap (n_ + ((v22.size : Nat) : Int)))), (25, [], Value.slice (some ⟨(pblk l_.ptr), (poff l_.ptr), none⟩) l_.len l_.cap), (26, [], Value.int .i64 i)] (congrArg (fun pp => ([(0, [], Value.slice l_.ptr l_.len l_.cap), (3, [], Value.int .i64 n_), (4, [], Value.int .i64 i), (24, [], Value.int .i64 (IntKind.i64.wrap (n_ + ((v22.size : Nat) : Int)))), (25, [], Value.slice pp l_.len l_.cap), (26, [], Value.int .i64 i)] : GEnv)) hp_7) ?_
      obtain ⟨h0, h1, h⟩ := h
      refine qreg_indexS (t := 22) (e := 62) (x := (Operand.tmp 25)) (ix := (Operand.tmp 26)) (b := (pblk l_.ptr)) (o := (poff l_.ptr)) (l := l_.len) (c := l_.cap) (k := .i64) (j := i) (ty := 0) (dst := some 27) (sz := 3) (by kernel_rfl) (by kernel_rfl) (by kernel_rfl) (by kernel_rfl) (by kernel_rfl) h0 h1 ?_
      refine qreg_run P1 12 [(0, [], Value.slice l_.ptr l_.len l_.cap), (3, [], Value.int .i64 n_), (4, [], Value.int .i64 i), (24, [], Value.int .i64 (IntKind.i64.wrap (n_ + ((v22.size : Nat) : Int)))), (28, [], Value.pointer (some ⟨(pblk l_.ptr), ((poff l_.ptr) + i.toNat * 3) + 1, none⟩))] (by kernel_rfl) (by kernel_rfl) ?_
      obtain ⟨v29, hc, h⟩ := h
      refine qreg_load1 (t := 9) (a := (Operand.tmp 28)) (b := (pblk l_.ptr)) (o := (((poff l_.ptr) + i.toNat * 3) + 1)) (ty := 9) (dst := some 29) (by kernel_rfl) (by kernel_rfl) (by kernel_rfl) hc ?_
      refine qreg_run P3 16 [(0, [], Value.slice l_.ptr l_.len l_.cap), (3, [], Value.int .i64 (IntKind.i64.wrap ((IntKind.i64.wrap (n_ + ((v22.size : Nat) : Int))) + ((v29.size : Nat) : Int)))), (4, [], Value.int .i64 i)] (by kernel_rfl) (by kernel_rfl) ?_
      refine qreg_end [(0, Value.slice l_.ptr l_.len l_.cap), (3, Value.int .i64 (IntKind.i64.wrap ((IntKind.i64.wrap (n_ + ((v22.size : Nat) : Int))) + ((v29.size : Nat) : Int)))), (4, Value.int .i64 i)] (by kernel_rfl) (by kernel_rfl) (fun w2 hw => ?_)
      replace h := h w2 hw
      clear hw
      change WpE _ _ c17_23 _ _ _
      refine Zr r17_23 ?_
      refine Zf P3 [(0, .slice l_.ptr l_.len l_.cap), (3, .int .i64 (IntKind.i64.wrap ((IntKind.i64.wrap (n_ + ((v22.size : Nat) : Int))) + ((v29.size : Nat) : Int)))), (4, .int .i64 (IntKind.i64.wrap (i + 1)))] ?_
      have hb_ := again__h _ _ _ h
      exact ⟨_, hb_.2, [(0, Value.slice l_.ptr l_.len l_.cap), (3, Value.int .i64 (IntKind.i64.wrap ((IntKind.i64.wrap (n_ + ((v22.size : Nat) : Int))) + ((v29.size : Nat) : Int)))), (4, Value.int .i64 (IntKind.i64.wrap (i + 1)))], Sub.mk (by kernel_rfl), (IntKind.i64.wrap ((IntKind.i64.wrap (n_ + ((v22.size : Nat) : Int))) + ((v29.size : Nat) : Int))), (IntKind.i64.wrap (i + 1)), rfl, hb_.1, rfl⟩
    · replace h := h.2 hb
      refine wpE_exit (id := 0) (by kernel_rfl) ?_
      change WpE _ _ c17_25 _ _ _
      refine Zp c17_28 P2 [(2, .int .i64 n_)] ?_
      refine wpE_ret (by kernel_rfl) ?_
      repeat (first | refine seqQ_ret ?_ | refine blockQ_ret ?_ | refine loopQ_ret ?_ | refine cutQ_ret ?_)
      exact retS (rs := [(ResultVar.tmp 2)]) (v := Value.int .i64 n_) (by kernel_rfl) (⟨by kernel_rfl, trivial⟩) ⟨n_, rfl, h⟩
  · rintro e w' ⟨v, rfl, r0, rfl, h⟩; exact ⟨r0, rfl, h⟩

/-! ### towpath/towpathlaw01.TwinWrites (function 18) -/
noncomputable def c18_0 := (Tryz.f18.body).getD Code.skip
noncomputable def c18_3 := Code.r c18_0
noncomputable def c18_4 := Code.l c18_3
noncomputable def r18_4 := Code.ops c18_4
noncomputable def c18_6 := Code.r c18_3
noncomputable def c18_7 := Code.l c18_6
noncomputable def c18_10 := Code.r c18_7
noncomputable def c18_11 := Code.l c18_10
noncomputable def c18_12 := Code.l c18_11
noncomputable def c18_13 := Code.l c18_12
noncomputable def c18_16 := Code.r c18_13
noncomputable def c18_17 := Code.l c18_16
noncomputable def c18_18 := Code.r c18_16
noncomputable def c18_19 := Code.r c18_12
noncomputable def c18_20 := Code.l c18_19
noncomputable def c18_21 := Code.l c18_20
noncomputable def r18_21 := Code.ops c18_21
noncomputable def c18_23 := Code.r c18_19
noncomputable def r18_23 := Code.ops c18_23
noncomputable def c18_25 := Code.r c18_6
noncomputable def c18_26 := Code.l c18_25
noncomputable def r18_26 := Code.ops c18_26
noncomputable def c18_28 := Code.r c18_25

theorem S_towpathlaw01_TwinWrites {l_ : Slc} {w : World} {R : Slc → World → Prop} (h : F_towpathlaw01_TwinWrites l_ R w) : C_towpathlaw01_TwinWrites l_ w R := by
  unfold F_towpathlaw01_TwinWrites at h
  unfold C_towpathlaw01_TwinWrites
  refine Calls.mono (calls_of_wpE (args := [Value.slice l_.ptr l_.len l_.cap]) (R := fun v w' => ∃ (r0 : Slc), v = Value.slice r0.ptr r0.len r0.cap ∧ R r0 w') Tryz.func18 (c := c18_0) (by kernel_rfl) 29 (by kernel_rfl) (by kernel_rfl) [(0, Value.slice l_.ptr l_.len l_.cap)] (by kernel_rfl) ?_) ?_
  · refine Zp c18_3 P1 [(0, .slice l_.ptr l_.len l_.cap)] ?_
    refine Zt r18_4 c18_6 ?_
    refine Zn P3 3 [(0, [], .slice l_.ptr l_.len l_.cap), (7, [], .int .i64 (IntKind.i64.wrap (((l_.len : Nat) : Int) + 1)))] ?_
    obtain ⟨h0, h1, h2, h⟩ := h
    refine reg_makeSlice (t := 22) (e := 62) (lo := (Operand.const (Value.int Go.IntKind.i64 0))) (co := (Operand.tmp 7)) (l := 0) (c := (IntKind.i64.wrap (((l_.len : Nat) : Int) + 1))) (sz := 3) (by_ := 40) (zs := [Value.string ByteArray.empty, Value.string ByteArray.empty, Value.bool false]) (ty := 22) (dst := some 8) (by kernel_rfl) (by kernel_rfl) (by kernel_rfl) (by kernel_rfl) (by kernel_rfl) (by kernel_rfl) (by kernel_rfl) (by kernel_rfl) (by kernel_rfl) h0 h1 h2 (fun b_ w1 hb hw => ?_)
    replace h := h b_ w1 hb hw
    clear hb hw
    refine Zf P1 [(0, .slice l_.ptr l_.len l_.cap), (3, .slice (some ⟨b_, 0, none⟩) 0 ((IntKind.i64.wrap (((l_.len : Nat) : Int) + 1)).toNat))] ?_
    change WpE _ _ c18_6 _ _ _
    refine Zs c18_7 c18_25 ?_
    refine Zp c18_10 P1 [(0, .slice l_.ptr l_.len l_.cap), (3, .slice (some ⟨b_, 0, none⟩) 0 ((IntKind.i64.wrap (((l_.len : Nat) : Int) + 1)).toNat)), (4, .int .i64 0)] ?_
    refine Zb 0 c18_11 ?_
    obtain ⟨I, μ, h0, hr⟩ := h
    refine wpE_loop (x := c18_12) (by kernel_rfl) (fun m l w => ∃ (t_ : Slc) (i : Int), l = [(0, Value.slice l_.ptr l_.len l_.cap), (3, Value.slice t_.ptr t_.len t_.cap), (4, Value.int .i64 i)] ∧ I t_ i w ∧ μ t_ i w = m) (l' := [(0, Value.slice l_.ptr l_.len l_.cap), (3, Value.slice (some ⟨b_, 0, none⟩) 0 ((IntKind.i64.wrap (((l_.len : Nat) : Int) + 1)).toNat)), (4, Value.int .i64 0)]) (Sub.mk (by kernel_rfl)) ⟨(Slc.mk (some ⟨b_, 0, none⟩) 0 ((IntKind.i64.wrap (((l_.len : Nat) : Int) + 1)).toNat)), 0, rfl, h0, rfl⟩ ?_
    rintro _ _ w2 ⟨t_, i, rfl, hI, rfl⟩
    obtain ⟨again_, again__h, h⟩ : ∃ again_ : Slc → Int → World → Prop, (∀ t_' i' w', again_ t_' i' w' → I t_' i' w' ∧ μ t_' i' w' < μ t_ i w2) ∧ F_towpathlaw01_TwinWrites_L0 l_ R again_ t_ i w2 := ⟨_, fun _ _ _ h => h, hr t_ i w2 hI⟩
    clear h0 hI
    unfold F_towpathlaw01_TwinWrites_L0 at h
    refine Zs c18_13 c18_19 ?_
    refine Zp c18_16 P4 [(0, .slice l_.ptr l_.len l_.cap), (3, .slice t_.ptr t_.len t_.cap), (4, .int .i64 i), (12, .bool (decide (i < ((l_.len : Nat) : Int))))] ?_
    refine Zc 12 (decide (i < ((l_.len : Nat) : Int))) c18_17 c18_18 (fun hb => ?_) (fun hb => ?_)
    · replace h := h.1 hb
      refine wpE_skip (by kernel_rfl) ?_
      change WpE _ _ c18_19 _ _ _
      refine Zs c18_20 c18_23 ?_
      refine Zb 1 c18_21 ?_
      refine Zr r18_21 ?_
      refine Zn P3 3 [(0, [], .slice l_.ptr l_.len l_.cap), (3, [], .slice t_.ptr t_.len t_.cap), (4, [], .int .i64 i), (15, [], .slice t_.ptr t_.len t_.cap), (16, [], .slice l_.ptr l_.len l_.cap), (17, [], .int .i64 i)] ?_
      obtain ⟨hp_3, h⟩ := h
      refine Zv (fun pp => [(0, [], .slice l_.ptr l_.len l_.cap), (3, [], .slice t_.ptr t_.len t_.cap), (4, [], .int .i64 i), (15, [], .slice t_.ptr t_.len t_.cap), (16, [], .slice pp l_.len l_.cap), (17, [], .int .i64 i)]) hp_3 ?_
      obtain ⟨h0, h1, h⟩ := h
      refine Zj 22 62 16 17 (pblk l_.ptr) (poff l_.ptr) l_.len l_.cap i 3 18 0 h0 h1 ?_
      refine Zn [] 4 [(0, [], .slice l_.ptr l_.len l_.cap), (3, [], .slice t_.ptr t_.len t_.cap), (4, [], .int .i64 i), (15, [], .slice t_.ptr t_.len t_.cap), (18, [], .pointer (some ⟨(pblk l_.ptr), (poff l_.ptr) + i.toNat * 3, none⟩))] ?_
      obtain ⟨v19, hc, h⟩ := h
      refine reg_loadN (t := 62) (a := (Operand.tmp 18)) (b := (pblk l_.ptr)) (o := ((poff l_.ptr) + i.toNat * 3)) (ty := 62) (dst := some 19) [Value.string v19.Key, Value.string v19.Val, Value.bool v19.Drop] (by kernel_rfl) (by kernel_rfl) (by kernel_rfl) (k := 3) (by kernel_rfl) (by kernel_rfl) hc ?_
      refine Zn [] 5 [(0, [], .slice l_.ptr l_.len l_.cap), (3, [], .slice t_.ptr t_.len t_.cap), (4, [], .int .i64 i), (15, [], .slice t_.ptr t_.len t_.cap), (19, [], .agg #[.string v19.Key, .string v19.Val, .bool v19.Drop])] ?_
      refine Zw (some 20) (fun bb => .slice (some ⟨bb, 0, none⟩) 1 1) (Obj.cells ([.string v19.Key, .string v19.Val, .bool v19.Drop]).toArray ty_api_Write (0, 0)) (fun b_1 w3 hb hw => ?_)
      replace h := h b_1 w3 hb hw
      clear hb hw
      refine Zn [] 6 [(0, [], .slice l_.ptr l_.len l_.cap), (3, [], .slice t_.ptr t_.len t_.cap), (4, [], .int .i64 i), (15, [], .slice t_.ptr t_.len t_.cap), (20, [], .slice (some ⟨b_1, 0, none⟩) 1 1)] ?_
      obtain ⟨src, hs, h⟩ := h
      refine reg_append (t := 22) (tx := 22) (e := 62) (a := (Operand.tmp 15)) (xo := (Operand.tmp 20)) (s := t_) (x := (Slc.mk (some ⟨b_1, 0, none⟩) 1 1)) (sz := 3) (by_ := 40) (zs := [Value.string ByteArray.empty, Value.string ByteArray.empty, Value.bool false]) (ty := 22) (dst := some 21)  src (by kernel_rfl) (by kernel_rfl) (by kernel_rfl) (by kernel_rfl) (by kernel_rfl) (by kernel_rfl) (by kernel_rfl) (by kernel_rfl) (by kernel_rfl) hs (AppendW.mono h (fun t_1 w4 h => ?_))
      refine Zf P1 [(0, .slice l_.ptr l_.len l_.cap), (3, .slice t_1.ptr t_1.len t_1.cap), (4, .int .i64 i)] ?_
      change WpE _ _ c18_23 _ _ _
      refine Zr r18_23 ?_
      refine Zf P3 [(0, .slice l_.ptr l_.len l_.cap), (3, .slice t_1.ptr t_1.len t_1.cap), (4, .int .i64 (IntKind.i64.wrap (i + 1)))] ?_
      have hb_ := again__h _ _ _ h
      exact ⟨_, hb_.2, [(0, Value.slice l_.ptr l_.len l_.cap), (3, Value.slice t_1.ptr t_1.len t_1.cap), (4, Value.int .i64 (IntKind.i64.wrap (i + 1)))], Sub.mk (by kernel_rfl), t_1, (IntKind.i64.wrap (i + 1)), rfl, hb_.1, rfl⟩
    · replace h := h.2 hb
      refine wpE_exit (id := 0) (by kernel_rfl) ?_
      change WpE _ _ c18_25 _ _ _
      refine Zt r18_26 c18_28 ?_
      refine Zn P2 2 [(0, [], .slice l_.ptr l_.len l_.cap), (22, [], .slice t_.ptr t_.len t_.cap), (23, [], .agg #[.string (ByteArray.mk #[115, 112, 97, 114, 101]), .string ByteArray.empty, .bool false])] ?_
      refine Zw (some 24) (fun bb => .slice (some ⟨bb, 0, none⟩) 1 1) (Obj.cells ([.string (ByteArray.mk #[115, 112, 97, 114, 101]), .string ByteArray.empty, .bool false]).toArray ty_api_Write (0, 0)) (fun b_2 w5 hb hw => ?_)
      replace h := h b_2 w5 hb hw
      clear hb hw
      refine Zn [] 3 [(0, [], .slice l_.ptr l_.len l_.cap), (22, [], .slice t_.ptr t_.len t_.cap), (24, [], .slice (some ⟨b_2, 0, none⟩) 1 1)] ?_
      obtain ⟨src, hs, h⟩ := h
      refine reg_append (t := 22) (tx := 22) (e := 62) (a := (Operand.tmp 22)) (xo := (Operand.tmp 24)) (s := t_) (x := (Slc.mk (some ⟨b_2, 0, none⟩) 1 1)) (sz := 3) (by_ := 40) (zs := [Value.string ByteArray.empty, Value.string ByteArray.empty, Value.bool false]) (ty := 22) (dst := some 25)  src (by kernel_rfl) (by kernel_rfl) (by kernel_rfl) (by kernel_rfl) (by kernel_rfl) (by kernel_rfl) (by kernel_rfl) (by kernel_rfl) (by kernel_rfl) hs (AppendW.mono h (fun v25 w6 h => ?_))
      refine Zn P2 6 [(25, [], .slice v25.ptr v25.len v25.cap), (27, [], .int .i64 ((l_.len : Nat) : Int))] ?_
      obtain ⟨h0, h1, h⟩ := h
      refine reg_sliceHi (t := 22) (e := 62) (x := (Operand.tmp 25)) (hi := (Operand.tmp 27)) (p := v25.ptr) (l := v25.len) (c := v25.cap) (sz := 3) (k := .i64) (j := ((l_.len : Nat) : Int)) (ty := 22) (dst := some 28) (by kernel_rfl) (by kernel_rfl) (by kernel_rfl) (by kernel_rfl) (by kernel_rfl) h0 h1 ?_
      refine Zf P1 [(2, .slice v25.ptr (((l_.len : Nat) : Int).toNat) v25.cap)] ?_
      change WpE _ _ c18_28 _ _ _
      refine wpE_ret (by kernel_rfl) ?_
      repeat (first | refine seqQ_ret ?_ | refine blockQ_ret ?_ | refine loopQ_ret ?_ | refine cutQ_ret ?_)
      exact retS (rs := [(ResultVar.tmp 2)]) (v := Value.slice v25.ptr (((l_.len : Nat) : Int).toNat) v25.cap) (by kernel_rfl) (⟨by kernel_rfl, trivial⟩) ⟨(Slc.mk v25.ptr (((l_.len : Nat) : Int).toNat) v25.cap), rfl, h⟩
  · rintro e w' ⟨v, rfl, r0, rfl, h⟩; exact ⟨r0, rfl, h⟩
end Go.Proofs.YtfmkemmgakdddaaGreatDoor
