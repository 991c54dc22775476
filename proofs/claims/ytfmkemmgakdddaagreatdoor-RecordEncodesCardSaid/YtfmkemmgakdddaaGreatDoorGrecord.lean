/- WRITTEN BY PROGRAM (dec.py): for each Go function the clean formula F, the call's contract C, and the proof S that F gives C. -/
import Derived.Test.YtfmkemmgakdddaaGreatDoorRows
import Derived.Test.YtfmkemmgakdddaaGreatDoorGF
namespace Go.Proofs.YtfmkemmgakdddaaGreatDoor
open Go
set_option linter.unusedVariables false
set_option maxRecDepth 100000
set_option maxHeartbeats 4000000

/-! ### towpath/record.Encode (function 7) -/
noncomputable def c7_0 := (Tryz.f7.body).getD Code.skip
noncomputable def c7_1 := Code.l c7_0
noncomputable def r7_1 := Code.ops c7_1
noncomputable def c7_3 := Code.r c7_0
noncomputable def c7_4 := Code.l c7_3
noncomputable def c7_5 := Code.l c7_4
noncomputable def r7_5 := Code.ops c7_5
noncomputable def c7_7 := Code.r c7_4
noncomputable def c7_10 := Code.r c7_7
noncomputable def c7_11 := Code.l c7_10
noncomputable def c7_14 := Code.r c7_11
noncomputable def c7_15 := Code.r c7_10
noncomputable def c7_16 := Code.r c7_3
noncomputable def c7_17 := Code.l c7_16
noncomputable def r7_17 := Code.ops c7_17
noncomputable def c7_19 := Code.r c7_16
noncomputable def c7_20 := Code.l c7_19
noncomputable def r7_20 := Code.ops c7_20
noncomputable def c7_22 := Code.r c7_19
noncomputable def c7_23 := Code.l c7_22
noncomputable def r7_23 := Code.ops c7_23
noncomputable def c7_25 := Code.r c7_22
noncomputable def c7_26 := Code.l c7_25
noncomputable def c7_27 := Code.l c7_26
noncomputable def r7_27 := Code.ops c7_27
noncomputable def c7_29 := Code.r c7_26
noncomputable def c7_30 := Code.l c7_29
noncomputable def c7_31 := Code.l c7_30
noncomputable def c7_34 := Code.r c7_31
noncomputable def c7_35 := Code.l c7_34
noncomputable def c7_36 := Code.l c7_35
noncomputable def c7_37 := Code.r c7_35
noncomputable def c7_38 := Code.r c7_34
noncomputable def c7_39 := Code.l c7_38
noncomputable def c7_40 := Code.l c7_39
noncomputable def c7_43 := Code.r c7_40
noncomputable def c7_44 := Code.l c7_43
noncomputable def r7_44 := Code.ops c7_44
noncomputable def c7_46 := Code.r c7_43
noncomputable def c7_47 := Code.l c7_46
noncomputable def r7_47 := Code.ops c7_47
noncomputable def c7_49 := Code.r c7_46
noncomputable def c7_50 := Code.l c7_49
noncomputable def c7_51 := Code.l c7_50
noncomputable def r7_51 := Code.ops c7_51
noncomputable def c7_53 := Code.r c7_50
noncomputable def c7_54 := Code.l c7_53
noncomputable def c7_55 := Code.l c7_54
noncomputable def r7_55 := Code.ops c7_55
noncomputable def c7_57 := Code.r c7_54
noncomputable def c7_58 := Code.r c7_53
noncomputable def c7_59 := Code.r c7_49
noncomputable def c7_60 := Code.l c7_59
noncomputable def r7_60 := Code.ops c7_60
noncomputable def c7_62 := Code.r c7_59
noncomputable def r7_62 := Code.ops c7_62
noncomputable def c7_64 := Code.r c7_38
noncomputable def r7_64 := Code.ops c7_64
noncomputable def c7_66 := Code.r c7_25
noncomputable def c7_67 := Code.l c7_66
noncomputable def r7_67 := Code.ops c7_67
noncomputable def c7_69 := Code.r c7_66

theorem S_record_Encode {t_ : T_api_Txn} {w : World} {R : Slc → Int → World → Prop} (h : F_record_Encode t_ R w) : C_record_Encode t_ w R := by
  unfold F_record_Encode at h
  unfold C_record_Encode
  refine Calls.mono (calls_of_wpE (args := [Value.agg #[Value.int .i64 t_.Number, Value.slice t_.Writes.ptr t_.Writes.len t_.Writes.cap]]) (R := fun v w' => ∃ (r0 : Slc) (r1 : Int), v = Value.tuple #[Value.slice r0.ptr r0.len r0.cap, Value.int .i64 r1] ∧ R r0 r1 w') Tryz.func7 (c := c7_0) (by kernel_rfl) 53 (by kernel_rfl) (by kernel_rfl) [(0, Value.agg #[Value.int .i64 t_.Number, Value.slice t_.Writes.ptr t_.Writes.len t_.Writes.cap])] (by kernel_rfl) ?_) ?_
  · refine Zt r7_1 c7_3 ?_
    refine Zn [] 0 [(0, [], .agg #[.int .i64 t_.Number, .slice t_.Writes.ptr t_.Writes.len t_.Writes.cap])] ?_
    refine Zw (some 1) (fun bb => .pointer (some ⟨bb, 0, none⟩)) (Obj.cells ([.int .i64 t_.Number, .slice t_.Writes.ptr t_.Writes.len t_.Writes.cap]).toArray ty_api_Txn (0, 0)) (fun b_ w1 hb hw => ?_)
    replace h := h b_ w1 hb hw
    clear hb hw
    refine Zf P2 [(1, .pointer (some ⟨b_, 0, none⟩))] ?_
    change WpE _ _ c7_3 _ _ _
    refine Zs c7_4 c7_16 ?_
    refine Zt r7_5 c7_7 ?_
    refine Zn [] 0 [(1, [], .pointer (some ⟨b_, 0, none⟩))] ?_
    obtain ⟨v8, hc, h⟩ := h
    refine reg_loadN (t := 24) (a := (Operand.tmp 1)) (b := b_) (o := 0) (ty := 24) (dst := some 8) [Value.int .i64 v8.Number, Value.slice v8.Writes.ptr v8.Writes.len v8.Writes.cap] (by kernel_rfl) (by kernel_rfl) (by kernel_rfl) (k := 2) (by kernel_rfl) (by kernel_rfl) hc ?_
    refine Zn [] 1 [(1, [], .pointer (some ⟨b_, 0, none⟩)), (8, [], .agg #[.int .i64 v8.Number, .slice v8.Writes.ptr v8.Writes.len v8.Writes.cap])] ?_
    refine Zm 10 #[.agg #[.int .i64 v8.Number, .slice v8.Writes.ptr v8.Writes.len v8.Writes.cap]] (some 9) (Calls.mono h ?_)
    rintro _ w2 ⟨v9, rfl, h⟩
    refine ⟨_, rfl, ?_⟩
    refine Zf P1 [(1, .pointer (some ⟨b_, 0, none⟩)), (4, .int .i64 v9)] ?_
    change WpE _ _ c7_7 _ _ _
    refine Zp c7_10 P2 [(1, .pointer (some ⟨b_, 0, none⟩)), (4, .int .i64 v9), (11, .bool (v9 != 0))] ?_
    refine Zc 11 (v9 != 0) c7_11 c7_15 (fun hb => ?_) (fun hb => ?_)
    · replace h := h.1 hb
      refine Zp c7_14 P3 [(2, .slice none 0 0), (3, .int .i64 v9)] ?_
      refine wpE_ret (by kernel_rfl) ?_
      repeat (first | refine seqQ_ret ?_ | refine blockQ_ret ?_ | refine loopQ_ret ?_ | refine cutQ_ret ?_)
      exact retT (rs := [(ResultVar.tmp 2), (ResultVar.tmp 3)]) (vs := [Value.slice none 0 0, Value.int .i64 v9]) (by kernel_rfl) (⟨by kernel_rfl, ⟨by kernel_rfl, trivial⟩⟩) (by kernel_rfl) ⟨(Slc.mk none 0 0), v9, rfl, h⟩
    · replace h := h.2 hb
      refine wpE_skip (by kernel_rfl) ?_
      change WpE _ _ c7_16 _ _ _
      refine Zt r7_17 c7_19 ?_
      refine Zn [] 0 [(1, [], .pointer (some ⟨b_, 0, none⟩))] ?_
      refine Zm 19 #[] (some 13) (Calls.mono h ?_)
      rintro _ w3 ⟨v13, rfl, h⟩
      refine ⟨_, rfl, ?_⟩
      refine Zf P1 [(1, .pointer (some ⟨b_, 0, none⟩)), (5, .pointer v13)] ?_
      change WpE _ _ c7_19 _ _ _
      refine Zt r7_20 c7_22 ?_
      refine Zn P2 2 [(1, [], .pointer (some ⟨b_, 0, none⟩)), (5, [], .pointer v13), (14, [], .pointer v13), (15, [], .pointer (some ⟨b_, 0, none⟩))] ?_
      obtain ⟨v16, hc, h⟩ := h
      refine Zl 3 15 b_ 0 3 16 hc ?_
      refine Zn P1 4 [(1, [], .pointer (some ⟨b_, 0, none⟩)), (5, [], .pointer v13), (14, [], .pointer v13), (17, [], .int .u64 (IntKind.u64.wrap v16))] ?_
      refine Zm 20 #[.pointer v13, .int .u64 (IntKind.u64.wrap v16)] (some 18) (Calls.mono h ?_)
      rintro _ w4 ⟨rfl, h⟩
      refine ⟨_, rfl, ?_⟩
      refine Ze [(1, .pointer (some ⟨b_, 0, none⟩)), (5, .pointer v13)] ?_
      change WpE _ _ c7_22 _ _ _
      refine Zt r7_23 c7_25 ?_
      refine Zn P2 2 [(1, [], .pointer (some ⟨b_, 0, none⟩)), (5, [], .pointer v13), (19, [], .pointer v13), (20, [], .pointer (some ⟨b_, 1, none⟩))] ?_
      obtain ⟨v21, hc, h⟩ := h
      refine Zl 22 20 b_ 1 22 21 hc ?_
      refine Zn P2 5 [(1, [], .pointer (some ⟨b_, 0, none⟩)), (5, [], .pointer v13), (19, [], .pointer v13), (23, [], .int .u64 (IntKind.u64.wrap ((v21.len : Nat) : Int)))] ?_
      refine Zm 20 #[.pointer v13, .int .u64 (IntKind.u64.wrap ((v21.len : Nat) : Int))] (some 24) (Calls.mono h ?_)
      rintro _ w5 ⟨rfl, h⟩
      refine ⟨_, rfl, ?_⟩
      refine Ze [(1, .pointer (some ⟨b_, 0, none⟩)), (5, .pointer v13)] ?_
      change WpE _ _ c7_25 _ _ _
      refine Zs c7_26 c7_66 ?_
      refine Zt r7_27 c7_29 ?_
      refine Zn P1 1 [(1, [], .pointer (some ⟨b_, 0, none⟩)), (5, [], .pointer v13), (25, [], .pointer (some ⟨b_, 1, none⟩))] ?_
      obtain ⟨v26, hc, h⟩ := h
      refine Zl 22 25 b_ 1 22 26 hc ?_
      refine Zf P2 [(1, .pointer (some ⟨b_, 0, none⟩)), (5, .pointer v13), (27, .int .i64 ((v26.len : Nat) : Int)), (28, .int .i64 0)] ?_
      change WpE _ _ c7_29 _ _ _
      refine Zb 0 c7_30 ?_
      obtain ⟨I, μ, h0, hr⟩ := h
      refine wpE_loop (x := c7_31) (by kernel_rfl) (fun m l w => ∃ (t28 : Int), l = [(1, Value.pointer (some ⟨b_, 0, none⟩)), (5, Value.pointer v13), (27, Value.int .i64 ((v26.len : Nat) : Int)), (28, Value.int .i64 t28)] ∧ I t28 w ∧ μ t28 w = m) (l' := [(1, Value.pointer (some ⟨b_, 0, none⟩)), (5, Value.pointer v13), (27, Value.int .i64 ((v26.len : Nat) : Int)), (28, Value.int .i64 0)]) (Sub.mk (by kernel_rfl)) ⟨0, rfl, h0, rfl⟩ ?_
      rintro _ _ w6 ⟨t28, rfl, hI, rfl⟩
      obtain ⟨again_, again__h, h⟩ : ∃ again_ : Int → World → Prop, (∀ t28' w', again_ t28' w' → I t28' w' ∧ μ t28' w' < μ t28 w6) ∧ F_record_Encode_L0 R b_ v13 v26 again_ t28 w6 := ⟨_, fun _ _ h => h, hr t28 w6 hI⟩
      clear h0 hI
      unfold F_record_Encode_L0 at h
      refine Zp c7_34 P1 [(1, .pointer (some ⟨b_, 0, none⟩)), (5, .pointer v13), (27, .int .i64 ((v26.len : Nat) : Int)), (28, .int .i64 t28), (29, .bool (decide (t28 < ((v26.len : Nat) : Int))))] ?_
      refine Zs c7_35 c7_38 ?_
      refine Zc 29 (decide (t28 < ((v26.len : Nat) : Int))) c7_36 c7_37 (fun hb => ?_) (fun hb => ?_)
      · replace h := h.1 hb
        refine wpE_skip (by kernel_rfl) ?_
        change WpE _ _ c7_38 _ _ _
        refine wpE_seq_cut (x := c7_39) (y := c7_64) (by kernel_rfl) (fun l w => l = [(1, Value.pointer (some ⟨b_, 0, none⟩)), (5, Value.pointer v13), (27, Value.int .i64 ((v26.len : Nat) : Int)), (28, Value.int .i64 t28)] ∧ F_record_Encode_k1 t28 again_ w) ?_ ?_
        · refine Zb 1 c7_40 ?_
          refine Zp c7_43 P2 [(1, .pointer (some ⟨b_, 0, none⟩)), (5, .pointer v13), (6, .int .i64 t28), (27, .int .i64 ((v26.len : Nat) : Int)), (28, .int .i64 t28)] ?_
          refine Zt r7_44 c7_46 ?_
          refine Zn P1 1 [(1, [], .pointer (some ⟨b_, 0, none⟩)), (5, [], .pointer v13), (6, [], .int .i64 t28), (27, [], .int .i64 ((v26.len : Nat) : Int)), (28, [], .int .i64 t28), (31, [], .pointer (some ⟨b_, 1, none⟩))] ?_
          obtain ⟨v32, hc, h⟩ := h
          refine Zl 22 31 b_ 1 22 32 hc ?_
          refine Zn P1 3 [(1, [], .pointer (some ⟨b_, 0, none⟩)), (5, [], .pointer v13), (27, [], .int .i64 ((v26.len : Nat) : Int)), (28, [], .int .i64 t28), (32, [], .slice v32.ptr v32.len v32.cap), (33, [], .int .i64 t28)] ?_
          obtain ⟨hp_7, h⟩ := h
          refine Zv (fun pp => [(1, [], .pointer (some ⟨b_, 0, none⟩)), (5, [], .pointer v13), (27, [], .int .i64 ((v26.len : Nat) : Int)), (28, [], .int .i64 t28), (32, [], .slice pp v32.len v32.cap), (33, [], .int .i64 t28)]) hp_7 ?_
          obtain ⟨h0, h1, h⟩ := h
          refine Zj 22 62 32 33 (pblk v32.ptr) (poff v32.ptr) v32.len v32.cap t28 3 34 0 h0 h1 ?_
          refine Zn [] 4 [(1, [], .pointer (some ⟨b_, 0, none⟩)), (5, [], .pointer v13), (27, [], .int .i64 ((v26.len : Nat) : Int)), (28, [], .int .i64 t28), (34, [], .pointer (some ⟨(pblk v32.ptr), (poff v32.ptr) + t28.toNat * 3, none⟩))] ?_
          obtain ⟨v35, hc, h⟩ := h
          refine reg_loadN (t := 62) (a := (Operand.tmp 34)) (b := (pblk v32.ptr)) (o := ((poff v32.ptr) + t28.toNat * 3)) (ty := 62) (dst := some 35) [Value.string v35.Key, Value.string v35.Val, Value.bool v35.Drop] (by kernel_rfl) (by kernel_rfl) (by kernel_rfl) (k := 3) (by kernel_rfl) (by kernel_rfl) hc ?_
          refine Zn [] 5 [(1, [], .pointer (some ⟨b_, 0, none⟩)), (5, [], .pointer v13), (27, [], .int .i64 ((v26.len : Nat) : Int)), (28, [], .int .i64 t28), (35, [], .agg #[.string v35.Key, .string v35.Val, .bool v35.Drop])] ?_
          refine Zw (some 7) (fun bb => .pointer (some ⟨bb, 0, none⟩)) (Obj.cells ([.string ByteArray.empty, .string ByteArray.empty, .bool false]).toArray ty_api_Write (0, 0)) (fun b_1 w8 hb hw => ?_)
          replace h := h b_1 w8 hb hw
          clear hb hw
          refine Zn [] 6 [(1, [], .pointer (some ⟨b_, 0, none⟩)), (5, [], .pointer v13), (7, [], .pointer (some ⟨b_1, 0, none⟩)), (27, [], .int .i64 ((v26.len : Nat) : Int)), (28, [], .int .i64 t28), (35, [], .agg #[.string v35.Key, .string v35.Val, .bool v35.Drop])] ?_
          obtain ⟨hc, h⟩ := h
          refine Zo 62 7 35 b_1 0 3 [.string v35.Key, .string v35.Val, .bool v35.Drop] hc (fun w9 hw => ?_)
          replace h := h w9 hw
          clear hw
          refine Ze [(1, .pointer (some ⟨b_, 0, none⟩)), (5, .pointer v13), (7, .pointer (some ⟨b_1, 0, none⟩)), (27, .int .i64 ((v26.len : Nat) : Int)), (28, .int .i64 t28)] ?_
          change WpE _ _ c7_46 _ _ _
          refine Zt r7_47 c7_49 ?_
          refine Zn P2 2 [(1, [], .pointer (some ⟨b_, 0, none⟩)), (5, [], .pointer v13), (7, [], .pointer (some ⟨b_1, 0, none⟩)), (27, [], .int .i64 ((v26.len : Nat) : Int)), (28, [], .int .i64 t28), (36, [], .pointer v13), (37, [], .pointer (some ⟨b_1, 0, none⟩))] ?_
          obtain ⟨v38, hc, h⟩ := h
          refine Zl 9 37 b_1 0 9 38 hc ?_
          refine Zn [] 3 [(1, [], .pointer (some ⟨b_, 0, none⟩)), (5, [], .pointer v13), (7, [], .pointer (some ⟨b_1, 0, none⟩)), (27, [], .int .i64 ((v26.len : Nat) : Int)), (28, [], .int .i64 t28), (36, [], .pointer v13), (38, [], .string v38)] ?_
          refine Zm 21 #[.pointer v13, .string v38] (some 39) (Calls.mono h ?_)
          rintro _ w10 ⟨rfl, h⟩
          refine ⟨_, rfl, ?_⟩
          refine Ze [(1, .pointer (some ⟨b_, 0, none⟩)), (5, .pointer v13), (7, .pointer (some ⟨b_1, 0, none⟩)), (27, .int .i64 ((v26.len : Nat) : Int)), (28, .int .i64 t28)] ?_
          change WpE _ _ c7_49 _ _ _
          refine Zs c7_50 c7_59 ?_
          refine Zt r7_51 c7_53 ?_
          refine Zn P1 1 [(1, [], .pointer (some ⟨b_, 0, none⟩)), (5, [], .pointer v13), (7, [], .pointer (some ⟨b_1, 0, none⟩)), (27, [], .int .i64 ((v26.len : Nat) : Int)), (28, [], .int .i64 t28), (40, [], .pointer (some ⟨b_1, 2, none⟩))] ?_
          obtain ⟨v41, hc, h⟩ := h
          refine Zl 4 40 b_1 2 4 41 hc ?_
          refine Ze [(1, .pointer (some ⟨b_, 0, none⟩)), (5, .pointer v13), (7, .pointer (some ⟨b_1, 0, none⟩)), (27, .int .i64 ((v26.len : Nat) : Int)), (28, .int .i64 t28), (41, .bool v41)] ?_
          change WpE _ _ c7_53 _ _ _
          refine Zc 41 v41 c7_54 c7_58 (fun hb => ?_) (fun hb => ?_)
          · replace h := h.1 hb
            refine Zt r7_55 c7_57 ?_
            refine Zn P1 1 [(1, [], .pointer (some ⟨b_, 0, none⟩)), (5, [], .pointer v13), (27, [], .int .i64 ((v26.len : Nat) : Int)), (28, [], .int .i64 t28), (42, [], .pointer v13)] ?_
            refine Zm 22 #[.pointer v13, .int .u64 1, .int .i64 1] (some 43) (Calls.mono h ?_)
            rintro _ w11 ⟨v43, rfl, h⟩
            refine ⟨_, rfl, ?_⟩
            refine Ze [(1, .pointer (some ⟨b_, 0, none⟩)), (5, .pointer v13), (27, .int .i64 ((v26.len : Nat) : Int)), (28, .int .i64 t28)] ?_
            change WpE _ _ c7_57 _ _ _
            refine wpE_exit (id := 1) (by kernel_rfl) ?_
            exact ⟨[(1, Value.pointer (some ⟨b_, 0, none⟩)), (5, Value.pointer v13), (27, Value.int .i64 ((v26.len : Nat) : Int)), (28, Value.int .i64 t28)], Sub.mk (by kernel_rfl), rfl, h⟩
          · replace h := h.2 hb
            refine wpE_skip (by kernel_rfl) ?_
            change WpE _ _ c7_59 _ _ _
            refine Zt r7_60 c7_62 ?_
            refine Zn P1 1 [(1, [], .pointer (some ⟨b_, 0, none⟩)), (5, [], .pointer v13), (7, [], .pointer (some ⟨b_1, 0, none⟩)), (27, [], .int .i64 ((v26.len : Nat) : Int)), (28, [], .int .i64 t28), (44, [], .pointer v13)] ?_
            refine Zm 22 #[.pointer v13, .int .u64 0, .int .i64 1] (some 45) (Calls.mono h ?_)
            rintro _ w12 ⟨v45, rfl, h⟩
            refine ⟨_, rfl, ?_⟩
            refine Ze [(1, .pointer (some ⟨b_, 0, none⟩)), (5, .pointer v13), (7, .pointer (some ⟨b_1, 0, none⟩)), (27, .int .i64 ((v26.len : Nat) : Int)), (28, .int .i64 t28)] ?_
            change WpE _ _ c7_62 _ _ _
            refine Zr r7_62 ?_
            refine Zn P2 2 [(1, [], .pointer (some ⟨b_, 0, none⟩)), (5, [], .pointer v13), (27, [], .int .i64 ((v26.len : Nat) : Int)), (28, [], .int .i64 t28), (46, [], .pointer v13), (47, [], .pointer (some ⟨b_1, 1, none⟩))] ?_
            obtain ⟨v48, hc, h⟩ := h
            refine Zl 9 47 b_1 1 9 48 hc ?_
            refine Zn [] 3 [(1, [], .pointer (some ⟨b_, 0, none⟩)), (5, [], .pointer v13), (27, [], .int .i64 ((v26.len : Nat) : Int)), (28, [], .int .i64 t28), (46, [], .pointer v13), (48, [], .string v48)] ?_
            refine Zm 21 #[.pointer v13, .string v48] (some 49) (Calls.mono h ?_)
            rintro _ w13 ⟨rfl, h⟩
            refine ⟨_, rfl, ?_⟩
            refine Ze [(1, .pointer (some ⟨b_, 0, none⟩)), (5, .pointer v13), (27, .int .i64 ((v26.len : Nat) : Int)), (28, .int .i64 t28)] ?_
            exact ⟨[(1, Value.pointer (some ⟨b_, 0, none⟩)), (5, Value.pointer v13), (27, Value.int .i64 ((v26.len : Nat) : Int)), (28, Value.int .i64 t28)], Sub.mk (by kernel_rfl), rfl, h⟩
        · rintro _ w7 ⟨rfl, h⟩
          unfold F_record_Encode_k1 at h
          refine Zr r7_64 ?_
          refine Zf P2 [(1, .pointer (some ⟨b_, 0, none⟩)), (5, .pointer v13), (27, .int .i64 ((v26.len : Nat) : Int)), (28, .int .i64 (IntKind.i64.wrap (t28 + 1)))] ?_
          have hb_ := again__h _ _ h
          exact ⟨_, hb_.2, [(1, Value.pointer (some ⟨b_, 0, none⟩)), (5, Value.pointer v13), (27, Value.int .i64 ((v26.len : Nat) : Int)), (28, Value.int .i64 (IntKind.i64.wrap (t28 + 1)))], Sub.mk (by kernel_rfl), (IntKind.i64.wrap (t28 + 1)), rfl, hb_.1, rfl⟩
      · replace h := h.2 hb
        refine wpE_exit (id := 0) (by kernel_rfl) ?_
        change WpE _ _ c7_66 _ _ _
        refine Zt r7_67 c7_69 ?_
        refine Zn P1 1 [(51, [], .pointer v13)] ?_
        refine Zm 23 #[.pointer v13] (some 52) (Calls.mono h ?_)
        rintro _ w14 ⟨v52, rfl, h⟩
        refine ⟨_, rfl, ?_⟩
        refine Zf P2 [(2, .slice v52.ptr v52.len v52.cap), (3, .int .i64 0)] ?_
        change WpE _ _ c7_69 _ _ _
        refine wpE_ret (by kernel_rfl) ?_
        repeat (first | refine seqQ_ret ?_ | refine blockQ_ret ?_ | refine loopQ_ret ?_ | refine cutQ_ret ?_)
        exact retT (rs := [(ResultVar.tmp 2), (ResultVar.tmp 3)]) (vs := [Value.slice v52.ptr v52.len v52.cap, Value.int .i64 0]) (by kernel_rfl) (⟨by kernel_rfl, ⟨by kernel_rfl, trivial⟩⟩) (by kernel_rfl) ⟨v52, 0, rfl, h⟩
  · rintro e w' ⟨v, rfl, r0, r1, rfl, h⟩; exact ⟨r0, r1, rfl, h⟩

/-! ### towpath/record.Size (function 8) -/
noncomputable def c8_0 := (Tryz.f8.body).getD Code.skip
noncomputable def c8_1 := Code.l c8_0
noncomputable def r8_1 := Code.ops c8_1
noncomputable def c8_3 := Code.r c8_0
noncomputable def c8_4 := Code.l c8_3
noncomputable def r8_4 := Code.ops c8_4
noncomputable def c8_6 := Code.r c8_3
noncomputable def c8_9 := Code.r c8_6

theorem S_record_Size {t_ : T_api_Txn} {w : World} {R : Int → Int → World → Prop} (h : F_record_Size t_ R w) : C_record_Size t_ w R := by
  unfold F_record_Size at h
  unfold C_record_Size
  refine Calls.mono (calls_of_wpE (args := [Value.agg #[Value.int .i64 t_.Number, Value.slice t_.Writes.ptr t_.Writes.len t_.Writes.cap]]) (R := fun v w' => ∃ (r0 : Int) (r1 : Int), v = Value.tuple #[Value.int .i64 r0, Value.int .i64 r1] ∧ R r0 r1 w') Tryz.func8 (c := c8_0) (by kernel_rfl) 14 (by kernel_rfl) (by kernel_rfl) [(0, Value.agg #[Value.int .i64 t_.Number, Value.slice t_.Writes.ptr t_.Writes.len t_.Writes.cap])] (by kernel_rfl) ?_) ?_
  · refine Zt r8_1 c8_3 ?_
    refine Zn [] 0 [(0, [], .agg #[.int .i64 t_.Number, .slice t_.Writes.ptr t_.Writes.len t_.Writes.cap])] ?_
    refine Zw (some 1) (fun bb => .pointer (some ⟨bb, 0, none⟩)) (Obj.cells ([.int .i64 t_.Number, .slice t_.Writes.ptr t_.Writes.len t_.Writes.cap]).toArray ty_api_Txn (0, 0)) (fun b_ w1 hb hw => ?_)
    replace h := h b_ w1 hb hw
    clear hb hw
    refine Zf P2 [(1, .pointer (some ⟨b_, 0, none⟩))] ?_
    change WpE _ _ c8_3 _ _ _
    refine Zt r8_4 c8_6 ?_
    refine Zn [] 0 [(1, [], .pointer (some ⟨b_, 0, none⟩))] ?_
    obtain ⟨v7, hc, h⟩ := h
    refine reg_loadN (t := 24) (a := (Operand.tmp 1)) (b := b_) (o := 0) (ty := 24) (dst := some 7) [Value.int .i64 v7.Number, Value.slice v7.Writes.ptr v7.Writes.len v7.Writes.cap] (by kernel_rfl) (by kernel_rfl) (by kernel_rfl) (k := 2) (by kernel_rfl) (by kernel_rfl) hc ?_
    refine Zn [] 1 [(7, [], .agg #[.int .i64 v7.Number, .slice v7.Writes.ptr v7.Writes.len v7.Writes.cap])] ?_
    refine Zm 7 #[.agg #[.int .i64 v7.Number, .slice v7.Writes.ptr v7.Writes.len v7.Writes.cap]] (some 8) (Calls.mono h ?_)
    rintro _ w2 ⟨b_1, e, rfl, h⟩
    refine ⟨_, rfl, ?_⟩
    refine Zf (Pl 5) [(4, .slice b_1.ptr b_1.len b_1.cap), (5, .int .i64 e)] ?_
    change WpE _ _ c8_6 _ _ _
    refine Zp c8_9 (Pl 5) [(2, .int .i64 ((b_1.len : Nat) : Int)), (3, .int .i64 e)] ?_
    refine wpE_ret (by kernel_rfl) ?_
    repeat (first | refine seqQ_ret ?_ | refine blockQ_ret ?_ | refine loopQ_ret ?_ | refine cutQ_ret ?_)
    exact retT (rs := [(ResultVar.tmp 2), (ResultVar.tmp 3)]) (vs := [Value.int .i64 ((b_1.len : Nat) : Int), Value.int .i64 e]) (by kernel_rfl) (⟨by kernel_rfl, ⟨by kernel_rfl, trivial⟩⟩) (by kernel_rfl) ⟨((b_1.len : Nat) : Int), e, rfl, h⟩
  · rintro e w' ⟨v, rfl, r0, r1, rfl, h⟩; exact ⟨r0, r1, rfl, h⟩

/-! ### towpath/record.Check (function 10) -/
noncomputable def c10_0 := (Tryz.f10.body).getD Code.skip
noncomputable def c10_1 := Code.l c10_0
noncomputable def r10_1 := Code.ops c10_1
noncomputable def c10_3 := Code.r c10_0
noncomputable def c10_6 := Code.r c10_3
noncomputable def c10_7 := Code.l c10_6
noncomputable def c10_8 := Code.l c10_7
noncomputable def r10_8 := Code.ops c10_8
noncomputable def c10_10 := Code.r c10_7
noncomputable def c10_11 := Code.l c10_10
noncomputable def c10_14 := Code.r c10_11
noncomputable def c10_15 := Code.r c10_10
noncomputable def c10_16 := Code.r c10_6
noncomputable def c10_19 := Code.r c10_16

theorem S_record_Check {t_ : T_api_Txn} {w : World} {R : Int → World → Prop} (h : F_record_Check t_ R w) : C_record_Check t_ w R := by
  unfold F_record_Check at h
  unfold C_record_Check
  refine Calls.mono (calls_of_wpE (args := [Value.agg #[Value.int .i64 t_.Number, Value.slice t_.Writes.ptr t_.Writes.len t_.Writes.cap]]) (R := fun v w' => ∃ (r0 : Int), v = Value.int .i64 r0 ∧ R r0 w') Tryz.func10 (c := c10_0) (by kernel_rfl) 24 (by kernel_rfl) (by kernel_rfl) [(0, Value.agg #[Value.int .i64 t_.Number, Value.slice t_.Writes.ptr t_.Writes.len t_.Writes.cap])] (by kernel_rfl) ?_) ?_
  · refine Zt r10_1 c10_3 ?_
    refine Zn [] 0 [(0, [], .agg #[.int .i64 t_.Number, .slice t_.Writes.ptr t_.Writes.len t_.Writes.cap])] ?_
    refine Zw (some 1) (fun bb => .pointer (some ⟨bb, 0, none⟩)) (Obj.cells ([.int .i64 t_.Number, .slice t_.Writes.ptr t_.Writes.len t_.Writes.cap]).toArray ty_api_Txn (0, 0)) (fun b_ w1 hb hw => ?_)
    replace h := h b_ w1 hb hw
    clear hb hw
    refine Zf P1 [(1, .pointer (some ⟨b_, 0, none⟩))] ?_
    change WpE _ _ c10_3 _ _ _
    refine Zp c10_6 P1 [(1, .pointer (some ⟨b_, 0, none⟩)), (3, .func (.func 26) #[] #[])] ?_
    refine Zs c10_7 c10_16 ?_
    refine wpE_seq_cut (x := c10_8) (y := c10_10) (by kernel_rfl) (fun l w => ∃ (t23 : Bool), l = [(23, Value.bool t23)] ∧ F_record_Check_k0 R t23 w) ?_ ?_
    · refine Zr r10_8 ?_
      refine Zn P1 1 [(1, [], .pointer (some ⟨b_, 0, none⟩)), (3, [], .func (.func 26) #[] #[]), (4, [], .pointer (some ⟨b_, 0, none⟩))] ?_
      obtain ⟨v5, hc, h⟩ := h
      refine Zl 3 4 b_ 0 3 5 hc ?_
      refine Zn P3 5 [(1, [], .pointer (some ⟨b_, 0, none⟩)), (3, [], .func (.func 26) #[] #[]), (7, [], .bool (decide (v5 < 1))), (8, [(7, false)], .pointer (some ⟨b_, 0, none⟩))] ?_
      refine reg_split 7 (decide (v5 < 1)) (by kernel_rfl) (fun hb => ?_) (fun hb => ?_)
      · replace h := h.1 hb
        refine Zn [] 5 [(1, [], .pointer (some ⟨b_, 0, none⟩)), (3, [], .func (.func 26) #[] #[]), (7, [], .bool true), (8, [], undef)] ?_
        refine Zf [.skip, .skip, .plain, .plain, .skip, .skip, .skip, .skip, .plain, .plain, .skip, .skip, .skip, .skip, .plain] [(23, .bool true)] ?_
        exact ⟨[(23, Value.bool true)], Sub.mk (by kernel_rfl), true, rfl, h⟩
      · replace h := h.2 hb
        refine Zn [] 5 [(1, [], .pointer (some ⟨b_, 0, none⟩)), (3, [], .func (.func 26) #[] #[]), (7, [], .bool false), (8, [], .pointer (some ⟨b_, 0, none⟩))] ?_
        refine Zn [] 5 [(1, [], .pointer (some ⟨b_, 0, none⟩)), (3, [], .func (.func 26) #[] #[]), (7, [], .bool false), (8, [], .pointer (some ⟨b_, 0, none⟩))] ?_
        obtain ⟨v9, hc, h⟩ := h
        refine Zl 3 8 b_ 0 3 9 hc ?_
        refine Zn [.sure, .plain, .plain, .plain] 10 [(1, [], .pointer (some ⟨b_, 0, none⟩)), (3, [], .func (.func 26) #[] #[]), (12, [], .bool (decide (v9 > 65536))), (13, [(12, false)], .pointer (some ⟨b_, 1, none⟩))] ?_
        refine reg_split 12 (decide (v9 > 65536)) (by kernel_rfl) (fun hb => ?_) (fun hb => ?_)
        · replace h := h.1 hb
          refine Zn [] 10 [(1, [], .pointer (some ⟨b_, 0, none⟩)), (3, [], .func (.func 26) #[] #[]), (12, [], .bool true), (13, [], undef)] ?_
          refine Zf [.skip, .skip, .skip, .plain, .plain, .skip, .skip, .skip, .skip, .plain] [(23, .bool true)] ?_
          exact ⟨[(23, Value.bool true)], Sub.mk (by kernel_rfl), true, rfl, h⟩
        · replace h := h.2 hb
          refine Zn [] 10 [(1, [], .pointer (some ⟨b_, 0, none⟩)), (3, [], .func (.func 26) #[] #[]), (12, [], .bool false), (13, [], .pointer (some ⟨b_, 1, none⟩))] ?_
          refine Zn [] 10 [(1, [], .pointer (some ⟨b_, 0, none⟩)), (3, [], .func (.func 26) #[] #[]), (12, [], .bool false), (13, [], .pointer (some ⟨b_, 1, none⟩))] ?_
          obtain ⟨v14, hc, h⟩ := h
          refine Zl 22 13 b_ 1 22 14 hc ?_
          refine Zn [.sure, .sure, .plain, .plain, .plain] 16 [(3, [], .func (.func 26) #[] #[]), (18, [], .bool (decide (((v14.len : Nat) : Int) > 32))), (19, [(18, false)], .pointer (some ⟨b_, 1, none⟩))] ?_
          refine reg_split 18 (decide (((v14.len : Nat) : Int) > 32)) (by kernel_rfl) (fun hb => ?_) (fun hb => ?_)
          · replace h := h.1 hb
            refine Zn [] 16 [(3, [], .func (.func 26) #[] #[]), (18, [], .bool true), (19, [], undef)] ?_
            refine Zf [.skip, .skip, .skip, .plain] [(23, .bool true)] ?_
            exact ⟨[(23, Value.bool true)], Sub.mk (by kernel_rfl), true, rfl, h⟩
          · replace h := h.2 hb
            refine Zn [] 16 [(3, [], .func (.func 26) #[] #[]), (18, [], .bool false), (19, [], .pointer (some ⟨b_, 1, none⟩))] ?_
            refine Zn [] 16 [(3, [], .func (.func 26) #[] #[]), (18, [], .bool false), (19, [], .pointer (some ⟨b_, 1, none⟩))] ?_
            obtain ⟨v20, hc, h⟩ := h
            refine Zl 22 19 b_ 1 22 20 hc ?_
            refine Zn [.sure] 18 [(18, [], .bool false), (20, [], .slice v20.ptr v20.len v20.cap), (21, [], .func (.func 26) #[] #[])] ?_
            refine Zm 27 #[.slice v20.ptr v20.len v20.cap, .func (.func 26) #[] #[]] (some 22) (Calls.mono h ?_)
            rintro _ w3 ⟨v22, rfl, h⟩
            refine ⟨_, rfl, ?_⟩
            refine Zf P1 [(23, .bool v22)] ?_
            exact ⟨[(23, Value.bool v22)], Sub.mk (by kernel_rfl), v22, rfl, h⟩
    · rintro _ w2 ⟨t23, rfl, h⟩
      unfold F_record_Check_k0 at h
      refine Zc 23 t23 c10_11 c10_15 (fun hb => ?_) (fun hb => ?_)
      · replace h := h.1 hb
        refine Zp c10_14 P1 [(2, .int .i64 1)] ?_
        refine wpE_ret (by kernel_rfl) ?_
        repeat (first | refine seqQ_ret ?_ | refine blockQ_ret ?_ | refine loopQ_ret ?_ | refine cutQ_ret ?_)
        exact retS (rs := [(ResultVar.tmp 2)]) (v := Value.int .i64 1) (by kernel_rfl) (⟨by kernel_rfl, trivial⟩) ⟨1, rfl, h⟩
      · replace h := h.2 hb
        refine wpE_skip (by kernel_rfl) ?_
        change WpE _ _ c10_16 _ _ _
        refine Zp c10_19 P1 [(2, .int .i64 0)] ?_
        refine wpE_ret (by kernel_rfl) ?_
        repeat (first | refine seqQ_ret ?_ | refine blockQ_ret ?_ | refine loopQ_ret ?_ | refine cutQ_ret ?_)
        exact retS (rs := [(ResultVar.tmp 2)]) (v := Value.int .i64 0) (by kernel_rfl) (⟨by kernel_rfl, trivial⟩) ⟨0, rfl, h⟩
  · rintro e w' ⟨v, rfl, r0, rfl, h⟩; exact ⟨r0, rfl, h⟩

/-! ### towpath/record.Check$1 (function 26) -/
noncomputable def c26_0 := (Tryz.f26.body).getD Code.skip
noncomputable def c26_1 := Code.l c26_0
noncomputable def r26_1 := Code.ops c26_1
noncomputable def c26_3 := Code.r c26_0
noncomputable def c26_4 := Code.l c26_3
noncomputable def r26_4 := Code.ops c26_4
noncomputable def c26_6 := Code.r c26_3

theorem S_record_Check_1 {w_ : T_api_Write} {w : World} {R : Bool → World → Prop} (h : F_record_Check_1 w_ R w) : C_record_Check_1 w_ w R := by
  unfold F_record_Check_1 at h
  unfold C_record_Check_1
  refine Calls.mono (calls_of_wpE (args := [Value.agg #[Value.string w_.Key, Value.string w_.Val, Value.bool w_.Drop]]) (R := fun v w' => ∃ (r0 : Bool), v = Value.bool r0 ∧ R r0 w') Tryz.func26 (c := c26_0) (by kernel_rfl) 27 (by kernel_rfl) (by kernel_rfl) [(0, Value.agg #[Value.string w_.Key, Value.string w_.Val, Value.bool w_.Drop])] (by kernel_rfl) ?_) ?_
  · refine Zt r26_1 c26_3 ?_
    refine Zn [] 0 [(0, [], .agg #[.string w_.Key, .string w_.Val, .bool w_.Drop])] ?_
    refine Zw (some 1) (fun bb => .pointer (some ⟨bb, 0, none⟩)) (Obj.cells ([.string w_.Key, .string w_.Val, .bool w_.Drop]).toArray ty_api_Write (0, 0)) (fun b_ w1 hb hw => ?_)
    replace h := h b_ w1 hb hw
    clear hb hw
    refine Zf P1 [(1, .pointer (some ⟨b_, 0, none⟩))] ?_
    change WpE _ _ c26_3 _ _ _
    refine Zt r26_4 c26_6 ?_
    refine Zn P1 1 [(1, [], .pointer (some ⟨b_, 0, none⟩)), (3, [], .pointer (some ⟨b_, 0, none⟩))] ?_
    obtain ⟨v4, hc, h⟩ := h
    refine Zl 9 3 b_ 0 9 4 hc ?_
    refine Zn P3 5 [(1, [], .pointer (some ⟨b_, 0, none⟩)), (6, [], .bool (v4.toList == ByteArray.empty.toList)), (7, [(6, false)], .pointer (some ⟨b_, 0, none⟩))] ?_
    refine reg_split 6 (v4.toList == ByteArray.empty.toList) (by kernel_rfl) (fun hb => ?_) (fun hb => ?_)
    · replace h := h.1 hb
      refine Zn [] 5 [(1, [], .pointer (some ⟨b_, 0, none⟩)), (6, [], .bool true), (7, [], undef)] ?_
      refine Zf [.skip, .skip, .skip, .plain, .plain, .skip, .skip, .skip, .skip, .plain, .plain, .skip, .skip, .skip, .skip, .skip, .skip, .skip, .plain, .plain] [(2, .bool true)] ?_
      change WpE _ _ c26_6 _ _ _
      refine wpE_ret (by kernel_rfl) ?_
      repeat (first | refine seqQ_ret ?_ | refine blockQ_ret ?_ | refine loopQ_ret ?_ | refine cutQ_ret ?_)
      exact retS (rs := [(ResultVar.tmp 2)]) (v := Value.bool true) (by kernel_rfl) (⟨by kernel_rfl, trivial⟩) ⟨true, rfl, h⟩
    · replace h := h.2 hb
      refine Zn [] 5 [(1, [], .pointer (some ⟨b_, 0, none⟩)), (6, [], .bool false), (7, [], .pointer (some ⟨b_, 0, none⟩))] ?_
      refine Zn [] 5 [(1, [], .pointer (some ⟨b_, 0, none⟩)), (6, [], .bool false), (7, [], .pointer (some ⟨b_, 0, none⟩))] ?_
      obtain ⟨v8, hc, h⟩ := h
      refine Zl 9 7 b_ 0 9 8 hc ?_
      refine Zn [.sure, .sure, .plain, .plain, .plain] 11 [(1, [], .pointer (some ⟨b_, 0, none⟩)), (12, [], .bool (decide (((v8.size : Nat) : Int) > 64))), (13, [(12, false)], .pointer (some ⟨b_, 1, none⟩))] ?_
      refine reg_split 12 (decide (((v8.size : Nat) : Int) > 64)) (by kernel_rfl) (fun hb => ?_) (fun hb => ?_)
      · replace h := h.1 hb
        refine Zn [] 11 [(1, [], .pointer (some ⟨b_, 0, none⟩)), (12, [], .bool true), (13, [], undef)] ?_
        refine Zf [.skip, .skip, .skip, .plain, .plain, .skip, .skip, .skip, .skip, .skip, .skip, .skip, .plain, .plain] [(2, .bool true)] ?_
        change WpE _ _ c26_6 _ _ _
        refine wpE_ret (by kernel_rfl) ?_
        repeat (first | refine seqQ_ret ?_ | refine blockQ_ret ?_ | refine loopQ_ret ?_ | refine cutQ_ret ?_)
        exact retS (rs := [(ResultVar.tmp 2)]) (v := Value.bool true) (by kernel_rfl) (⟨by kernel_rfl, trivial⟩) ⟨true, rfl, h⟩
      · replace h := h.2 hb
        refine Zn [] 11 [(1, [], .pointer (some ⟨b_, 0, none⟩)), (12, [], .bool false), (13, [], .pointer (some ⟨b_, 1, none⟩))] ?_
        refine Zn [] 11 [(1, [], .pointer (some ⟨b_, 0, none⟩)), (12, [], .bool false), (13, [], .pointer (some ⟨b_, 1, none⟩))] ?_
        obtain ⟨v14, hc, h⟩ := h
        refine Zl 9 13 b_ 1 9 14 hc ?_
        refine Zn [.sure, .sure, .plain, .plain, .plain] 17 [(1, [], .pointer (some ⟨b_, 0, none⟩)), (18, [], .bool (decide (((v14.size : Nat) : Int) > 1024))), (19, [(18, false)], .pointer (some ⟨b_, 2, none⟩))] ?_
        refine reg_split 18 (decide (((v14.size : Nat) : Int) > 1024)) (by kernel_rfl) (fun hb => ?_) (fun hb => ?_)
        · replace h := h.1 hb
          refine Zn [] 17 [(1, [], .pointer (some ⟨b_, 0, none⟩)), (18, [], .bool true), (19, [], undef)] ?_
          refine Zf [.skip, .skip, .skip, .skip, .skip, .skip, .plain, .plain] [(2, .bool true)] ?_
          change WpE _ _ c26_6 _ _ _
          refine wpE_ret (by kernel_rfl) ?_
          repeat (first | refine seqQ_ret ?_ | refine blockQ_ret ?_ | refine loopQ_ret ?_ | refine cutQ_ret ?_)
          exact retS (rs := [(ResultVar.tmp 2)]) (v := Value.bool true) (by kernel_rfl) (⟨by kernel_rfl, trivial⟩) ⟨true, rfl, h⟩
        · replace h := h.2 hb
          refine Zn [] 17 [(1, [], .pointer (some ⟨b_, 0, none⟩)), (18, [], .bool false), (19, [], .pointer (some ⟨b_, 2, none⟩))] ?_
          refine Zn [] 17 [(1, [], .pointer (some ⟨b_, 0, none⟩)), (18, [], .bool false), (19, [], .pointer (some ⟨b_, 2, none⟩))] ?_
          obtain ⟨v20, hc, h⟩ := h
          refine Zl 4 19 b_ 2 4 20 hc ?_
          refine Zn [.sure, .plain] 20 [(18, [], .bool false), (21, [], .bool v20), (22, [(21, true)], .pointer (some ⟨b_, 1, none⟩))] ?_
          refine reg_split 21 v20 (by kernel_rfl) (fun hb => ?_) (fun hb => ?_)
          · replace h := h.1 hb
            refine Zn [] 20 [(18, [], .bool false), (21, [], .bool true), (22, [], .pointer (some ⟨b_, 1, none⟩))] ?_
            refine Zn [] 20 [(18, [], .bool false), (21, [], .bool true), (22, [], .pointer (some ⟨b_, 1, none⟩))] ?_
            obtain ⟨v23, hc, h⟩ := h
            refine Zl 9 22 b_ 1 9 23 hc ?_
            refine Zf [.sure, .sure, .plain, .plain] [(2, .bool (!(v23.toList == ByteArray.empty.toList)))] ?_
            change WpE _ _ c26_6 _ _ _
            refine wpE_ret (by kernel_rfl) ?_
            repeat (first | refine seqQ_ret ?_ | refine blockQ_ret ?_ | refine loopQ_ret ?_ | refine cutQ_ret ?_)
            exact retS (rs := [(ResultVar.tmp 2)]) (v := Value.bool (!(v23.toList == ByteArray.empty.toList))) (by kernel_rfl) (⟨by kernel_rfl, trivial⟩) ⟨(!(v23.toList == ByteArray.empty.toList)), rfl, h⟩
          · replace h := h.2 hb
            refine Zn [] 20 [(18, [], .bool false), (21, [], .bool false), (22, [], undef)] ?_
            refine Zf [.skip, .skip, .sure, .plain, .plain] [(2, .bool false)] ?_
            change WpE _ _ c26_6 _ _ _
            refine wpE_ret (by kernel_rfl) ?_
            repeat (first | refine seqQ_ret ?_ | refine blockQ_ret ?_ | refine loopQ_ret ?_ | refine cutQ_ret ?_)
            exact retS (rs := [(ResultVar.tmp 2)]) (v := Value.bool false) (by kernel_rfl) (⟨by kernel_rfl, trivial⟩) ⟨false, rfl, h⟩
  · rintro e w' ⟨v, rfl, r0, rfl, h⟩; exact ⟨r0, rfl, h⟩
end Go.Proofs.YtfmkemmgakdddaaGreatDoor
