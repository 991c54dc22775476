/- WRITTEN BY PROGRAM (dec.py): for each Go function the clean formula F, the call's contract C, and the proof S that F gives C. -/
import Derived.Test.YtfmkemmgakdddaaGreatDoorRows
import Derived.Test.YtfmkemmgakdddaaGreatDoorGF
namespace Go.Proofs.YtfmkemmgakdddaaGreatDoor
open Go
set_option linter.unusedVariables false
set_option maxRecDepth 100000
set_option maxHeartbeats 4000000

/-! ### towpath/towpathref05.Encode (function 9) -/
noncomputable def c9_0 := (Tryz.f9.body).getD Code.skip
noncomputable def c9_1 := Code.l c9_0
noncomputable def r9_1 := Code.ops c9_1
noncomputable def c9_3 := Code.r c9_0
noncomputable def c9_4 := Code.l c9_3
noncomputable def c9_5 := Code.l c9_4
noncomputable def r9_5 := Code.ops c9_5
noncomputable def c9_7 := Code.r c9_4
noncomputable def c9_8 := Code.l c9_7
noncomputable def c9_11 := Code.r c9_8
noncomputable def c9_12 := Code.r c9_7
noncomputable def c9_13 := Code.r c9_3
noncomputable def c9_14 := Code.l c9_13
noncomputable def r9_14 := Code.ops c9_14
noncomputable def c9_16 := Code.r c9_13
noncomputable def c9_17 := Code.l c9_16
noncomputable def r9_17 := Code.ops c9_17
noncomputable def c9_19 := Code.r c9_16
noncomputable def c9_20 := Code.l c9_19
noncomputable def c9_23 := Code.r c9_20
noncomputable def c9_24 := Code.l c9_23
noncomputable def c9_25 := Code.l c9_24
noncomputable def c9_26 := Code.l c9_25
noncomputable def c9_27 := Code.l c9_26
noncomputable def r9_27 := Code.ops c9_27
noncomputable def c9_29 := Code.r c9_26
noncomputable def c9_30 := Code.l c9_29
noncomputable def c9_31 := Code.r c9_29
noncomputable def c9_32 := Code.r c9_25
noncomputable def c9_33 := Code.l c9_32
noncomputable def c9_34 := Code.l c9_33
noncomputable def c9_35 := Code.l c9_34
noncomputable def r9_35 := Code.ops c9_35
noncomputable def c9_37 := Code.r c9_34
noncomputable def c9_38 := Code.l c9_37
noncomputable def r9_38 := Code.ops c9_38
noncomputable def c9_40 := Code.r c9_37
noncomputable def c9_41 := Code.l c9_40
noncomputable def c9_42 := Code.l c9_41
noncomputable def r9_42 := Code.ops c9_42
noncomputable def c9_44 := Code.r c9_41
noncomputable def c9_45 := Code.l c9_44
noncomputable def c9_46 := Code.l c9_45
noncomputable def r9_46 := Code.ops c9_46
noncomputable def c9_48 := Code.r c9_45
noncomputable def c9_49 := Code.r c9_44
noncomputable def c9_50 := Code.r c9_40
noncomputable def c9_51 := Code.l c9_50
noncomputable def r9_51 := Code.ops c9_51
noncomputable def c9_53 := Code.r c9_50
noncomputable def r9_53 := Code.ops c9_53
noncomputable def c9_55 := Code.r c9_32
noncomputable def r9_55 := Code.ops c9_55
noncomputable def c9_57 := Code.r c9_19
noncomputable def c9_60 := Code.r c9_57

theorem S_towpathref05_Encode {t_ : T_api_Txn} {w : World} {R : Slc → Int → World → Prop} (h : F_towpathref05_Encode t_ R w) : C_towpathref05_Encode t_ w R := by
  unfold F_towpathref05_Encode at h
  unfold C_towpathref05_Encode
  refine Calls.mono (calls_of_wpE (args := [Value.agg #[Value.int .i64 t_.Number, Value.slice t_.Writes.ptr t_.Writes.len t_.Writes.cap]]) (R := fun v w' => ∃ (r0 : Slc) (r1 : Int), v = Value.tuple #[Value.slice r0.ptr r0.len r0.cap, Value.int .i64 r1] ∧ R r0 r1 w') Tryz.func9 (c := c9_0) (by kernel_rfl) 49 (by kernel_rfl) (by kernel_rfl) [(0, Value.agg #[Value.int .i64 t_.Number, Value.slice t_.Writes.ptr t_.Writes.len t_.Writes.cap])] (by kernel_rfl) ?_) ?_
  · refine Zt r9_1 c9_3 ?_
    refine Zn [] 0 [(0, [], .agg #[.int .i64 t_.Number, .slice t_.Writes.ptr t_.Writes.len t_.Writes.cap])] ?_
    refine Zw (some 1) (fun bb => .pointer (some ⟨bb, 0, none⟩)) (Obj.cells ([.int .i64 t_.Number, .slice t_.Writes.ptr t_.Writes.len t_.Writes.cap]).toArray ty_api_Txn (0, 0)) (fun b_ w1 hb hw => ?_)
    replace h := h b_ w1 hb hw
    clear hb hw
    refine Zf P2 [(1, .pointer (some ⟨b_, 0, none⟩))] ?_
    change WpE _ _ c9_3 _ _ _
    refine Zs c9_4 c9_13 ?_
    refine Zt r9_5 c9_7 ?_
    refine Zn [] 0 [(1, [], .pointer (some ⟨b_, 0, none⟩))] ?_
    obtain ⟨v7, hc, h⟩ := h
    refine reg_loadN (t := 24) (a := (Operand.tmp 1)) (b := b_) (o := 0) (ty := 24) (dst := some 7) [Value.int .i64 v7.Number, Value.slice v7.Writes.ptr v7.Writes.len v7.Writes.cap] (by kernel_rfl) (by kernel_rfl) (by kernel_rfl) (k := 2) (by kernel_rfl) (by kernel_rfl) hc ?_
    refine Zn [] 1 [(1, [], .pointer (some ⟨b_, 0, none⟩)), (7, [], .agg #[.int .i64 v7.Number, .slice v7.Writes.ptr v7.Writes.len v7.Writes.cap])] ?_
    refine Zm 11 #[.agg #[.int .i64 v7.Number, .slice v7.Writes.ptr v7.Writes.len v7.Writes.cap]] (some 8) (Calls.mono h ?_)
    rintro _ w2 ⟨v8, rfl, h⟩
    refine ⟨_, rfl, ?_⟩
    refine Zf P1 [(1, .pointer (some ⟨b_, 0, none⟩)), (9, .bool (v8 != 0))] ?_
    change WpE _ _ c9_7 _ _ _
    refine Zc 9 (v8 != 0) c9_8 c9_12 (fun hb => ?_) (fun hb => ?_)
    · replace h := h.1 hb
      refine Zp c9_11 P2 [(2, .slice none 0 0), (3, .int .i64 1)] ?_
      refine wpE_ret (by kernel_rfl) ?_
      repeat (first | refine seqQ_ret ?_ | refine blockQ_ret ?_ | refine loopQ_ret ?_ | refine cutQ_ret ?_)
      exact retT (rs := [(ResultVar.tmp 2), (ResultVar.tmp 3)]) (vs := [Value.slice none 0 0, Value.int .i64 1]) (by kernel_rfl) (⟨by kernel_rfl, ⟨by kernel_rfl, trivial⟩⟩) (by kernel_rfl) ⟨(Slc.mk none 0 0), 1, rfl, h⟩
    · replace h := h.2 hb
      refine wpE_skip (by kernel_rfl) ?_
      change WpE _ _ c9_13 _ _ _
      refine Zt r9_14 c9_16 ?_
      refine Zn P1 1 [(1, [], .pointer (some ⟨b_, 0, none⟩)), (10, [], .pointer (some ⟨b_, 0, none⟩))] ?_
      obtain ⟨v11, hc, h⟩ := h
      refine Zl 3 10 b_ 0 3 11 hc ?_
      refine Zn P1 3 [(1, [], .pointer (some ⟨b_, 0, none⟩)), (12, [], .int .u64 (IntKind.u64.wrap v11))] ?_
      refine Zm 24 #[.slice none 0 0, .int .u64 (IntKind.u64.wrap v11)] (some 13) (Calls.mono h ?_)
      rintro _ w3 ⟨v13, rfl, h⟩
      refine ⟨_, rfl, ?_⟩
      refine Zf P1 [(1, .pointer (some ⟨b_, 0, none⟩)), (4, .slice v13.ptr v13.len v13.cap)] ?_
      change WpE _ _ c9_16 _ _ _
      refine Zt r9_17 c9_19 ?_
      refine Zn P2 2 [(1, [], .pointer (some ⟨b_, 0, none⟩)), (4, [], .slice v13.ptr v13.len v13.cap), (14, [], .slice v13.ptr v13.len v13.cap), (15, [], .pointer (some ⟨b_, 1, none⟩))] ?_
      obtain ⟨v16, hc, h⟩ := h
      refine Zl 22 15 b_ 1 22 16 hc ?_
      refine Zn P2 5 [(1, [], .pointer (some ⟨b_, 0, none⟩)), (4, [], .slice v13.ptr v13.len v13.cap), (14, [], .slice v13.ptr v13.len v13.cap), (18, [], .int .u64 (IntKind.u64.wrap ((v16.len : Nat) : Int)))] ?_
      refine Zm 24 #[.slice v13.ptr v13.len v13.cap, .int .u64 (IntKind.u64.wrap ((v16.len : Nat) : Int))] (some 19) (Calls.mono h ?_)
      rintro _ w4 ⟨v19, rfl, h⟩
      refine ⟨_, rfl, ?_⟩
      refine Zf P1 [(1, .pointer (some ⟨b_, 0, none⟩)), (4, .slice v19.ptr v19.len v19.cap)] ?_
      change WpE _ _ c9_19 _ _ _
      refine Zs c9_20 c9_57 ?_
      refine Zp c9_23 P1 [(1, .pointer (some ⟨b_, 0, none⟩)), (4, .slice v19.ptr v19.len v19.cap), (5, .int .i64 0)] ?_
      refine Zb 0 c9_24 ?_
      obtain ⟨I, μ, h0, hr⟩ := h
      refine wpE_loop (x := c9_25) (by kernel_rfl) (fun m l w => ∃ (b_1 : Slc) (i : Int), l = [(1, Value.pointer (some ⟨b_, 0, none⟩)), (4, Value.slice b_1.ptr b_1.len b_1.cap), (5, Value.int .i64 i)] ∧ I b_1 i w ∧ μ b_1 i w = m) (l' := [(1, Value.pointer (some ⟨b_, 0, none⟩)), (4, Value.slice v19.ptr v19.len v19.cap), (5, Value.int .i64 0)]) (Sub.mk (by kernel_rfl)) ⟨v19, 0, rfl, h0, rfl⟩ ?_
      rintro _ _ w5 ⟨b_1, i, rfl, hI, rfl⟩
      obtain ⟨again_, again__h, h⟩ : ∃ again_ : Slc → Int → World → Prop, (∀ b_1' i' w', again_ b_1' i' w' → I b_1' i' w' ∧ μ b_1' i' w' < μ b_1 i w5) ∧ F_towpathref05_Encode_L0 R b_ again_ b_1 i w5 := ⟨_, fun _ _ _ h => h, hr b_1 i w5 hI⟩
      clear h0 hI
      unfold F_towpathref05_Encode_L0 at h
      refine Zs c9_26 c9_32 ?_
      refine Zt r9_27 c9_29 ?_
      refine Zn P2 2 [(1, [], .pointer (some ⟨b_, 0, none⟩)), (4, [], .slice b_1.ptr b_1.len b_1.cap), (5, [], .int .i64 i), (20, [], .int .i64 i), (21, [], .pointer (some ⟨b_, 1, none⟩))] ?_
      obtain ⟨v22, hc, h⟩ := h
      refine Zl 22 21 b_ 1 22 22 hc ?_
      refine Zf P2 [(1, .pointer (some ⟨b_, 0, none⟩)), (4, .slice b_1.ptr b_1.len b_1.cap), (5, .int .i64 i), (24, .bool (decide (i < ((v22.len : Nat) : Int))))] ?_
      change WpE _ _ c9_29 _ _ _
      refine Zc 24 (decide (i < ((v22.len : Nat) : Int))) c9_30 c9_31 (fun hb => ?_) (fun hb => ?_)
      · replace h := h.1 hb
        refine wpE_skip (by kernel_rfl) ?_
        change WpE _ _ c9_32 _ _ _
        refine wpE_seq_cut (x := c9_33) (y := c9_55) (by kernel_rfl) (fun l w => ∃ (b_2 : Slc), l = [(1, Value.pointer (some ⟨b_, 0, none⟩)), (4, Value.slice b_2.ptr b_2.len b_2.cap), (5, Value.int .i64 i)] ∧ F_towpathref05_Encode_k1 i again_ b_2 w) ?_ ?_
        · refine Zb 1 c9_34 ?_
          refine Zt r9_35 c9_37 ?_
          refine Zn P1 1 [(1, [], .pointer (some ⟨b_, 0, none⟩)), (4, [], .slice b_1.ptr b_1.len b_1.cap), (5, [], .int .i64 i), (27, [], .pointer (some ⟨b_, 1, none⟩))] ?_
          obtain ⟨v28, hc, h⟩ := h
          refine Zl 22 27 b_ 1 22 28 hc ?_
          refine Zn P1 3 [(1, [], .pointer (some ⟨b_, 0, none⟩)), (4, [], .slice b_1.ptr b_1.len b_1.cap), (5, [], .int .i64 i), (28, [], .slice v28.ptr v28.len v28.cap), (29, [], .int .i64 i)] ?_
          obtain ⟨hp_7, h⟩ := h
          refine Zv (fun pp => [(1, [], .pointer (some ⟨b_, 0, none⟩)), (4, [], .slice b_1.ptr b_1.len b_1.cap), (5, [], .int .i64 i), (28, [], .slice pp v28.len v28.cap), (29, [], .int .i64 i)]) hp_7 ?_
          obtain ⟨h0, h1, h⟩ := h
          refine Zj 22 62 28 29 (pblk v28.ptr) (poff v28.ptr) v28.len v28.cap i 3 30 0 h0 h1 ?_
          refine Zn [] 4 [(1, [], .pointer (some ⟨b_, 0, none⟩)), (4, [], .slice b_1.ptr b_1.len b_1.cap), (5, [], .int .i64 i), (30, [], .pointer (some ⟨(pblk v28.ptr), (poff v28.ptr) + i.toNat * 3, none⟩))] ?_
          obtain ⟨v31, hc, h⟩ := h
          refine reg_loadN (t := 62) (a := (Operand.tmp 30)) (b := (pblk v28.ptr)) (o := ((poff v28.ptr) + i.toNat * 3)) (ty := 62) (dst := some 31) [Value.string v31.Key, Value.string v31.Val, Value.bool v31.Drop] (by kernel_rfl) (by kernel_rfl) (by kernel_rfl) (k := 3) (by kernel_rfl) (by kernel_rfl) hc ?_
          refine Zn [] 5 [(1, [], .pointer (some ⟨b_, 0, none⟩)), (4, [], .slice b_1.ptr b_1.len b_1.cap), (5, [], .int .i64 i), (31, [], .agg #[.string v31.Key, .string v31.Val, .bool v31.Drop])] ?_
          refine Zw (some 6) (fun bb => .pointer (some ⟨bb, 0, none⟩)) (Obj.cells ([.string ByteArray.empty, .string ByteArray.empty, .bool false]).toArray ty_api_Write (0, 0)) (fun b_3 w7 hb hw => ?_)
          replace h := h b_3 w7 hb hw
          clear hb hw
          refine Zn [] 6 [(1, [], .pointer (some ⟨b_, 0, none⟩)), (4, [], .slice b_1.ptr b_1.len b_1.cap), (5, [], .int .i64 i), (6, [], .pointer (some ⟨b_3, 0, none⟩)), (31, [], .agg #[.string v31.Key, .string v31.Val, .bool v31.Drop])] ?_
          obtain ⟨hc, h⟩ := h
          refine Zo 62 6 31 b_3 0 3 [.string v31.Key, .string v31.Val, .bool v31.Drop] hc (fun w8 hw => ?_)
          replace h := h w8 hw
          clear hw
          refine Ze [(1, .pointer (some ⟨b_, 0, none⟩)), (4, .slice b_1.ptr b_1.len b_1.cap), (5, .int .i64 i), (6, .pointer (some ⟨b_3, 0, none⟩))] ?_
          change WpE _ _ c9_37 _ _ _
          refine Zt r9_38 c9_40 ?_
          refine Zn P2 2 [(1, [], .pointer (some ⟨b_, 0, none⟩)), (4, [], .slice b_1.ptr b_1.len b_1.cap), (5, [], .int .i64 i), (6, [], .pointer (some ⟨b_3, 0, none⟩)), (32, [], .slice b_1.ptr b_1.len b_1.cap), (33, [], .pointer (some ⟨b_3, 0, none⟩))] ?_
          obtain ⟨v34, hc, h⟩ := h
          refine Zl 9 33 b_3 0 9 34 hc ?_
          refine Zn [] 3 [(1, [], .pointer (some ⟨b_, 0, none⟩)), (4, [], .slice b_1.ptr b_1.len b_1.cap), (5, [], .int .i64 i), (6, [], .pointer (some ⟨b_3, 0, none⟩)), (32, [], .slice b_1.ptr b_1.len b_1.cap), (34, [], .string v34)] ?_
          refine Zm 25 #[.slice b_1.ptr b_1.len b_1.cap, .string v34] (some 35) (Calls.mono h ?_)
          rintro _ w9 ⟨v35, rfl, h⟩
          refine ⟨_, rfl, ?_⟩
          refine Zf P1 [(1, .pointer (some ⟨b_, 0, none⟩)), (4, .slice v35.ptr v35.len v35.cap), (5, .int .i64 i), (6, .pointer (some ⟨b_3, 0, none⟩))] ?_
          change WpE _ _ c9_40 _ _ _
          refine Zs c9_41 c9_50 ?_
          refine Zt r9_42 c9_44 ?_
          refine Zn P1 1 [(1, [], .pointer (some ⟨b_, 0, none⟩)), (4, [], .slice v35.ptr v35.len v35.cap), (5, [], .int .i64 i), (6, [], .pointer (some ⟨b_3, 0, none⟩)), (36, [], .pointer (some ⟨b_3, 2, none⟩))] ?_
          obtain ⟨v37, hc, h⟩ := h
          refine Zl 4 36 b_3 2 4 37 hc ?_
          refine Ze [(1, .pointer (some ⟨b_, 0, none⟩)), (4, .slice v35.ptr v35.len v35.cap), (5, .int .i64 i), (6, .pointer (some ⟨b_3, 0, none⟩)), (37, .bool v37)] ?_
          change WpE _ _ c9_44 _ _ _
          refine Zc 37 v37 c9_45 c9_49 (fun hb => ?_) (fun hb => ?_)
          · replace h := h.1 hb
            refine Zt r9_46 c9_48 ?_
            refine Zn P1 1 [(1, [], .pointer (some ⟨b_, 0, none⟩)), (4, [], .slice v35.ptr v35.len v35.cap), (5, [], .int .i64 i), (38, [], .slice v35.ptr v35.len v35.cap)] ?_
            refine Zw (some 39) (fun bb => .slice (some ⟨bb, 0, none⟩) 1 1) (Obj.cells ([.int .u8 1]).toArray ty_uint8 (0, 0)) (fun b_4 w10 hb hw => ?_)
            replace h := h b_4 w10 hb hw
            clear hb hw
            refine Zn [] 2 [(1, [], .pointer (some ⟨b_, 0, none⟩)), (4, [], .slice v35.ptr v35.len v35.cap), (5, [], .int .i64 i), (38, [], .slice v35.ptr v35.len v35.cap), (39, [], .slice (some ⟨b_4, 0, none⟩) 1 1)] ?_
            obtain ⟨src, hs, h⟩ := h
            refine reg_append (t := 28) (tx := 28) (e := 5) (a := (Operand.tmp 38)) (xo := (Operand.tmp 39)) (s := v35) (x := (Slc.mk (some ⟨b_4, 0, none⟩) 1 1)) (sz := 1) (by_ := 1) (zs := [Value.int .u8 0]) (ty := 28) (dst := some 40)  src (by kernel_rfl) (by kernel_rfl) (by kernel_rfl) (by kernel_rfl) (by kernel_rfl) (by kernel_rfl) (by kernel_rfl) (by kernel_rfl) (by kernel_rfl) hs (AppendW.mono h (fun b_5 w11 h => ?_))
            refine Zf P1 [(1, .pointer (some ⟨b_, 0, none⟩)), (4, .slice b_5.ptr b_5.len b_5.cap), (5, .int .i64 i)] ?_
            change WpE _ _ c9_48 _ _ _
            refine wpE_exit (id := 1) (by kernel_rfl) ?_
            exact ⟨[(1, Value.pointer (some ⟨b_, 0, none⟩)), (4, Value.slice b_5.ptr b_5.len b_5.cap), (5, Value.int .i64 i)], Sub.mk (by kernel_rfl), b_5, rfl, h⟩
          · replace h := h.2 hb
            refine wpE_skip (by kernel_rfl) ?_
            change WpE _ _ c9_50 _ _ _
            refine Zt r9_51 c9_53 ?_
            refine Zn P1 1 [(1, [], .pointer (some ⟨b_, 0, none⟩)), (4, [], .slice v35.ptr v35.len v35.cap), (5, [], .int .i64 i), (6, [], .pointer (some ⟨b_3, 0, none⟩)), (41, [], .slice v35.ptr v35.len v35.cap)] ?_
            refine Zw (some 42) (fun bb => .slice (some ⟨bb, 0, none⟩) 1 1) (Obj.cells ([.int .u8 0]).toArray ty_uint8 (0, 0)) (fun b_6 w12 hb hw => ?_)
            replace h := h b_6 w12 hb hw
            clear hb hw
            refine Zn [] 2 [(1, [], .pointer (some ⟨b_, 0, none⟩)), (4, [], .slice v35.ptr v35.len v35.cap), (5, [], .int .i64 i), (6, [], .pointer (some ⟨b_3, 0, none⟩)), (41, [], .slice v35.ptr v35.len v35.cap), (42, [], .slice (some ⟨b_6, 0, none⟩) 1 1)] ?_
            obtain ⟨src, hs, h⟩ := h
            refine reg_append (t := 28) (tx := 28) (e := 5) (a := (Operand.tmp 41)) (xo := (Operand.tmp 42)) (s := v35) (x := (Slc.mk (some ⟨b_6, 0, none⟩) 1 1)) (sz := 1) (by_ := 1) (zs := [Value.int .u8 0]) (ty := 28) (dst := some 43)  src (by kernel_rfl) (by kernel_rfl) (by kernel_rfl) (by kernel_rfl) (by kernel_rfl) (by kernel_rfl) (by kernel_rfl) (by kernel_rfl) (by kernel_rfl) hs (AppendW.mono h (fun b_7 w13 h => ?_))
            refine Zf P1 [(1, .pointer (some ⟨b_, 0, none⟩)), (4, .slice b_7.ptr b_7.len b_7.cap), (5, .int .i64 i), (6, .pointer (some ⟨b_3, 0, none⟩))] ?_
            change WpE _ _ c9_53 _ _ _
            refine Zr r9_53 ?_
            refine Zn P2 2 [(1, [], .pointer (some ⟨b_, 0, none⟩)), (4, [], .slice b_7.ptr b_7.len b_7.cap), (5, [], .int .i64 i), (44, [], .slice b_7.ptr b_7.len b_7.cap), (45, [], .pointer (some ⟨b_3, 1, none⟩))] ?_
            obtain ⟨v46, hc, h⟩ := h
            refine Zl 9 45 b_3 1 9 46 hc ?_
            refine Zn [] 3 [(1, [], .pointer (some ⟨b_, 0, none⟩)), (4, [], .slice b_7.ptr b_7.len b_7.cap), (5, [], .int .i64 i), (44, [], .slice b_7.ptr b_7.len b_7.cap), (46, [], .string v46)] ?_
            refine Zm 25 #[.slice b_7.ptr b_7.len b_7.cap, .string v46] (some 47) (Calls.mono h ?_)
            rintro _ w14 ⟨v47, rfl, h⟩
            refine ⟨_, rfl, ?_⟩
            refine Zf P1 [(1, .pointer (some ⟨b_, 0, none⟩)), (4, .slice v47.ptr v47.len v47.cap), (5, .int .i64 i)] ?_
            exact ⟨[(1, Value.pointer (some ⟨b_, 0, none⟩)), (4, Value.slice v47.ptr v47.len v47.cap), (5, Value.int .i64 i)], Sub.mk (by kernel_rfl), v47, rfl, h⟩
        · rintro _ w6 ⟨b_2, rfl, h⟩
          unfold F_towpathref05_Encode_k1 at h
          refine Zr r9_55 ?_
          refine Zf P3 [(1, .pointer (some ⟨b_, 0, none⟩)), (4, .slice b_2.ptr b_2.len b_2.cap), (5, .int .i64 (IntKind.i64.wrap (i + 1)))] ?_
          have hb_ := again__h _ _ _ h
          exact ⟨_, hb_.2, [(1, Value.pointer (some ⟨b_, 0, none⟩)), (4, Value.slice b_2.ptr b_2.len b_2.cap), (5, Value.int .i64 (IntKind.i64.wrap (i + 1)))], Sub.mk (by kernel_rfl), b_2, (IntKind.i64.wrap (i + 1)), rfl, hb_.1, rfl⟩
      · replace h := h.2 hb
        refine wpE_exit (id := 0) (by kernel_rfl) ?_
        change WpE _ _ c9_57 _ _ _
        refine Zp c9_60 P3 [(2, .slice b_1.ptr b_1.len b_1.cap), (3, .int .i64 0)] ?_
        refine wpE_ret (by kernel_rfl) ?_
        repeat (first | refine seqQ_ret ?_ | refine blockQ_ret ?_ | refine loopQ_ret ?_ | refine cutQ_ret ?_)
        exact retT (rs := [(ResultVar.tmp 2), (ResultVar.tmp 3)]) (vs := [Value.slice b_1.ptr b_1.len b_1.cap, Value.int .i64 0]) (by kernel_rfl) (⟨by kernel_rfl, ⟨by kernel_rfl, trivial⟩⟩) (by kernel_rfl) ⟨b_1, 0, rfl, h⟩
  · rintro e w' ⟨v, rfl, r0, r1, rfl, h⟩; exact ⟨r0, r1, rfl, h⟩

/-! ### towpath/towpathref05.Check (function 11) -/
noncomputable def c11_0 := (Tryz.f11.body).getD Code.skip
noncomputable def c11_1 := Code.l c11_0
noncomputable def r11_1 := Code.ops c11_1
noncomputable def c11_3 := Code.r c11_0
noncomputable def c11_4 := Code.l c11_3
noncomputable def c11_5 := Code.l c11_4
noncomputable def r11_5 := Code.ops c11_5
noncomputable def c11_7 := Code.r c11_4
noncomputable def c11_8 := Code.l c11_7
noncomputable def c11_11 := Code.r c11_8
noncomputable def c11_12 := Code.r c11_7
noncomputable def c11_13 := Code.r c11_3
noncomputable def c11_14 := Code.l c11_13
noncomputable def c11_17 := Code.r c11_14
noncomputable def c11_18 := Code.l c11_17
noncomputable def c11_19 := Code.l c11_18
noncomputable def c11_20 := Code.l c11_19
noncomputable def c11_21 := Code.l c11_20
noncomputable def r11_21 := Code.ops c11_21
noncomputable def c11_23 := Code.r c11_20
noncomputable def c11_24 := Code.l c11_23
noncomputable def c11_25 := Code.r c11_23
noncomputable def c11_26 := Code.r c11_19
noncomputable def c11_27 := Code.l c11_26
noncomputable def c11_28 := Code.l c11_27
noncomputable def c11_29 := Code.l c11_28
noncomputable def r11_29 := Code.ops c11_29
noncomputable def c11_31 := Code.r c11_28
noncomputable def c11_32 := Code.l c11_31
noncomputable def c11_35 := Code.r c11_32
noncomputable def c11_36 := Code.r c11_31
noncomputable def c11_37 := Code.r c11_26
noncomputable def r11_37 := Code.ops c11_37
noncomputable def c11_39 := Code.r c11_13
noncomputable def c11_42 := Code.r c11_39

theorem S_towpathref05_Check {t_ : T_api_Txn} {w : World} {R : Int → World → Prop} (h : F_towpathref05_Check t_ R w) : C_towpathref05_Check t_ w R := by
  unfold F_towpathref05_Check at h
  unfold C_towpathref05_Check
  refine Calls.mono (calls_of_wpE (args := [Value.agg #[Value.int .i64 t_.Number, Value.slice t_.Writes.ptr t_.Writes.len t_.Writes.cap]]) (R := fun v w' => ∃ (r0 : Int), v = Value.int .i64 r0 ∧ R r0 w') Tryz.func11 (c := c11_0) (by kernel_rfl) 28 (by kernel_rfl) (by kernel_rfl) [(0, Value.agg #[Value.int .i64 t_.Number, Value.slice t_.Writes.ptr t_.Writes.len t_.Writes.cap])] (by kernel_rfl) ?_) ?_
  · refine Zt r11_1 c11_3 ?_
    refine Zn [] 0 [(0, [], .agg #[.int .i64 t_.Number, .slice t_.Writes.ptr t_.Writes.len t_.Writes.cap])] ?_
    refine Zw (some 1) (fun bb => .pointer (some ⟨bb, 0, none⟩)) (Obj.cells ([.int .i64 t_.Number, .slice t_.Writes.ptr t_.Writes.len t_.Writes.cap]).toArray ty_api_Txn (0, 0)) (fun b_ w1 hb hw => ?_)
    replace h := h b_ w1 hb hw
    clear hb hw
    refine Zf P1 [(1, .pointer (some ⟨b_, 0, none⟩))] ?_
    change WpE _ _ c11_3 _ _ _
    refine Zs c11_4 c11_13 ?_
    refine wpE_seq_cut (x := c11_5) (y := c11_7) (by kernel_rfl) (fun l w => ∃ (t13 : Bool), l = [(1, Value.pointer (some ⟨b_, 0, none⟩)), (13, Value.bool t13)] ∧ F_towpathref05_Check_k0 R b_ t13 w) ?_ ?_
    · refine Zr r11_5 ?_
      refine Zn P1 1 [(1, [], .pointer (some ⟨b_, 0, none⟩)), (4, [], .pointer (some ⟨b_, 0, none⟩))] ?_
      obtain ⟨v5, hc, h⟩ := h
      refine Zl 3 4 b_ 0 3 5 hc ?_
      refine Zn [] 2 [(1, [], .pointer (some ⟨b_, 0, none⟩)), (5, [], .int .i64 v5)] ?_
      refine Zm 28 #[.int .i64 v5] (some 6) (Calls.mono h ?_)
      rintro _ w5 ⟨v6, rfl, h⟩
      refine ⟨_, rfl, ?_⟩
      refine Zn P3 6 [(1, [], .pointer (some ⟨b_, 0, none⟩)), (8, [], .bool (!v6)), (9, [(8, false)], .pointer (some ⟨b_, 1, none⟩))] ?_
      refine reg_split 8 (!v6) (by kernel_rfl) (fun hb => ?_) (fun hb => ?_)
      · replace h := h.1 hb
        refine Zn [] 6 [(1, [], .pointer (some ⟨b_, 0, none⟩)), (8, [], .bool true), (9, [], undef)] ?_
        refine Zf [.skip, .skip, .skip, .plain] [(1, .pointer (some ⟨b_, 0, none⟩)), (13, .bool true)] ?_
        exact ⟨[(1, Value.pointer (some ⟨b_, 0, none⟩)), (13, Value.bool true)], Sub.mk (by kernel_rfl), true, rfl, h⟩
      · replace h := h.2 hb
        refine Zn [] 6 [(1, [], .pointer (some ⟨b_, 0, none⟩)), (8, [], .bool false), (9, [], .pointer (some ⟨b_, 1, none⟩))] ?_
        refine Zn [] 6 [(1, [], .pointer (some ⟨b_, 0, none⟩)), (8, [], .bool false), (9, [], .pointer (some ⟨b_, 1, none⟩))] ?_
        obtain ⟨v10, hc, h⟩ := h
        refine Zl 22 9 b_ 1 22 10 hc ?_
        refine Zf [.sure, .sure, .plain] [(1, .pointer (some ⟨b_, 0, none⟩)), (13, .bool (decide (((v10.len : Nat) : Int) > 32)))] ?_
        exact ⟨[(1, Value.pointer (some ⟨b_, 0, none⟩)), (13, Value.bool (decide (((v10.len : Nat) : Int) > 32)))], Sub.mk (by kernel_rfl), (decide (((v10.len : Nat) : Int) > 32)), rfl, h⟩
    · rintro _ w2 ⟨t13, rfl, h⟩
      unfold F_towpathref05_Check_k0 at h
      refine Zc 13 t13 c11_8 c11_12 (fun hb => ?_) (fun hb => ?_)
      · replace h := h.1 hb
        refine Zp c11_11 P1 [(2, .int .i64 1)] ?_
        refine wpE_ret (by kernel_rfl) ?_
        repeat (first | refine seqQ_ret ?_ | refine blockQ_ret ?_ | refine loopQ_ret ?_ | refine cutQ_ret ?_)
        exact retS (rs := [(ResultVar.tmp 2)]) (v := Value.int .i64 1) (by kernel_rfl) (⟨by kernel_rfl, trivial⟩) ⟨1, rfl, h⟩
      · replace h := h.2 hb
        refine wpE_skip (by kernel_rfl) ?_
        change WpE _ _ c11_13 _ _ _
        refine Zs c11_14 c11_39 ?_
        refine Zp c11_17 P1 [(1, .pointer (some ⟨b_, 0, none⟩)), (3, .int .i64 0)] ?_
        refine Zb 0 c11_18 ?_
        obtain ⟨I, μ, h0, hr⟩ := h
        refine wpE_loop (x := c11_19) (by kernel_rfl) (fun m l w => ∃ (i : Int), l = [(1, Value.pointer (some ⟨b_, 0, none⟩)), (3, Value.int .i64 i)] ∧ I i w ∧ μ i w = m) (l' := [(1, Value.pointer (some ⟨b_, 0, none⟩)), (3, Value.int .i64 0)]) (Sub.mk (by kernel_rfl)) ⟨0, rfl, h0, rfl⟩ ?_
        rintro _ _ w3 ⟨i, rfl, hI, rfl⟩
        obtain ⟨again_, again__h, h⟩ : ∃ again_ : Int → World → Prop, (∀ i' w', again_ i' w' → I i' w' ∧ μ i' w' < μ i w3) ∧ F_towpathref05_Check_L1 R b_ again_ i w3 := ⟨_, fun _ _ h => h, hr i w3 hI⟩
        clear h0 hI
        unfold F_towpathref05_Check_L1 at h
        refine Zs c11_20 c11_26 ?_
        refine Zt r11_21 c11_23 ?_
        refine Zn P2 2 [(1, [], .pointer (some ⟨b_, 0, none⟩)), (3, [], .int .i64 i), (14, [], .int .i64 i), (15, [], .pointer (some ⟨b_, 1, none⟩))] ?_
        obtain ⟨v16, hc, h⟩ := h
        refine Zl 22 15 b_ 1 22 16 hc ?_
        refine Zf P2 [(1, .pointer (some ⟨b_, 0, none⟩)), (3, .int .i64 i), (18, .bool (decide (i < ((v16.len : Nat) : Int))))] ?_
        change WpE _ _ c11_23 _ _ _
        refine Zc 18 (decide (i < ((v16.len : Nat) : Int))) c11_24 c11_25 (fun hb => ?_) (fun hb => ?_)
        · replace h := h.1 hb
          refine wpE_skip (by kernel_rfl) ?_
          change WpE _ _ c11_26 _ _ _
          refine Zs c11_27 c11_37 ?_
          refine Zb 1 c11_28 ?_
          refine Zt r11_29 c11_31 ?_
          refine Zn P1 1 [(1, [], .pointer (some ⟨b_, 0, none⟩)), (3, [], .int .i64 i), (21, [], .pointer (some ⟨b_, 1, none⟩))] ?_
          obtain ⟨v22, hc, h⟩ := h
          refine Zl 22 21 b_ 1 22 22 hc ?_
          refine Zn P1 3 [(1, [], .pointer (some ⟨b_, 0, none⟩)), (3, [], .int .i64 i), (22, [], .slice v22.ptr v22.len v22.cap), (23, [], .int .i64 i)] ?_
          obtain ⟨hp_7, h⟩ := h
          refine Zv (fun pp => [(1, [], .pointer (some ⟨b_, 0, none⟩)), (3, [], .int .i64 i), (22, [], .slice pp v22.len v22.cap), (23, [], .int .i64 i)]) hp_7 ?_
          obtain ⟨h0, h1, h⟩ := h
          refine Zj 22 62 22 23 (pblk v22.ptr) (poff v22.ptr) v22.len v22.cap i 3 24 0 h0 h1 ?_
          refine Zn [] 4 [(1, [], .pointer (some ⟨b_, 0, none⟩)), (3, [], .int .i64 i), (24, [], .pointer (some ⟨(pblk v22.ptr), (poff v22.ptr) + i.toNat * 3, none⟩))] ?_
          obtain ⟨v25, hc, h⟩ := h
          refine reg_loadN (t := 62) (a := (Operand.tmp 24)) (b := (pblk v22.ptr)) (o := ((poff v22.ptr) + i.toNat * 3)) (ty := 62) (dst := some 25) [Value.string v25.Key, Value.string v25.Val, Value.bool v25.Drop] (by kernel_rfl) (by kernel_rfl) (by kernel_rfl) (k := 3) (by kernel_rfl) (by kernel_rfl) hc ?_
          refine Zn [] 5 [(1, [], .pointer (some ⟨b_, 0, none⟩)), (3, [], .int .i64 i), (25, [], .agg #[.string v25.Key, .string v25.Val, .bool v25.Drop])] ?_
          refine Zm 29 #[.agg #[.string v25.Key, .string v25.Val, .bool v25.Drop]] (some 26) (Calls.mono h ?_)
          rintro _ w4 ⟨v26, rfl, h⟩
          refine ⟨_, rfl, ?_⟩
          refine Zf P1 [(1, .pointer (some ⟨b_, 0, none⟩)), (3, .int .i64 i), (27, .bool (!v26))] ?_
          change WpE _ _ c11_31 _ _ _
          refine Zc 27 (!v26) c11_32 c11_36 (fun hb => ?_) (fun hb => ?_)
          · replace h := h.1 hb
            refine Zp c11_35 P1 [(2, .int .i64 1)] ?_
            refine wpE_ret (by kernel_rfl) ?_
            repeat (first | refine seqQ_ret ?_ | refine blockQ_ret ?_ | refine loopQ_ret ?_ | refine cutQ_ret ?_)
            exact retS (rs := [(ResultVar.tmp 2)]) (v := Value.int .i64 1) (by kernel_rfl) (⟨by kernel_rfl, trivial⟩) ⟨1, rfl, h⟩
          · replace h := h.2 hb
            refine wpE_skip (by kernel_rfl) ?_
            change WpE _ _ c11_37 _ _ _
            refine Zr r11_37 ?_
            refine Zf P3 [(1, .pointer (some ⟨b_, 0, none⟩)), (3, .int .i64 (IntKind.i64.wrap (i + 1)))] ?_
            have hb_ := again__h _ _ h
            exact ⟨_, hb_.2, [(1, Value.pointer (some ⟨b_, 0, none⟩)), (3, Value.int .i64 (IntKind.i64.wrap (i + 1)))], Sub.mk (by kernel_rfl), (IntKind.i64.wrap (i + 1)), rfl, hb_.1, rfl⟩
        · replace h := h.2 hb
          refine wpE_exit (id := 0) (by kernel_rfl) ?_
          change WpE _ _ c11_39 _ _ _
          refine Zp c11_42 P1 [(2, .int .i64 0)] ?_
          refine wpE_ret (by kernel_rfl) ?_
          repeat (first | refine seqQ_ret ?_ | refine blockQ_ret ?_ | refine loopQ_ret ?_ | refine cutQ_ret ?_)
          exact retS (rs := [(ResultVar.tmp 2)]) (v := Value.int .i64 0) (by kernel_rfl) (⟨by kernel_rfl, trivial⟩) ⟨0, rfl, h⟩
  · rintro e w' ⟨v, rfl, r0, rfl, h⟩; exact ⟨r0, rfl, h⟩

/-! ### towpath/towpathref05.Number (function 28) -/
noncomputable def c28_0 := (Tryz.f28.body).getD Code.skip
noncomputable def c28_3 := Code.r c28_0
noncomputable def c28_6 := Code.r c28_3

theorem S_towpathref05_Number {n_ : Int} {w : World} {R : Bool → World → Prop} (h : F_towpathref05_Number n_ R w) : C_towpathref05_Number n_ w R := by
  unfold F_towpathref05_Number at h
  unfold C_towpathref05_Number
  refine Calls.mono (calls_of_wpE (args := [Value.int .i64 n_]) (R := fun v w' => ∃ (r0 : Bool), v = Value.bool r0 ∧ R r0 w') Tryz.func28 (c := c28_0) (by kernel_rfl) 9 (by kernel_rfl) (by kernel_rfl) [(0, Value.int .i64 n_)] (by kernel_rfl) ?_) ?_
  · refine Zp c28_3 P1 [(0, .int .i64 n_)] ?_
    refine Zp c28_6 [.plain, .plain, .plain, .plain, .plain, .pick, .plain] [(2, .bool ((decide (n_ ≥ 1)) && (decide (n_ ≤ 65536))))] ?_
    refine wpE_ret (by kernel_rfl) ?_
    repeat (first | refine seqQ_ret ?_ | refine blockQ_ret ?_ | refine loopQ_ret ?_ | refine cutQ_ret ?_)
    exact retS (rs := [(ResultVar.tmp 2)]) (v := Value.bool ((decide (n_ ≥ 1)) && (decide (n_ ≤ 65536)))) (by kernel_rfl) (⟨by kernel_rfl, trivial⟩) ⟨((decide (n_ ≥ 1)) && (decide (n_ ≤ 65536))), rfl, h⟩
  · rintro e w' ⟨v, rfl, r0, rfl, h⟩; exact ⟨r0, rfl, h⟩

/-! ### towpath/towpathref05.Write (function 29) -/
noncomputable def c29_0 := (Tryz.f29.body).getD Code.skip
noncomputable def c29_1 := Code.l c29_0
noncomputable def r29_1 := Code.ops c29_1
noncomputable def c29_3 := Code.r c29_0
noncomputable def c29_4 := Code.l c29_3
noncomputable def r29_4 := Code.ops c29_4
noncomputable def c29_6 := Code.r c29_3

theorem S_towpathref05_Write {w_ : T_api_Write} {w : World} {R : Bool → World → Prop} (h : F_towpathref05_Write w_ R w) : C_towpathref05_Write w_ w R := by
  unfold F_towpathref05_Write at h
  unfold C_towpathref05_Write
  refine Calls.mono (calls_of_wpE (args := [Value.agg #[Value.string w_.Key, Value.string w_.Val, Value.bool w_.Drop]]) (R := fun v w' => ∃ (r0 : Bool), v = Value.bool r0 ∧ R r0 w') Tryz.func29 (c := c29_0) (by kernel_rfl) 22 (by kernel_rfl) (by kernel_rfl) [(0, Value.agg #[Value.string w_.Key, Value.string w_.Val, Value.bool w_.Drop])] (by kernel_rfl) ?_) ?_
  · refine Zt r29_1 c29_3 ?_
    refine Zn [] 0 [(0, [], .agg #[.string w_.Key, .string w_.Val, .bool w_.Drop])] ?_
    refine Zw (some 1) (fun bb => .pointer (some ⟨bb, 0, none⟩)) (Obj.cells ([.string w_.Key, .string w_.Val, .bool w_.Drop]).toArray ty_api_Write (0, 0)) (fun b_ w1 hb hw => ?_)
    replace h := h b_ w1 hb hw
    clear hb hw
    refine Zf P1 [(1, .pointer (some ⟨b_, 0, none⟩))] ?_
    change WpE _ _ c29_3 _ _ _
    refine Zt r29_4 c29_6 ?_
    refine Zn P1 1 [(1, [], .pointer (some ⟨b_, 0, none⟩)), (3, [], .pointer (some ⟨b_, 0, none⟩))] ?_
    obtain ⟨v4, hc, h⟩ := h
    refine Zl 9 3 b_ 0 9 4 hc ?_
    refine Zn [] 2 [(1, [], .pointer (some ⟨b_, 0, none⟩)), (4, [], .string v4)] ?_
    refine Zm 69 #[.string v4] (some 5) (Calls.mono h ?_)
    rintro _ w2 ⟨v5, rfl, h⟩
    refine ⟨_, rfl, ?_⟩
    refine Zn P2 5 [(1, [], .pointer (some ⟨b_, 0, none⟩)), (6, [], .bool v5), (7, [(6, true)], .pointer (some ⟨b_, 1, none⟩))] ?_
    refine reg_split 6 v5 (by kernel_rfl) (fun hb => ?_) (fun hb => ?_)
    · replace h := h.1 hb
      refine Zn [] 5 [(1, [], .pointer (some ⟨b_, 0, none⟩)), (6, [], .bool true), (7, [], .pointer (some ⟨b_, 1, none⟩))] ?_
      refine Zn [] 5 [(1, [], .pointer (some ⟨b_, 0, none⟩)), (6, [], .bool true), (7, [], .pointer (some ⟨b_, 1, none⟩))] ?_
      obtain ⟨v8, hc, h⟩ := h
      refine Zl 9 7 b_ 1 9 8 hc ?_
      refine Zn [] 6 [(1, [], .pointer (some ⟨b_, 0, none⟩)), (6, [], .bool true), (8, [], .string v8)] ?_
      refine Zm 70 #[.string v8] (some 9) (Calls.mono h ?_)
      rintro _ w3 ⟨v9, rfl, h⟩
      refine ⟨_, rfl, ?_⟩
      refine Zn P3 10 [(1, [], .pointer (some ⟨b_, 0, none⟩)), (11, [], .bool v9), (12, [(11, true)], .pointer (some ⟨b_, 2, none⟩))] ?_
      refine reg_split 11 v9 (by kernel_rfl) (fun hb => ?_) (fun hb => ?_)
      · replace h := h.1 hb
        refine Zn [] 10 [(1, [], .pointer (some ⟨b_, 0, none⟩)), (11, [], .bool true), (12, [], .pointer (some ⟨b_, 2, none⟩))] ?_
        refine Zn [] 10 [(1, [], .pointer (some ⟨b_, 0, none⟩)), (11, [], .bool true), (12, [], .pointer (some ⟨b_, 2, none⟩))] ?_
        obtain ⟨v13, hc, h⟩ := h
        refine Zl 4 12 b_ 2 4 13 hc ?_
        refine Zn [.sure, .sure, .plain] 14 [(11, [], .bool true), (15, [], .bool (!v13)), (16, [(15, false)], .pointer (some ⟨b_, 1, none⟩))] ?_
        refine reg_split 15 (!v13) (by kernel_rfl) (fun hb => ?_) (fun hb => ?_)
        · replace h := h.1 hb
          refine Zn [] 14 [(11, [], .bool true), (15, [], .bool true), (16, [], undef)] ?_
          refine Zf [.skip, .skip, .skip, .sure, .plain, .plain] [(2, .bool true)] ?_
          change WpE _ _ c29_6 _ _ _
          refine wpE_ret (by kernel_rfl) ?_
          repeat (first | refine seqQ_ret ?_ | refine blockQ_ret ?_ | refine loopQ_ret ?_ | refine cutQ_ret ?_)
          exact retS (rs := [(ResultVar.tmp 2)]) (v := Value.bool true) (by kernel_rfl) (⟨by kernel_rfl, trivial⟩) ⟨true, rfl, h⟩
        · replace h := h.2 hb
          refine Zn [] 14 [(11, [], .bool true), (15, [], .bool false), (16, [], .pointer (some ⟨b_, 1, none⟩))] ?_
          refine Zn [] 14 [(11, [], .bool true), (15, [], .bool false), (16, [], .pointer (some ⟨b_, 1, none⟩))] ?_
          obtain ⟨v17, hc, h⟩ := h
          refine Zl 9 16 b_ 1 9 17 hc ?_
          refine Zf [.sure, .sure, .sure, .plain, .plain] [(2, .bool (((v17.size : Nat) : Int) == 0))] ?_
          change WpE _ _ c29_6 _ _ _
          refine wpE_ret (by kernel_rfl) ?_
          repeat (first | refine seqQ_ret ?_ | refine blockQ_ret ?_ | refine loopQ_ret ?_ | refine cutQ_ret ?_)
          exact retS (rs := [(ResultVar.tmp 2)]) (v := Value.bool (((v17.size : Nat) : Int) == 0)) (by kernel_rfl) (⟨by kernel_rfl, trivial⟩) ⟨(((v17.size : Nat) : Int) == 0), rfl, h⟩
      · replace h := h.2 hb
        refine Zn [] 10 [(1, [], .pointer (some ⟨b_, 0, none⟩)), (11, [], .bool false), (12, [], undef)] ?_
        refine Zf [.skip, .skip, .skip, .skip, .skip, .skip, .skip, .skip, .plain, .plain] [(2, .bool false)] ?_
        change WpE _ _ c29_6 _ _ _
        refine wpE_ret (by kernel_rfl) ?_
        repeat (first | refine seqQ_ret ?_ | refine blockQ_ret ?_ | refine loopQ_ret ?_ | refine cutQ_ret ?_)
        exact retS (rs := [(ResultVar.tmp 2)]) (v := Value.bool false) (by kernel_rfl) (⟨by kernel_rfl, trivial⟩) ⟨false, rfl, h⟩
    · replace h := h.2 hb
      refine Zn [] 5 [(1, [], .pointer (some ⟨b_, 0, none⟩)), (6, [], .bool false), (7, [], undef)] ?_
      refine Zf [.skip, .skip, .plain, .plain, .skip, .skip, .skip, .skip, .skip, .skip, .skip, .skip, .skip, .plain, .plain] [(2, .bool false)] ?_
      change WpE _ _ c29_6 _ _ _
      refine wpE_ret (by kernel_rfl) ?_
      repeat (first | refine seqQ_ret ?_ | refine blockQ_ret ?_ | refine loopQ_ret ?_ | refine cutQ_ret ?_)
      exact retS (rs := [(ResultVar.tmp 2)]) (v := Value.bool false) (by kernel_rfl) (⟨by kernel_rfl, trivial⟩) ⟨false, rfl, h⟩
  · rintro e w' ⟨v, rfl, r0, rfl, h⟩; exact ⟨r0, rfl, h⟩

/-! ### towpath/towpathref05.Key (function 69) -/
noncomputable def c69_0 := (Tryz.f69.body).getD Code.skip
noncomputable def c69_3 := Code.r c69_0
noncomputable def c69_6 := Code.r c69_3

theorem S_towpathref05_Key {s : ByteArray} {w : World} {R : Bool → World → Prop} (h : F_towpathref05_Key s R w) : C_towpathref05_Key s w R := by
  unfold F_towpathref05_Key at h
  unfold C_towpathref05_Key
  refine Calls.mono (calls_of_wpE (args := [Value.string s]) (R := fun v w' => ∃ (r0 : Bool), v = Value.bool r0 ∧ R r0 w') Tryz.func69 (c := c69_0) (by kernel_rfl) 11 (by kernel_rfl) (by kernel_rfl) [(0, Value.string s)] (by kernel_rfl) ?_) ?_
  · refine Zp c69_3 P1 [(0, .string s)] ?_
    refine Zp c69_6 [.plain, .plain, .plain, .plain, .plain, .plain, .plain, .pick, .plain] [(2, .bool ((decide (((s.size : Nat) : Int) ≥ 1)) && (decide (((s.size : Nat) : Int) ≤ 64))))] ?_
    refine wpE_ret (by kernel_rfl) ?_
    repeat (first | refine seqQ_ret ?_ | refine blockQ_ret ?_ | refine loopQ_ret ?_ | refine cutQ_ret ?_)
    exact retS (rs := [(ResultVar.tmp 2)]) (v := Value.bool ((decide (((s.size : Nat) : Int) ≥ 1)) && (decide (((s.size : Nat) : Int) ≤ 64)))) (by kernel_rfl) (⟨by kernel_rfl, trivial⟩) ⟨((decide (((s.size : Nat) : Int) ≥ 1)) && (decide (((s.size : Nat) : Int) ≤ 64))), rfl, h⟩
  · rintro e w' ⟨v, rfl, r0, rfl, h⟩; exact ⟨r0, rfl, h⟩

/-! ### towpath/towpathref05.Val (function 70) -/
noncomputable def c70_0 := (Tryz.f70.body).getD Code.skip
noncomputable def c70_3 := Code.r c70_0
noncomputable def c70_6 := Code.r c70_3

theorem S_towpathref05_Val {s : ByteArray} {w : World} {R : Bool → World → Prop} (h : F_towpathref05_Val s R w) : C_towpathref05_Val s w R := by
  unfold F_towpathref05_Val at h
  unfold C_towpathref05_Val
  refine Calls.mono (calls_of_wpE (args := [Value.string s]) (R := fun v w' => ∃ (r0 : Bool), v = Value.bool r0 ∧ R r0 w') Tryz.func70 (c := c70_0) (by kernel_rfl) 6 (by kernel_rfl) (by kernel_rfl) [(0, Value.string s)] (by kernel_rfl) ?_) ?_
  · refine Zp c70_3 P1 [(0, .string s)] ?_
    refine Zp c70_6 P4 [(2, .bool (decide (((s.size : Nat) : Int) ≤ 1024)))] ?_
    refine wpE_ret (by kernel_rfl) ?_
    repeat (first | refine seqQ_ret ?_ | refine blockQ_ret ?_ | refine loopQ_ret ?_ | refine cutQ_ret ?_)
    exact retS (rs := [(ResultVar.tmp 2)]) (v := Value.bool (decide (((s.size : Nat) : Int) ≤ 1024))) (by kernel_rfl) (⟨by kernel_rfl, trivial⟩) ⟨(decide (((s.size : Nat) : Int) ≤ 1024)), rfl, h⟩
  · rintro e w' ⟨v, rfl, r0, rfl, h⟩; exact ⟨r0, rfl, h⟩
end Go.Proofs.YtfmkemmgakdddaaGreatDoor
