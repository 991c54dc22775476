/- WRITTEN BY PROGRAM (dec.py): for each Go function the clean formula F, the call's contract C, and the proof S that F gives C. -/
import Derived.Test.YtpdegdnigcnjiaaGreatDoorRows
import Derived.Test.YtpdegdnigcnjiaaGreatDoorGF
namespace Go.Proofs.YtpdegdnigcnjiaaGreatDoor
open Go
set_option linter.unusedVariables false
set_option maxRecDepth 100000
set_option maxHeartbeats 4000000

/-! ### towpath/logfile.Encode (function 33) -/
noncomputable def c33_0 := (Tryz.f33.body).getD Code.skip
noncomputable def c33_3 := Code.r c33_0
noncomputable def c33_4 := Code.l c33_3
noncomputable def c33_5 := Code.l c33_4
noncomputable def r33_5 := Code.ops c33_5
noncomputable def c33_7 := Code.r c33_4
noncomputable def c33_10 := Code.r c33_7
noncomputable def c33_11 := Code.l c33_10
noncomputable def c33_14 := Code.r c33_11
noncomputable def c33_15 := Code.r c33_10
noncomputable def c33_16 := Code.r c33_3
noncomputable def c33_17 := Code.l c33_16
noncomputable def r33_17 := Code.ops c33_17
noncomputable def c33_19 := Code.r c33_16
noncomputable def c33_20 := Code.l c33_19
noncomputable def c33_23 := Code.r c33_20
noncomputable def c33_24 := Code.l c33_23
noncomputable def c33_25 := Code.l c33_24
noncomputable def c33_28 := Code.r c33_25
noncomputable def c33_29 := Code.l c33_28
noncomputable def c33_30 := Code.l c33_29
noncomputable def c33_31 := Code.r c33_29
noncomputable def c33_32 := Code.r c33_28
noncomputable def c33_33 := Code.l c33_32
noncomputable def c33_34 := Code.l c33_33
noncomputable def c33_35 := Code.l c33_34
noncomputable def r33_35 := Code.ops c33_35
noncomputable def c33_37 := Code.r c33_34
noncomputable def c33_38 := Code.l c33_37
noncomputable def r33_38 := Code.ops c33_38
noncomputable def c33_40 := Code.r c33_37
noncomputable def c33_41 := Code.l c33_40
noncomputable def r33_41 := Code.ops c33_41
noncomputable def c33_43 := Code.r c33_40
noncomputable def r33_43 := Code.ops c33_43
noncomputable def c33_45 := Code.r c33_32
noncomputable def r33_45 := Code.ops c33_45
noncomputable def c33_47 := Code.r c33_19
noncomputable def c33_48 := Code.l c33_47
noncomputable def r33_48 := Code.ops c33_48
noncomputable def c33_50 := Code.r c33_47

theorem S_logfile_Encode {l_ : Slc} {w : World} {R : Slc → Int → World → Prop} (h : F_logfile_Encode l_ R w) : C_logfile_Encode l_ w R := by
  unfold F_logfile_Encode at h
  unfold C_logfile_Encode
  refine Calls.mono (calls_of_wpE (args := [Value.slice l_.ptr l_.len l_.cap]) (R := fun v w' => ∃ (r0 : Slc) (r1 : Int), v = Value.tuple #[Value.slice r0.ptr r0.len r0.cap, Value.int .i64 r1] ∧ R r0 r1 w') Tryz.func33 (c := c33_0) (by kernel_rfl) 39 (by kernel_rfl) (by kernel_rfl) [(0, Value.slice l_.ptr l_.len l_.cap)] (by kernel_rfl) ?_) ?_
  · refine Zp c33_3 P2 [(0, .slice l_.ptr l_.len l_.cap)] ?_
    refine Zs c33_4 c33_16 ?_
    refine Zt r33_5 c33_7 ?_
    refine Zn P1 1 [(0, [], .slice l_.ptr l_.len l_.cap), (10, [], .slice l_.ptr l_.len l_.cap)] ?_
    refine Zm 35 #[.slice l_.ptr l_.len l_.cap] (some 11) (Calls.mono h ?_)
    rintro _ w1 ⟨v11, rfl, h⟩
    refine ⟨_, rfl, ?_⟩
    refine Zf P1 [(0, .slice l_.ptr l_.len l_.cap), (4, .int .i64 v11)] ?_
    change WpE _ _ c33_7 _ _ _
    refine Zp c33_10 P2 [(0, .slice l_.ptr l_.len l_.cap), (4, .int .i64 v11), (13, .bool (v11 != 0))] ?_
    refine Zc 13 (v11 != 0) c33_11 c33_15 (fun hb => ?_) (fun hb => ?_)
    · replace h := h.1 hb
      refine Zp c33_14 P3 [(2, .slice none 0 0), (3, .int .i64 v11)] ?_
      refine wpE_ret (by kernel_rfl) ?_
      repeat (first | refine seqQ_ret ?_ | refine blockQ_ret ?_ | refine loopQ_ret ?_ | refine cutQ_ret ?_)
      exact retT (rs := [(ResultVar.tmp 2), (ResultVar.tmp 3)]) (vs := [Value.slice none 0 0, Value.int .i64 v11]) (by kernel_rfl) (⟨by kernel_rfl, ⟨by kernel_rfl, trivial⟩⟩) (by kernel_rfl) ⟨(Slc.mk none 0 0), v11, rfl, h⟩
    · replace h := h.2 hb
      refine wpE_skip (by kernel_rfl) ?_
      change WpE _ _ c33_16 _ _ _
      refine Zt r33_17 c33_19 ?_
      refine Zn [] 0 [(0, [], .slice l_.ptr l_.len l_.cap)] ?_
      refine Zm 103 #[] (some 15) (Calls.mono h ?_)
      rintro _ w2 ⟨v15, rfl, h⟩
      refine ⟨_, rfl, ?_⟩
      refine Zf P1 [(0, .slice l_.ptr l_.len l_.cap), (5, .pointer v15)] ?_
      change WpE _ _ c33_19 _ _ _
      refine Zs c33_20 c33_47 ?_
      refine Zp c33_23 P3 [(5, .pointer v15), (16, .slice l_.ptr l_.len l_.cap), (17, .int .i64 ((l_.len : Nat) : Int)), (18, .int .i64 0)] ?_
      refine Zb 0 c33_24 ?_
      obtain ⟨I, μ, h0, hr⟩ := h
      refine wpE_loop (x := c33_25) (by kernel_rfl) (fun m l w => ∃ (t18 : Int), l = [(5, Value.pointer v15), (16, Value.slice l_.ptr l_.len l_.cap), (17, Value.int .i64 ((l_.len : Nat) : Int)), (18, Value.int .i64 t18)] ∧ I t18 w ∧ μ t18 w = m) (l' := [(5, Value.pointer v15), (16, Value.slice l_.ptr l_.len l_.cap), (17, Value.int .i64 ((l_.len : Nat) : Int)), (18, Value.int .i64 0)]) (Sub.mk (by kernel_rfl)) ⟨0, rfl, h0, rfl⟩ ?_
      rintro _ _ w3 ⟨t18, rfl, hI, rfl⟩
      obtain ⟨again_, again__h, h⟩ : ∃ again_ : Int → World → Prop, (∀ t18' w', again_ t18' w' → I t18' w' ∧ μ t18' w' < μ t18 w3) ∧ F_logfile_Encode_L0 l_ R v15 again_ t18 w3 := ⟨_, fun _ _ h => h, hr t18 w3 hI⟩
      clear h0 hI
      unfold F_logfile_Encode_L0 at h
      refine Zp c33_28 P1 [(5, .pointer v15), (16, .slice l_.ptr l_.len l_.cap), (17, .int .i64 ((l_.len : Nat) : Int)), (18, .int .i64 t18), (19, .bool (decide (t18 < ((l_.len : Nat) : Int))))] ?_
      refine Zs c33_29 c33_32 ?_
      refine Zc 19 (decide (t18 < ((l_.len : Nat) : Int))) c33_30 c33_31 (fun hb => ?_) (fun hb => ?_)
      · replace h := h.1 hb
        refine wpE_skip (by kernel_rfl) ?_
        change WpE _ _ c33_32 _ _ _
        refine Zs c33_33 c33_45 ?_
        refine Zb 1 c33_34 ?_
        refine Zt r33_35 c33_37 ?_
        refine Zn [] 0 [(5, [], .pointer v15), (16, [], .slice l_.ptr l_.len l_.cap), (17, [], .int .i64 ((l_.len : Nat) : Int)), (18, [], .int .i64 t18)] ?_
        obtain ⟨hp_7, h⟩ := h
        refine Zv (fun pp => [(5, [], .pointer v15), (16, [], .slice pp l_.len l_.cap), (17, [], .int .i64 ((l_.len : Nat) : Int)), (18, [], .int .i64 t18)]) hp_7 ?_
        obtain ⟨h0, h1, h⟩ := h
        refine Zj 22 52 16 18 (pblk l_.ptr) (poff l_.ptr) l_.len l_.cap t18 2 20 0 h0 h1 ?_
        refine Zn [] 1 [(5, [], .pointer v15), (16, [], .slice (some ⟨(pblk l_.ptr), (poff l_.ptr), none⟩) l_.len l_.cap), (17, [], .int .i64 ((l_.len : Nat) : Int)), (18, [], .int .i64 t18), (20, [], .pointer (some ⟨(pblk l_.ptr), (poff l_.ptr) + t18.toNat * 2, none⟩))] ?_
        obtain ⟨v21, hc, h⟩ := h
        refine reg_loadN (t := 52) (a := (Operand.tmp 20)) (b := (pblk l_.ptr)) (o := ((poff l_.ptr) + t18.toNat * 2)) (ty := 52) (dst := some 21) [Value.int .i64 v21.Number, Value.slice v21.Writes.ptr v21.Writes.len v21.Writes.cap] (by kernel_rfl) (by kernel_rfl) (by kernel_rfl) (k := 2) (by kernel_rfl) (by kernel_rfl) hc ?_
        refine Zn [] 2 [(5, [], .pointer v15), (16, [], .slice (some ⟨(pblk l_.ptr), (poff l_.ptr), none⟩) l_.len l_.cap), (17, [], .int .i64 ((l_.len : Nat) : Int)), (18, [], .int .i64 t18), (21, [], .agg #[.int .i64 v21.Number, .slice v21.Writes.ptr v21.Writes.len v21.Writes.cap])] ?_
        refine Zw (some 7) (fun bb => .pointer (some ⟨bb, 0, none⟩)) (Obj.cells ([.int .i64 0, .slice none 0 0]).toArray ty_api_Txn (0, 0)) (fun b_ w4 hb hw => ?_)
        replace h := h b_ w4 hb hw
        clear hb hw
        refine Zn [] 3 [(5, [], .pointer v15), (7, [], .pointer (some ⟨b_, 0, none⟩)), (16, [], .slice (some ⟨(pblk l_.ptr), (poff l_.ptr), none⟩) l_.len l_.cap), (17, [], .int .i64 ((l_.len : Nat) : Int)), (18, [], .int .i64 t18), (21, [], .agg #[.int .i64 v21.Number, .slice v21.Writes.ptr v21.Writes.len v21.Writes.cap])] ?_
        obtain ⟨hc, h⟩ := h
        refine Zo 52 7 21 b_ 0 2 [.int .i64 v21.Number, .slice v21.Writes.ptr v21.Writes.len v21.Writes.cap] hc (fun w5 hw => ?_)
        replace h := h w5 hw
        clear hw
        refine Zn [] 4 [(5, [], .pointer v15), (7, [], .pointer (some ⟨b_, 0, none⟩)), (16, [], .slice (some ⟨(pblk l_.ptr), (poff l_.ptr), none⟩) l_.len l_.cap), (17, [], .int .i64 ((l_.len : Nat) : Int)), (18, [], .int .i64 t18)] ?_
        refine Zv (fun pp => [(5, [], .pointer v15), (7, [], .pointer (some ⟨b_, 0, none⟩)), (16, [], .slice pp l_.len l_.cap), (17, [], .int .i64 ((l_.len : Nat) : Int)), (18, [], .int .i64 t18)]) hp_7.symm ?_
        refine Ze [(5, .pointer v15), (7, .pointer (some ⟨b_, 0, none⟩)), (16, .slice l_.ptr l_.len l_.cap), (17, .int .i64 ((l_.len : Nat) : Int)), (18, .int .i64 t18)] ?_
        change WpE _ _ c33_37 _ _ _
        refine Zt r33_38 c33_40 ?_
        refine Zn [] 0 [(5, [], .pointer v15), (7, [], .pointer (some ⟨b_, 0, none⟩)), (16, [], .slice l_.ptr l_.len l_.cap), (17, [], .int .i64 ((l_.len : Nat) : Int)), (18, [], .int .i64 t18)] ?_
        obtain ⟨v23, hc, h⟩ := h
        refine reg_loadN (t := 52) (a := (Operand.tmp 7)) (b := b_) (o := 0) (ty := 52) (dst := some 23) [Value.int .i64 v23.Number, Value.slice v23.Writes.ptr v23.Writes.len v23.Writes.cap] (by kernel_rfl) (by kernel_rfl) (by kernel_rfl) (k := 2) (by kernel_rfl) (by kernel_rfl) hc ?_
        refine Zn [] 1 [(5, [], .pointer v15), (16, [], .slice l_.ptr l_.len l_.cap), (17, [], .int .i64 ((l_.len : Nat) : Int)), (18, [], .int .i64 t18), (23, [], .agg #[.int .i64 v23.Number, .slice v23.Writes.ptr v23.Writes.len v23.Writes.cap])] ?_
        refine Zm 104 #[.agg #[.int .i64 v23.Number, .slice v23.Writes.ptr v23.Writes.len v23.Writes.cap]] (some 24) (Calls.mono h ?_)
        rintro _ w6 ⟨b_1, v24_1, rfl, h⟩
        refine ⟨_, rfl, ?_⟩
        refine Zf (Pl 5) [(5, .pointer v15), (8, .slice b_1.ptr b_1.len b_1.cap), (16, .slice l_.ptr l_.len l_.cap), (17, .int .i64 ((l_.len : Nat) : Int)), (18, .int .i64 t18)] ?_
        change WpE _ _ c33_40 _ _ _
        refine Zt r33_41 c33_43 ?_
        refine Zn P2 2 [(5, [], .pointer v15), (8, [], .slice b_1.ptr b_1.len b_1.cap), (16, [], .slice l_.ptr l_.len l_.cap), (17, [], .int .i64 ((l_.len : Nat) : Int)), (18, [], .int .i64 t18), (27, [], .pointer v15), (28, [], .slice b_1.ptr b_1.len b_1.cap)] ?_
        obtain ⟨str, hs, h⟩ := h
        refine reg_toString (t := 79) (d := 9) (e := 5) (x := (Operand.tmp 28)) (s := b_1) (ty := 9) (dst := some 29) (by kernel_rfl) (by kernel_rfl) (by kernel_rfl) (by kernel_rfl) (by kernel_rfl) hs ?_
        refine Zn [] 3 [(5, [], .pointer v15), (8, [], .slice b_1.ptr b_1.len b_1.cap), (16, [], .slice l_.ptr l_.len l_.cap), (17, [], .int .i64 ((l_.len : Nat) : Int)), (18, [], .int .i64 t18), (27, [], .pointer v15), (29, [], .string str)] ?_
        refine Zm 105 #[.pointer v15, .string str] (some 30) (Calls.mono h ?_)
        rintro _ w7 ⟨rfl, h⟩
        refine ⟨_, rfl, ?_⟩
        refine Ze [(5, .pointer v15), (8, .slice b_1.ptr b_1.len b_1.cap), (16, .slice l_.ptr l_.len l_.cap), (17, .int .i64 ((l_.len : Nat) : Int)), (18, .int .i64 t18)] ?_
        change WpE _ _ c33_43 _ _ _
        refine Zr r33_43 ?_
        refine Zn P2 2 [(5, [], .pointer v15), (16, [], .slice l_.ptr l_.len l_.cap), (17, [], .int .i64 ((l_.len : Nat) : Int)), (18, [], .int .i64 t18), (31, [], .pointer v15), (32, [], .slice b_1.ptr b_1.len b_1.cap)] ?_
        refine Zm 107 #[.slice b_1.ptr b_1.len b_1.cap] (some 33) (Calls.mono h ?_)
        rintro _ w8 ⟨v33, rfl, h⟩
        refine ⟨_, rfl, ?_⟩
        refine Zn P1 4 [(5, [], .pointer v15), (16, [], .slice l_.ptr l_.len l_.cap), (17, [], .int .i64 ((l_.len : Nat) : Int)), (18, [], .int .i64 t18), (31, [], .pointer v15), (34, [], .int .u64 (IntKind.u64.wrap v33))] ?_
        refine Zm 106 #[.pointer v15, .int .u64 (IntKind.u64.wrap v33), .int .i64 4] (some 35) (Calls.mono h ?_)
        rintro _ w9 ⟨v35, rfl, h⟩
        refine ⟨_, rfl, ?_⟩
        refine Ze [(5, .pointer v15), (16, .slice l_.ptr l_.len l_.cap), (17, .int .i64 ((l_.len : Nat) : Int)), (18, .int .i64 t18)] ?_
        change WpE _ _ c33_45 _ _ _
        refine Zr r33_45 ?_
        refine Zf P2 [(5, .pointer v15), (16, .slice l_.ptr l_.len l_.cap), (17, .int .i64 ((l_.len : Nat) : Int)), (18, .int .i64 (IntKind.i64.wrap (t18 + 1)))] ?_
        have hb_ := again__h _ _ h
        exact ⟨_, hb_.2, [(5, Value.pointer v15), (16, Value.slice l_.ptr l_.len l_.cap), (17, Value.int .i64 ((l_.len : Nat) : Int)), (18, Value.int .i64 (IntKind.i64.wrap (t18 + 1)))], Sub.mk (by kernel_rfl), (IntKind.i64.wrap (t18 + 1)), rfl, hb_.1, rfl⟩
      · replace h := h.2 hb
        refine wpE_exit (id := 0) (by kernel_rfl) ?_
        change WpE _ _ c33_47 _ _ _
        refine Zt r33_48 c33_50 ?_
        refine Zn P1 1 [(37, [], .pointer v15)] ?_
        refine Zm 108 #[.pointer v15] (some 38) (Calls.mono h ?_)
        rintro _ w10 ⟨v38, rfl, h⟩
        refine ⟨_, rfl, ?_⟩
        refine Zf P2 [(2, .slice v38.ptr v38.len v38.cap), (3, .int .i64 0)] ?_
        change WpE _ _ c33_50 _ _ _
        refine wpE_ret (by kernel_rfl) ?_
        repeat (first | refine seqQ_ret ?_ | refine blockQ_ret ?_ | refine loopQ_ret ?_ | refine cutQ_ret ?_)
        exact retT (rs := [(ResultVar.tmp 2), (ResultVar.tmp 3)]) (vs := [Value.slice v38.ptr v38.len v38.cap, Value.int .i64 0]) (by kernel_rfl) (⟨by kernel_rfl, ⟨by kernel_rfl, trivial⟩⟩) (by kernel_rfl) ⟨v38, 0, rfl, h⟩
  · rintro e w' ⟨v, rfl, r0, r1, rfl, h⟩; exact ⟨r0, r1, rfl, h⟩

/-! ### towpath/logfile.Check (function 35) -/
noncomputable def c35_0 := (Tryz.f35.body).getD Code.skip
noncomputable def c35_3 := Code.r c35_0
noncomputable def c35_4 := Code.l c35_3
noncomputable def r35_4 := Code.ops c35_4
noncomputable def c35_6 := Code.r c35_3
noncomputable def c35_7 := Code.l c35_6
noncomputable def c35_10 := Code.r c35_7
noncomputable def c35_11 := Code.l c35_10
noncomputable def c35_12 := Code.l c35_11
noncomputable def c35_15 := Code.r c35_12
noncomputable def c35_16 := Code.l c35_15
noncomputable def c35_17 := Code.l c35_16
noncomputable def c35_18 := Code.r c35_16
noncomputable def c35_19 := Code.r c35_15
noncomputable def c35_20 := Code.l c35_19
noncomputable def c35_21 := Code.l c35_20
noncomputable def c35_22 := Code.l c35_21
noncomputable def r35_22 := Code.ops c35_22
noncomputable def c35_24 := Code.r c35_21
noncomputable def c35_25 := Code.l c35_24
noncomputable def r35_25 := Code.ops c35_25
noncomputable def c35_27 := Code.r c35_24
noncomputable def c35_30 := Code.r c35_27
noncomputable def c35_31 := Code.l c35_30
noncomputable def c35_34 := Code.r c35_31
noncomputable def c35_35 := Code.r c35_30
noncomputable def c35_36 := Code.r c35_19
noncomputable def r35_36 := Code.ops c35_36
noncomputable def c35_38 := Code.r c35_6
noncomputable def c35_41 := Code.r c35_38

theorem S_logfile_Check {l_ : Slc} {w : World} {R : Int → World → Prop} (h : F_logfile_Check l_ R w) : C_logfile_Check l_ w R := by
  unfold F_logfile_Check at h
  unfold C_logfile_Check
  refine Calls.mono (calls_of_wpE (args := [Value.slice l_.ptr l_.len l_.cap]) (R := fun v w' => ∃ (r0 : Int), v = Value.int .i64 r0 ∧ R r0 w') Tryz.func35 (c := c35_0) (by kernel_rfl) 21 (by kernel_rfl) (by kernel_rfl) [(0, Value.slice l_.ptr l_.len l_.cap)] (by kernel_rfl) ?_) ?_
  · refine Zp c35_3 P1 [(0, .slice l_.ptr l_.len l_.cap)] ?_
    refine Zt r35_4 c35_6 ?_
    refine Zn [] 0 [(0, [], .slice l_.ptr l_.len l_.cap)] ?_
    refine Zm 113 #[] (some 7) (Calls.mono h ?_)
    rintro _ w1 ⟨v7, rfl, h⟩
    refine ⟨_, rfl, ?_⟩
    refine Zf P1 [(0, .slice l_.ptr l_.len l_.cap), (3, v7)] ?_
    change WpE _ _ c35_6 _ _ _
    refine Zs c35_7 c35_38 ?_
    refine Zp c35_10 P3 [(3, v7), (8, .slice l_.ptr l_.len l_.cap), (9, .int .i64 ((l_.len : Nat) : Int)), (10, .int .i64 0)] ?_
    refine Zb 0 c35_11 ?_
    obtain ⟨I, μ, h0, hr⟩ := h
    refine wpE_loop (x := c35_12) (by kernel_rfl) (fun m l w => ∃ (t10 : Int), l = [(3, v7), (8, Value.slice l_.ptr l_.len l_.cap), (9, Value.int .i64 ((l_.len : Nat) : Int)), (10, Value.int .i64 t10)] ∧ I t10 w ∧ μ t10 w = m) (l' := [(3, v7), (8, Value.slice l_.ptr l_.len l_.cap), (9, Value.int .i64 ((l_.len : Nat) : Int)), (10, Value.int .i64 0)]) (Sub.mk (by kernel_rfl)) ⟨0, rfl, h0, rfl⟩ ?_
    rintro _ _ w2 ⟨t10, rfl, hI, rfl⟩
    obtain ⟨again_, again__h, h⟩ : ∃ again_ : Int → World → Prop, (∀ t10' w', again_ t10' w' → I t10' w' ∧ μ t10' w' < μ t10 w2) ∧ F_logfile_Check_L0 l_ R v7 again_ t10 w2 := ⟨_, fun _ _ h => h, hr t10 w2 hI⟩
    clear h0 hI
    unfold F_logfile_Check_L0 at h
    refine Zp c35_15 P1 [(3, v7), (8, .slice l_.ptr l_.len l_.cap), (9, .int .i64 ((l_.len : Nat) : Int)), (10, .int .i64 t10), (11, .bool (decide (t10 < ((l_.len : Nat) : Int))))] ?_
    refine Zs c35_16 c35_19 ?_
    refine Zc 11 (decide (t10 < ((l_.len : Nat) : Int))) c35_17 c35_18 (fun hb => ?_) (fun hb => ?_)
    · replace h := h.1 hb
      refine wpE_skip (by kernel_rfl) ?_
      change WpE _ _ c35_19 _ _ _
      refine Zs c35_20 c35_36 ?_
      refine Zb 1 c35_21 ?_
      refine Zt r35_22 c35_24 ?_
      refine Zn [] 0 [(3, [], v7), (8, [], .slice l_.ptr l_.len l_.cap), (9, [], .int .i64 ((l_.len : Nat) : Int)), (10, [], .int .i64 t10)] ?_
      obtain ⟨hp_7, h⟩ := h
      refine Zv (fun pp => [(3, [], v7), (8, [], .slice pp l_.len l_.cap), (9, [], .int .i64 ((l_.len : Nat) : Int)), (10, [], .int .i64 t10)]) hp_7 ?_
      obtain ⟨h0, h1, h⟩ := h
      refine Zj 22 52 8 10 (pblk l_.ptr) (poff l_.ptr) l_.len l_.cap t10 2 12 0 h0 h1 ?_
      refine Zn [] 1 [(3, [], v7), (8, [], .slice (some ⟨(pblk l_.ptr), (poff l_.ptr), none⟩) l_.len l_.cap), (9, [], .int .i64 ((l_.len : Nat) : Int)), (10, [], .int .i64 t10), (12, [], .pointer (some ⟨(pblk l_.ptr), (poff l_.ptr) + t10.toNat * 2, none⟩))] ?_
      obtain ⟨v13, hc, h⟩ := h
      refine reg_loadN (t := 52) (a := (Operand.tmp 12)) (b := (pblk l_.ptr)) (o := ((poff l_.ptr) + t10.toNat * 2)) (ty := 52) (dst := some 13) [Value.int .i64 v13.Number, Value.slice v13.Writes.ptr v13.Writes.len v13.Writes.cap] (by kernel_rfl) (by kernel_rfl) (by kernel_rfl) (k := 2) (by kernel_rfl) (by kernel_rfl) hc ?_
      refine Zn [] 2 [(3, [], v7), (8, [], .slice (some ⟨(pblk l_.ptr), (poff l_.ptr), none⟩) l_.len l_.cap), (9, [], .int .i64 ((l_.len : Nat) : Int)), (10, [], .int .i64 t10), (13, [], .agg #[.int .i64 v13.Number, .slice v13.Writes.ptr v13.Writes.len v13.Writes.cap])] ?_
      refine Zw (some 5) (fun bb => .pointer (some ⟨bb, 0, none⟩)) (Obj.cells ([.int .i64 0, .slice none 0 0]).toArray ty_api_Txn (0, 0)) (fun b_ w3 hb hw => ?_)
      replace h := h b_ w3 hb hw
      clear hb hw
      refine Zn [] 3 [(3, [], v7), (5, [], .pointer (some ⟨b_, 0, none⟩)), (8, [], .slice (some ⟨(pblk l_.ptr), (poff l_.ptr), none⟩) l_.len l_.cap), (9, [], .int .i64 ((l_.len : Nat) : Int)), (10, [], .int .i64 t10), (13, [], .agg #[.int .i64 v13.Number, .slice v13.Writes.ptr v13.Writes.len v13.Writes.cap])] ?_
      obtain ⟨hc, h⟩ := h
      refine Zo 52 5 13 b_ 0 2 [.int .i64 v13.Number, .slice v13.Writes.ptr v13.Writes.len v13.Writes.cap] hc (fun w4 hw => ?_)
      replace h := h w4 hw
      clear hw
      refine Zn [] 4 [(3, [], v7), (5, [], .pointer (some ⟨b_, 0, none⟩)), (8, [], .slice (some ⟨(pblk l_.ptr), (poff l_.ptr), none⟩) l_.len l_.cap), (9, [], .int .i64 ((l_.len : Nat) : Int)), (10, [], .int .i64 t10)] ?_
      refine Zv (fun pp => [(3, [], v7), (5, [], .pointer (some ⟨b_, 0, none⟩)), (8, [], .slice pp l_.len l_.cap), (9, [], .int .i64 ((l_.len : Nat) : Int)), (10, [], .int .i64 t10)]) hp_7.symm ?_
      refine Ze [(3, v7), (5, .pointer (some ⟨b_, 0, none⟩)), (8, .slice l_.ptr l_.len l_.cap), (9, .int .i64 ((l_.len : Nat) : Int)), (10, .int .i64 t10)] ?_
      change WpE _ _ c35_24 _ _ _
      refine Zt r35_25 c35_27 ?_
      refine Zn P1 1 [(3, [], v7), (5, [], .pointer (some ⟨b_, 0, none⟩)), (8, [], .slice l_.ptr l_.len l_.cap), (9, [], .int .i64 ((l_.len : Nat) : Int)), (10, [], .int .i64 t10), (14, [], v7)] ?_
      obtain ⟨v15, hc, h⟩ := h
      refine reg_loadN (t := 52) (a := (Operand.tmp 5)) (b := b_) (o := 0) (ty := 52) (dst := some 15) [Value.int .i64 v15.Number, Value.slice v15.Writes.ptr v15.Writes.len v15.Writes.cap] (by kernel_rfl) (by kernel_rfl) (by kernel_rfl) (k := 2) (by kernel_rfl) (by kernel_rfl) hc ?_
      refine Zn [] 2 [(3, [], v7), (8, [], .slice l_.ptr l_.len l_.cap), (9, [], .int .i64 ((l_.len : Nat) : Int)), (10, [], .int .i64 t10), (14, [], v7), (15, [], .agg #[.int .i64 v15.Number, .slice v15.Writes.ptr v15.Writes.len v15.Writes.cap])] ?_
      refine reg_enterV (fo := (Operand.tmp 14)) (aa := #[(Operand.tmp 15)]) (ts := #[52]) (fv := v7) (ty := 28) (dst := some 16) #[Value.agg #[Value.int .i64 v15.Number, Value.slice v15.Writes.ptr v15.Writes.len v15.Writes.cap]] (by kernel_rfl) (by kernel_rfl) (by kernel_rfl) (CallsV.mono h ?_)
      rintro _ w5 ⟨v16, rfl, h⟩
      refine ⟨_, rfl, ?_⟩
      refine Zf P1 [(3, v7), (6, .int .i64 v16), (8, .slice l_.ptr l_.len l_.cap), (9, .int .i64 ((l_.len : Nat) : Int)), (10, .int .i64 t10)] ?_
      change WpE _ _ c35_27 _ _ _
      refine Zp c35_30 P2 [(3, v7), (6, .int .i64 v16), (8, .slice l_.ptr l_.len l_.cap), (9, .int .i64 ((l_.len : Nat) : Int)), (10, .int .i64 t10), (18, .bool (v16 != 0))] ?_
      refine Zc 18 (v16 != 0) c35_31 c35_35 (fun hb => ?_) (fun hb => ?_)
      · replace h := h.1 hb
        refine Zp c35_34 P2 [(2, .int .i64 v16)] ?_
        refine wpE_ret (by kernel_rfl) ?_
        repeat (first | refine seqQ_ret ?_ | refine blockQ_ret ?_ | refine loopQ_ret ?_ | refine cutQ_ret ?_)
        exact retS (rs := [(ResultVar.tmp 2)]) (v := Value.int .i64 v16) (by kernel_rfl) (⟨by kernel_rfl, trivial⟩) ⟨v16, rfl, h⟩
      · replace h := h.2 hb
        refine wpE_skip (by kernel_rfl) ?_
        change WpE _ _ c35_36 _ _ _
        refine Zr r35_36 ?_
        refine Zf P2 [(3, v7), (8, .slice l_.ptr l_.len l_.cap), (9, .int .i64 ((l_.len : Nat) : Int)), (10, .int .i64 (IntKind.i64.wrap (t10 + 1)))] ?_
        have hb_ := again__h _ _ h
        exact ⟨_, hb_.2, [(3, v7), (8, Value.slice l_.ptr l_.len l_.cap), (9, Value.int .i64 ((l_.len : Nat) : Int)), (10, Value.int .i64 (IntKind.i64.wrap (t10 + 1)))], Sub.mk (by kernel_rfl), (IntKind.i64.wrap (t10 + 1)), rfl, hb_.1, rfl⟩
    · replace h := h.2 hb
      refine wpE_exit (id := 0) (by kernel_rfl) ?_
      change WpE _ _ c35_38 _ _ _
      refine Zp c35_41 P1 [(2, .int .i64 0)] ?_
      refine wpE_ret (by kernel_rfl) ?_
      repeat (first | refine seqQ_ret ?_ | refine blockQ_ret ?_ | refine loopQ_ret ?_ | refine cutQ_ret ?_)
      exact retS (rs := [(ResultVar.tmp 2)]) (v := Value.int .i64 0) (by kernel_rfl) (⟨by kernel_rfl, trivial⟩) ⟨0, rfl, h⟩
  · rintro e w' ⟨v, rfl, r0, rfl, h⟩; exact ⟨r0, rfl, h⟩

/-! ### towpath/logfile.turns (function 113) -/
noncomputable def c113_0 := (Tryz.f113.body).getD Code.skip
noncomputable def c113_3 := Code.r c113_0
noncomputable def c113_4 := Code.l c113_3
noncomputable def r113_4 := Code.ops c113_4
noncomputable def c113_6 := Code.r c113_3
noncomputable def c113_9 := Code.r c113_6

theorem S_logfile_turns {w : World} {R : Value → World → Prop} (h : F_logfile_turns R w) : C_logfile_turns w R := by
  unfold F_logfile_turns at h
  unfold C_logfile_turns
  refine Calls.mono (calls_of_wpE (args := []) (R := fun v w' => ∃ (r0 : Value), v = r0 ∧ R r0 w') Tryz.func113 (c := c113_0) (by kernel_rfl) 3 (by kernel_rfl) (by kernel_rfl) [] (by kernel_rfl) ?_) ?_
  · refine Zp c113_3 P1 [] ?_
    refine Zt r113_4 c113_6 ?_
    refine Zn [] 0 [] ?_
    refine Zw (some 1) (fun bb => .pointer (some ⟨bb, 0, none⟩)) (Obj.cells ([.int .i64 0]).toArray ty_int (0, 0)) (fun b_ w1 hb hw => ?_)
    replace h := h b_ w1 hb hw
    clear hb hw
    refine Zn [] 1 [(1, [], .pointer (some ⟨b_, 0, none⟩))] ?_
    obtain ⟨hc, h⟩ := h
    refine reg_store (t := 3) (a := (Operand.tmp 1)) (x := (Operand.const (Value.int Go.IntKind.i64 1))) (b := b_) (o := 0) (ty := 0) (dst := none) [Value.int .i64 1] (by kernel_rfl) (by kernel_rfl) (by kernel_rfl) (k := 1) (by kernel_rfl) (by kernel_rfl) (by kernel_rfl) hc (fun w2 hw => ?_)
    replace h := h w2 hw
    clear hw
    refine Ze [(1, .pointer (some ⟨b_, 0, none⟩))] ?_
    change WpE _ _ c113_6 _ _ _
    refine Zp c113_9 P2 [(0, .func (.func 171) #[] #[.pointer (some ⟨b_, 0, none⟩)])] ?_
    refine wpE_ret (by kernel_rfl) ?_
    repeat (first | refine seqQ_ret ?_ | refine blockQ_ret ?_ | refine loopQ_ret ?_ | refine cutQ_ret ?_)
    exact retS (rs := [(ResultVar.tmp 0)]) (v := Value.func (.func 171) #[] #[Value.pointer (some ⟨b_, 0, none⟩)]) (by kernel_rfl) (⟨by kernel_rfl, trivial⟩) ⟨(Value.func (.func 171) #[] #[Value.pointer (some ⟨b_, 0, none⟩)]), rfl, h⟩
  · rintro e w' ⟨v, rfl, r0, rfl, h⟩; exact ⟨_, rfl, h⟩

/-! ### towpath/logfile.turns$1 (function 171) -/
noncomputable def c171_0 := (Tryz.f171.body).getD Code.skip
noncomputable def c171_1 := Code.l c171_0
noncomputable def r171_1 := Code.ops c171_1
noncomputable def c171_3 := Code.r c171_0
noncomputable def c171_4 := Code.l c171_3
noncomputable def c171_5 := Code.l c171_4
noncomputable def r171_5 := Code.ops c171_5
noncomputable def c171_7 := Code.r c171_4
noncomputable def c171_10 := Code.r c171_7
noncomputable def c171_11 := Code.l c171_10
noncomputable def c171_14 := Code.r c171_11
noncomputable def c171_15 := Code.r c171_10
noncomputable def c171_16 := Code.r c171_3
noncomputable def c171_17 := Code.l c171_16
noncomputable def c171_18 := Code.l c171_17
noncomputable def r171_18 := Code.ops c171_18
noncomputable def c171_20 := Code.r c171_17
noncomputable def c171_21 := Code.l c171_20
noncomputable def c171_24 := Code.r c171_21
noncomputable def c171_25 := Code.r c171_20
noncomputable def c171_26 := Code.r c171_16
noncomputable def c171_27 := Code.l c171_26
noncomputable def r171_27 := Code.ops c171_27
noncomputable def c171_29 := Code.r c171_26
noncomputable def c171_32 := Code.r c171_29

theorem S_logfile_turns_1 {t_ : T_api_Txn} {t1 : Option Addr} {w : World} {R : Int → World → Prop} (h : F_logfile_turns_1 t_ t1 R w) : C_logfile_turns_1 t_ t1 w R := by
  unfold F_logfile_turns_1 at h
  unfold C_logfile_turns_1
  refine Calls.mono (calls_of_wpE (args := [Value.agg #[Value.int .i64 t_.Number, Value.slice t_.Writes.ptr t_.Writes.len t_.Writes.cap], Value.pointer t1]) (R := fun v w' => ∃ (r0 : Int), v = Value.int .i64 r0 ∧ R r0 w') Tryz.func171 (c := c171_0) (by kernel_rfl) 16 (by kernel_rfl) (by kernel_rfl) [(0, Value.agg #[Value.int .i64 t_.Number, Value.slice t_.Writes.ptr t_.Writes.len t_.Writes.cap]), (1, Value.pointer t1)] (by kernel_rfl) ?_) ?_
  · refine Zt r171_1 c171_3 ?_
    refine Zn [] 0 [(0, [], .agg #[.int .i64 t_.Number, .slice t_.Writes.ptr t_.Writes.len t_.Writes.cap]), (1, [], .pointer t1)] ?_
    refine Zw (some 2) (fun bb => .pointer (some ⟨bb, 0, none⟩)) (Obj.cells ([.int .i64 t_.Number, .slice t_.Writes.ptr t_.Writes.len t_.Writes.cap]).toArray ty_api_Txn (0, 0)) (fun b_ w1 hb hw => ?_)
    replace h := h b_ w1 hb hw
    clear hb hw
    refine Zf P1 [(1, .pointer t1), (2, .pointer (some ⟨b_, 0, none⟩))] ?_
    change WpE _ _ c171_3 _ _ _
    refine Zs c171_4 c171_16 ?_
    refine Zt r171_5 c171_7 ?_
    refine Zn [] 0 [(1, [], .pointer t1), (2, [], .pointer (some ⟨b_, 0, none⟩))] ?_
    obtain ⟨v5, hc, h⟩ := h
    refine reg_loadN (t := 52) (a := (Operand.tmp 2)) (b := b_) (o := 0) (ty := 52) (dst := some 5) [Value.int .i64 v5.Number, Value.slice v5.Writes.ptr v5.Writes.len v5.Writes.cap] (by kernel_rfl) (by kernel_rfl) (by kernel_rfl) (k := 2) (by kernel_rfl) (by kernel_rfl) hc ?_
    refine Zn [] 1 [(1, [], .pointer t1), (2, [], .pointer (some ⟨b_, 0, none⟩)), (5, [], .agg #[.int .i64 v5.Number, .slice v5.Writes.ptr v5.Writes.len v5.Writes.cap])] ?_
    refine Zm 163 #[.agg #[.int .i64 v5.Number, .slice v5.Writes.ptr v5.Writes.len v5.Writes.cap]] (some 6) (Calls.mono h ?_)
    rintro _ w2 ⟨v6, rfl, h⟩
    refine ⟨_, rfl, ?_⟩
    refine Zf P1 [(1, .pointer t1), (2, .pointer (some ⟨b_, 0, none⟩)), (4, .int .i64 v6)] ?_
    change WpE _ _ c171_7 _ _ _
    refine Zp c171_10 P2 [(1, .pointer t1), (2, .pointer (some ⟨b_, 0, none⟩)), (4, .int .i64 v6), (8, .bool (v6 != 0))] ?_
    refine Zc 8 (v6 != 0) c171_11 c171_15 (fun hb => ?_) (fun hb => ?_)
    · replace h := h.1 hb
      refine Zp c171_14 P2 [(3, .int .i64 v6)] ?_
      refine wpE_ret (by kernel_rfl) ?_
      repeat (first | refine seqQ_ret ?_ | refine blockQ_ret ?_ | refine loopQ_ret ?_ | refine cutQ_ret ?_)
      exact retS (rs := [(ResultVar.tmp 3)]) (v := Value.int .i64 v6) (by kernel_rfl) (⟨by kernel_rfl, trivial⟩) ⟨v6, rfl, h⟩
    · replace h := h.2 hb
      refine wpE_skip (by kernel_rfl) ?_
      change WpE _ _ c171_16 _ _ _
      refine Zs c171_17 c171_26 ?_
      refine Zt r171_18 c171_20 ?_
      refine Zn P1 1 [(1, [], .pointer t1), (10, [], .pointer (some ⟨b_, 0, none⟩))] ?_
      obtain ⟨v11, hc, h⟩ := h
      refine Zl 3 10 b_ 0 3 11 hc ?_
      refine Zn [] 2 [(1, [], .pointer t1), (11, [], .int .i64 v11)] ?_
      obtain ⟨hp_3, h⟩ := h
      refine Zv (fun pp => [(1, [], .pointer pp), (11, [], .int .i64 v11)]) hp_3 ?_
      obtain ⟨v12, hc, h⟩ := h
      refine Zl 3 1 (pblk t1) (poff t1) 3 12 hc ?_
      refine Zn P1 4 [(1, [], .pointer (some ⟨(pblk t1), (poff t1), none⟩)), (13, [], .bool (v11 != v12))] ?_
      refine Zv (fun pp => [(1, [], .pointer pp), (13, [], .bool (v11 != v12))]) hp_3.symm ?_
      refine Ze [(1, .pointer t1), (13, .bool (v11 != v12))] ?_
      change WpE _ _ c171_20 _ _ _
      refine Zc 13 (v11 != v12) c171_21 c171_25 (fun hb => ?_) (fun hb => ?_)
      · replace h := h.1 hb
        refine Zp c171_24 P1 [(3, .int .i64 6)] ?_
        refine wpE_ret (by kernel_rfl) ?_
        repeat (first | refine seqQ_ret ?_ | refine blockQ_ret ?_ | refine loopQ_ret ?_ | refine cutQ_ret ?_)
        exact retS (rs := [(ResultVar.tmp 3)]) (v := Value.int .i64 6) (by kernel_rfl) (⟨by kernel_rfl, trivial⟩) ⟨6, rfl, h⟩
      · replace h := h.2 hb
        refine wpE_skip (by kernel_rfl) ?_
        change WpE _ _ c171_26 _ _ _
        refine Zt r171_27 c171_29 ?_
        refine Zn [] 0 [(1, [], .pointer t1)] ?_
        obtain ⟨hp_5, h⟩ := h
        refine Zv (fun pp => [(1, [], .pointer pp)]) hp_5 ?_
        obtain ⟨v14, hc, h⟩ := h
        refine Zl 3 1 (pblk t1) (poff t1) 3 14 hc ?_
        refine Zn P1 2 [(1, [], .pointer (some ⟨(pblk t1), (poff t1), none⟩)), (15, [], .int .i64 (IntKind.i64.wrap (v14 + 1)))] ?_
        obtain ⟨hc, h⟩ := h
        refine Zo 3 1 15 (pblk t1) (poff t1) 1 [.int .i64 (IntKind.i64.wrap (v14 + 1))] hc (fun w3 hw => ?_)
        replace h := h w3 hw
        clear hw
        refine Ze [] ?_
        change WpE _ _ c171_29 _ _ _
        refine Zp c171_32 P1 [(3, .int .i64 0)] ?_
        refine wpE_ret (by kernel_rfl) ?_
        repeat (first | refine seqQ_ret ?_ | refine blockQ_ret ?_ | refine loopQ_ret ?_ | refine cutQ_ret ?_)
        exact retS (rs := [(ResultVar.tmp 3)]) (v := Value.int .i64 0) (by kernel_rfl) (⟨by kernel_rfl, trivial⟩) ⟨0, rfl, h⟩
  · rintro e w' ⟨v, rfl, r0, rfl, h⟩; exact ⟨r0, rfl, h⟩
end Go.Proofs.YtpdegdnigcnjiaaGreatDoor
