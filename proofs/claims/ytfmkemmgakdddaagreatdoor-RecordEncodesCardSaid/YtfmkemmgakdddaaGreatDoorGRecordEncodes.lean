/- WRITTEN BY PROGRAM (dec.py): for each Go function the clean formula F, the call's contract C, and the proof S that F gives C. -/
import Derived.Test.YtfmkemmgakdddaaGreatDoorRows
import Derived.Test.YtfmkemmgakdddaaGreatDoorGF
namespace Go.Proofs.YtfmkemmgakdddaaGreatDoor
open Go
set_option linter.unusedVariables false
set_option maxRecDepth 100000
set_option maxHeartbeats 4000000

/-! ### towpath/towpathlaw05.RecordEncodes (function 3) -/
noncomputable def c3_0 := (Tryz.f3.body).getD Code.skip
noncomputable def c3_1 := Code.l c3_0
noncomputable def r3_1 := Code.ops c3_1
noncomputable def c3_3 := Code.r c3_0
noncomputable def c3_4 := Code.l c3_3
noncomputable def c3_5 := Code.l c3_4
noncomputable def r3_5 := Code.ops c3_5
noncomputable def c3_7 := Code.r c3_4
noncomputable def c3_8 := Code.l c3_7
noncomputable def c3_11 := Code.r c3_8
noncomputable def c3_12 := Code.r c3_7
noncomputable def c3_13 := Code.r c3_3
noncomputable def c3_14 := Code.l c3_13
noncomputable def r3_14 := Code.ops c3_14
noncomputable def c3_16 := Code.r c3_13
noncomputable def c3_17 := Code.l c3_16
noncomputable def r3_17 := Code.ops c3_17
noncomputable def c3_19 := Code.r c3_16
noncomputable def c3_20 := Code.l c3_19
noncomputable def r3_20 := Code.ops c3_20
noncomputable def c3_22 := Code.r c3_19
noncomputable def c3_23 := Code.l c3_22
noncomputable def r3_23 := Code.ops c3_23
noncomputable def c3_25 := Code.r c3_22
noncomputable def c3_26 := Code.l c3_25
noncomputable def r3_26 := Code.ops c3_26
noncomputable def c3_28 := Code.r c3_25
noncomputable def c3_29 := Code.l c3_28
noncomputable def c3_30 := Code.l c3_29
noncomputable def r3_30 := Code.ops c3_30
noncomputable def c3_32 := Code.r c3_29
noncomputable def c3_33 := Code.l c3_32
noncomputable def c3_36 := Code.r c3_33
noncomputable def c3_37 := Code.r c3_32
noncomputable def c3_38 := Code.r c3_28
noncomputable def c3_39 := Code.l c3_38
noncomputable def r3_39 := Code.ops c3_39
noncomputable def c3_41 := Code.r c3_38
noncomputable def c3_42 := Code.l c3_41
noncomputable def r3_42 := Code.ops c3_42
noncomputable def c3_44 := Code.r c3_41
noncomputable def c3_45 := Code.l c3_44
noncomputable def r3_45 := Code.ops c3_45
noncomputable def c3_47 := Code.r c3_44
noncomputable def c3_48 := Code.l c3_47
noncomputable def r3_48 := Code.ops c3_48
noncomputable def c3_50 := Code.r c3_47
noncomputable def c3_51 := Code.l c3_50
noncomputable def r3_51 := Code.ops c3_51
noncomputable def c3_53 := Code.r c3_50
def o_towpathlaw05_RecordEncodes_30 : List Nat := [0, 2, 1, 3, 4, 5, 6, 7, 8, 9, 10, 11, 12, 13, 14, 15, 16, 17, 18, 19, 20, 21, 22, 23, 24, 25, 26, 27, 28, 29, 30, 31, 32, 33, 34, 35, 36, 37, 38, 39, 40, 41, 42, 43]

theorem S_towpathlaw05_RecordEncodes {t_ : T_api_Txn} {w : World} {R : Bool → World → Prop} (h : F_towpathlaw05_RecordEncodes t_ R w) : C_towpathlaw05_RecordEncodes t_ w R := by
  unfold F_towpathlaw05_RecordEncodes at h
  unfold C_towpathlaw05_RecordEncodes
  refine Calls.mono (calls_of_wpE (args := [Value.agg #[Value.int .i64 t_.Number, Value.slice t_.Writes.ptr t_.Writes.len t_.Writes.cap]]) (R := fun v w' => ∃ (r0 : Bool), v = Value.bool r0 ∧ R r0 w') Tryz.func3 (c := c3_0) (by kernel_rfl) 91 (by kernel_rfl) (by kernel_rfl) [(0, Value.agg #[Value.int .i64 t_.Number, Value.slice t_.Writes.ptr t_.Writes.len t_.Writes.cap])] (by kernel_rfl) ?_) ?_
  · refine Zt r3_1 c3_3 ?_
    refine Zn [] 0 [(0, [], .agg #[.int .i64 t_.Number, .slice t_.Writes.ptr t_.Writes.len t_.Writes.cap])] ?_
    refine Zw (some 1) (fun bb => .pointer (some ⟨bb, 0, none⟩)) (Obj.cells ([.int .i64 t_.Number, .slice t_.Writes.ptr t_.Writes.len t_.Writes.cap]).toArray ty_api_Txn (0, 0)) (fun b_ w1 hb hw => ?_)
    replace h := h b_ w1 hb hw
    clear hb hw
    refine Zf P1 [(1, .pointer (some ⟨b_, 0, none⟩))] ?_
    change WpE _ _ c3_3 _ _ _
    refine Zs c3_4 c3_13 ?_
    refine Zt r3_5 c3_7 ?_
    refine Zn [] 0 [(1, [], .pointer (some ⟨b_, 0, none⟩))] ?_
    obtain ⟨v13, hc, h⟩ := h
    refine reg_loadN (t := 24) (a := (Operand.tmp 1)) (b := b_) (o := 0) (ty := 24) (dst := some 13) [Value.int .i64 v13.Number, Value.slice v13.Writes.ptr v13.Writes.len v13.Writes.cap] (by kernel_rfl) (by kernel_rfl) (by kernel_rfl) (k := 2) (by kernel_rfl) (by kernel_rfl) hc ?_
    refine Zn [] 1 [(1, [], .pointer (some ⟨b_, 0, none⟩)), (13, [], .agg #[.int .i64 v13.Number, .slice v13.Writes.ptr v13.Writes.len v13.Writes.cap])] ?_
    refine Zm 5 #[.agg #[.int .i64 v13.Number, .slice v13.Writes.ptr v13.Writes.len v13.Writes.cap]] (some 14) (Calls.mono h ?_)
    rintro _ w2 ⟨v14, rfl, h⟩
    refine ⟨_, rfl, ?_⟩
    refine Zn [] 2 [(1, [], .pointer (some ⟨b_, 0, none⟩)), (14, [], .int .i64 v14)] ?_
    refine Zw (some 15) (fun bb => .slice (some ⟨bb, 0, none⟩) 1 1) (Obj.cells ([.int .i64 v14]).toArray ty_int (0, 0)) (fun b_1 w3 hb hw => ?_)
    replace h := h b_1 w3 hb hw
    clear hb hw
    refine Zn [] 3 [(1, [], .pointer (some ⟨b_, 0, none⟩)), (15, [], .slice (some ⟨b_1, 0, none⟩) 1 1)] ?_
    refine Zm 4 #[.slice (some ⟨b_1, 0, none⟩) 1 1] (some 16) (Calls.mono h ?_)
    rintro _ w4 ⟨v16, rfl, h⟩
    refine ⟨_, rfl, ?_⟩
    refine Ze [(1, .pointer (some ⟨b_, 0, none⟩)), (16, .bool v16)] ?_
    change WpE _ _ c3_7 _ _ _
    refine Zc 16 v16 c3_8 c3_12 (fun hb => ?_) (fun hb => ?_)
    · replace h := h.1 hb
      refine Zp c3_11 P1 [(2, .bool true)] ?_
      refine wpE_ret (by kernel_rfl) ?_
      repeat (first | refine seqQ_ret ?_ | refine blockQ_ret ?_ | refine loopQ_ret ?_ | refine cutQ_ret ?_)
      exact retS (rs := [(ResultVar.tmp 2)]) (v := Value.bool true) (by kernel_rfl) (⟨by kernel_rfl, trivial⟩) ⟨true, rfl, h⟩
    · replace h := h.2 hb
      refine wpE_skip (by kernel_rfl) ?_
      change WpE _ _ c3_13 _ _ _
      refine Zt r3_14 c3_16 ?_
      refine Zn [] 0 [(1, [], .pointer (some ⟨b_, 0, none⟩))] ?_
      obtain ⟨v17, hc, h⟩ := h
      refine reg_loadN (t := 24) (a := (Operand.tmp 1)) (b := b_) (o := 0) (ty := 24) (dst := some 17) [Value.int .i64 v17.Number, Value.slice v17.Writes.ptr v17.Writes.len v17.Writes.cap] (by kernel_rfl) (by kernel_rfl) (by kernel_rfl) (k := 2) (by kernel_rfl) (by kernel_rfl) hc ?_
      refine Zn [] 1 [(1, [], .pointer (some ⟨b_, 0, none⟩)), (17, [], .agg #[.int .i64 v17.Number, .slice v17.Writes.ptr v17.Writes.len v17.Writes.cap])] ?_
      refine Zm 6 #[.agg #[.int .i64 v17.Number, .slice v17.Writes.ptr v17.Writes.len v17.Writes.cap]] (some 18) (Calls.mono h ?_)
      rintro _ w5 ⟨v18, rfl, h⟩
      refine ⟨_, rfl, ?_⟩
      refine Zn [] 2 [(1, [], .pointer (some ⟨b_, 0, none⟩)), (18, [], .agg #[.int .i64 v18.Number, .slice v18.Writes.ptr v18.Writes.len v18.Writes.cap])] ?_
      refine Zw (some 3) (fun bb => .pointer (some ⟨bb, 0, none⟩)) (Obj.cells ([.int .i64 0, .slice none 0 0]).toArray ty_api_Txn (0, 0)) (fun b_2 w6 hb hw => ?_)
      replace h := h b_2 w6 hb hw
      clear hb hw
      refine Zn [] 3 [(1, [], .pointer (some ⟨b_, 0, none⟩)), (3, [], .pointer (some ⟨b_2, 0, none⟩)), (18, [], .agg #[.int .i64 v18.Number, .slice v18.Writes.ptr v18.Writes.len v18.Writes.cap])] ?_
      obtain ⟨hc, h⟩ := h
      refine Zo 24 3 18 b_2 0 2 [.int .i64 v18.Number, .slice v18.Writes.ptr v18.Writes.len v18.Writes.cap] hc (fun w7 hw => ?_)
      replace h := h w7 hw
      clear hw
      refine Ze [(1, .pointer (some ⟨b_, 0, none⟩)), (3, .pointer (some ⟨b_2, 0, none⟩))] ?_
      change WpE _ _ c3_16 _ _ _
      refine Zt r3_17 c3_19 ?_
      refine Zn [] 0 [(1, [], .pointer (some ⟨b_, 0, none⟩)), (3, [], .pointer (some ⟨b_2, 0, none⟩))] ?_
      obtain ⟨v20, hc, h⟩ := h
      refine reg_loadN (t := 24) (a := (Operand.tmp 3)) (b := b_2) (o := 0) (ty := 24) (dst := some 20) [Value.int .i64 v20.Number, Value.slice v20.Writes.ptr v20.Writes.len v20.Writes.cap] (by kernel_rfl) (by kernel_rfl) (by kernel_rfl) (k := 2) (by kernel_rfl) (by kernel_rfl) hc ?_
      refine Zn [] 1 [(1, [], .pointer (some ⟨b_, 0, none⟩)), (3, [], .pointer (some ⟨b_2, 0, none⟩)), (20, [], .agg #[.int .i64 v20.Number, .slice v20.Writes.ptr v20.Writes.len v20.Writes.cap])] ?_
      refine Zm 7 #[.agg #[.int .i64 v20.Number, .slice v20.Writes.ptr v20.Writes.len v20.Writes.cap]] (some 21) (Calls.mono h ?_)
      rintro _ w8 ⟨b_3, e, rfl, h⟩
      refine ⟨_, rfl, ?_⟩
      refine Zf (Pl 5) [(1, .pointer (some ⟨b_, 0, none⟩)), (3, .pointer (some ⟨b_2, 0, none⟩)), (4, .slice b_3.ptr b_3.len b_3.cap), (5, .int .i64 e)] ?_
      change WpE _ _ c3_19 _ _ _
      refine Zt r3_20 c3_22 ?_
      refine Zn [] 0 [(1, [], .pointer (some ⟨b_, 0, none⟩)), (3, [], .pointer (some ⟨b_2, 0, none⟩)), (4, [], .slice b_3.ptr b_3.len b_3.cap), (5, [], .int .i64 e)] ?_
      obtain ⟨v25, hc, h⟩ := h
      refine reg_loadN (t := 24) (a := (Operand.tmp 3)) (b := b_2) (o := 0) (ty := 24) (dst := some 25) [Value.int .i64 v25.Number, Value.slice v25.Writes.ptr v25.Writes.len v25.Writes.cap] (by kernel_rfl) (by kernel_rfl) (by kernel_rfl) (k := 2) (by kernel_rfl) (by kernel_rfl) hc ?_
      refine Zn [] 1 [(1, [], .pointer (some ⟨b_, 0, none⟩)), (3, [], .pointer (some ⟨b_2, 0, none⟩)), (4, [], .slice b_3.ptr b_3.len b_3.cap), (5, [], .int .i64 e), (25, [], .agg #[.int .i64 v25.Number, .slice v25.Writes.ptr v25.Writes.len v25.Writes.cap])] ?_
      refine Zm 7 #[.agg #[.int .i64 v25.Number, .slice v25.Writes.ptr v25.Writes.len v25.Writes.cap]] (some 26) (Calls.mono h ?_)
      rintro _ w9 ⟨c, g, rfl, h⟩
      refine ⟨_, rfl, ?_⟩
      refine Zf (Pl 5) [(1, .pointer (some ⟨b_, 0, none⟩)), (3, .pointer (some ⟨b_2, 0, none⟩)), (4, .slice b_3.ptr b_3.len b_3.cap), (5, .int .i64 e), (6, .slice c.ptr c.len c.cap), (7, .int .i64 g)] ?_
      change WpE _ _ c3_22 _ _ _
      refine Zt r3_23 c3_25 ?_
      refine Zn [] 0 [(1, [], .pointer (some ⟨b_, 0, none⟩)), (3, [], .pointer (some ⟨b_2, 0, none⟩)), (4, [], .slice b_3.ptr b_3.len b_3.cap), (5, [], .int .i64 e), (6, [], .slice c.ptr c.len c.cap), (7, [], .int .i64 g)] ?_
      obtain ⟨v30, hc, h⟩ := h
      refine reg_loadN (t := 24) (a := (Operand.tmp 3)) (b := b_2) (o := 0) (ty := 24) (dst := some 30) [Value.int .i64 v30.Number, Value.slice v30.Writes.ptr v30.Writes.len v30.Writes.cap] (by kernel_rfl) (by kernel_rfl) (by kernel_rfl) (k := 2) (by kernel_rfl) (by kernel_rfl) hc ?_
      refine Zn [] 1 [(1, [], .pointer (some ⟨b_, 0, none⟩)), (3, [], .pointer (some ⟨b_2, 0, none⟩)), (4, [], .slice b_3.ptr b_3.len b_3.cap), (5, [], .int .i64 e), (6, [], .slice c.ptr c.len c.cap), (7, [], .int .i64 g), (30, [], .agg #[.int .i64 v30.Number, .slice v30.Writes.ptr v30.Writes.len v30.Writes.cap])] ?_
      refine Zm 8 #[.agg #[.int .i64 v30.Number, .slice v30.Writes.ptr v30.Writes.len v30.Writes.cap]] (some 31) (Calls.mono h ?_)
      rintro _ w10 ⟨n_, h_, rfl, h⟩
      refine ⟨_, rfl, ?_⟩
      refine Zf (Pl 5) [(1, .pointer (some ⟨b_, 0, none⟩)), (3, .pointer (some ⟨b_2, 0, none⟩)), (4, .slice b_3.ptr b_3.len b_3.cap), (5, .int .i64 e), (6, .slice c.ptr c.len c.cap), (7, .int .i64 g), (8, .int .i64 n_), (9, .int .i64 h_)] ?_
      change WpE _ _ c3_25 _ _ _
      refine Zt r3_26 c3_28 ?_
      refine Zn [] 0 [(1, [], .pointer (some ⟨b_, 0, none⟩)), (3, [], .pointer (some ⟨b_2, 0, none⟩)), (4, [], .slice b_3.ptr b_3.len b_3.cap), (5, [], .int .i64 e), (6, [], .slice c.ptr c.len c.cap), (7, [], .int .i64 g), (8, [], .int .i64 n_), (9, [], .int .i64 h_)] ?_
      obtain ⟨v35, hc, h⟩ := h
      refine reg_loadN (t := 24) (a := (Operand.tmp 1)) (b := b_) (o := 0) (ty := 24) (dst := some 35) [Value.int .i64 v35.Number, Value.slice v35.Writes.ptr v35.Writes.len v35.Writes.cap] (by kernel_rfl) (by kernel_rfl) (by kernel_rfl) (k := 2) (by kernel_rfl) (by kernel_rfl) hc ?_
      refine Zn [] 1 [(1, [], .pointer (some ⟨b_, 0, none⟩)), (3, [], .pointer (some ⟨b_2, 0, none⟩)), (4, [], .slice b_3.ptr b_3.len b_3.cap), (5, [], .int .i64 e), (6, [], .slice c.ptr c.len c.cap), (7, [], .int .i64 g), (8, [], .int .i64 n_), (9, [], .int .i64 h_), (35, [], .agg #[.int .i64 v35.Number, .slice v35.Writes.ptr v35.Writes.len v35.Writes.cap])] ?_
      refine Zm 9 #[.agg #[.int .i64 v35.Number, .slice v35.Writes.ptr v35.Writes.len v35.Writes.cap]] (some 36) (Calls.mono h ?_)
      rintro _ w11 ⟨want, f, rfl, h⟩
      refine ⟨_, rfl, ?_⟩
      refine Zf (Pl 5) [(1, .pointer (some ⟨b_, 0, none⟩)), (3, .pointer (some ⟨b_2, 0, none⟩)), (4, .slice b_3.ptr b_3.len b_3.cap), (5, .int .i64 e), (6, .slice c.ptr c.len c.cap), (7, .int .i64 g), (8, .int .i64 n_), (9, .int .i64 h_), (10, .slice want.ptr want.len want.cap), (11, .int .i64 f)] ?_
      change WpE _ _ c3_28 _ _ _
      refine Zs c3_29 c3_38 ?_
      refine wpE_seq_cut (x := c3_30) (y := c3_32) (by kernel_rfl) (fun l w => ∃ (t82 : Bool), l = [(3, Value.pointer (some ⟨b_2, 0, none⟩)), (4, Value.slice b_3.ptr b_3.len b_3.cap), (6, Value.slice c.ptr c.len c.cap), (82, Value.bool t82)] ∧ F_towpathlaw05_RecordEncodes_k0 R b_2 b_3 c t82 w) ?_ ?_
      · refine wpE_mixregion (id := 8) (ops := r3_30) o_towpathlaw05_RecordEncodes_30 (by kernel_rfl) (by kernel_rfl) (by kernel_rfl) (by kernel_rfl) (fun w19 hw => ?_)
        replace h := h w19 hw
        clear hw
        refine mreg_run [] 0 [(1, [], Value.pointer (some ⟨b_, 0, none⟩)), (3, [], Value.pointer (some ⟨b_2, 0, none⟩)), (4, [], Value.slice b_3.ptr b_3.len b_3.cap), (5, [], Value.int .i64 e), (6, [], Value.slice c.ptr c.len c.cap), (7, [], Value.int .i64 g), (8, [], Value.int .i64 n_), (9, [], Value.int .i64 h_), (10, [], Value.slice want.ptr want.len want.cap), (11, [], Value.int .i64 f)] (by kernel_rfl) (by kernel_rfl) ?_
        obtain ⟨v39, hc, h⟩ := h
        refine mreg_loadN (i := 0) (by kernel_rfl) (t := 24) (a := (Operand.tmp 3)) (b := b_2) (o := 0) (ty := 24) (dst := some 39) [Value.int .i64 v39.Number, Value.slice v39.Writes.ptr v39.Writes.len v39.Writes.cap] (by kernel_rfl) (by kernel_rfl) (by kernel_rfl) (k := 2) (by kernel_rfl) (by kernel_rfl) hc ?_
        refine mreg_run [] 1 [(1, [], Value.pointer (some ⟨b_, 0, none⟩)), (3, [], Value.pointer (some ⟨b_2, 0, none⟩)), (4, [], Value.slice b_3.ptr b_3.len b_3.cap), (5, [], Value.int .i64 e), (6, [], Value.slice c.ptr c.len c.cap), (7, [], Value.int .i64 g), (8, [], Value.int .i64 n_), (9, [], Value.int .i64 h_), (10, [], Value.slice want.ptr want.len want.cap), (11, [], Value.int .i64 f), (39, [], Value.agg #[Value.int .i64 v39.Number, Value.slice v39.Writes.ptr v39.Writes.len v39.Writes.cap])] (by kernel_rfl) (by kernel_rfl) ?_
        obtain ⟨v41, hc, h⟩ := h
        refine mreg_loadN (i := 2) (by kernel_rfl) (t := 24) (a := (Operand.tmp 1)) (b := b_) (o := 0) (ty := 24) (dst := some 41) [Value.int .i64 v41.Number, Value.slice v41.Writes.ptr v41.Writes.len v41.Writes.cap] (by kernel_rfl) (by kernel_rfl) (by kernel_rfl) (k := 2) (by kernel_rfl) (by kernel_rfl) hc ?_
        refine mreg_run [] 2 [(1, [], Value.pointer (some ⟨b_, 0, none⟩)), (3, [], Value.pointer (some ⟨b_2, 0, none⟩)), (4, [], Value.slice b_3.ptr b_3.len b_3.cap), (5, [], Value.int .i64 e), (6, [], Value.slice c.ptr c.len c.cap), (7, [], Value.int .i64 g), (8, [], Value.int .i64 n_), (9, [], Value.int .i64 h_), (10, [], Value.slice want.ptr want.len want.cap), (11, [], Value.int .i64 f), (39, [], Value.agg #[Value.int .i64 v39.Number, Value.slice v39.Writes.ptr v39.Writes.len v39.Writes.cap]), (41, [], Value.agg #[Value.int .i64 v41.Number, Value.slice v41.Writes.ptr v41.Writes.len v41.Writes.cap])] (by kernel_rfl) (by kernel_rfl) ?_
        refine mreg_enter (op := (Op.call (Call.mk (Callee.value (Operand.func 10)) #[(Operand.tmp 39)] #[24]))) (ty := 29) (dst := some 40) 1 [0] [(2, fun w' => CellsAt w' b_ 0 [Value.int .i64 v41.Number, Value.slice v41.Writes.ptr v41.Writes.len v41.Writes.cap])] 10 #[Value.agg #[Value.int .i64 v39.Number, Value.slice v39.Writes.ptr v39.Writes.len v39.Writes.cap]] (by kernel_rfl) (by kernel_rfl) (by kernel_rfl) (by kernel_rfl) (by kernel_rfl) (fun ww => by kernel_rfl) (Calls.mono h ?_)
        rintro _ w20 ⟨v40, rfl, h⟩
        obtain ⟨hk0, h⟩ := h
        refine ⟨_, rfl, ⟨hk0, trivial⟩, ?_⟩
        refine mreg_run [] 3 [(1, [], Value.pointer (some ⟨b_, 0, none⟩)), (3, [], Value.pointer (some ⟨b_2, 0, none⟩)), (4, [], Value.slice b_3.ptr b_3.len b_3.cap), (5, [], Value.int .i64 e), (6, [], Value.slice c.ptr c.len c.cap), (7, [], Value.int .i64 g), (8, [], Value.int .i64 n_), (9, [], Value.int .i64 h_), (10, [], Value.slice want.ptr want.len want.cap), (11, [], Value.int .i64 f), (40, [], Value.int .i64 v40), (41, [], Value.agg #[Value.int .i64 v41.Number, Value.slice v41.Writes.ptr v41.Writes.len v41.Writes.cap])] (by kernel_rfl) (by kernel_rfl) ?_
        refine mreg_enter (op := (Op.call (Call.mk (Callee.value (Operand.func 11)) #[(Operand.tmp 41)] #[24]))) (ty := 29) (dst := some 42) 3 [1, 2, 0] [] 11 #[Value.agg #[Value.int .i64 v41.Number, Value.slice v41.Writes.ptr v41.Writes.len v41.Writes.cap]] (by kernel_rfl) (by kernel_rfl) (by kernel_rfl) (by kernel_rfl) (by kernel_rfl) (fun ww => by kernel_rfl) (Calls.mono h ?_)
        rintro _ w21 ⟨v42, rfl, h⟩
        refine ⟨_, rfl, trivial, ?_⟩
        refine mreg_run [.plain, .plain, .plain, .plain, .plain, .pick, .plain, .plain, .plain, .plain, .pick, .plain, .plain, .plain, .plain, .pick, .plain, .plain, .plain, .plain, .plain, .pick, .plain, .plain, .plain] 29 [(1, [], Value.pointer (some ⟨b_, 0, none⟩)), (3, [], Value.pointer (some ⟨b_2, 0, none⟩)), (4, [], Value.slice b_3.ptr b_3.len b_3.cap), (6, [], Value.slice c.ptr c.len c.cap), (10, [], Value.slice want.ptr want.len want.cap), (65, [], Value.bool (((((v40 != v42) || (e != f)) || (g != f)) || (h_ != f)) || (n_ != ((want.len : Nat) : Int)))), (66, [(65, false)], Value.slice b_3.ptr b_3.len b_3.cap), (67, [(65, false)], Value.slice want.ptr want.len want.cap)] (by kernel_rfl) (by kernel_rfl) ?_
        refine mreg_split 65 (((((v40 != v42) || (e != f)) || (g != f)) || (h_ != f)) || (n_ != ((want.len : Nat) : Int))) (by kernel_rfl) (fun hb => ?_) (fun hb => ?_)
        · replace h := h.1 hb
          refine mreg_run [] 29 [(1, [], Value.pointer (some ⟨b_, 0, none⟩)), (3, [], Value.pointer (some ⟨b_2, 0, none⟩)), (4, [], Value.slice b_3.ptr b_3.len b_3.cap), (6, [], Value.slice c.ptr c.len c.cap), (10, [], Value.slice want.ptr want.len want.cap), (65, [], Value.bool true), (66, [], undef), (67, [], undef)] (by kernel_rfl) (by kernel_rfl) ?_
          refine mreg_run [.skip, .skip, .plain, .plain, .skip, .skip, .skip, .skip, .plain, .plain, .skip, .skip, .skip, .skip, .plain] 44 [(3, [], Value.pointer (some ⟨b_2, 0, none⟩)), (4, [], Value.slice b_3.ptr b_3.len b_3.cap), (6, [], Value.slice c.ptr c.len c.cap), (82, [], Value.bool true)] (by kernel_rfl) (by kernel_rfl) ?_
          refine mreg_end [(3, Value.pointer (some ⟨b_2, 0, none⟩)), (4, Value.slice b_3.ptr b_3.len b_3.cap), (6, Value.slice c.ptr c.len c.cap), (82, Value.bool true)] (by kernel_rfl) (by kernel_rfl) (by kernel_rfl) ?_
          exact ⟨[(3, Value.pointer (some ⟨b_2, 0, none⟩)), (4, Value.slice b_3.ptr b_3.len b_3.cap), (6, Value.slice c.ptr c.len c.cap), (82, Value.bool true)], Sub.mk (by kernel_rfl), true, rfl, h⟩
        · replace h := h.2 hb
          refine mreg_run [] 29 [(1, [], Value.pointer (some ⟨b_, 0, none⟩)), (3, [], Value.pointer (some ⟨b_2, 0, none⟩)), (4, [], Value.slice b_3.ptr b_3.len b_3.cap), (6, [], Value.slice c.ptr c.len c.cap), (10, [], Value.slice want.ptr want.len want.cap), (65, [], Value.bool false), (66, [], Value.slice b_3.ptr b_3.len b_3.cap), (67, [], Value.slice want.ptr want.len want.cap)] (by kernel_rfl) (by kernel_rfl) ?_
          refine mreg_run [] 29 [(1, [], Value.pointer (some ⟨b_, 0, none⟩)), (3, [], Value.pointer (some ⟨b_2, 0, none⟩)), (4, [], Value.slice b_3.ptr b_3.len b_3.cap), (6, [], Value.slice c.ptr c.len c.cap), (10, [], Value.slice want.ptr want.len want.cap), (65, [], Value.bool false), (66, [], Value.slice b_3.ptr b_3.len b_3.cap), (67, [], Value.slice want.ptr want.len want.cap)] (by kernel_rfl) (by kernel_rfl) ?_
          refine mreg_enter (op := (Op.call (Call.mk (Callee.value (Operand.func 12)) #[(Operand.tmp 66), (Operand.tmp 67)] #[28, 28]))) (ty := 4) (dst := some 68) 29 [26, 27, 28, 20, 25, 15, 19, 24, 10, 14, 18, 21, 23, 5, 9, 13, 16, 17, 22, 3, 4, 8, 11, 12, 1, 2, 6, 7, 0] [] 12 #[Value.slice b_3.ptr b_3.len b_3.cap, Value.slice want.ptr want.len want.cap] (by kernel_rfl) (by kernel_rfl) (by kernel_rfl) (by kernel_rfl) (by kernel_rfl) (fun ww => by kernel_rfl) (Calls.mono h ?_)
          rintro _ w22 ⟨v68, rfl, h⟩
          refine ⟨_, rfl, trivial, ?_⟩
          refine mreg_run [.sure, .plain, .plain, .plain, .plain] 35 [(1, [], Value.pointer (some ⟨b_, 0, none⟩)), (3, [], Value.pointer (some ⟨b_2, 0, none⟩)), (4, [], Value.slice b_3.ptr b_3.len b_3.cap), (6, [], Value.slice c.ptr c.len c.cap), (71, [], Value.bool (!v68)), (72, [(71, false)], Value.slice c.ptr c.len c.cap), (73, [(71, false)], Value.slice want.ptr want.len want.cap)] (by kernel_rfl) (by kernel_rfl) ?_
          refine mreg_split 71 (!v68) (by kernel_rfl) (fun hb => ?_) (fun hb => ?_)
          · replace h := h.1 hb
            refine mreg_run [] 35 [(1, [], Value.pointer (some ⟨b_, 0, none⟩)), (3, [], Value.pointer (some ⟨b_2, 0, none⟩)), (4, [], Value.slice b_3.ptr b_3.len b_3.cap), (6, [], Value.slice c.ptr c.len c.cap), (71, [], Value.bool true), (72, [], undef), (73, [], undef)] (by kernel_rfl) (by kernel_rfl) ?_
            refine mreg_run [.skip, .skip, .plain, .plain, .skip, .skip, .skip, .skip, .plain] 44 [(3, [], Value.pointer (some ⟨b_2, 0, none⟩)), (4, [], Value.slice b_3.ptr b_3.len b_3.cap), (6, [], Value.slice c.ptr c.len c.cap), (82, [], Value.bool true)] (by kernel_rfl) (by kernel_rfl) ?_
            refine mreg_end [(3, Value.pointer (some ⟨b_2, 0, none⟩)), (4, Value.slice b_3.ptr b_3.len b_3.cap), (6, Value.slice c.ptr c.len c.cap), (82, Value.bool true)] (by kernel_rfl) (by kernel_rfl) (by kernel_rfl) ?_
            exact ⟨[(3, Value.pointer (some ⟨b_2, 0, none⟩)), (4, Value.slice b_3.ptr b_3.len b_3.cap), (6, Value.slice c.ptr c.len c.cap), (82, Value.bool true)], Sub.mk (by kernel_rfl), true, rfl, h⟩
          · replace h := h.2 hb
            refine mreg_run [] 35 [(1, [], Value.pointer (some ⟨b_, 0, none⟩)), (3, [], Value.pointer (some ⟨b_2, 0, none⟩)), (4, [], Value.slice b_3.ptr b_3.len b_3.cap), (6, [], Value.slice c.ptr c.len c.cap), (71, [], Value.bool false), (72, [], Value.slice c.ptr c.len c.cap), (73, [], Value.slice want.ptr want.len want.cap)] (by kernel_rfl) (by kernel_rfl) ?_
            refine mreg_run [] 35 [(1, [], Value.pointer (some ⟨b_, 0, none⟩)), (3, [], Value.pointer (some ⟨b_2, 0, none⟩)), (4, [], Value.slice b_3.ptr b_3.len b_3.cap), (6, [], Value.slice c.ptr c.len c.cap), (71, [], Value.bool false), (72, [], Value.slice c.ptr c.len c.cap), (73, [], Value.slice want.ptr want.len want.cap)] (by kernel_rfl) (by kernel_rfl) ?_
            refine mreg_enter (op := (Op.call (Call.mk (Callee.value (Operand.func 12)) #[(Operand.tmp 72), (Operand.tmp 73)] #[28, 28]))) (ty := 4) (dst := some 74) 35 [32, 33, 34, 29, 31, 26, 27, 28, 30, 20, 25, 15, 19, 24, 10, 14, 18, 21, 23, 5, 9, 13, 16, 17, 22, 3, 4, 8, 11, 12, 1, 2, 6, 7, 0] [] 12 #[Value.slice c.ptr c.len c.cap, Value.slice want.ptr want.len want.cap] (by kernel_rfl) (by kernel_rfl) (by kernel_rfl) (by kernel_rfl) (by kernel_rfl) (fun ww => by kernel_rfl) (Calls.mono h ?_)
            rintro _ w23 ⟨v74, rfl, h⟩
            refine ⟨_, rfl, trivial, ?_⟩
            refine mreg_run [.sure, .plain, .plain] 39 [(1, [], Value.pointer (some ⟨b_, 0, none⟩)), (3, [], Value.pointer (some ⟨b_2, 0, none⟩)), (4, [], Value.slice b_3.ptr b_3.len b_3.cap), (6, [], Value.slice c.ptr c.len c.cap), (77, [], Value.bool (!v74))] (by kernel_rfl) (by kernel_rfl) ?_
            refine mreg_split 77 (!v74) (by kernel_rfl) (fun hb => ?_) (fun hb => ?_)
            · replace h := h.1 hb
              refine mreg_run [] 39 [(1, [], Value.pointer (some ⟨b_, 0, none⟩)), (3, [], Value.pointer (some ⟨b_2, 0, none⟩)), (4, [], Value.slice b_3.ptr b_3.len b_3.cap), (6, [], Value.slice c.ptr c.len c.cap), (77, [], Value.bool true)] (by kernel_rfl) (by kernel_rfl) ?_
              refine mreg_run [.skip, .skip, .skip, .skip, .plain] 44 [(3, [], Value.pointer (some ⟨b_2, 0, none⟩)), (4, [], Value.slice b_3.ptr b_3.len b_3.cap), (6, [], Value.slice c.ptr c.len c.cap), (82, [], Value.bool true)] (by kernel_rfl) (by kernel_rfl) ?_
              refine mreg_end [(3, Value.pointer (some ⟨b_2, 0, none⟩)), (4, Value.slice b_3.ptr b_3.len b_3.cap), (6, Value.slice c.ptr c.len c.cap), (82, Value.bool true)] (by kernel_rfl) (by kernel_rfl) (by kernel_rfl) ?_
              exact ⟨[(3, Value.pointer (some ⟨b_2, 0, none⟩)), (4, Value.slice b_3.ptr b_3.len b_3.cap), (6, Value.slice c.ptr c.len c.cap), (82, Value.bool true)], Sub.mk (by kernel_rfl), true, rfl, h⟩
            · replace h := h.2 hb
              refine mreg_run [] 39 [(1, [], Value.pointer (some ⟨b_, 0, none⟩)), (3, [], Value.pointer (some ⟨b_2, 0, none⟩)), (4, [], Value.slice b_3.ptr b_3.len b_3.cap), (6, [], Value.slice c.ptr c.len c.cap), (77, [], Value.bool false)] (by kernel_rfl) (by kernel_rfl) ?_
              refine mreg_run [] 39 [(1, [], Value.pointer (some ⟨b_, 0, none⟩)), (3, [], Value.pointer (some ⟨b_2, 0, none⟩)), (4, [], Value.slice b_3.ptr b_3.len b_3.cap), (6, [], Value.slice c.ptr c.len c.cap), (77, [], Value.bool false)] (by kernel_rfl) (by kernel_rfl) ?_
              obtain ⟨v78, hc, h⟩ := h
              refine mreg_loadN (i := 39) (by kernel_rfl) (t := 24) (a := (Operand.tmp 3)) (b := b_2) (o := 0) (ty := 24) (dst := some 78) [Value.int .i64 v78.Number, Value.slice v78.Writes.ptr v78.Writes.len v78.Writes.cap] (by kernel_rfl) (by kernel_rfl) (by kernel_rfl) (k := 2) (by kernel_rfl) (by kernel_rfl) hc ?_
              refine mreg_run [] 40 [(1, [], Value.pointer (some ⟨b_, 0, none⟩)), (3, [], Value.pointer (some ⟨b_2, 0, none⟩)), (4, [], Value.slice b_3.ptr b_3.len b_3.cap), (6, [], Value.slice c.ptr c.len c.cap), (77, [], Value.bool false), (78, [], Value.agg #[Value.int .i64 v78.Number, Value.slice v78.Writes.ptr v78.Writes.len v78.Writes.cap])] (by kernel_rfl) (by kernel_rfl) ?_
              obtain ⟨v79, hc, h⟩ := h
              refine mreg_loadN (i := 40) (by kernel_rfl) (t := 24) (a := (Operand.tmp 1)) (b := b_) (o := 0) (ty := 24) (dst := some 79) [Value.int .i64 v79.Number, Value.slice v79.Writes.ptr v79.Writes.len v79.Writes.cap] (by kernel_rfl) (by kernel_rfl) (by kernel_rfl) (k := 2) (by kernel_rfl) (by kernel_rfl) hc ?_
              refine mreg_run [] 41 [(3, [], Value.pointer (some ⟨b_2, 0, none⟩)), (4, [], Value.slice b_3.ptr b_3.len b_3.cap), (6, [], Value.slice c.ptr c.len c.cap), (77, [], Value.bool false), (78, [], Value.agg #[Value.int .i64 v78.Number, Value.slice v78.Writes.ptr v78.Writes.len v78.Writes.cap]), (79, [], Value.agg #[Value.int .i64 v79.Number, Value.slice v79.Writes.ptr v79.Writes.len v79.Writes.cap])] (by kernel_rfl) (by kernel_rfl) ?_
              refine mreg_enter (op := (Op.call (Call.mk (Callee.value (Operand.func 13)) #[(Operand.tmp 78), (Operand.tmp 79)] #[24, 24]))) (ty := 4) (dst := some 80) 41 [38, 39, 40, 35, 37, 32, 33, 34, 36, 29, 31, 26, 27, 28, 30, 20, 25, 15, 19, 24, 10, 14, 18, 21, 23, 5, 9, 13, 16, 17, 22, 3, 4, 8, 11, 12, 1, 2, 6, 7, 0] [] 13 #[Value.agg #[Value.int .i64 v78.Number, Value.slice v78.Writes.ptr v78.Writes.len v78.Writes.cap], Value.agg #[Value.int .i64 v79.Number, Value.slice v79.Writes.ptr v79.Writes.len v79.Writes.cap]] (by kernel_rfl) (by kernel_rfl) (by kernel_rfl) (by kernel_rfl) (by kernel_rfl) (fun ww => by kernel_rfl) (Calls.mono h ?_)
              rintro _ w24 ⟨v80, rfl, h⟩
              refine ⟨_, rfl, trivial, ?_⟩
              refine mreg_run [.sure, .plain] 44 [(3, [], Value.pointer (some ⟨b_2, 0, none⟩)), (4, [], Value.slice b_3.ptr b_3.len b_3.cap), (6, [], Value.slice c.ptr c.len c.cap), (82, [], Value.bool (!v80))] (by kernel_rfl) (by kernel_rfl) ?_
              refine mreg_end [(3, Value.pointer (some ⟨b_2, 0, none⟩)), (4, Value.slice b_3.ptr b_3.len b_3.cap), (6, Value.slice c.ptr c.len c.cap), (82, Value.bool (!v80))] (by kernel_rfl) (by kernel_rfl) (by kernel_rfl) ?_
              exact ⟨[(3, Value.pointer (some ⟨b_2, 0, none⟩)), (4, Value.slice b_3.ptr b_3.len b_3.cap), (6, Value.slice c.ptr c.len c.cap), (82, Value.bool (!v80))], Sub.mk (by kernel_rfl), (!v80), rfl, h⟩
      · rintro _ w12 ⟨t82, rfl, h⟩
        unfold F_towpathlaw05_RecordEncodes_k0 at h
        refine Zc 82 t82 c3_33 c3_37 (fun hb => ?_) (fun hb => ?_)
        · replace h := h.1 hb
          refine Zp c3_36 P1 [(2, .bool false)] ?_
          refine wpE_ret (by kernel_rfl) ?_
          repeat (first | refine seqQ_ret ?_ | refine blockQ_ret ?_ | refine loopQ_ret ?_ | refine cutQ_ret ?_)
          exact retS (rs := [(ResultVar.tmp 2)]) (v := Value.bool false) (by kernel_rfl) (⟨by kernel_rfl, trivial⟩) ⟨false, rfl, h⟩
        · replace h := h.2 hb
          refine wpE_skip (by kernel_rfl) ?_
          change WpE _ _ c3_38 _ _ _
          refine Zt r3_39 c3_41 ?_
          refine Zn P1 1 [(3, [], .pointer (some ⟨b_2, 0, none⟩)), (4, [], .slice b_3.ptr b_3.len b_3.cap), (6, [], .slice c.ptr c.len c.cap), (83, [], .agg #[.int .i64 0, .slice none 0 0, .slice none 0 0, .slice none 0 0, .slice none 0 0, .slice none 0 0, .slice none 0 0, .slice none 0 0, .slice none 0 0, .slice none 0 0, .slice none 0 0, .slice none 0 0])] ?_
          refine Zw (some 12) (fun bb => .pointer (some ⟨bb, 0, none⟩)) (Obj.cells ([.int .i64 0, .slice none 0 0, .slice none 0 0, .slice none 0 0, .slice none 0 0, .slice none 0 0, .slice none 0 0, .slice none 0 0, .slice none 0 0, .slice none 0 0, .slice none 0 0, .slice none 0 0]).toArray ty_towpathlaw01_Book (0, 0)) (fun b_4 w13 hb hw => ?_)
          replace h := h b_4 w13 hb hw
          clear hb hw
          refine Zn [] 2 [(3, [], .pointer (some ⟨b_2, 0, none⟩)), (4, [], .slice b_3.ptr b_3.len b_3.cap), (6, [], .slice c.ptr c.len c.cap), (12, [], .pointer (some ⟨b_4, 0, none⟩)), (83, [], .agg #[.int .i64 0, .slice none 0 0, .slice none 0 0, .slice none 0 0, .slice none 0 0, .slice none 0 0, .slice none 0 0, .slice none 0 0, .slice none 0 0, .slice none 0 0, .slice none 0 0, .slice none 0 0])] ?_
          obtain ⟨hc, h⟩ := h
          refine Zo 49 12 83 b_4 0 12 [.int .i64 0, .slice none 0 0, .slice none 0 0, .slice none 0 0, .slice none 0 0, .slice none 0 0, .slice none 0 0, .slice none 0 0, .slice none 0 0, .slice none 0 0, .slice none 0 0, .slice none 0 0] hc (fun w14 hw => ?_)
          replace h := h w14 hw
          clear hw
          refine Ze [(3, .pointer (some ⟨b_2, 0, none⟩)), (4, .slice b_3.ptr b_3.len b_3.cap), (6, .slice c.ptr c.len c.cap), (12, .pointer (some ⟨b_4, 0, none⟩))] ?_
          change WpE _ _ c3_41 _ _ _
          refine Zt r3_42 c3_44 ?_
          refine Zn [] 0 [(3, [], .pointer (some ⟨b_2, 0, none⟩)), (4, [], .slice b_3.ptr b_3.len b_3.cap), (6, [], .slice c.ptr c.len c.cap), (12, [], .pointer (some ⟨b_4, 0, none⟩))] ?_
          obtain ⟨v84, hc, h⟩ := h
          refine reg_loadN (t := 24) (a := (Operand.tmp 3)) (b := b_2) (o := 0) (ty := 24) (dst := some 84) [Value.int .i64 v84.Number, Value.slice v84.Writes.ptr v84.Writes.len v84.Writes.cap] (by kernel_rfl) (by kernel_rfl) (by kernel_rfl) (k := 2) (by kernel_rfl) (by kernel_rfl) hc ?_
          refine Zn [] 1 [(4, [], .slice b_3.ptr b_3.len b_3.cap), (6, [], .slice c.ptr c.len c.cap), (12, [], .pointer (some ⟨b_4, 0, none⟩)), (84, [], .agg #[.int .i64 v84.Number, .slice v84.Writes.ptr v84.Writes.len v84.Writes.cap])] ?_
          refine Zm 14 #[.pointer (some ⟨b_4, 0, none⟩), .agg #[.int .i64 v84.Number, .slice v84.Writes.ptr v84.Writes.len v84.Writes.cap]] (some 85) (Calls.mono h ?_)
          rintro _ w15 ⟨rfl, h⟩
          refine ⟨_, rfl, ?_⟩
          refine Ze [(4, .slice b_3.ptr b_3.len b_3.cap), (6, .slice c.ptr c.len c.cap), (12, .pointer (some ⟨b_4, 0, none⟩))] ?_
          change WpE _ _ c3_44 _ _ _
          refine Zt r3_45 c3_47 ?_
          refine Zn P1 1 [(6, [], .slice c.ptr c.len c.cap), (12, [], .pointer (some ⟨b_4, 0, none⟩)), (86, [], .slice b_3.ptr b_3.len b_3.cap)] ?_
          refine Zm 15 #[.pointer (some ⟨b_4, 0, none⟩), .slice b_3.ptr b_3.len b_3.cap] (some 87) (Calls.mono h ?_)
          rintro _ w16 ⟨rfl, h⟩
          refine ⟨_, rfl, ?_⟩
          refine Ze [(6, .slice c.ptr c.len c.cap), (12, .pointer (some ⟨b_4, 0, none⟩))] ?_
          change WpE _ _ c3_47 _ _ _
          refine Zt r3_48 c3_50 ?_
          refine Zn P1 1 [(12, [], .pointer (some ⟨b_4, 0, none⟩)), (88, [], .slice c.ptr c.len c.cap)] ?_
          refine Zm 15 #[.pointer (some ⟨b_4, 0, none⟩), .slice c.ptr c.len c.cap] (some 89) (Calls.mono h ?_)
          rintro _ w17 ⟨rfl, h⟩
          refine ⟨_, rfl, ?_⟩
          refine Ze [(12, .pointer (some ⟨b_4, 0, none⟩))] ?_
          change WpE _ _ c3_50 _ _ _
          refine Zt r3_51 c3_53 ?_
          refine Zn [] 0 [(12, [], .pointer (some ⟨b_4, 0, none⟩))] ?_
          refine Zm 16 #[.pointer (some ⟨b_4, 0, none⟩)] (some 90) (Calls.mono h ?_)
          rintro _ w18 ⟨v90, rfl, h⟩
          refine ⟨_, rfl, ?_⟩
          refine Zf P1 [(2, .bool v90)] ?_
          change WpE _ _ c3_53 _ _ _
          refine wpE_ret (by kernel_rfl) ?_
          repeat (first | refine seqQ_ret ?_ | refine blockQ_ret ?_ | refine loopQ_ret ?_ | refine cutQ_ret ?_)
          exact retS (rs := [(ResultVar.tmp 2)]) (v := Value.bool v90) (by kernel_rfl) (⟨by kernel_rfl, trivial⟩) ⟨v90, rfl, h⟩
  · rintro e w' ⟨v, rfl, r0, rfl, h⟩; exact ⟨r0, rfl, h⟩
end Go.Proofs.YtfmkemmgakdddaaGreatDoor
