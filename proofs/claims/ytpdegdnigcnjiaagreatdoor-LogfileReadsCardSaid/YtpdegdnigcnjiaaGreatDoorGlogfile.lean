/- WRITTEN BY PROGRAM (dec.py): for each Go function the clean formula F, the call's contract C, and the proof S that F gives C. -/
import Derived.Test.YtpdegdnigcnjiaaGreatDoorRows
import Derived.Test.YtpdegdnigcnjiaaGreatDoorGF
namespace Go.Proofs.YtpdegdnigcnjiaaGreatDoor
open Go
set_option linter.unusedVariables false
set_option maxRecDepth 100000
set_option maxHeartbeats 4000000
noncomputable section

/-! ### towpath/logfile.Read (function 39) -/
def c39_0 := cb_ Tryz.f39
def c39_1 := cl_ c39_0
def r39_1 := co_ c39_1
def c39_3 := cr_ c39_0
def c39_4 := cl_ c39_3
def c39_5 := cl_ c39_4
def r39_5 := co_ c39_5
def c39_7 := cr_ c39_4
def c39_8 := cl_ c39_7
def c39_9 := cl_ c39_8
def c39_12 := cr_ c39_9
def r39_12 := co_ c39_12
def c39_14 := cr_ c39_8
def c39_15 := cl_ c39_14
def c39_16 := cl_ c39_15
def c39_17 := cl_ c39_16
def r39_17 := co_ c39_17
def c39_19 := cr_ c39_16
def c39_20 := cl_ c39_19
def c39_21 := cl_ c39_20
def r39_21 := co_ c39_21
def c39_23 := cr_ c39_20
def c39_24 := cr_ c39_19
def c39_25 := cr_ c39_15
def r39_25 := co_ c39_25
def c39_27 := cr_ c39_3
def c39_28 := cl_ c39_27
def r39_28 := co_ c39_28
def c39_30 := cr_ c39_27
def o_logfile_Read_21 : List Nat := [0, 1, 2, 3, 4]
def o_logfile_Read_28 : List Nat := [0, 1, 2, 3, 4, 5]

theorem S_logfile_Read {b_ : Slc} {w : World} {R : Slc → Int → Int → World → Prop} (h : F_logfile_Read b_ R w) : C_logfile_Read b_ w R := by
 unfold F_logfile_Read at h
 unfold C_logfile_Read
 refine Calls.mono (calls_of_wpY (args := [sv_ b_]) (R := fun v w' => ∃ (r0 : Slc) (r1 : Int) (r2 : Int), v = Value.tuple #[sv_ r0, Value.int .i64 r1, Value.int .i64 r2] ∧ R r0 r1 r2 w') Tryz.func39 (c := c39_0) (by kernel_rfl) 27 (by kernel_rfl) (by kernel_rfl) [(0, sv_ b_)] (by kernel_rfl) ?_) ?_
 · letI : Rnd := rndY Tryz.prog Tryz.f39 (fun v w' => ∃ (r0 : Slc) (r1 : Int) (r2 : Int), v = Value.tuple #[sv_ r0, Value.int .i64 r1, Value.int .i64 r2] ∧ R r0 r1 r2 w')
   refine Zt r39_1 c39_3 ?_
   refine Zn [] 0 [(0, [], sv_ b_)] ?_
   refine Zw (some 2) (fun bb => pv_ bb) (Obj.cells ([.slice none 0 0]).toArray ty_sl_api_Txn (0, 0)) (fun b_1 w1 hb hw => ?_)
   replace h := h b_1 w1 hb hw
   clear hb hw
   refine Zn [] 1 [(0, [], sv_ b_), (2, [], pv_ b_1)] ?_
   refine Zw (some 3) (fun bb => pv_ bb) (Obj.cells ([.int .i64 0]).toArray ty_int (0, 0)) (fun b_2 w2 hb hw => ?_)
   replace h := h b_2 w2 hb hw
   clear hb hw
   refine Zn [] 2 [(0, [], sv_ b_), (2, [], pv_ b_1), (3, [], pv_ b_2)] ?_
   refine Zw (some 4) (fun bb => pv_ bb) (Obj.cells ([.int .i64 0]).toArray ty_api_Errno (0, 0)) (fun b_3 w3 hb hw => ?_)
   replace h := h b_3 w3 hb hw
   clear hb hw
   refine Ze [(0, sv_ b_), (2, pv_ b_1), (3, pv_ b_2), (4, pv_ b_3)] ?_
   change WpE _ _ c39_3 _ _ _
   refine wpE_seq_range (x := c39_4) (r1 := c39_5) (b := c39_7) (id := 0) (rg := c39_8) (rest := c39_27) (assign := c39_9) (body := c39_14) (g := (Operand.tmp 8)) (ps := [9, 10]) (psa := #[9, 10]) (by kernel_rfl) (by kernel_rfl) (by kernel_rfl) (by kernel_rfl) (by kernel_rfl) ?_
   refine Zr r39_5 ?_
   refine Zn P1 1 [(2, [], pv_ b_1), (3, [], pv_ b_2), (4, [], pv_ b_3), (7, [], sv_ b_)] ?_
   refine Zm 115 #[sv_ b_, pv_ b_3] (some 8) (Calls.mono h ?_)
   rintro _ w4 ⟨v8, rfl, h⟩
   refine ⟨_, rfl, ?_⟩
   refine Ze [(2, pv_ b_1), (3, pv_ b_2), (4, pv_ b_3), (8, v8)] ?_
   refine rangeJ_mk (gv := v8) (by kernel_rfl) (by kernel_rfl) (fun rec_ D w5 hD_ hw_ hB_ => ?_)
   have hB_ : ∀ (t9 : Int) (t10 : T_api_Txn) (w6 : World) (Kb : Bool → World → Prop), w6.heap[D + 1]? = some (.loop (rec_ .ready none)) → (F_logfile_Read_S1 b_1 b_2 b_3 rec_ D Kb t9 t10 w6) → CallsY (P := Tryz.prog) (yieldV (D + 1)) #[Value.int .i64 t9, Value.agg #[Value.int .i64 t10.Number, sv_ t10.Writes]] w6 (fun e_ W_ => ∃ b_, e_ = Ending.returned (.bool b_) ∧ Kb b_ W_) := by
     clear h
     intro t9 t10 w6 Kb hl_ hf_
     refine hB_ [Value.int .i64 t9, Value.agg #[Value.int .i64 t10.Number, sv_ t10.Writes]] w6 _ (by kernel_rfl) hl_ ?_
     letI : Rnd := mkRnd (some (D + 1)) [] noEsc
     change WpE _ _ c39_9 _ _ _
     clear hl_
     have h := hf_
     clear hf_
     unfold F_logfile_Read_S1 at h
     refine Zp c39_12 P1 [(2, pv_ b_1), (3, pv_ b_2), (4, pv_ b_3), (5, .int .i64 t9), (10, .agg #[.int .i64 t10.Number, sv_ t10.Writes])] ?_
     refine Zr r39_12 ?_
     refine Zn [] 0 [(2, [], pv_ b_1), (3, [], pv_ b_2), (4, [], pv_ b_3), (5, [], .int .i64 t9), (10, [], .agg #[.int .i64 t10.Number, sv_ t10.Writes])] ?_
     refine Zw (some 6) (fun bb => pv_ bb) (Obj.cells ([.int .i64 0, .slice none 0 0]).toArray ty_api_Txn (0, 0)) (fun b_4 w8 hb hw => ?_)
     replace h := h b_4 w8 hb hw
     clear hb hw
     refine Zn [] 1 [(2, [], pv_ b_1), (3, [], pv_ b_2), (4, [], pv_ b_3), (5, [], .int .i64 t9), (6, [], pv_ b_4), (10, [], .agg #[.int .i64 t10.Number, sv_ t10.Writes])] ?_
     obtain ⟨hc, h⟩ := h
     refine Zo 52 6 10 b_4 0 2 [.int .i64 t10.Number, sv_ t10.Writes] hc (fun w9 hw => ?_)
     replace h := h w9 hw
     clear hw
     refine Ze [(2, pv_ b_1), (3, pv_ b_2), (4, pv_ b_3), (5, .int .i64 t9), (6, pv_ b_4)] ?_
     refine And.intro h.1 (fun w7 hw_ => ?_)
     replace h := h.2 w7 hw_
     clear hw_
     unfold F_logfile_Read_B0 at h
     change WpE _ _ c39_14 _ _ _
     refine Zb 1 c39_15 ?_
     refine Zs c39_16 c39_25 ?_
     refine Zt r39_17 c39_19 ?_
     refine Zn P1 1 [(2, [], pv_ b_1), (3, [], pv_ b_2), (4, [], pv_ b_3), (5, [], .int .i64 t9), (6, [], pv_ b_4), (11, [], pv_ b_4)] ?_
     obtain ⟨v12, hc, h⟩ := h
     refine Zl 3 11 b_4 0 3 12 hc ?_
     refine Zn [] 2 [(2, [], pv_ b_1), (3, [], pv_ b_2), (4, [], pv_ b_3), (5, [], .int .i64 t9), (6, [], pv_ b_4), (12, [], .int .i64 v12)] ?_
     obtain ⟨v13, hc, h⟩ := h
     refine Zl 22 2 b_1 0 22 13 hc ?_
     refine Zf P3 [(2, pv_ b_1), (3, pv_ b_2), (4, pv_ b_3), (5, .int .i64 t9), (6, pv_ b_4), (16, .bool (v12 != (IntKind.i64.wrap (((v13.len : Nat) : Int) + 1))))] ?_
     change WpE _ _ c39_19 _ _ _
     refine Zc 16 (v12 != (IntKind.i64.wrap (((v13.len : Nat) : Int) + 1))) c39_20 c39_24 (fun hb => ?_) (fun hb => ?_)
     · replace h := h.1 hb
       refine Zs c39_21 c39_23 ?_
       refine wpE_mixregionY (id := 5) (ops := r39_21) o_logfile_Read_21 (by kernel_rfl) (by kernel_rfl) (by kernel_rfl) (by kernel_rfl) (by kernel_rfl) (fun w10 hw => ?_)
       replace h := h w10 hw
       clear hw
       refine mreg_run [] 0 [(2, [], pv_ b_1), (3, [], pv_ b_2), (4, [], pv_ b_3)] (by kernel_rfl) (by kernel_rfl) ?_
       obtain ⟨v17, hc, h⟩ := h
       refine mreg_load1 (i := 0) (by kernel_rfl) (t := 22) (a := (Operand.tmp 2)) (b := b_1) (o := 0) (ty := 22) (dst := some 17) (by kernel_rfl) (by kernel_rfl) (by kernel_rfl) hc ?_
       refine mreg_run [] 1 [(2, [], pv_ b_1), (3, [], pv_ b_2), (4, [], pv_ b_3), (17, [], sv_ v17)] (by kernel_rfl) (by kernel_rfl) ?_
       obtain ⟨v18, hc, h⟩ := h
       refine mreg_load1 (i := 1) (by kernel_rfl) (t := 3) (a := (Operand.tmp 3)) (b := b_2) (o := 0) (ty := 3) (dst := some 18) (by kernel_rfl) (by kernel_rfl) (by kernel_rfl) hc ?_
       refine mreg_run [] 2 [(2, [], pv_ b_1), (3, [], pv_ b_2), (4, [], pv_ b_3), (17, [], sv_ v17), (18, [], Value.int .i64 v18)] (by kernel_rfl) (by kernel_rfl) ?_
       obtain ⟨hc, h⟩ := h
       refine mreg_store (t := 22) (a := (Operand.tmp 2)) (x := (Operand.tmp 17)) (b := b_1) (o := 0) (k := 1) (ty := 0) (dst := none) 2 [0] [(1, fun w' => w'.cell? ⟨b_2, 0, none⟩ = some (Value.int .i64 v18))] [sv_ v17] (by kernel_rfl) (by kernel_rfl) (by kernel_rfl) (by kernel_rfl) (by kernel_rfl) (by kernel_rfl) (by kernel_rfl) (by kernel_rfl) (by kernel_rfl) (by kernel_rfl) hc (fun w11 hw => ?_)
       replace h := h w11 hw
       clear hw
       obtain ⟨hk0, h⟩ := h
       refine ⟨⟨hk0, trivial⟩, ?_⟩
       refine mreg_run [] 3 [(3, [], pv_ b_2), (4, [], pv_ b_3), (18, [], Value.int .i64 v18)] (by kernel_rfl) (by kernel_rfl) ?_
       obtain ⟨hc, h⟩ := h
       refine mreg_store (t := 3) (a := (Operand.tmp 3)) (x := (Operand.tmp 18)) (b := b_2) (o := 0) (k := 1) (ty := 0) (dst := none) 3 [0, 1, 2] [] [Value.int .i64 v18] (by kernel_rfl) (by kernel_rfl) (by kernel_rfl) (by kernel_rfl) (by kernel_rfl) (by kernel_rfl) (by kernel_rfl) (by kernel_rfl) (by kernel_rfl) (by kernel_rfl) hc (fun w12 hw => ?_)
       replace h := h w12 hw
       clear hw
       refine ⟨trivial, ?_⟩
       refine mreg_run [] 4 [(4, [], pv_ b_3)] (by kernel_rfl) (by kernel_rfl) ?_
       obtain ⟨hc, h⟩ := h
       refine mreg_store (t := 28) (a := (Operand.tmp 4)) (x := (Operand.const (Value.int Go.IntKind.i64 6))) (b := b_3) (o := 0) (k := 1) (ty := 0) (dst := none) 4 [0, 1, 2, 3] [] [Value.int .i64 6] (by kernel_rfl) (by kernel_rfl) (by kernel_rfl) (by kernel_rfl) (by kernel_rfl) (by kernel_rfl) (by kernel_rfl) (by kernel_rfl) (by kernel_rfl) (by kernel_rfl) hc (fun w13 hw => ?_)
       replace h := h w13 hw
       clear hw
       refine ⟨trivial, ?_⟩
       refine mreg_end [] (by kernel_rfl) (by kernel_rfl) (by kernel_rfl) ?_
       change WpE _ _ c39_23 _ _ _
       refine wpE_ret (by kernel_rfl) ?_
       exact And.intro h.1 ⟨false, rfl, h.2 _ rfl⟩
     · replace h := h.2 hb
       refine wpE_skip (by kernel_rfl) ?_
       change WpE _ _ c39_25 _ _ _
       refine Zr r39_25 ?_
       refine Zn [] 0 [(2, [], pv_ b_1), (3, [], pv_ b_2), (5, [], .int .i64 t9), (6, [], pv_ b_4)] ?_
       obtain ⟨v19, hc, h⟩ := h
       refine Zl 22 2 b_1 0 22 19 hc ?_
       refine Zn [] 1 [(2, [], pv_ b_1), (3, [], pv_ b_2), (5, [], .int .i64 t9), (6, [], pv_ b_4), (19, [], sv_ v19)] ?_
       obtain ⟨v20, hc, h⟩ := h
       refine reg_loadN (t := 52) (a := (Operand.tmp 6)) (b := b_4) (o := 0) (ty := 52) (dst := some 20) [Value.int .i64 v20.Number, sv_ v20.Writes] (by kernel_rfl) (by kernel_rfl) (by kernel_rfl) (k := 2) (by kernel_rfl) (by kernel_rfl) hc ?_
       refine Zn [] 2 [(2, [], pv_ b_1), (3, [], pv_ b_2), (5, [], .int .i64 t9), (19, [], sv_ v19), (20, [], .agg #[.int .i64 v20.Number, sv_ v20.Writes])] ?_
       refine Zw (some 21) (fun bb => .slice (some ⟨bb, 0, none⟩) 1 1) (Obj.cells ([.int .i64 v20.Number, sv_ v20.Writes]).toArray ty_api_Txn (0, 0)) (fun b_5 w15 hb hw => ?_)
       replace h := h b_5 w15 hb hw
       clear hb hw
       refine Zn [] 3 [(2, [], pv_ b_1), (3, [], pv_ b_2), (5, [], .int .i64 t9), (19, [], sv_ v19), (21, [], .slice (some ⟨b_5, 0, none⟩) 1 1)] ?_
       obtain ⟨src, hs, h⟩ := h
       refine reg_append (t := 22) (tx := 22) (e := 52) (a := (Operand.tmp 19)) (xo := (Operand.tmp 21)) (s := v19) (x := (Slc.mk (some ⟨b_5, 0, none⟩) 1 1)) (sz := 2) (by_ := 32) (zs := [Value.int .i64 0, Value.slice none 0 0]) (ty := 22) (dst := some 22)  src (by kernel_rfl) (by kernel_rfl) (by kernel_rfl) (by kernel_rfl) (by kernel_rfl) (by kernel_rfl) (by kernel_rfl) (by kernel_rfl) (by kernel_rfl) hs (AppendW.mono h (fun v22 w16 h => ?_))
       refine Zn P1 5 [(2, [], pv_ b_1), (3, [], pv_ b_2), (22, [], sv_ v22), (23, [], .int .i64 t9)] ?_
       obtain ⟨hc, h⟩ := h
       refine Zo 22 2 22 b_1 0 1 [sv_ v22] hc (fun w17 hw => ?_)
       replace h := h w17 hw
       clear hw
       refine Zn [] 6 [(3, [], pv_ b_2), (23, [], .int .i64 t9)] ?_
       obtain ⟨hc, h⟩ := h
       refine Zo 3 3 23 b_2 0 1 [.int .i64 t9] hc (fun w18 hw => ?_)
       replace h := h w18 hw
       clear hw
       refine Ze [] ?_
       exact And.intro h.1 ⟨true, rfl, h.2 _ rfl⟩
   replace h := h rec_ D w5 hD_ hw_ hB_
   clear hB_ hw_
   have hA_ : ∀ w21, F_logfile_Read_A2 R b_1 b_2 b_3 D w21 → @WpE (rndD Tryz.prog Tryz.f39 (fun v w' => ∃ (r0 : Slc) (r1 : Int) (r2 : Int), v = Value.tuple #[sv_ r0, Value.int .i64 r1, Value.int .i64 r2] ∧ R r0 r1 r2 w') D) Tryz.prog 27 c39_27 (fun _ _ _ => False) [(2, pv_ b_1), (3, pv_ b_2), (4, pv_ b_3), (8, v8)] w21 := by
     clear h
     intro w21 h
     letI : Rnd := rndD Tryz.prog Tryz.f39 (fun v w' => ∃ (r0 : Slc) (r1 : Int) (r2 : Int), v = Value.tuple #[sv_ r0, Value.int .i64 r1, Value.int .i64 r2] ∧ R r0 r1 r2 w') D
     unfold F_logfile_Read_A2 at h
     change WpE _ _ c39_27 _ _ _
     refine Zs c39_28 c39_30 ?_
     refine wpE_mixregionY (id := 7) (ops := r39_28) o_logfile_Read_28 (by kernel_rfl) (by kernel_rfl) (by kernel_rfl) (by kernel_rfl) (by kernel_rfl) (fun w24 hw => ?_)
     replace h := h w24 hw
     clear hw
     refine mreg_run [] 0 [(2, [], pv_ b_1), (3, [], pv_ b_2), (4, [], pv_ b_3)] (by kernel_rfl) (by kernel_rfl) ?_
     obtain ⟨v24, hc, h⟩ := h
     refine mreg_load1 (i := 0) (by kernel_rfl) (t := 22) (a := (Operand.tmp 2)) (b := b_1) (o := 0) (ty := 22) (dst := some 24) (by kernel_rfl) (by kernel_rfl) (by kernel_rfl) hc ?_
     refine mreg_run [] 1 [(2, [], pv_ b_1), (3, [], pv_ b_2), (4, [], pv_ b_3), (24, [], sv_ v24)] (by kernel_rfl) (by kernel_rfl) ?_
     obtain ⟨v25, hc, h⟩ := h
     refine mreg_load1 (i := 1) (by kernel_rfl) (t := 3) (a := (Operand.tmp 3)) (b := b_2) (o := 0) (ty := 3) (dst := some 25) (by kernel_rfl) (by kernel_rfl) (by kernel_rfl) hc ?_
     refine mreg_run [] 2 [(2, [], pv_ b_1), (3, [], pv_ b_2), (4, [], pv_ b_3), (24, [], sv_ v24), (25, [], Value.int .i64 v25)] (by kernel_rfl) (by kernel_rfl) ?_
     obtain ⟨v26, hc, h⟩ := h
     refine mreg_load1 (i := 2) (by kernel_rfl) (t := 28) (a := (Operand.tmp 4)) (b := b_3) (o := 0) (ty := 28) (dst := some 26) (by kernel_rfl) (by kernel_rfl) (by kernel_rfl) hc ?_
     refine mreg_run [] 3 [(2, [], pv_ b_1), (3, [], pv_ b_2), (4, [], pv_ b_3), (24, [], sv_ v24), (25, [], Value.int .i64 v25), (26, [], Value.int .i64 v26)] (by kernel_rfl) (by kernel_rfl) ?_
     obtain ⟨hc, h⟩ := h
     refine mreg_store (t := 22) (a := (Operand.tmp 2)) (x := (Operand.tmp 24)) (b := b_1) (o := 0) (k := 1) (ty := 0) (dst := none) 3 [0] [(2, fun w' => w'.cell? ⟨b_3, 0, none⟩ = some (Value.int .i64 v26)), (1, fun w' => w'.cell? ⟨b_2, 0, none⟩ = some (Value.int .i64 v25))] [sv_ v24] (by kernel_rfl) (by kernel_rfl) (by kernel_rfl) (by kernel_rfl) (by kernel_rfl) (by kernel_rfl) (by kernel_rfl) (by kernel_rfl) (by kernel_rfl) (by kernel_rfl) hc (fun w25 hw => ?_)
     replace h := h w25 hw
     clear hw
     obtain ⟨hk0, hk1, h⟩ := h
     refine ⟨⟨hk0, hk1, trivial⟩, ?_⟩
     refine mreg_run [] 4 [(2, [], pv_ b_1), (3, [], pv_ b_2), (4, [], pv_ b_3), (25, [], Value.int .i64 v25), (26, [], Value.int .i64 v26)] (by kernel_rfl) (by kernel_rfl) ?_
     obtain ⟨hc, h⟩ := h
     refine mreg_store (t := 3) (a := (Operand.tmp 3)) (x := (Operand.tmp 25)) (b := b_2) (o := 0) (k := 1) (ty := 0) (dst := none) 4 [0, 1, 3] [(2, fun w' => w'.cell? ⟨b_3, 0, none⟩ = some (Value.int .i64 v26))] [Value.int .i64 v25] (by kernel_rfl) (by kernel_rfl) (by kernel_rfl) (by kernel_rfl) (by kernel_rfl) (by kernel_rfl) (by kernel_rfl) (by kernel_rfl) (by kernel_rfl) (by kernel_rfl) hc (fun w26 hw => ?_)
     replace h := h w26 hw
     clear hw
     obtain ⟨hk0, h⟩ := h
     refine ⟨⟨hk0, trivial⟩, ?_⟩
     refine mreg_run [] 5 [(2, [], pv_ b_1), (3, [], pv_ b_2), (4, [], pv_ b_3), (26, [], Value.int .i64 v26)] (by kernel_rfl) (by kernel_rfl) ?_
     obtain ⟨hc, h⟩ := h
     refine mreg_store (t := 28) (a := (Operand.tmp 4)) (x := (Operand.tmp 26)) (b := b_3) (o := 0) (k := 1) (ty := 0) (dst := none) 5 [0, 1, 2, 3, 4] [] [Value.int .i64 v26] (by kernel_rfl) (by kernel_rfl) (by kernel_rfl) (by kernel_rfl) (by kernel_rfl) (by kernel_rfl) (by kernel_rfl) (by kernel_rfl) (by kernel_rfl) (by kernel_rfl) hc (fun w27 hw => ?_)
     replace h := h w27 hw
     clear hw
     refine ⟨trivial, ?_⟩
     refine mreg_end [(2, pv_ b_1), (3, pv_ b_2), (4, pv_ b_3)] (by kernel_rfl) (by kernel_rfl) (by kernel_rfl) ?_
     change WpE _ _ c39_30 _ _ _
     refine wpE_retD (by kernel_rfl) h.1 ?_
     replace h := h.2 _ rfl
     obtain ⟨res, hc_res, h⟩ := h
     obtain ⟨res1, hc_res1, h⟩ := h
     obtain ⟨res2, hc_res2, h⟩ := h
     repeat (first | refine seqQ_ret ?_ | refine blockQ_ret ?_ | refine loopQ_ret ?_ | refine cutQ_ret ?_)
     exact retT (rs := [(ResultVar.cell 2 22), (ResultVar.cell 3 3), (ResultVar.cell 4 28)]) (vs := [sv_ res, Value.int .i64 res1, Value.int .i64 res2]) (by kernel_rfl) (⟨b_1, 0, [sv_ res], by kernel_rfl, hc_res, (sizeP_of (k := 1) (by kernel_rfl) (by kernel_rfl)), .inr ⟨by kernel_rfl, rfl⟩, ⟨b_2, 0, [Value.int .i64 res1], by kernel_rfl, hc_res1, (sizeP_of (k := 1) (by kernel_rfl) (by kernel_rfl)), .inr ⟨by kernel_rfl, rfl⟩, ⟨b_3, 0, [Value.int .i64 res2], by kernel_rfl, hc_res2, (sizeP_of (k := 1) (by kernel_rfl) (by kernel_rfl)), .inr ⟨by kernel_rfl, rfl⟩, trivial⟩⟩⟩) (by kernel_rfl) ⟨res, res1, res2, rfl, h⟩
   refine CallsV.mono h ?_
   rintro e_ w22 ⟨hv_, st_, pe_, hl_, hst_, h⟩
   refine ⟨hv_, st_, pe_, hl_, hst_, ?_⟩
   replace h := h _ rfl
   rcases h with h | ⟨rfl, h⟩
   · obtain ⟨hpe_, h⟩ := h
     subst hpe_
     exact hA_ _ h
   · refine And.intro h.1 ?_
     replace h := h.2 _ rfl
     obtain ⟨res3, hc_res3, h⟩ := h
     obtain ⟨res4, hc_res4, h⟩ := h
     obtain ⟨res5, hc_res5, h⟩ := h
     repeat (first | refine seqQ_ret ?_ | refine blockQ_ret ?_ | refine loopQ_ret ?_ | refine cutQ_ret ?_)
     exact retT (rs := [(ResultVar.cell 2 22), (ResultVar.cell 3 3), (ResultVar.cell 4 28)]) (vs := [sv_ res3, Value.int .i64 res4, Value.int .i64 res5]) (by kernel_rfl) (⟨b_1, 0, [sv_ res3], by kernel_rfl, hc_res3, (sizeP_of (k := 1) (by kernel_rfl) (by kernel_rfl)), .inr ⟨by kernel_rfl, rfl⟩, ⟨b_2, 0, [Value.int .i64 res4], by kernel_rfl, hc_res4, (sizeP_of (k := 1) (by kernel_rfl) (by kernel_rfl)), .inr ⟨by kernel_rfl, rfl⟩, ⟨b_3, 0, [Value.int .i64 res5], by kernel_rfl, hc_res5, (sizeP_of (k := 1) (by kernel_rfl) (by kernel_rfl)), .inr ⟨by kernel_rfl, rfl⟩, trivial⟩⟩⟩) (by kernel_rfl) ⟨res3, res4, res5, rfl, h⟩
 · rintro e w' ⟨v, rfl, r0, r1, r2, rfl, h⟩; exact ⟨r0, r1, r2, rfl, h⟩

/-! ### towpath/logfile.records (function 115) -/
def c115_0 := cb_ Tryz.f115
def c115_1 := cl_ c115_0
def r115_1 := co_ c115_1
def c115_3 := cr_ c115_0
def c115_6 := cr_ c115_3

theorem S_logfile_records {b_ : Slc} {e : Option Addr} {w : World} {R : Value → World → Prop} (h : F_logfile_records b_ e R w) : C_logfile_records b_ e w R := by
 unfold F_logfile_records at h
 unfold C_logfile_records
 refine Calls.mono (calls_of_wpE (args := [sv_ b_, Value.pointer e]) (R := fun v w' => ∃ (r0 : Value), v = r0 ∧ R r0 w') Tryz.func115 (c := c115_0) (by kernel_rfl) 6 (by kernel_rfl) (by kernel_rfl) [(0, sv_ b_), (1, Value.pointer e)] (by kernel_rfl) ?_) ?_
 · refine Zt r115_1 c115_3 ?_
   refine Zn [] 0 [(0, [], sv_ b_), (1, [], .pointer e)] ?_
   refine Zw (some 2) (fun bb => pv_ bb) (Obj.cells ([sv_ b_]).toArray ty_sl_uint8 (0, 0)) (fun b_1 w1 hb hw => ?_)
   replace h := h b_1 w1 hb hw
   clear hb hw
   refine Zn [] 1 [(1, [], .pointer e), (2, [], pv_ b_1)] ?_
   refine Zw (some 3) (fun bb => pv_ bb) (Obj.cells ([.pointer e]).toArray ty_ptr_api_Errno (0, 0)) (fun b_2 w2 hb hw => ?_)
   replace h := h b_2 w2 hb hw
   clear hb hw
   refine Zf P1 [(2, pv_ b_1), (3, pv_ b_2)] ?_
   change WpE _ _ c115_3 _ _ _
   refine Zp c115_6 P2 [(4, .func (.func 172) #[] #[pv_ b_1, pv_ b_2])] ?_
   refine wpE_ret (by kernel_rfl) ?_
   repeat (first | refine seqQ_ret ?_ | refine blockQ_ret ?_ | refine loopQ_ret ?_ | refine cutQ_ret ?_)
   exact retS (rs := [(ResultVar.tmp 4)]) (v := Value.func (.func 172) #[] #[pv_ b_1, pv_ b_2]) (by kernel_rfl) (⟨by kernel_rfl, trivial⟩) ⟨(Value.func (.func 172) #[] #[pv_ b_1, pv_ b_2]), rfl, h⟩
 · rintro e w' ⟨v, rfl, r0, rfl, h⟩; exact ⟨_, rfl, h⟩

/-! ### towpath/logfile.records$1 (function 172) -/
def c172_0 := cb_ Tryz.f172
def c172_1 := cl_ c172_0
def r172_1 := co_ c172_1
def c172_3 := cr_ c172_0
def c172_4 := cl_ c172_3
def r172_4 := co_ c172_4
def c172_6 := cr_ c172_3
def c172_7 := cl_ c172_6
def c172_8 := cl_ c172_7
def c172_9 := cl_ c172_8
def c172_12 := cr_ c172_9
def c172_13 := cl_ c172_12
def c172_14 := cr_ c172_12
def c172_15 := cr_ c172_8
def c172_16 := cl_ c172_15
def c172_17 := cl_ c172_16
def c172_18 := cl_ c172_17
def r172_18 := co_ c172_18
def c172_20 := cr_ c172_17
def c172_21 := cl_ c172_20
def r172_21 := co_ c172_21
def c172_23 := cr_ c172_20
def c172_24 := cl_ c172_23
def r172_24 := co_ c172_24
def c172_26 := cr_ c172_23
def c172_27 := cl_ c172_26
def c172_28 := cl_ c172_27
def r172_28 := co_ c172_28
def c172_30 := cr_ c172_27
def c172_31 := cl_ c172_30
def c172_32 := cl_ c172_31
def r172_32 := co_ c172_32
def c172_34 := cr_ c172_31
def c172_35 := cr_ c172_30
def c172_36 := cr_ c172_26
def c172_37 := cl_ c172_36
def c172_38 := cl_ c172_37
def r172_38 := co_ c172_38
def c172_40 := cr_ c172_37
def c172_41 := cl_ c172_40
def c172_42 := cl_ c172_41
def r172_42 := co_ c172_42
def c172_44 := cr_ c172_41
def c172_45 := cr_ c172_40
def c172_46 := cr_ c172_36
def c172_47 := cl_ c172_46
def r172_47 := co_ c172_47
def c172_49 := cr_ c172_46
def c172_50 := cl_ c172_49
def c172_53 := cr_ c172_50
def c172_54 := cl_ c172_53
def c172_55 := cl_ c172_54
def r172_55 := co_ c172_55
def c172_57 := cr_ c172_54
def c172_58 := cr_ c172_53
def c172_59 := cr_ c172_49
def c172_60 := cl_ c172_59
def r172_60 := co_ c172_60
def c172_62 := cr_ c172_59
def c172_63 := cl_ c172_62
def c172_64 := cr_ c172_62
def c172_65 := cr_ c172_15
def r172_65 := co_ c172_65

theorem S_logfile_records_1 {yield : Value} {t1 : Option Addr} {t2 : Option Addr} {w : World} {R : World → Prop} (h : F_logfile_records_1 yield t1 t2 R w) : C_logfile_records_1 yield t1 t2 w R := by
 unfold F_logfile_records_1 at h
 unfold C_logfile_records_1
 refine Calls.mono (calls_of_wpY (args := [yield, Value.pointer t1, Value.pointer t2]) (R := fun v w' => v = Value.tuple #[] ∧ R w') Tryz.func172 (c := c172_0) (by kernel_rfl) 65 (by kernel_rfl) (by kernel_rfl) [(0, yield), (1, Value.pointer t1), (2, Value.pointer t2)] (by kernel_rfl) ?_) ?_
 · letI : Rnd := rndY Tryz.prog Tryz.f172 (fun v w' => v = Value.tuple #[] ∧ R w')
   refine Zt r172_1 c172_3 ?_
   refine Zn [] 0 [(0, [], yield), (1, [], .pointer t1), (2, [], .pointer t2)] ?_
   obtain ⟨hp_1, h⟩ := h
   refine Zv (fun pp => [(0, [], yield), (1, [], .pointer pp), (2, [], .pointer t2)]) hp_1 ?_
   obtain ⟨v11, hc, h⟩ := h
   refine Zl 79 1 (pblk t1) (poff t1) 79 11 hc ?_
   refine Zn [] 1 [(0, [], yield), (1, [], .pointer (some ⟨(pblk t1), (poff t1), none⟩)), (2, [], .pointer t2), (11, [], sv_ v11)] ?_
   refine Zm 173 #[sv_ v11] (some 12) (Calls.mono h ?_)
   rintro _ w1 ⟨v12, rfl, h⟩
   refine ⟨_, rfl, ?_⟩
   refine Zn P1 3 [(0, [], yield), (1, [], .pointer (some ⟨(pblk t1), (poff t1), none⟩)), (2, [], .pointer t2), (4, [], .pointer v12)] ?_
   refine Zv (fun pp => [(0, [], yield), (1, [], .pointer pp), (2, [], .pointer t2), (4, [], .pointer v12)]) hp_1.symm ?_
   refine Ze [(0, yield), (1, .pointer t1), (2, .pointer t2), (4, .pointer v12)] ?_
   change WpE _ _ c172_3 _ _ _
   refine Zt r172_4 c172_6 ?_
   refine Zn [] 0 [(0, [], yield), (1, [], .pointer t1), (2, [], .pointer t2), (4, [], .pointer v12)] ?_
   obtain ⟨hp_3, h⟩ := h
   refine Zv (fun pp => [(0, [], yield), (1, [], .pointer pp), (2, [], .pointer t2), (4, [], .pointer v12)]) hp_3 ?_
   obtain ⟨v13, hc, h⟩ := h
   refine Zl 79 1 (pblk t1) (poff t1) 79 13 hc ?_
   refine Zn P2 3 [(0, [], yield), (1, [], .pointer (some ⟨(pblk t1), (poff t1), none⟩)), (2, [], .pointer t2), (4, [], .pointer v12), (5, [], .int .i64 ((v13.len : Nat) : Int))] ?_
   refine Zv (fun pp => [(0, [], yield), (1, [], .pointer pp), (2, [], .pointer t2), (4, [], .pointer v12), (5, [], .int .i64 ((v13.len : Nat) : Int))]) hp_3.symm ?_
   refine Ze [(0, yield), (1, .pointer t1), (2, .pointer t2), (4, .pointer v12), (5, .int .i64 ((v13.len : Nat) : Int))] ?_
   change WpE _ _ c172_6 _ _ _
   refine Zb 0 c172_7 ?_
   obtain ⟨I, μ, h0, hr⟩ := h
   refine wpE_loop (x := c172_8) (by kernel_rfl) (fun m l w => ∃ (left : Int), l = [(0, yield), (1, Value.pointer t1), (2, Value.pointer t2), (4, Value.pointer v12), (5, Value.int .i64 left)] ∧ I left w ∧ μ left w = m) (l' := [(0, yield), (1, Value.pointer t1), (2, Value.pointer t2), (4, Value.pointer v12), (5, Value.int .i64 ((v13.len : Nat) : Int))]) (Sub.mk (by kernel_rfl)) ⟨((v13.len : Nat) : Int), rfl, h0, rfl⟩ ?_
   rintro _ _ w2 ⟨left, rfl, hI, rfl⟩
   obtain ⟨again_, again__h, h⟩ : ∃ again_ : Int → World → Prop, (∀ left' w', again_ left' w' → I left' w' ∧ μ left' w' < μ left w2) ∧ F_logfile_records_1_L0 yield t1 t2 R v12 again_ left w2 := ⟨_, fun _ _ h => h, hr left w2 hI⟩
   clear h0 hI
   unfold F_logfile_records_1_L0 at h
   refine Zs c172_9 c172_15 ?_
   refine Zp c172_12 P2 [(0, yield), (1, .pointer t1), (2, .pointer t2), (4, .pointer v12), (5, .int .i64 left), (16, .bool (decide (left > 0)))] ?_
   refine Zc 16 (decide (left > 0)) c172_13 c172_14 (fun hb => ?_) (fun hb => ?_)
   · replace h := h.1 hb
     refine wpE_skip (by kernel_rfl) ?_
     change WpE _ _ c172_15 _ _ _
     refine Zs c172_16 c172_65 ?_
     refine Zb 1 c172_17 ?_
     refine Zt r172_18 c172_20 ?_
     refine Zn P1 1 [(0, [], yield), (1, [], .pointer t1), (2, [], .pointer t2), (4, [], .pointer v12), (5, [], .int .i64 left), (19, [], .pointer v12)] ?_
     refine Zm 175 #[.pointer v12, .int .i64 65536] (some 20) (Calls.mono h ?_)
     rintro _ w3 ⟨v20, rfl, h⟩
     refine ⟨_, rfl, ?_⟩
     refine Zn [] 2 [(0, [], yield), (1, [], .pointer t1), (2, [], .pointer t2), (4, [], .pointer v12), (5, [], .int .i64 left), (20, [], .string v20)] ?_
     refine reg_ofString (t := 9) (d := 79) (e := 5) (x := (Operand.tmp 20)) (str := v20) (ty := 79) (dst := some 21) (by kernel_rfl) (by kernel_rfl) (by kernel_rfl) (by kernel_rfl) (by kernel_rfl) (fun s w4 hs => ?_)
     replace h := h s w4 hs
     clear hs
     refine Zf P1 [(0, yield), (1, .pointer t1), (2, .pointer t2), (4, .pointer v12), (5, .int .i64 left), (6, sv_ s)] ?_
     change WpE _ _ c172_20 _ _ _
     refine Zt r172_21 c172_23 ?_
     refine Zn P1 1 [(0, [], yield), (1, [], .pointer t1), (2, [], .pointer t2), (4, [], .pointer v12), (5, [], .int .i64 left), (6, [], sv_ s), (22, [], .pointer v12)] ?_
     refine Zm 174 #[.pointer v12] (some 23) (Calls.mono h ?_)
     rintro _ w5 ⟨v23, rfl, h⟩
     refine ⟨_, rfl, ?_⟩
     refine Zf P1 [(0, yield), (1, .pointer t1), (2, .pointer t2), (4, .pointer v12), (5, .int .i64 left), (6, sv_ s), (7, .int .i64 v23)] ?_
     change WpE _ _ c172_23 _ _ _
     refine Zt r172_24 c172_26 ?_
     refine Zn P1 1 [(0, [], yield), (1, [], .pointer t1), (2, [], .pointer t2), (4, [], .pointer v12), (5, [], .int .i64 left), (6, [], sv_ s), (7, [], .int .i64 v23), (24, [], .pointer v12)] ?_
     refine Zm 176 #[.pointer v12, .int .i64 4] (some 25) (Calls.mono h ?_)
     rintro _ w6 ⟨v25, rfl, h⟩
     refine ⟨_, rfl, ?_⟩
     refine Zf P1 [(0, yield), (1, .pointer t1), (2, .pointer t2), (4, .pointer v12), (5, .int .i64 left), (6, sv_ s), (7, .int .i64 v23), (8, .int .u64 v25)] ?_
     change WpE _ _ c172_26 _ _ _
     refine Zs c172_27 c172_36 ?_
     refine wpE_seq_cut (x := c172_28) (y := c172_30) (by kernel_rfl) (fun l w => ∃ (t34 : Bool), l = [(0, yield), (1, Value.pointer t1), (2, Value.pointer t2), (4, Value.pointer v12), (6, sv_ s), (8, Value.int .u64 v25), (34, Value.bool t34)] ∧ F_logfile_records_1_k1 yield t1 t2 R v12 again_ s v25 t34 w) ?_ ?_
     · refine Zr r172_28 ?_
       refine Zn (Pl 5) 5 [(0, [], yield), (1, [], .pointer t1), (2, [], .pointer t2), (4, [], .pointer v12), (6, [], sv_ s), (7, [], .int .i64 v23), (8, [], .int .u64 v25), (29, [], .bool (v23 == left)), (30, [(29, false)], .pointer v12)] ?_
       refine reg_split 29 (v23 == left) (by kernel_rfl) (fun hb => ?_) (fun hb => ?_)
       · replace h := h.1 hb
         refine Zn [] 5 [(0, [], yield), (1, [], .pointer t1), (2, [], .pointer t2), (4, [], .pointer v12), (6, [], sv_ s), (7, [], .int .i64 v23), (8, [], .int .u64 v25), (29, [], .bool true), (30, [], undef)] ?_
         refine Zf [.skip, .skip, .skip, .plain] [(0, yield), (1, .pointer t1), (2, .pointer t2), (4, .pointer v12), (6, sv_ s), (8, .int .u64 v25), (34, .bool true)] ?_
         exact ⟨[(0, yield), (1, Value.pointer t1), (2, Value.pointer t2), (4, Value.pointer v12), (6, sv_ s), (8, Value.int .u64 v25), (34, Value.bool true)], Sub.mk (by kernel_rfl), true, rfl, h⟩
       · replace h := h.2 hb
         refine Zn [] 5 [(0, [], yield), (1, [], .pointer t1), (2, [], .pointer t2), (4, [], .pointer v12), (6, [], sv_ s), (7, [], .int .i64 v23), (8, [], .int .u64 v25), (29, [], .bool false), (30, [], .pointer v12)] ?_
         refine Zn [] 5 [(0, [], yield), (1, [], .pointer t1), (2, [], .pointer t2), (4, [], .pointer v12), (6, [], sv_ s), (7, [], .int .i64 v23), (8, [], .int .u64 v25), (29, [], .bool false), (30, [], .pointer v12)] ?_
         refine Zm 174 #[.pointer v12] (some 31) (Calls.mono h ?_)
         rintro _ w21 ⟨v31, rfl, h⟩
         refine ⟨_, rfl, ?_⟩
         refine Zf [.sure, .sure, .plain] [(0, yield), (1, .pointer t1), (2, .pointer t2), (4, .pointer v12), (6, sv_ s), (8, .int .u64 v25), (34, .bool (v31 == v23))] ?_
         exact ⟨[(0, yield), (1, Value.pointer t1), (2, Value.pointer t2), (4, Value.pointer v12), (6, sv_ s), (8, Value.int .u64 v25), (34, Value.bool (v31 == v23))], Sub.mk (by kernel_rfl), (v31 == v23), rfl, h⟩
     · rintro _ w7 ⟨t34, rfl, h⟩
       unfold F_logfile_records_1_k1 at h
       refine Zc 34 t34 c172_31 c172_35 (fun hb => ?_) (fun hb => ?_)
       · replace h := h.1 hb
         refine Zs c172_32 c172_34 ?_
         refine wpE_tailregionY (id := 8) (ops := r172_32) (by kernel_rfl) 4 (by kernel_rfl) (by kernel_rfl) (by kernel_rfl) (fun w8 hw => ?_)
         replace h := h w8 hw
         clear hw
         refine qreg_run [] 0 [(2, [], Value.pointer t2), (4, [], Value.pointer v12)] (by kernel_rfl) (by kernel_rfl) ?_
         obtain ⟨hp_20, h⟩ := h
         refine qreg_conv [(2, [], Value.pointer (some ⟨(pblk t2), (poff t2), none⟩)), (4, [], Value.pointer v12)] (congrArg (fun pp => ([(2, [], Value.pointer pp), (4, [], Value.pointer v12)] : GEnv)) hp_20) ?_
         obtain ⟨v35, hc, h⟩ := h
         refine qreg_load1 (t := 128) (a := (Operand.tmp 2)) (b := (pblk t2)) (o := (poff t2)) (ty := 128) (dst := some 35) (by kernel_rfl) (by kernel_rfl) (by kernel_rfl) hc ?_
         refine qreg_run P1 2 [(35, [], Value.pointer v35), (36, [], Value.pointer v12)] (by kernel_rfl) (by kernel_rfl) ?_
         obtain ⟨v37, hq, h⟩ := h
         refine qreg_enterS (op := (Op.call (Call.mk (Callee.value (Operand.func 177)) #[(Operand.tmp 36)] #[219]))) (ty := 28) (dst := some 37) 177 #[Value.pointer v12] (Value.int .i64 v37) (by kernel_rfl) (fun ww => by kernel_rfl) (Calls.mono hq (by rintro _ w'' ⟨_, rfl, rfl, hE⟩; exact ⟨rfl, hE⟩)) ?_
         clear hq
         refine qreg_run [] 3 [(35, [], Value.pointer v35), (37, [], Value.int .i64 v37)] (by kernel_rfl) (by kernel_rfl) ?_
         obtain ⟨hp_21, h⟩ := h
         refine qreg_conv [(35, [], Value.pointer (some ⟨(pblk v35), (poff v35), none⟩)), (37, [], Value.int .i64 v37)] (congrArg (fun pp => ([(35, [], Value.pointer pp), (37, [], Value.int .i64 v37)] : GEnv)) hp_21) ?_
         refine qreg_run P1 4 [(35, [], Value.pointer (some ⟨(pblk v35), (poff v35), none⟩)), (37, [], Value.int .i64 v37), (38, [], Value.pointer (some ⟨(pblk v35), (poff v35), none⟩))] (by kernel_rfl) (by kernel_rfl) ?_
         refine qreg_run [] 4 [(37, [], Value.int .i64 v37), (38, [], Value.pointer (some ⟨(pblk v35), (poff v35), none⟩))] (by kernel_rfl) (by kernel_rfl) ?_
         refine qreg_tailY (by kernel_rfl) ?_
         refine Zn [] 4 [(37, [], .int .i64 v37), (38, [], .pointer (some ⟨(pblk v35), (poff v35), none⟩))] ?_
         obtain ⟨hc, h⟩ := h
         refine Zo 28 38 37 (pblk v35) (poff v35) 1 [.int .i64 v37] hc (fun w10 hw => ?_)
         replace h := h w10 hw
         clear hw
         refine Ze [] ?_
         change WpE _ _ c172_34 _ _ _
         refine wpE_ret (by kernel_rfl) ?_
         repeat (first | refine seqQ_ret ?_ | refine blockQ_ret ?_ | refine loopQ_ret ?_ | refine cutQ_ret ?_)
         exact retT (rs := []) (vs := []) (by kernel_rfl) (trivial) (by kernel_rfl) ⟨rfl, h⟩
       · replace h := h.2 hb
         refine wpE_skip (by kernel_rfl) ?_
         change WpE _ _ c172_36 _ _ _
         refine Zs c172_37 c172_46 ?_
         refine Zt r172_38 c172_40 ?_
         refine Zn P3 3 [(0, [], yield), (1, [], .pointer t1), (2, [], .pointer t2), (4, [], .pointer v12), (6, [], sv_ s), (40, [], .int .u32 (IntKind.u32.wrap v25)), (41, [], sv_ s)] ?_
         refine Zm 107 #[sv_ s] (some 42) (Calls.mono h ?_)
         rintro _ w11 ⟨v42, rfl, h⟩
         refine ⟨_, rfl, ?_⟩
         refine Zf P1 [(0, yield), (1, .pointer t1), (2, .pointer t2), (4, .pointer v12), (6, sv_ s), (43, .bool ((IntKind.u32.wrap v25) != v42))] ?_
         change WpE _ _ c172_40 _ _ _
         refine Zc 43 ((IntKind.u32.wrap v25) != v42) c172_41 c172_45 (fun hb => ?_) (fun hb => ?_)
         · replace h := h.1 hb
           refine Zt r172_42 c172_44 ?_
           refine Zn [] 0 [(2, [], .pointer t2)] ?_
           obtain ⟨hp_24, h⟩ := h
           refine Zv (fun pp => [(2, [], .pointer pp)]) hp_24 ?_
           obtain ⟨v44, hc, h⟩ := h
           refine Zl 128 2 (pblk t2) (poff t2) 128 44 hc ?_
           refine Zn [] 1 [(44, [], .pointer v44)] ?_
           obtain ⟨hp_25, h⟩ := h
           refine Zv (fun pp => [(44, [], .pointer pp)]) hp_25 ?_
           refine Zn P1 2 [(44, [], .pointer (some ⟨(pblk v44), (poff v44), none⟩)), (45, [], .pointer (some ⟨(pblk v44), (poff v44), none⟩))] ?_
           refine Zn [] 2 [(45, [], .pointer (some ⟨(pblk v44), (poff v44), none⟩))] ?_
           obtain ⟨hc, h⟩ := h
           refine reg_store (t := 28) (a := (Operand.tmp 45)) (x := (Operand.const (Value.int Go.IntKind.i64 4))) (b := (pblk v44)) (o := (poff v44)) (ty := 0) (dst := none) [Value.int .i64 4] (by kernel_rfl) (by kernel_rfl) (by kernel_rfl) (k := 1) (by kernel_rfl) (by kernel_rfl) (by kernel_rfl) hc (fun w12 hw => ?_)
           replace h := h w12 hw
           clear hw
           refine Ze [] ?_
           change WpE _ _ c172_44 _ _ _
           refine wpE_ret (by kernel_rfl) ?_
           repeat (first | refine seqQ_ret ?_ | refine blockQ_ret ?_ | refine loopQ_ret ?_ | refine cutQ_ret ?_)
           exact retT (rs := []) (vs := []) (by kernel_rfl) (trivial) (by kernel_rfl) ⟨rfl, h⟩
         · replace h := h.2 hb
           refine wpE_skip (by kernel_rfl) ?_
           change WpE _ _ c172_46 _ _ _
           refine Zt r172_47 c172_49 ?_
           refine Zn P1 1 [(0, [], yield), (1, [], .pointer t1), (2, [], .pointer t2), (4, [], .pointer v12), (47, [], sv_ s)] ?_
           refine Zm 178 #[sv_ s] (some 48) (Calls.mono h ?_)
           rintro _ w13 ⟨v48, f, rfl, h⟩
           refine ⟨_, rfl, ?_⟩
           refine Zn P3 5 [(0, [], yield), (1, [], .pointer t1), (2, [], .pointer t2), (4, [], .pointer v12), (49, [], .agg #[.int .i64 v48.Number, sv_ v48.Writes]), (50, [], .int .i64 f)] ?_
           refine Zw (some 9) (fun bb => pv_ bb) (Obj.cells ([.int .i64 0, .slice none 0 0]).toArray ty_api_Txn (0, 0)) (fun b_ w14 hb hw => ?_)
           replace h := h b_ w14 hb hw
           clear hb hw
           refine Zn [] 6 [(0, [], yield), (1, [], .pointer t1), (2, [], .pointer t2), (4, [], .pointer v12), (9, [], pv_ b_), (49, [], .agg #[.int .i64 v48.Number, sv_ v48.Writes]), (50, [], .int .i64 f)] ?_
           obtain ⟨hc, h⟩ := h
           refine Zo 52 9 49 b_ 0 2 [.int .i64 v48.Number, sv_ v48.Writes] hc (fun w15 hw => ?_)
           replace h := h w15 hw
           clear hw
           refine Zf P1 [(0, yield), (1, .pointer t1), (2, .pointer t2), (4, .pointer v12), (9, pv_ b_), (10, .int .i64 f)] ?_
           change WpE _ _ c172_49 _ _ _
           refine Zs c172_50 c172_59 ?_
           refine Zp c172_53 P2 [(0, yield), (1, .pointer t1), (2, .pointer t2), (4, .pointer v12), (9, pv_ b_), (10, .int .i64 f), (52, .bool (f != 0))] ?_
           refine Zc 52 (f != 0) c172_54 c172_58 (fun hb => ?_) (fun hb => ?_)
           · replace h := h.1 hb
             refine Zt r172_55 c172_57 ?_
             refine Zn [] 0 [(2, [], .pointer t2), (10, [], .int .i64 f)] ?_
             obtain ⟨hp_28, h⟩ := h
             refine Zv (fun pp => [(2, [], .pointer pp), (10, [], .int .i64 f)]) hp_28 ?_
             obtain ⟨v53, hc, h⟩ := h
             refine Zl 128 2 (pblk t2) (poff t2) 128 53 hc ?_
             refine Zn P1 2 [(53, [], .pointer v53), (54, [], .int .i64 f)] ?_
             obtain ⟨hp_29, h⟩ := h
             refine Zv (fun pp => [(53, [], .pointer pp), (54, [], .int .i64 f)]) hp_29 ?_
             refine Zn P1 3 [(53, [], .pointer (some ⟨(pblk v53), (poff v53), none⟩)), (54, [], .int .i64 f), (55, [], .pointer (some ⟨(pblk v53), (poff v53), none⟩))] ?_
             refine Zn [] 3 [(54, [], .int .i64 f), (55, [], .pointer (some ⟨(pblk v53), (poff v53), none⟩))] ?_
             obtain ⟨hc, h⟩ := h
             refine Zo 28 55 54 (pblk v53) (poff v53) 1 [.int .i64 f] hc (fun w16 hw => ?_)
             replace h := h w16 hw
             clear hw
             refine Ze [] ?_
             change WpE _ _ c172_57 _ _ _
             refine wpE_ret (by kernel_rfl) ?_
             repeat (first | refine seqQ_ret ?_ | refine blockQ_ret ?_ | refine loopQ_ret ?_ | refine cutQ_ret ?_)
             exact retT (rs := []) (vs := []) (by kernel_rfl) (trivial) (by kernel_rfl) ⟨rfl, h⟩
           · replace h := h.2 hb
             refine wpE_skip (by kernel_rfl) ?_
             change WpE _ _ c172_59 _ _ _
             refine Zs c172_60 c172_62 ?_
             refine wpE_tailregionY (id := 14) (ops := r172_60) (by kernel_rfl) 7 (by kernel_rfl) (by kernel_rfl) (by kernel_rfl) (fun w17 hw => ?_)
             replace h := h w17 hw
             clear hw
             refine qreg_run P1 1 [(0, [], yield), (1, [], Value.pointer t1), (2, [], Value.pointer t2), (4, [], Value.pointer v12), (9, [], pv_ b_), (56, [], yield)] (by kernel_rfl) (by kernel_rfl) ?_
             obtain ⟨hp_31, h⟩ := h
             refine qreg_conv [(0, [], yield), (1, [], Value.pointer (some ⟨(pblk t1), (poff t1), none⟩)), (2, [], Value.pointer t2), (4, [], Value.pointer v12), (9, [], pv_ b_), (56, [], yield)] (congrArg (fun pp => ([(0, [], yield), (1, [], Value.pointer pp), (2, [], Value.pointer t2), (4, [], Value.pointer v12), (9, [], pv_ b_), (56, [], yield)] : GEnv)) hp_31) ?_
             obtain ⟨v57, hc, h⟩ := h
             refine qreg_load1 (t := 79) (a := (Operand.tmp 1)) (b := (pblk t1)) (o := (poff t1)) (ty := 79) (dst := some 57) (by kernel_rfl) (by kernel_rfl) (by kernel_rfl) hc ?_
             refine qreg_run P2 4 [(0, [], yield), (1, [], Value.pointer (some ⟨(pblk t1), (poff t1), none⟩)), (2, [], Value.pointer t2), (4, [], Value.pointer v12), (9, [], pv_ b_), (56, [], yield), (58, [], Value.int .i64 ((v57.len : Nat) : Int)), (59, [], Value.pointer v12)] (by kernel_rfl) (by kernel_rfl) ?_
             obtain ⟨v60, hq, h⟩ := h
             refine qreg_enterS (op := (Op.call (Call.mk (Callee.value (Operand.func 174)) #[(Operand.tmp 59)] #[219]))) (ty := 3) (dst := some 60) 174 #[Value.pointer v12] (Value.int .i64 v60) (by kernel_rfl) (fun ww => by kernel_rfl) (Calls.mono hq (by rintro _ w'' ⟨_, rfl, rfl, hE⟩; exact ⟨rfl, hE⟩)) ?_
             clear hq
             refine qreg_run P1 6 [(0, [], yield), (1, [], Value.pointer (some ⟨(pblk t1), (poff t1), none⟩)), (2, [], Value.pointer t2), (4, [], Value.pointer v12), (9, [], pv_ b_), (56, [], yield), (61, [], Value.int .i64 (IntKind.i64.wrap (((v57.len : Nat) : Int) - v60)))] (by kernel_rfl) (by kernel_rfl) ?_
             obtain ⟨v62, hc, h⟩ := h
             refine qreg_loadN (t := 52) (a := (Operand.tmp 9)) (b := b_) (o := 0) (ty := 52) (dst := some 62) [Value.int .i64 v62.Number, sv_ v62.Writes] (by kernel_rfl) (by kernel_rfl) (by kernel_rfl) (k := 2) (by kernel_rfl) (by kernel_rfl) hc ?_
             refine qreg_run [] 7 [(0, [], yield), (1, [], Value.pointer (some ⟨(pblk t1), (poff t1), none⟩)), (2, [], Value.pointer t2), (4, [], Value.pointer v12), (56, [], yield), (61, [], Value.int .i64 (IntKind.i64.wrap (((v57.len : Nat) : Int) - v60))), (62, [], Value.agg #[Value.int .i64 v62.Number, sv_ v62.Writes])] (by kernel_rfl) (by kernel_rfl) ?_
             refine qreg_tailY (by kernel_rfl) ?_
             refine Zn [] 7 [(0, [], yield), (1, [], .pointer (some ⟨(pblk t1), (poff t1), none⟩)), (2, [], .pointer t2), (4, [], .pointer v12), (56, [], yield), (61, [], .int .i64 (IntKind.i64.wrap (((v57.len : Nat) : Int) - v60))), (62, [], .agg #[.int .i64 v62.Number, sv_ v62.Writes])] ?_
             refine reg_enterY rfl (fo := (Operand.tmp 56)) (aa := #[(Operand.tmp 61), (Operand.tmp 62)]) (ts := #[3, 52]) (fv := yield) (ty := 4) (dst := some 63) #[Value.int .i64 (IntKind.i64.wrap (((v57.len : Nat) : Int) - v60)), Value.agg #[Value.int .i64 v62.Number, sv_ v62.Writes]] (by kernel_rfl) (by kernel_rfl) (by kernel_rfl) (CallsY.mono h ?_)
             rintro _ w19 ⟨v63, rfl, h⟩
             refine ⟨_, rfl, ?_⟩
             refine Zn P1 9 [(0, [], yield), (1, [], .pointer (some ⟨(pblk t1), (poff t1), none⟩)), (2, [], .pointer t2), (4, [], .pointer v12), (64, [], .bool (!v63))] ?_
             refine Zv (fun pp => [(0, [], yield), (1, [], .pointer pp), (2, [], .pointer t2), (4, [], .pointer v12), (64, [], .bool (!v63))]) hp_31.symm ?_
             refine Ze [(0, yield), (1, .pointer t1), (2, .pointer t2), (4, .pointer v12), (64, .bool (!v63))] ?_
             change WpE _ _ c172_62 _ _ _
             refine Zc 64 (!v63) c172_63 c172_64 (fun hb => ?_) (fun hb => ?_)
             · replace h := h.1 hb
               refine wpE_ret (by kernel_rfl) ?_
               repeat (first | refine seqQ_ret ?_ | refine blockQ_ret ?_ | refine loopQ_ret ?_ | refine cutQ_ret ?_)
               exact retT (rs := []) (vs := []) (by kernel_rfl) (trivial) (by kernel_rfl) ⟨rfl, h⟩
             · replace h := h.2 hb
               refine wpE_skip (by kernel_rfl) ?_
               change WpE _ _ c172_65 _ _ _
               refine Zr r172_65 ?_
               refine Zn P1 1 [(0, [], yield), (1, [], .pointer t1), (2, [], .pointer t2), (4, [], .pointer v12), (17, [], .pointer v12)] ?_
               refine Zm 174 #[.pointer v12] (some 18) (Calls.mono h ?_)
               rintro _ w20 ⟨v18, rfl, h⟩
               refine ⟨_, rfl, ?_⟩
               refine Zf P1 [(0, yield), (1, .pointer t1), (2, .pointer t2), (4, .pointer v12), (5, .int .i64 v18)] ?_
               have hb_ := again__h _ _ h
               exact ⟨_, hb_.2, [(0, yield), (1, Value.pointer t1), (2, Value.pointer t2), (4, Value.pointer v12), (5, Value.int .i64 v18)], Sub.mk (by kernel_rfl), v18, rfl, hb_.1, rfl⟩
   · replace h := h.2 hb
     refine wpE_exit (id := 0) (by kernel_rfl) ?_
     repeat (first | refine seqQ_exit ?_ | refine loopQ_exit ?_ | refine cutQ_exit ?_ | refine blockQ_hit ?_ | refine blockQ_miss (by kernel_rfl) ?_)
     refine retQ_normal ?_
     repeat (first | refine seqQ_ret ?_ | refine blockQ_ret ?_ | refine loopQ_ret ?_ | refine cutQ_ret ?_)
     exact retT (rs := []) (vs := []) (by kernel_rfl) (trivial) (by kernel_rfl) ⟨rfl, h⟩
 · rintro e w' ⟨v, rfl, rfl, h⟩; exact ⟨rfl, h⟩
end
end Go.Proofs.YtpdegdnigcnjiaaGreatDoor
