/- WRITTEN BY PROGRAM (dec.py): for each Go function the clean formula F, the call's contract C, and the proof S that F gives C. -/
import Derived.Test.YtpedclhflmhakaaGreatDoorRows
import Derived.Test.YtpedclhflmhakaaGreatDoorGF
namespace Go.Proofs.YtpedclhflmhakaaGreatDoor
open Go
set_option linter.unusedVariables false
set_option maxRecDepth 100000
set_option maxHeartbeats 4000000
noncomputable section

/-! ### towpath/logfile.New (function 5) -/
def c5_0 := cb_ Tryz.f5
def c5_3 := cr_ c5_0
def c5_4 := cl_ c5_3
def c5_5 := cl_ c5_4
def r5_5 := co_ c5_5
def c5_7 := cr_ c5_4
def c5_10 := cr_ c5_7
def c5_11 := cl_ c5_10
def c5_14 := cr_ c5_11
def c5_15 := cr_ c5_10
def c5_16 := cr_ c5_3
def c5_17 := cl_ c5_16
def r5_17 := co_ c5_17
def c5_19 := cr_ c5_16
def c5_20 := cl_ c5_19
def c5_23 := cr_ c5_20
def c5_24 := cl_ c5_23
def c5_25 := cl_ c5_24
def c5_28 := cr_ c5_25
def c5_29 := cl_ c5_28
def c5_30 := cl_ c5_29
def c5_31 := cr_ c5_29
def c5_32 := cr_ c5_28
def c5_33 := cl_ c5_32
def c5_34 := cl_ c5_33
def c5_35 := cl_ c5_34
def r5_35 := co_ c5_35
def c5_37 := cr_ c5_34
def r5_37 := co_ c5_37
def c5_39 := cr_ c5_32
def r5_39 := co_ c5_39
def c5_41 := cr_ c5_19
def c5_44 := cr_ c5_41
def o_logfile_New_37 : List Nat := [0, 1, 2, 3, 4, 5, 6, 7, 8, 9, 10, 11]

theorem S_logfile_New {l_ : Slc} {w : World} {R : Option Addr → Int → World → Prop} (h : F_logfile_New l_ R w) : C_logfile_New l_ w R := by
 unfold F_logfile_New at h
 unfold C_logfile_New
 refine Calls.mono (calls_of_wpE (args := [sv_ l_]) (R := fun v w' => ∃ (r0 : Option Addr) (r1 : Int), v = Value.tuple #[Value.pointer r0, Value.int .i64 r1] ∧ R r0 r1 w') Tryz.func5 (c := c5_0) (by kernel_rfl) 34 (by kernel_rfl) (by kernel_rfl) [(0, sv_ l_)] (by kernel_rfl) ?_) ?_
 · refine Zp c5_3 P2 [(0, sv_ l_)] ?_
   refine Zs c5_4 c5_16 ?_
   refine Zt r5_5 c5_7 ?_
   refine Zn P1 1 [(0, [], sv_ l_), (8, [], sv_ l_)] ?_
   refine Zm 25 #[sv_ l_] (some 9) (Calls.mono h ?_)
   rintro _ w1 ⟨v9, rfl, h⟩
   refine ⟨_, rfl, ?_⟩
   refine Zf P1 [(0, sv_ l_), (4, .int .i64 v9)] ?_
   change WpE _ _ c5_7 _ _ _
   refine Zp c5_10 P2 [(0, sv_ l_), (4, .int .i64 v9), (11, .bool (v9 != 0))] ?_
   refine Zc 11 (v9 != 0) c5_11 c5_15 (fun hb => ?_) (fun hb => ?_)
   · replace h := h.1 hb
     refine Zp c5_14 P3 [(2, .pointer none), (3, .int .i64 v9)] ?_
     refine wpE_ret (by kernel_rfl) ?_
     repeat (first | refine seqQ_ret ?_ | refine blockQ_ret ?_ | refine loopQ_ret ?_ | refine cutQ_ret ?_)
     exact retT (rs := [(ResultVar.tmp 2), (ResultVar.tmp 3)]) (vs := [Value.pointer none, Value.int .i64 v9]) (by kernel_rfl) (⟨by kernel_rfl, ⟨by kernel_rfl, trivial⟩⟩) (by kernel_rfl) ⟨none, v9, rfl, h⟩
   · replace h := h.2 hb
     refine wpE_skip (by kernel_rfl) ?_
     change WpE _ _ c5_16 _ _ _
     refine Zt r5_17 c5_19 ?_
     refine Zn P1 1 [(0, [], sv_ l_), (13, [], .agg #[.bool true, .slice none 0 0, .slice none 0 0])] ?_
     refine Zw (some 14) (fun bb => pv_ bb) (Obj.cells ([.bool true, .slice none 0 0, .slice none 0 0]).toArray ty_logfile_Source (0, 0)) (fun b_ w2 hb hw => ?_)
     replace h := h b_ w2 hb hw
     clear hb hw
     refine Zf P1 [(0, sv_ l_), (5, pv_ b_)] ?_
     change WpE _ _ c5_19 _ _ _
     refine Zs c5_20 c5_41 ?_
     refine Zp c5_23 P3 [(5, pv_ b_), (15, sv_ l_), (16, .int .i64 ((l_.len : Nat) : Int)), (17, .int .i64 0)] ?_
     refine Zb 0 c5_24 ?_
     obtain ⟨I, μ, h0, hr⟩ := h
     refine wpE_loop (x := c5_25) (by kernel_rfl) (fun m l w => ∃ (t17 : Int), l = [(5, pv_ b_), (15, sv_ l_), (16, Value.int .i64 ((l_.len : Nat) : Int)), (17, Value.int .i64 t17)] ∧ I t17 w ∧ μ t17 w = m) (l' := [(5, pv_ b_), (15, sv_ l_), (16, Value.int .i64 ((l_.len : Nat) : Int)), (17, Value.int .i64 0)]) (Sub.mk (by kernel_rfl)) ⟨0, rfl, h0, rfl⟩ ?_
     rintro _ _ w3 ⟨t17, rfl, hI, rfl⟩
     obtain ⟨again_, again__h, h⟩ : ∃ again_ : Int → World → Prop, (∀ t17' w', again_ t17' w' → I t17' w' ∧ μ t17' w' < μ t17 w3) ∧ F_logfile_New_L0 l_ R b_ again_ t17 w3 := ⟨_, fun _ _ h => h, hr t17 w3 hI⟩
     clear h0 hI
     unfold F_logfile_New_L0 at h
     refine Zp c5_28 P1 [(5, pv_ b_), (15, sv_ l_), (16, .int .i64 ((l_.len : Nat) : Int)), (17, .int .i64 t17), (18, .bool (decide (t17 < ((l_.len : Nat) : Int))))] ?_
     refine Zs c5_29 c5_32 ?_
     refine Zc 18 (decide (t17 < ((l_.len : Nat) : Int))) c5_30 c5_31 (fun hb => ?_) (fun hb => ?_)
     · replace h := h.1 hb
       refine wpE_skip (by kernel_rfl) ?_
       change WpE _ _ c5_32 _ _ _
       refine Zs c5_33 c5_39 ?_
       refine Zb 1 c5_34 ?_
       refine Zt r5_35 c5_37 ?_
       refine Zn [] 0 [(5, [], pv_ b_), (15, [], sv_ l_), (16, [], .int .i64 ((l_.len : Nat) : Int)), (17, [], .int .i64 t17)] ?_
       obtain ⟨hp_7, h⟩ := h
       refine Zv (fun pp => [(5, [], pv_ b_), (15, [], .slice pp l_.len l_.cap), (16, [], .int .i64 ((l_.len : Nat) : Int)), (17, [], .int .i64 t17)]) hp_7 ?_
       obtain ⟨h0, h1, h⟩ := h
       refine Zj 22 49 15 17 (pblk l_.ptr) (poff l_.ptr) l_.len l_.cap t17 2 19 0 h0 h1 ?_
       refine Zn [] 1 [(5, [], pv_ b_), (15, [], .slice (some ⟨(pblk l_.ptr), (poff l_.ptr), none⟩) l_.len l_.cap), (16, [], .int .i64 ((l_.len : Nat) : Int)), (17, [], .int .i64 t17), (19, [], .pointer (some ⟨(pblk l_.ptr), (poff l_.ptr) + t17.toNat * 2, none⟩))] ?_
       obtain ⟨v20, hc, h⟩ := h
       refine reg_loadN (t := 49) (a := (Operand.tmp 19)) (b := (pblk l_.ptr)) (o := ((poff l_.ptr) + t17.toNat * 2)) (ty := 49) (dst := some 20) [Value.int .i64 v20.Number, sv_ v20.Writes] (by kernel_rfl) (by kernel_rfl) (by kernel_rfl) (k := 2) (by kernel_rfl) (by kernel_rfl) hc ?_
       refine Zn [] 2 [(5, [], pv_ b_), (15, [], .slice (some ⟨(pblk l_.ptr), (poff l_.ptr), none⟩) l_.len l_.cap), (16, [], .int .i64 ((l_.len : Nat) : Int)), (17, [], .int .i64 t17), (20, [], .agg #[.int .i64 v20.Number, sv_ v20.Writes])] ?_
       refine Zw (some 7) (fun bb => pv_ bb) (Obj.cells ([.int .i64 0, .slice none 0 0]).toArray ty_api_Txn (0, 0)) (fun b_1 w4 hb hw => ?_)
       replace h := h b_1 w4 hb hw
       clear hb hw
       refine Zn [] 3 [(5, [], pv_ b_), (7, [], pv_ b_1), (15, [], .slice (some ⟨(pblk l_.ptr), (poff l_.ptr), none⟩) l_.len l_.cap), (16, [], .int .i64 ((l_.len : Nat) : Int)), (17, [], .int .i64 t17), (20, [], .agg #[.int .i64 v20.Number, sv_ v20.Writes])] ?_
       obtain ⟨hc, h⟩ := h
       refine Zo 49 7 20 b_1 0 2 [.int .i64 v20.Number, sv_ v20.Writes] hc (fun w5 hw => ?_)
       replace h := h w5 hw
       clear hw
       refine Zn [] 4 [(5, [], pv_ b_), (7, [], pv_ b_1), (15, [], .slice (some ⟨(pblk l_.ptr), (poff l_.ptr), none⟩) l_.len l_.cap), (16, [], .int .i64 ((l_.len : Nat) : Int)), (17, [], .int .i64 t17)] ?_
       refine Zv (fun pp => [(5, [], pv_ b_), (7, [], pv_ b_1), (15, [], .slice pp l_.len l_.cap), (16, [], .int .i64 ((l_.len : Nat) : Int)), (17, [], .int .i64 t17)]) hp_7.symm ?_
       refine Ze [(5, pv_ b_), (7, pv_ b_1), (15, sv_ l_), (16, .int .i64 ((l_.len : Nat) : Int)), (17, .int .i64 t17)] ?_
       change WpE _ _ c5_37 _ _ _
       refine wpE_mixregion (id := 8) (ops := r5_37) o_logfile_New_37 (by kernel_rfl) (by kernel_rfl) (by kernel_rfl) (by kernel_rfl) (fun w6 hw => ?_)
       replace h := h w6 hw
       clear hw
       refine mreg_run P4 4 [(5, [], pv_ b_), (7, [], pv_ b_1), (15, [], sv_ l_), (16, [], Value.int .i64 ((l_.len : Nat) : Int)), (17, [], Value.int .i64 t17), (21, [], pv_ b_), (24, [], Value.pointer (some ⟨b_, 1, none⟩))] (by kernel_rfl) (by kernel_rfl) ?_
       obtain ⟨v25, hc, h⟩ := h
       refine mreg_load1 (i := 4) (by kernel_rfl) (t := 22) (a := (Operand.tmp 24)) (b := b_) (o := 1) (ty := 22) (dst := some 25) (by kernel_rfl) (by kernel_rfl) (by kernel_rfl) hc ?_
       refine mreg_run [] 5 [(5, [], pv_ b_), (7, [], pv_ b_1), (15, [], sv_ l_), (16, [], Value.int .i64 ((l_.len : Nat) : Int)), (17, [], Value.int .i64 t17), (21, [], pv_ b_), (25, [], sv_ v25)] (by kernel_rfl) (by kernel_rfl) ?_
       obtain ⟨v26, hc, h⟩ := h
       refine mreg_loadN (i := 5) (by kernel_rfl) (t := 49) (a := (Operand.tmp 7)) (b := b_1) (o := 0) (ty := 49) (dst := some 26) [Value.int .i64 v26.Number, sv_ v26.Writes] (by kernel_rfl) (by kernel_rfl) (by kernel_rfl) (k := 2) (by kernel_rfl) (by kernel_rfl) hc ?_
       refine mreg_run [] 6 [(5, [], pv_ b_), (15, [], sv_ l_), (16, [], Value.int .i64 ((l_.len : Nat) : Int)), (17, [], Value.int .i64 t17), (21, [], pv_ b_), (25, [], sv_ v25), (26, [], Value.agg #[Value.int .i64 v26.Number, sv_ v26.Writes])] (by kernel_rfl) (by kernel_rfl) ?_
       refine mreg_enter (op := (Op.call (Call.mk (Callee.value (Operand.func 26)) #[(Operand.tmp 26)] #[49]))) (ty := 49) (dst := some 27) 6 [5] [(4, fun w' => w'.cell? ⟨b_, 1, none⟩ = some (sv_ v25))] 26 #[Value.agg #[Value.int .i64 v26.Number, sv_ v26.Writes]] (by kernel_rfl) (by kernel_rfl) (by kernel_rfl) (by kernel_rfl) (by kernel_rfl) (fun ww => by kernel_rfl) (Calls.mono h ?_)
       rintro _ w7 ⟨v27, rfl, h⟩
       obtain ⟨hk0, h⟩ := h
       refine ⟨_, rfl, ⟨hk0, trivial⟩, ?_⟩
       refine mreg_run [] 7 [(5, [], pv_ b_), (15, [], sv_ l_), (16, [], Value.int .i64 ((l_.len : Nat) : Int)), (17, [], Value.int .i64 t17), (21, [], pv_ b_), (25, [], sv_ v25), (27, [], Value.agg #[Value.int .i64 v27.Number, sv_ v27.Writes])] (by kernel_rfl) (by kernel_rfl) ?_
       refine mreg_new (op := (Op.buildSlice 22 1 #[(0, (Operand.tmp 27))])) (ty := 22) (dst := some 28) 7 [6, 5] [(4, fun w' => w'.cell? ⟨b_, 1, none⟩ = some (sv_ v25))] (fun bb => Value.slice (some ⟨bb, 0, none⟩) 1 1) (Obj.cells ([Value.int .i64 v27.Number, sv_ v27.Writes]).toArray ty_api_Txn (0, 0)) (by kernel_rfl) (by kernel_rfl) (by kernel_rfl) (by kernel_rfl) (by kernel_rfl) (by kernel_rfl) (fun b_2 w8 hb hw => ?_)
       replace h := h b_2 w8 hb hw
       clear hb hw
       obtain ⟨hk0, h⟩ := h
       refine ⟨⟨hk0, trivial⟩, ?_⟩
       refine mreg_run [] 8 [(5, [], pv_ b_), (15, [], sv_ l_), (16, [], Value.int .i64 ((l_.len : Nat) : Int)), (17, [], Value.int .i64 t17), (21, [], pv_ b_), (25, [], sv_ v25), (28, [], Value.slice (some ⟨b_2, 0, none⟩) 1 1)] (by kernel_rfl) (by kernel_rfl) ?_
       obtain ⟨src, hs, h⟩ := h
       refine mreg_append (t := 22) (tx := 22) (e := 49) (a := (Operand.tmp 25)) (xo := (Operand.tmp 28)) (s := v25) (x := (Slc.mk (some ⟨b_2, 0, none⟩) 1 1)) (sz := 2) (by_ := 32) (zs := [Value.int .i64 0, Value.slice none 0 0]) (ty := 22) (dst := some 29) 8 [4, 6, 7, 3, 5, 2, 1] [] src (by kernel_rfl) (by kernel_rfl) (by kernel_rfl) (by kernel_rfl) (by kernel_rfl) (by kernel_rfl) (by kernel_rfl) (by kernel_rfl) (by kernel_rfl) (by kernel_rfl) (by kernel_rfl) (by kernel_rfl) (by kernel_rfl) hs (AppendW.mono h (fun v29 w9 h => ?_))
       refine ⟨trivial, ?_⟩
       refine mreg_run P2 11 [(5, [], pv_ b_), (15, [], sv_ l_), (16, [], Value.int .i64 ((l_.len : Nat) : Int)), (17, [], Value.int .i64 t17), (29, [], sv_ v29), (31, [], Value.pointer (some ⟨b_, 1, none⟩))] (by kernel_rfl) (by kernel_rfl) ?_
       obtain ⟨hc, h⟩ := h
       refine mreg_store (t := 22) (a := (Operand.tmp 31)) (x := (Operand.tmp 29)) (b := b_) (o := 1) (k := 1) (ty := 0) (dst := none) 11 [0, 1, 2, 3, 4, 5, 6, 7, 8, 10, 9] [] [sv_ v29] (by kernel_rfl) (by kernel_rfl) (by kernel_rfl) (by kernel_rfl) (by kernel_rfl) (by kernel_rfl) (by kernel_rfl) (by kernel_rfl) (by kernel_rfl) (by kernel_rfl) hc (fun w10 hw => ?_)
       replace h := h w10 hw
       clear hw
       refine ⟨trivial, ?_⟩
       refine mreg_end [(5, pv_ b_), (15, sv_ l_), (16, Value.int .i64 ((l_.len : Nat) : Int)), (17, Value.int .i64 t17)] (by kernel_rfl) (by kernel_rfl) (by kernel_rfl) ?_
       change WpE _ _ c5_39 _ _ _
       refine Zr r5_39 ?_
       refine Zf P2 [(5, pv_ b_), (15, sv_ l_), (16, .int .i64 ((l_.len : Nat) : Int)), (17, .int .i64 (IntKind.i64.wrap (t17 + 1)))] ?_
       have hb_ := again__h _ _ h
       exact ⟨_, hb_.2, [(5, pv_ b_), (15, sv_ l_), (16, Value.int .i64 ((l_.len : Nat) : Int)), (17, Value.int .i64 (IntKind.i64.wrap (t17 + 1)))], Sub.mk (by kernel_rfl), (IntKind.i64.wrap (t17 + 1)), rfl, hb_.1, rfl⟩
     · replace h := h.2 hb
       refine wpE_exit (id := 0) (by kernel_rfl) ?_
       change WpE _ _ c5_41 _ _ _
       refine Zp c5_44 P3 [(2, pv_ b_), (3, .int .i64 0)] ?_
       refine wpE_ret (by kernel_rfl) ?_
       repeat (first | refine seqQ_ret ?_ | refine blockQ_ret ?_ | refine loopQ_ret ?_ | refine cutQ_ret ?_)
       exact retT (rs := [(ResultVar.tmp 2), (ResultVar.tmp 3)]) (vs := [pv_ b_, Value.int .i64 0]) (by kernel_rfl) (⟨by kernel_rfl, ⟨by kernel_rfl, trivial⟩⟩) (by kernel_rfl) ⟨(some ⟨b_, 0, none⟩), 0, rfl, h⟩
 · rintro e w' ⟨v, rfl, r0, r1, rfl, h⟩; exact ⟨r0, r1, rfl, h⟩

/-! ### towpath/logfile.Check (function 25) -/
def c25_0 := cb_ Tryz.f25
def c25_3 := cr_ c25_0
def c25_4 := cl_ c25_3
def r25_4 := co_ c25_4
def c25_6 := cr_ c25_3
def c25_7 := cl_ c25_6
def c25_10 := cr_ c25_7
def c25_11 := cl_ c25_10
def c25_12 := cl_ c25_11
def c25_15 := cr_ c25_12
def c25_16 := cl_ c25_15
def c25_17 := cl_ c25_16
def c25_18 := cr_ c25_16
def c25_19 := cr_ c25_15
def c25_20 := cl_ c25_19
def c25_21 := cl_ c25_20
def c25_22 := cl_ c25_21
def r25_22 := co_ c25_22
def c25_24 := cr_ c25_21
def c25_25 := cl_ c25_24
def r25_25 := co_ c25_25
def c25_27 := cr_ c25_24
def c25_30 := cr_ c25_27
def c25_31 := cl_ c25_30
def c25_34 := cr_ c25_31
def c25_35 := cr_ c25_30
def c25_36 := cr_ c25_19
def r25_36 := co_ c25_36
def c25_38 := cr_ c25_6
def c25_41 := cr_ c25_38

theorem S_logfile_Check {l_ : Slc} {w : World} {R : Int → World → Prop} (h : F_logfile_Check l_ R w) : C_logfile_Check l_ w R := by
 unfold F_logfile_Check at h
 unfold C_logfile_Check
 refine Calls.mono (calls_of_wpE (args := [sv_ l_]) (R := fun v w' => ∃ (r0 : Int), v = Value.int .i64 r0 ∧ R r0 w') Tryz.func25 (c := c25_0) (by kernel_rfl) 21 (by kernel_rfl) (by kernel_rfl) [(0, sv_ l_)] (by kernel_rfl) ?_) ?_
 · refine Zp c25_3 P1 [(0, sv_ l_)] ?_
   refine Zt r25_4 c25_6 ?_
   refine Zn [] 0 [(0, [], sv_ l_)] ?_
   refine Zm 88 #[] (some 7) (Calls.mono h ?_)
   rintro _ w1 ⟨v7, rfl, h⟩
   refine ⟨_, rfl, ?_⟩
   refine Zf P1 [(0, sv_ l_), (3, v7)] ?_
   change WpE _ _ c25_6 _ _ _
   refine Zs c25_7 c25_38 ?_
   refine Zp c25_10 P3 [(3, v7), (8, sv_ l_), (9, .int .i64 ((l_.len : Nat) : Int)), (10, .int .i64 0)] ?_
   refine Zb 0 c25_11 ?_
   obtain ⟨I, μ, h0, hr⟩ := h
   refine wpE_loop (x := c25_12) (by kernel_rfl) (fun m l w => ∃ (t10 : Int), l = [(3, v7), (8, sv_ l_), (9, Value.int .i64 ((l_.len : Nat) : Int)), (10, Value.int .i64 t10)] ∧ I t10 w ∧ μ t10 w = m) (l' := [(3, v7), (8, sv_ l_), (9, Value.int .i64 ((l_.len : Nat) : Int)), (10, Value.int .i64 0)]) (Sub.mk (by kernel_rfl)) ⟨0, rfl, h0, rfl⟩ ?_
   rintro _ _ w2 ⟨t10, rfl, hI, rfl⟩
   obtain ⟨again_, again__h, h⟩ : ∃ again_ : Int → World → Prop, (∀ t10' w', again_ t10' w' → I t10' w' ∧ μ t10' w' < μ t10 w2) ∧ F_logfile_Check_L0 l_ R v7 again_ t10 w2 := ⟨_, fun _ _ h => h, hr t10 w2 hI⟩
   clear h0 hI
   unfold F_logfile_Check_L0 at h
   refine Zp c25_15 P1 [(3, v7), (8, sv_ l_), (9, .int .i64 ((l_.len : Nat) : Int)), (10, .int .i64 t10), (11, .bool (decide (t10 < ((l_.len : Nat) : Int))))] ?_
   refine Zs c25_16 c25_19 ?_
   refine Zc 11 (decide (t10 < ((l_.len : Nat) : Int))) c25_17 c25_18 (fun hb => ?_) (fun hb => ?_)
   · replace h := h.1 hb
     refine wpE_skip (by kernel_rfl) ?_
     change WpE _ _ c25_19 _ _ _
     refine Zs c25_20 c25_36 ?_
     refine Zb 1 c25_21 ?_
     refine Zt r25_22 c25_24 ?_
     refine Zn [] 0 [(3, [], v7), (8, [], sv_ l_), (9, [], .int .i64 ((l_.len : Nat) : Int)), (10, [], .int .i64 t10)] ?_
     obtain ⟨hp_7, h⟩ := h
     refine Zv (fun pp => [(3, [], v7), (8, [], .slice pp l_.len l_.cap), (9, [], .int .i64 ((l_.len : Nat) : Int)), (10, [], .int .i64 t10)]) hp_7 ?_
     obtain ⟨h0, h1, h⟩ := h
     refine Zj 22 49 8 10 (pblk l_.ptr) (poff l_.ptr) l_.len l_.cap t10 2 12 0 h0 h1 ?_
     refine Zn [] 1 [(3, [], v7), (8, [], .slice (some ⟨(pblk l_.ptr), (poff l_.ptr), none⟩) l_.len l_.cap), (9, [], .int .i64 ((l_.len : Nat) : Int)), (10, [], .int .i64 t10), (12, [], .pointer (some ⟨(pblk l_.ptr), (poff l_.ptr) + t10.toNat * 2, none⟩))] ?_
     obtain ⟨v13, hc, h⟩ := h
     refine reg_loadN (t := 49) (a := (Operand.tmp 12)) (b := (pblk l_.ptr)) (o := ((poff l_.ptr) + t10.toNat * 2)) (ty := 49) (dst := some 13) [Value.int .i64 v13.Number, sv_ v13.Writes] (by kernel_rfl) (by kernel_rfl) (by kernel_rfl) (k := 2) (by kernel_rfl) (by kernel_rfl) hc ?_
     refine Zn [] 2 [(3, [], v7), (8, [], .slice (some ⟨(pblk l_.ptr), (poff l_.ptr), none⟩) l_.len l_.cap), (9, [], .int .i64 ((l_.len : Nat) : Int)), (10, [], .int .i64 t10), (13, [], .agg #[.int .i64 v13.Number, sv_ v13.Writes])] ?_
     refine Zw (some 5) (fun bb => pv_ bb) (Obj.cells ([.int .i64 0, .slice none 0 0]).toArray ty_api_Txn (0, 0)) (fun b_ w3 hb hw => ?_)
     replace h := h b_ w3 hb hw
     clear hb hw
     refine Zn [] 3 [(3, [], v7), (5, [], pv_ b_), (8, [], .slice (some ⟨(pblk l_.ptr), (poff l_.ptr), none⟩) l_.len l_.cap), (9, [], .int .i64 ((l_.len : Nat) : Int)), (10, [], .int .i64 t10), (13, [], .agg #[.int .i64 v13.Number, sv_ v13.Writes])] ?_
     obtain ⟨hc, h⟩ := h
     refine Zo 49 5 13 b_ 0 2 [.int .i64 v13.Number, sv_ v13.Writes] hc (fun w4 hw => ?_)
     replace h := h w4 hw
     clear hw
     refine Zn [] 4 [(3, [], v7), (5, [], pv_ b_), (8, [], .slice (some ⟨(pblk l_.ptr), (poff l_.ptr), none⟩) l_.len l_.cap), (9, [], .int .i64 ((l_.len : Nat) : Int)), (10, [], .int .i64 t10)] ?_
     refine Zv (fun pp => [(3, [], v7), (5, [], pv_ b_), (8, [], .slice pp l_.len l_.cap), (9, [], .int .i64 ((l_.len : Nat) : Int)), (10, [], .int .i64 t10)]) hp_7.symm ?_
     refine Ze [(3, v7), (5, pv_ b_), (8, sv_ l_), (9, .int .i64 ((l_.len : Nat) : Int)), (10, .int .i64 t10)] ?_
     change WpE _ _ c25_24 _ _ _
     refine Zt r25_25 c25_27 ?_
     refine Zn P1 1 [(3, [], v7), (5, [], pv_ b_), (8, [], sv_ l_), (9, [], .int .i64 ((l_.len : Nat) : Int)), (10, [], .int .i64 t10), (14, [], v7)] ?_
     obtain ⟨v15, hc, h⟩ := h
     refine reg_loadN (t := 49) (a := (Operand.tmp 5)) (b := b_) (o := 0) (ty := 49) (dst := some 15) [Value.int .i64 v15.Number, sv_ v15.Writes] (by kernel_rfl) (by kernel_rfl) (by kernel_rfl) (k := 2) (by kernel_rfl) (by kernel_rfl) hc ?_
     refine Zn [] 2 [(3, [], v7), (8, [], sv_ l_), (9, [], .int .i64 ((l_.len : Nat) : Int)), (10, [], .int .i64 t10), (14, [], v7), (15, [], .agg #[.int .i64 v15.Number, sv_ v15.Writes])] ?_
     refine reg_enterV (fo := (Operand.tmp 14)) (aa := #[(Operand.tmp 15)]) (ts := #[49]) (fv := v7) (ty := 37) (dst := some 16) #[Value.agg #[Value.int .i64 v15.Number, sv_ v15.Writes]] (by kernel_rfl) (by kernel_rfl) (by kernel_rfl) (CallsV.mono h ?_)
     rintro _ w5 ⟨v16, rfl, h⟩
     refine ⟨_, rfl, ?_⟩
     refine Zf P1 [(3, v7), (6, .int .i64 v16), (8, sv_ l_), (9, .int .i64 ((l_.len : Nat) : Int)), (10, .int .i64 t10)] ?_
     change WpE _ _ c25_27 _ _ _
     refine Zp c25_30 P2 [(3, v7), (6, .int .i64 v16), (8, sv_ l_), (9, .int .i64 ((l_.len : Nat) : Int)), (10, .int .i64 t10), (18, .bool (v16 != 0))] ?_
     refine Zc 18 (v16 != 0) c25_31 c25_35 (fun hb => ?_) (fun hb => ?_)
     · replace h := h.1 hb
       refine Zp c25_34 P2 [(2, .int .i64 v16)] ?_
       refine wpE_ret (by kernel_rfl) ?_
       repeat (first | refine seqQ_ret ?_ | refine blockQ_ret ?_ | refine loopQ_ret ?_ | refine cutQ_ret ?_)
       exact retS (rs := [(ResultVar.tmp 2)]) (v := Value.int .i64 v16) (by kernel_rfl) (⟨by kernel_rfl, trivial⟩) ⟨v16, rfl, h⟩
     · replace h := h.2 hb
       refine wpE_skip (by kernel_rfl) ?_
       change WpE _ _ c25_36 _ _ _
       refine Zr r25_36 ?_
       refine Zf P2 [(3, v7), (8, sv_ l_), (9, .int .i64 ((l_.len : Nat) : Int)), (10, .int .i64 (IntKind.i64.wrap (t10 + 1)))] ?_
       have hb_ := again__h _ _ h
       exact ⟨_, hb_.2, [(3, v7), (8, sv_ l_), (9, Value.int .i64 ((l_.len : Nat) : Int)), (10, Value.int .i64 (IntKind.i64.wrap (t10 + 1)))], Sub.mk (by kernel_rfl), (IntKind.i64.wrap (t10 + 1)), rfl, hb_.1, rfl⟩
   · replace h := h.2 hb
     refine wpE_exit (id := 0) (by kernel_rfl) ?_
     change WpE _ _ c25_38 _ _ _
     refine Zp c25_41 P1 [(2, .int .i64 0)] ?_
     refine wpE_ret (by kernel_rfl) ?_
     repeat (first | refine seqQ_ret ?_ | refine blockQ_ret ?_ | refine loopQ_ret ?_ | refine cutQ_ret ?_)
     exact retS (rs := [(ResultVar.tmp 2)]) (v := Value.int .i64 0) (by kernel_rfl) (⟨by kernel_rfl, trivial⟩) ⟨0, rfl, h⟩
 · rintro e w' ⟨v, rfl, r0, rfl, h⟩; exact ⟨r0, rfl, h⟩

/-! ### towpath/logfile.copied (function 26) -/
def c26_0 := cb_ Tryz.f26
def c26_1 := cl_ c26_0
def r26_1 := co_ c26_1
def c26_3 := cr_ c26_0
def c26_4 := cl_ c26_3
def r26_4 := co_ c26_4
def c26_6 := cr_ c26_3
def o_logfile_copied_4 : List Nat := [0, 1, 2, 3, 4, 5, 6]

theorem S_logfile_copied {t_ : T_api_Txn} {w : World} {R : T_api_Txn → World → Prop} (h : F_logfile_copied t_ R w) : C_logfile_copied t_ w R := by
 unfold F_logfile_copied at h
 unfold C_logfile_copied
 refine Calls.mono (calls_of_wpE (args := [Value.agg #[Value.int .i64 t_.Number, sv_ t_.Writes]]) (R := fun v w' => ∃ (r0 : T_api_Txn), v = Value.agg #[Value.int .i64 r0.Number, sv_ r0.Writes] ∧ R r0 w') Tryz.func26 (c := c26_0) (by kernel_rfl) 9 (by kernel_rfl) (by kernel_rfl) [(0, Value.agg #[Value.int .i64 t_.Number, sv_ t_.Writes])] (by kernel_rfl) ?_) ?_
 · refine Zt r26_1 c26_3 ?_
   refine Zn [] 0 [(0, [], .agg #[.int .i64 t_.Number, sv_ t_.Writes])] ?_
   refine Zw (some 1) (fun bb => pv_ bb) (Obj.cells ([.int .i64 t_.Number, sv_ t_.Writes]).toArray ty_api_Txn (0, 0)) (fun b_ w1 hb hw => ?_)
   replace h := h b_ w1 hb hw
   clear hb hw
   refine Zn [] 1 [(1, [], pv_ b_)] ?_
   refine Zw (some 2) (fun bb => pv_ bb) (Obj.cells ([.int .i64 0, .slice none 0 0]).toArray ty_api_Txn (0, 0)) (fun b_1 w2 hb hw => ?_)
   replace h := h b_1 w2 hb hw
   clear hb hw
   refine Ze [(1, pv_ b_), (2, pv_ b_1)] ?_
   change WpE _ _ c26_3 _ _ _
   refine Zs c26_4 c26_6 ?_
   refine wpE_mixregion (id := 1) (ops := r26_4) o_logfile_copied_4 (by kernel_rfl) (by kernel_rfl) (by kernel_rfl) (by kernel_rfl) (fun w3 hw => ?_)
   replace h := h w3 hw
   clear hw
   refine mreg_run P1 1 [(1, [], pv_ b_), (2, [], pv_ b_1), (3, [], pv_ b_)] (by kernel_rfl) (by kernel_rfl) ?_
   obtain ⟨v4, hc, h⟩ := h
   refine mreg_load1 (i := 1) (by kernel_rfl) (t := 3) (a := (Operand.tmp 3)) (b := b_) (o := 0) (ty := 3) (dst := some 4) (by kernel_rfl) (by kernel_rfl) (by kernel_rfl) hc ?_
   refine mreg_run P1 3 [(2, [], pv_ b_1), (4, [], Value.int .i64 v4), (5, [], Value.pointer (some ⟨b_, 1, none⟩))] (by kernel_rfl) (by kernel_rfl) ?_
   obtain ⟨v6, hc, h⟩ := h
   refine mreg_load1 (i := 3) (by kernel_rfl) (t := 47) (a := (Operand.tmp 5)) (b := b_) (o := 1) (ty := 47) (dst := some 6) (by kernel_rfl) (by kernel_rfl) (by kernel_rfl) hc ?_
   refine mreg_run [] 4 [(2, [], pv_ b_1), (4, [], Value.int .i64 v4), (6, [], sv_ v6)] (by kernel_rfl) (by kernel_rfl) ?_
   refine mreg_enter (op := (Op.call (Call.mk (Callee.value (Operand.func 89)) #[(Operand.tmp 6)] #[47]))) (ty := 47) (dst := some 7) 4 [3, 2] [(1, fun w' => w'.cell? ⟨b_, 0, none⟩ = some (Value.int .i64 v4))] 89 #[sv_ v6] (by kernel_rfl) (by kernel_rfl) (by kernel_rfl) (by kernel_rfl) (by kernel_rfl) (fun ww => by kernel_rfl) (Calls.mono h ?_)
   rintro _ w4 ⟨v7, rfl, h⟩
   obtain ⟨hk0, h⟩ := h
   refine ⟨_, rfl, ⟨hk0, trivial⟩, ?_⟩
   refine mreg_run P1 6 [(2, [], pv_ b_1), (8, [], Value.agg #[Value.int .i64 v4, sv_ v7])] (by kernel_rfl) (by kernel_rfl) ?_
   obtain ⟨hc, h⟩ := h
   refine mreg_store (t := 49) (a := (Operand.tmp 2)) (x := (Operand.tmp 8)) (b := b_1) (o := 0) (k := 2) (ty := 0) (dst := none) 6 [0, 1, 2, 3, 4, 5] [] [Value.int .i64 v4, sv_ v7] (by kernel_rfl) (by kernel_rfl) (by kernel_rfl) (by kernel_rfl) (by kernel_rfl) (by kernel_rfl) (by kernel_rfl) (by kernel_rfl) (by kernel_rfl) (by kernel_rfl) hc (fun w5 hw => ?_)
   replace h := h w5 hw
   clear hw
   refine ⟨trivial, ?_⟩
   refine mreg_end [(2, pv_ b_1)] (by kernel_rfl) (by kernel_rfl) (by kernel_rfl) ?_
   change WpE _ _ c26_6 _ _ _
   refine wpE_ret (by kernel_rfl) ?_
   obtain ⟨res, hc_res, h⟩ := h
   repeat (first | refine seqQ_ret ?_ | refine blockQ_ret ?_ | refine loopQ_ret ?_ | refine cutQ_ret ?_)
   exact retS (rs := [(ResultVar.cell 2 49)]) (v := Value.agg #[Value.int .i64 res.Number, sv_ res.Writes]) (by kernel_rfl) (⟨b_1, 0, [Value.int .i64 res.Number, sv_ res.Writes], by kernel_rfl, hc_res, (sizeP_of (k := 2) (by kernel_rfl) (by kernel_rfl)), .inl ⟨by kernel_rfl, rfl⟩, trivial⟩) ⟨res, rfl, h⟩
 · rintro e w' ⟨v, rfl, r0, rfl, h⟩; exact ⟨r0, rfl, h⟩

/-! ### (*towpath/logfile.Source).Last (function 27) -/
def c27_0 := cb_ Tryz.f27
def c27_3 := cr_ c27_0
def c27_4 := cl_ c27_3
def c27_5 := cl_ c27_4
def r27_5 := co_ c27_5
def c27_7 := cr_ c27_4
def c27_8 := cl_ c27_7
def c27_11 := cr_ c27_8
def c27_12 := cr_ c27_7
def c27_13 := cr_ c27_3
def c27_14 := cl_ c27_13
def r27_14 := co_ c27_14
def c27_16 := cr_ c27_13

theorem S_logfile_Source_Last {s : Option Addr} {w : World} {R : Int → World → Prop} (h : F_logfile_Source_Last s R w) : C_logfile_Source_Last s w R := by
 unfold F_logfile_Source_Last at h
 unfold C_logfile_Source_Last
 refine Calls.mono (calls_of_wpE (args := [Value.pointer s]) (R := fun v w' => ∃ (r0 : Int), v = Value.int .i64 r0 ∧ R r0 w') Tryz.func27 (c := c27_0) (by kernel_rfl) 10 (by kernel_rfl) (by kernel_rfl) [(0, Value.pointer s)] (by kernel_rfl) ?_) ?_
 · refine Zp c27_3 P1 [(0, .pointer s)] ?_
   refine Zs c27_4 c27_13 ?_
   refine Zt r27_5 c27_7 ?_
   refine Zn P1 1 [(0, [], .pointer s), (3, [], .pointer s)] ?_
   refine reg_val (op := (Op.binOp BinOp.eql 36 (Operand.tmp 3) (Operand.const (Value.pointer none)) 36)) (ty := 4) (dst := some 4) (Value.bool s.isNone) (by kernel_rfl) (fun ww => run_ptr_eql_R (p := s) (by kernel_rfl) (by kernel_rfl) (by kernel_rfl) ww) ?_
   refine Ze [(0, .pointer s), (4, .bool s.isNone)] ?_
   change WpE _ _ c27_7 _ _ _
   refine Zc 4 s.isNone c27_8 c27_12 (fun hb => ?_) (fun hb => ?_)
   · replace h := h.1 hb
     refine Zp c27_11 P1 [(2, .int .i64 0)] ?_
     refine wpE_ret (by kernel_rfl) ?_
     repeat (first | refine seqQ_ret ?_ | refine blockQ_ret ?_ | refine loopQ_ret ?_ | refine cutQ_ret ?_)
     exact retS (rs := [(ResultVar.tmp 2)]) (v := Value.int .i64 0) (by kernel_rfl) (⟨by kernel_rfl, trivial⟩) ⟨0, rfl, h⟩
   · replace h := h.2 hb
     refine wpE_skip (by kernel_rfl) ?_
     change WpE _ _ c27_13 _ _ _
     refine Zt r27_14 c27_16 ?_
     refine Zn P1 1 [(5, [], .pointer s)] ?_
     obtain ⟨hp_0, h⟩ := h
     refine Zv (fun pp => [(5, [], .pointer pp)]) hp_0 ?_
     refine Zn P1 2 [(5, [], .pointer (some ⟨(pblk s), (poff s), none⟩)), (6, [], .pointer (some ⟨(pblk s), (poff s), none⟩))] ?_
     refine Zn P1 3 [(7, [], .pointer (some ⟨(pblk s), (poff s) + 1, none⟩))] ?_
     obtain ⟨v8, hc, h⟩ := h
     refine Zl 22 7 (pblk s) ((poff s) + 1) 22 8 hc ?_
     refine Zf P2 [(2, .int .i64 ((v8.len : Nat) : Int))] ?_
     change WpE _ _ c27_16 _ _ _
     refine wpE_ret (by kernel_rfl) ?_
     repeat (first | refine seqQ_ret ?_ | refine blockQ_ret ?_ | refine loopQ_ret ?_ | refine cutQ_ret ?_)
     exact retS (rs := [(ResultVar.tmp 2)]) (v := Value.int .i64 ((v8.len : Nat) : Int)) (by kernel_rfl) (⟨by kernel_rfl, trivial⟩) ⟨((v8.len : Nat) : Int), rfl, h⟩
 · rintro e w' ⟨v, rfl, r0, rfl, h⟩; exact ⟨r0, rfl, h⟩

/-! ### (*towpath/logfile.Source).Get (function 31) -/
def c31_0 := cb_ Tryz.f31
def c31_1 := cl_ c31_0
def r31_1 := co_ c31_1
def c31_3 := cr_ c31_0
def c31_4 := cl_ c31_3
def c31_5 := cl_ c31_4
def c31_6 := cl_ c31_5
def r31_6 := co_ c31_6
def c31_8 := cr_ c31_5
def c31_9 := cl_ c31_8
def c31_10 := cl_ c31_9
def r31_10 := co_ c31_10
def c31_12 := cr_ c31_9
def c31_13 := cr_ c31_8
def c31_14 := cl_ c31_13
def r31_14 := co_ c31_14
def c31_16 := cr_ c31_13
def c31_17 := cl_ c31_16
def c31_18 := cl_ c31_17
def r31_18 := co_ c31_18
def c31_20 := cr_ c31_17
def c31_21 := cr_ c31_16
def c31_22 := cr_ c31_3
def c31_23 := cl_ c31_22
def r31_23 := co_ c31_23
def c31_25 := cr_ c31_22
def c31_26 := cl_ c31_25
def r31_26 := co_ c31_26
def c31_28 := cr_ c31_25

theorem S_logfile_Source_Get {s : Option Addr} {number : Int} {w : World} {R : T_api_Txn → Int → World → Prop} (h : F_logfile_Source_Get s number R w) : C_logfile_Source_Get s number w R := by
 unfold F_logfile_Source_Get at h
 unfold C_logfile_Source_Get
 refine Calls.mono (calls_of_wpE (args := [Value.pointer s, Value.int .i64 number]) (R := fun v w' => ∃ (r0 : T_api_Txn) (r1 : Int), v = Value.tuple #[Value.agg #[Value.int .i64 r0.Number, sv_ r0.Writes], Value.int .i64 r1] ∧ R r0 r1 w') Tryz.func31 (c := c31_0) (by kernel_rfl) 49 (by kernel_rfl) (by kernel_rfl) [(0, Value.pointer s), (1, Value.int .i64 number)] (by kernel_rfl) ?_) ?_
 · refine Zt r31_1 c31_3 ?_
   refine Zn [] 0 [(0, [], .pointer s), (1, [], .int .i64 number)] ?_
   refine Zw (some 4) (fun bb => pv_ bb) (Obj.cells ([.int .i64 0, .slice none 0 0]).toArray ty_api_Txn (0, 0)) (fun b_ w1 hb hw => ?_)
   replace h := h b_ w1 hb hw
   clear hb hw
   refine Zf P1 [(0, .pointer s), (1, .int .i64 number), (4, pv_ b_)] ?_
   change WpE _ _ c31_3 _ _ _
   refine Zs c31_4 c31_22 ?_
   refine Zb 0 c31_5 ?_
   refine wpE_seq_cut (x := c31_6) (y := c31_8) (by kernel_rfl) (fun l w => ∃ (t6 : Bool), l = [(0, Value.pointer s), (1, Value.int .i64 number), (4, pv_ b_), (6, Value.bool t6)] ∧ F_logfile_Source_Get_k0 s number R b_ t6 w) ?_ ?_
   · refine Zr r31_6 ?_
     refine Zn P1 1 [(0, [], .pointer s), (1, [], .int .i64 number), (4, [], pv_ b_), (7, [], .pointer s)] ?_
     refine reg_val (op := (Op.binOp BinOp.eql 36 (Operand.tmp 7) (Operand.const (Value.pointer none)) 36)) (ty := 4) (dst := some 8) (Value.bool s.isNone) (by kernel_rfl) (fun ww => run_ptr_eql_R (p := s) (by kernel_rfl) (by kernel_rfl) (by kernel_rfl) ww) ?_
     refine Zn P2 4 [(0, [], .pointer s), (1, [], .int .i64 number), (4, [], pv_ b_), (9, [], .bool s.isNone), (10, [(9, false)], .pointer s)] ?_
     refine reg_split 9 s.isNone (by kernel_rfl) (fun hb => ?_) (fun hb => ?_)
     · replace h := h.1 hb
       refine Zn [] 4 [(0, [], .pointer s), (1, [], .int .i64 number), (4, [], pv_ b_), (9, [], .bool true), (10, [], undef)] ?_
       refine Zf [.skip, .skip, .skip, .skip, .plain, .plain] [(0, .pointer s), (1, .int .i64 number), (4, pv_ b_), (6, .bool true)] ?_
       exact ⟨[(0, Value.pointer s), (1, Value.int .i64 number), (4, pv_ b_), (6, Value.bool true)], Sub.mk (by kernel_rfl), true, rfl, h⟩
     · replace h := h.2 hb
       refine Zn [] 4 [(0, [], .pointer s), (1, [], .int .i64 number), (4, [], pv_ b_), (9, [], .bool false), (10, [], .pointer s)] ?_
       refine Zn [] 4 [(0, [], .pointer s), (1, [], .int .i64 number), (4, [], pv_ b_), (9, [], .bool false), (10, [], .pointer s)] ?_
       obtain ⟨hp_13, h⟩ := h
       refine Zv (fun pp => [(0, [], .pointer s), (1, [], .int .i64 number), (4, [], pv_ b_), (9, [], .bool false), (10, [], .pointer pp)]) hp_13 ?_
       refine Zn [.sure] 5 [(0, [], .pointer s), (1, [], .int .i64 number), (4, [], pv_ b_), (9, [], .bool false), (10, [], .pointer (some ⟨(pblk s), (poff s), none⟩)), (11, [], .pointer (some ⟨(pblk s), (poff s), none⟩))] ?_
       refine Zn [.sure] 6 [(0, [], .pointer s), (1, [], .int .i64 number), (4, [], pv_ b_), (9, [], .bool false), (12, [], .pointer (some ⟨(pblk s), (poff s), none⟩))] ?_
       obtain ⟨v13, hc, h⟩ := h
       refine Zl 4 12 (pblk s) (poff s) 4 13 hc ?_
       refine Zf [.sure, .plain, .plain] [(0, .pointer s), (1, .int .i64 number), (4, pv_ b_), (6, .bool (!v13))] ?_
       exact ⟨[(0, Value.pointer s), (1, Value.int .i64 number), (4, pv_ b_), (6, Value.bool (!v13))], Sub.mk (by kernel_rfl), (!v13), rfl, h⟩
   · rintro _ w2 ⟨t6, rfl, h⟩
     unfold F_logfile_Source_Get_k0 at h
     refine Zc 6 t6 c31_9 c31_13 (fun hb => ?_) (fun hb => ?_)
     · replace h := h.1 hb
       refine Zt r31_10 c31_12 ?_
       refine Zn P1 1 [(4, [], pv_ b_), (16, [], .agg #[.int .i64 0, .slice none 0 0])] ?_
       obtain ⟨hc, h⟩ := h
       refine Zo 49 4 16 b_ 0 2 [.int .i64 0, .slice none 0 0] hc (fun w3 hw => ?_)
       replace h := h w3 hw
       clear hw
       refine Zf P1 [(4, pv_ b_), (5, .int .i64 2)] ?_
       change WpE _ _ c31_12 _ _ _
       refine wpE_ret (by kernel_rfl) ?_
       obtain ⟨res, hc_res, h⟩ := h
       repeat (first | refine seqQ_ret ?_ | refine blockQ_ret ?_ | refine loopQ_ret ?_ | refine cutQ_ret ?_)
       exact retT (rs := [(ResultVar.cell 4 49), (ResultVar.tmp 5)]) (vs := [Value.agg #[Value.int .i64 res.Number, sv_ res.Writes], Value.int .i64 2]) (by kernel_rfl) (⟨b_, 0, [Value.int .i64 res.Number, sv_ res.Writes], by kernel_rfl, hc_res, (sizeP_of (k := 2) (by kernel_rfl) (by kernel_rfl)), .inl ⟨by kernel_rfl, rfl⟩, ⟨by kernel_rfl, trivial⟩⟩) (by kernel_rfl) ⟨res, 2, rfl, h⟩
     · replace h := h.2 hb
       refine wpE_seq_cut (x := c31_14) (y := c31_16) (by kernel_rfl) (fun l w => ∃ (t17 : Bool), l = [(0, Value.pointer s), (1, Value.int .i64 number), (4, pv_ b_), (17, Value.bool t17)] ∧ F_logfile_Source_Get_k1 s number R b_ t17 w) ?_ ?_
       · refine Zr r31_14 ?_
         refine Zn (Pl 5) 5 [(0, [], .pointer s), (1, [], .int .i64 number), (4, [], pv_ b_), (20, [], .bool (decide (number < 1))), (21, [(20, false)], .int .i64 number), (22, [(20, false)], .pointer s)] ?_
         refine reg_split 20 (decide (number < 1)) (by kernel_rfl) (fun hb => ?_) (fun hb => ?_)
         · replace h := h.1 hb
           refine Zn [] 5 [(0, [], .pointer s), (1, [], .int .i64 number), (4, [], pv_ b_), (20, [], .bool true), (21, [], undef), (22, [], undef)] ?_
           refine Zf [.skip, .skip, .skip, .skip, .skip, .plain, .plain] [(0, .pointer s), (1, .int .i64 number), (4, pv_ b_), (17, .bool true)] ?_
           exact ⟨[(0, Value.pointer s), (1, Value.int .i64 number), (4, pv_ b_), (17, Value.bool true)], Sub.mk (by kernel_rfl), true, rfl, h⟩
         · replace h := h.2 hb
           refine Zn [] 5 [(0, [], .pointer s), (1, [], .int .i64 number), (4, [], pv_ b_), (20, [], .bool false), (21, [], .int .i64 number), (22, [], .pointer s)] ?_
           refine Zn [] 5 [(0, [], .pointer s), (1, [], .int .i64 number), (4, [], pv_ b_), (20, [], .bool false), (21, [], .int .i64 number), (22, [], .pointer s)] ?_
           obtain ⟨hp_12, h⟩ := h
           refine Zv (fun pp => [(0, [], .pointer s), (1, [], .int .i64 number), (4, [], pv_ b_), (20, [], .bool false), (21, [], .int .i64 number), (22, [], .pointer pp)]) hp_12 ?_
           refine Zn [.sure] 6 [(0, [], .pointer s), (1, [], .int .i64 number), (4, [], pv_ b_), (20, [], .bool false), (21, [], .int .i64 number), (22, [], .pointer (some ⟨(pblk s), (poff s), none⟩)), (23, [], .pointer (some ⟨(pblk s), (poff s), none⟩))] ?_
           refine Zn [.sure] 7 [(0, [], .pointer s), (1, [], .int .i64 number), (4, [], pv_ b_), (20, [], .bool false), (21, [], .int .i64 number), (24, [], .pointer (some ⟨(pblk s), (poff s) + 1, none⟩))] ?_
           obtain ⟨v25, hc, h⟩ := h
           refine Zl 22 24 (pblk s) ((poff s) + 1) 22 25 hc ?_
           refine Zf [.sure, .sure, .plain, .plain] [(0, .pointer s), (1, .int .i64 number), (4, pv_ b_), (17, .bool (decide (number > ((v25.len : Nat) : Int))))] ?_
           exact ⟨[(0, Value.pointer s), (1, Value.int .i64 number), (4, pv_ b_), (17, Value.bool (decide (number > ((v25.len : Nat) : Int))))], Sub.mk (by kernel_rfl), (decide (number > ((v25.len : Nat) : Int))), rfl, h⟩
       · rintro _ w4 ⟨t17, rfl, h⟩
         unfold F_logfile_Source_Get_k1 at h
         refine Zc 17 t17 c31_17 c31_21 (fun hb => ?_) (fun hb => ?_)
         · replace h := h.1 hb
           refine Zt r31_18 c31_20 ?_
           refine Zn P1 1 [(4, [], pv_ b_), (29, [], .agg #[.int .i64 0, .slice none 0 0])] ?_
           obtain ⟨hc, h⟩ := h
           refine Zo 49 4 29 b_ 0 2 [.int .i64 0, .slice none 0 0] hc (fun w5 hw => ?_)
           replace h := h w5 hw
           clear hw
           refine Zf P1 [(4, pv_ b_), (5, .int .i64 1)] ?_
           change WpE _ _ c31_20 _ _ _
           refine wpE_ret (by kernel_rfl) ?_
           obtain ⟨res1, hc_res1, h⟩ := h
           repeat (first | refine seqQ_ret ?_ | refine blockQ_ret ?_ | refine loopQ_ret ?_ | refine cutQ_ret ?_)
           exact retT (rs := [(ResultVar.cell 4 49), (ResultVar.tmp 5)]) (vs := [Value.agg #[Value.int .i64 res1.Number, sv_ res1.Writes], Value.int .i64 1]) (by kernel_rfl) (⟨b_, 0, [Value.int .i64 res1.Number, sv_ res1.Writes], by kernel_rfl, hc_res1, (sizeP_of (k := 2) (by kernel_rfl) (by kernel_rfl)), .inl ⟨by kernel_rfl, rfl⟩, ⟨by kernel_rfl, trivial⟩⟩) (by kernel_rfl) ⟨res1, 1, rfl, h⟩
         · replace h := h.2 hb
           refine wpE_skip (by kernel_rfl) ?_
           change WpE _ _ c31_22 _ _ _
           refine Zt r31_23 c31_25 ?_
           refine Zn P2 2 [(0, [], .pointer s), (1, [], .int .i64 number), (4, [], pv_ b_), (30, [], .pointer s), (31, [], .pointer s)] ?_
           obtain ⟨hp_8, h⟩ := h
           refine Zv (fun pp => [(0, [], .pointer s), (1, [], .int .i64 number), (4, [], pv_ b_), (30, [], .pointer s), (31, [], .pointer pp)]) hp_8 ?_
           refine Zn P1 3 [(0, [], .pointer s), (1, [], .int .i64 number), (4, [], pv_ b_), (30, [], .pointer s), (31, [], .pointer (some ⟨(pblk s), (poff s), none⟩)), (32, [], .pointer (some ⟨(pblk s), (poff s), none⟩))] ?_
           refine Zn P1 4 [(0, [], .pointer s), (1, [], .int .i64 number), (4, [], pv_ b_), (30, [], .pointer s), (33, [], .pointer (some ⟨(pblk s), (poff s) + 2, none⟩))] ?_
           obtain ⟨v34, hc, h⟩ := h
           refine Zl 67 33 (pblk s) ((poff s) + 2) 67 34 hc ?_
           refine Zn P1 6 [(0, [], .pointer s), (1, [], .int .i64 number), (4, [], pv_ b_), (30, [], .pointer s), (34, [], sv_ v34), (35, [], .int .i64 number)] ?_
           refine Zw (some 36) (fun bb => .slice (some ⟨bb, 0, none⟩) 1 1) (Obj.cells ([.int .i64 number]).toArray ty_int (0, 0)) (fun b_1 w6 hb hw => ?_)
           replace h := h b_1 w6 hb hw
           clear hb hw
           refine Zn [] 7 [(0, [], .pointer s), (1, [], .int .i64 number), (4, [], pv_ b_), (30, [], .pointer s), (34, [], sv_ v34), (36, [], .slice (some ⟨b_1, 0, none⟩) 1 1)] ?_
           obtain ⟨src, hs, h⟩ := h
           refine reg_append (t := 67) (tx := 67) (e := 3) (a := (Operand.tmp 34)) (xo := (Operand.tmp 36)) (s := v34) (x := (Slc.mk (some ⟨b_1, 0, none⟩) 1 1)) (sz := 1) (by_ := 8) (zs := [Value.int .i64 0]) (ty := 67) (dst := some 37)  src (by kernel_rfl) (by kernel_rfl) (by kernel_rfl) (by kernel_rfl) (by kernel_rfl) (by kernel_rfl) (by kernel_rfl) (by kernel_rfl) (by kernel_rfl) hs (AppendW.mono h (fun v37 w7 h => ?_))
           refine Zn [] 8 [(0, [], .pointer s), (1, [], .int .i64 number), (4, [], pv_ b_), (30, [], .pointer s), (37, [], sv_ v37)] ?_
           obtain ⟨hp_9, h⟩ := h
           refine Zv (fun pp => [(0, [], .pointer s), (1, [], .int .i64 number), (4, [], pv_ b_), (30, [], .pointer pp), (37, [], sv_ v37)]) hp_9 ?_
           refine Zn P1 9 [(0, [], .pointer s), (1, [], .int .i64 number), (4, [], pv_ b_), (30, [], .pointer (some ⟨(pblk s), (poff s), none⟩)), (37, [], sv_ v37), (38, [], .pointer (some ⟨(pblk s), (poff s), none⟩))] ?_
           refine Zn P1 10 [(0, [], .pointer s), (1, [], .int .i64 number), (4, [], pv_ b_), (37, [], sv_ v37), (39, [], .pointer (some ⟨(pblk s), (poff s) + 2, none⟩))] ?_
           obtain ⟨hc, h⟩ := h
           refine Zo 67 39 37 (pblk s) ((poff s) + 2) 1 [sv_ v37] hc (fun w8 hw => ?_)
           replace h := h w8 hw
           clear hw
           refine Ze [(0, .pointer s), (1, .int .i64 number), (4, pv_ b_)] ?_
           change WpE _ _ c31_25 _ _ _
           refine Zt r31_26 c31_28 ?_
           refine Zn P1 1 [(1, [], .int .i64 number), (4, [], pv_ b_), (40, [], .pointer s)] ?_
           obtain ⟨hp_10, h⟩ := h
           refine Zv (fun pp => [(1, [], .int .i64 number), (4, [], pv_ b_), (40, [], .pointer pp)]) hp_10 ?_
           refine Zn P1 2 [(1, [], .int .i64 number), (4, [], pv_ b_), (40, [], .pointer (some ⟨(pblk s), (poff s), none⟩)), (41, [], .pointer (some ⟨(pblk s), (poff s), none⟩))] ?_
           refine Zn P1 3 [(1, [], .int .i64 number), (4, [], pv_ b_), (42, [], .pointer (some ⟨(pblk s), (poff s) + 1, none⟩))] ?_
           obtain ⟨v43, hc, h⟩ := h
           refine Zl 22 42 (pblk s) ((poff s) + 1) 22 43 hc ?_
           refine Zn P2 6 [(4, [], pv_ b_), (43, [], sv_ v43), (45, [], .int .i64 (IntKind.i64.wrap (number - 1)))] ?_
           obtain ⟨hp_11, h⟩ := h
           refine Zv (fun pp => [(4, [], pv_ b_), (43, [], .slice pp v43.len v43.cap), (45, [], .int .i64 (IntKind.i64.wrap (number - 1)))]) hp_11 ?_
           obtain ⟨h0, h1, h⟩ := h
           refine Zj 22 49 43 45 (pblk v43.ptr) (poff v43.ptr) v43.len v43.cap (IntKind.i64.wrap (number - 1)) 2 46 0 h0 h1 ?_
           refine Zn [] 7 [(4, [], pv_ b_), (46, [], .pointer (some ⟨(pblk v43.ptr), (poff v43.ptr) + (IntKind.i64.wrap (number - 1)).toNat * 2, none⟩))] ?_
           obtain ⟨v47, hc, h⟩ := h
           refine reg_loadN (t := 49) (a := (Operand.tmp 46)) (b := (pblk v43.ptr)) (o := ((poff v43.ptr) + (IntKind.i64.wrap (number - 1)).toNat * 2)) (ty := 49) (dst := some 47) [Value.int .i64 v47.Number, sv_ v47.Writes] (by kernel_rfl) (by kernel_rfl) (by kernel_rfl) (k := 2) (by kernel_rfl) (by kernel_rfl) hc ?_
           refine Zn [] 8 [(4, [], pv_ b_), (47, [], .agg #[.int .i64 v47.Number, sv_ v47.Writes])] ?_
           refine Zm 26 #[.agg #[.int .i64 v47.Number, sv_ v47.Writes]] (some 48) (Calls.mono h ?_)
           rintro _ w9 ⟨v48, rfl, h⟩
           refine ⟨_, rfl, ?_⟩
           refine Zn [] 9 [(4, [], pv_ b_), (48, [], .agg #[.int .i64 v48.Number, sv_ v48.Writes])] ?_
           obtain ⟨hc, h⟩ := h
           refine Zo 49 4 48 b_ 0 2 [.int .i64 v48.Number, sv_ v48.Writes] hc (fun w10 hw => ?_)
           replace h := h w10 hw
           clear hw
           refine Zf P1 [(4, pv_ b_), (5, .int .i64 0)] ?_
           change WpE _ _ c31_28 _ _ _
           refine wpE_ret (by kernel_rfl) ?_
           obtain ⟨res2, hc_res2, h⟩ := h
           repeat (first | refine seqQ_ret ?_ | refine blockQ_ret ?_ | refine loopQ_ret ?_ | refine cutQ_ret ?_)
           exact retT (rs := [(ResultVar.cell 4 49), (ResultVar.tmp 5)]) (vs := [Value.agg #[Value.int .i64 res2.Number, sv_ res2.Writes], Value.int .i64 0]) (by kernel_rfl) (⟨b_, 0, [Value.int .i64 res2.Number, sv_ res2.Writes], by kernel_rfl, hc_res2, (sizeP_of (k := 2) (by kernel_rfl) (by kernel_rfl)), .inl ⟨by kernel_rfl, rfl⟩, ⟨by kernel_rfl, trivial⟩⟩) (by kernel_rfl) ⟨res2, 0, rfl, h⟩
 · rintro e w' ⟨v, rfl, r0, r1, rfl, h⟩; exact ⟨r0, r1, rfl, h⟩

/-! ### towpath/logfile.turns (function 88) -/
def c88_0 := cb_ Tryz.f88
def c88_3 := cr_ c88_0
def c88_4 := cl_ c88_3
def r88_4 := co_ c88_4
def c88_6 := cr_ c88_3
def c88_9 := cr_ c88_6

theorem S_logfile_turns {w : World} {R : Value → World → Prop} (h : F_logfile_turns R w) : C_logfile_turns w R := by
 unfold F_logfile_turns at h
 unfold C_logfile_turns
 refine Calls.mono (calls_of_wpE (args := []) (R := fun v w' => ∃ (r0 : Value), v = r0 ∧ R r0 w') Tryz.func88 (c := c88_0) (by kernel_rfl) 3 (by kernel_rfl) (by kernel_rfl) [] (by kernel_rfl) ?_) ?_
 · refine Zp c88_3 P1 [] ?_
   refine Zt r88_4 c88_6 ?_
   refine Zn [] 0 [] ?_
   refine Zw (some 1) (fun bb => pv_ bb) (Obj.cells ([.int .i64 0]).toArray ty_int (0, 0)) (fun b_ w1 hb hw => ?_)
   replace h := h b_ w1 hb hw
   clear hb hw
   refine Zn [] 1 [(1, [], pv_ b_)] ?_
   obtain ⟨hc, h⟩ := h
   refine reg_store (t := 3) (a := (Operand.tmp 1)) (x := (Operand.const (Value.int Go.IntKind.i64 1))) (b := b_) (o := 0) (ty := 0) (dst := none) [Value.int .i64 1] (by kernel_rfl) (by kernel_rfl) (by kernel_rfl) (k := 1) (by kernel_rfl) (by kernel_rfl) (by kernel_rfl) hc (fun w2 hw => ?_)
   replace h := h w2 hw
   clear hw
   refine Ze [(1, pv_ b_)] ?_
   change WpE _ _ c88_6 _ _ _
   refine Zp c88_9 P2 [(0, .func (.func 124) #[] #[pv_ b_])] ?_
   refine wpE_ret (by kernel_rfl) ?_
   repeat (first | refine seqQ_ret ?_ | refine blockQ_ret ?_ | refine loopQ_ret ?_ | refine cutQ_ret ?_)
   exact retS (rs := [(ResultVar.tmp 0)]) (v := Value.func (.func 124) #[] #[pv_ b_]) (by kernel_rfl) (⟨by kernel_rfl, trivial⟩) ⟨(Value.func (.func 124) #[] #[pv_ b_]), rfl, h⟩
 · rintro e w' ⟨v, rfl, r0, rfl, h⟩; exact ⟨_, rfl, h⟩

/-! ### towpath/logfile.turns$1 (function 124) -/
def c124_0 := cb_ Tryz.f124
def c124_1 := cl_ c124_0
def r124_1 := co_ c124_1
def c124_3 := cr_ c124_0
def c124_4 := cl_ c124_3
def c124_5 := cl_ c124_4
def r124_5 := co_ c124_5
def c124_7 := cr_ c124_4
def c124_10 := cr_ c124_7
def c124_11 := cl_ c124_10
def c124_14 := cr_ c124_11
def c124_15 := cr_ c124_10
def c124_16 := cr_ c124_3
def c124_17 := cl_ c124_16
def c124_18 := cl_ c124_17
def r124_18 := co_ c124_18
def c124_20 := cr_ c124_17
def c124_21 := cl_ c124_20
def c124_24 := cr_ c124_21
def c124_25 := cr_ c124_20
def c124_26 := cr_ c124_16
def c124_27 := cl_ c124_26
def r124_27 := co_ c124_27
def c124_29 := cr_ c124_26
def c124_32 := cr_ c124_29

theorem S_logfile_turns_1 {t_ : T_api_Txn} {t1 : Option Addr} {w : World} {R : Int → World → Prop} (h : F_logfile_turns_1 t_ t1 R w) : C_logfile_turns_1 t_ t1 w R := by
 unfold F_logfile_turns_1 at h
 unfold C_logfile_turns_1
 refine Calls.mono (calls_of_wpE (args := [Value.agg #[Value.int .i64 t_.Number, sv_ t_.Writes], Value.pointer t1]) (R := fun v w' => ∃ (r0 : Int), v = Value.int .i64 r0 ∧ R r0 w') Tryz.func124 (c := c124_0) (by kernel_rfl) 16 (by kernel_rfl) (by kernel_rfl) [(0, Value.agg #[Value.int .i64 t_.Number, sv_ t_.Writes]), (1, Value.pointer t1)] (by kernel_rfl) ?_) ?_
 · refine Zt r124_1 c124_3 ?_
   refine Zn [] 0 [(0, [], .agg #[.int .i64 t_.Number, sv_ t_.Writes]), (1, [], .pointer t1)] ?_
   refine Zw (some 2) (fun bb => pv_ bb) (Obj.cells ([.int .i64 t_.Number, sv_ t_.Writes]).toArray ty_api_Txn (0, 0)) (fun b_ w1 hb hw => ?_)
   replace h := h b_ w1 hb hw
   clear hb hw
   refine Zf P1 [(1, .pointer t1), (2, pv_ b_)] ?_
   change WpE _ _ c124_3 _ _ _
   refine Zs c124_4 c124_16 ?_
   refine Zt r124_5 c124_7 ?_
   refine Zn [] 0 [(1, [], .pointer t1), (2, [], pv_ b_)] ?_
   obtain ⟨v5, hc, h⟩ := h
   refine reg_loadN (t := 49) (a := (Operand.tmp 2)) (b := b_) (o := 0) (ty := 49) (dst := some 5) [Value.int .i64 v5.Number, sv_ v5.Writes] (by kernel_rfl) (by kernel_rfl) (by kernel_rfl) (k := 2) (by kernel_rfl) (by kernel_rfl) hc ?_
   refine Zn [] 1 [(1, [], .pointer t1), (2, [], pv_ b_), (5, [], .agg #[.int .i64 v5.Number, sv_ v5.Writes])] ?_
   refine Zm 125 #[.agg #[.int .i64 v5.Number, sv_ v5.Writes]] (some 6) (Calls.mono h ?_)
   rintro _ w2 ⟨v6, rfl, h⟩
   refine ⟨_, rfl, ?_⟩
   refine Zf P1 [(1, .pointer t1), (2, pv_ b_), (4, .int .i64 v6)] ?_
   change WpE _ _ c124_7 _ _ _
   refine Zp c124_10 P2 [(1, .pointer t1), (2, pv_ b_), (4, .int .i64 v6), (8, .bool (v6 != 0))] ?_
   refine Zc 8 (v6 != 0) c124_11 c124_15 (fun hb => ?_) (fun hb => ?_)
   · replace h := h.1 hb
     refine Zp c124_14 P2 [(3, .int .i64 v6)] ?_
     refine wpE_ret (by kernel_rfl) ?_
     repeat (first | refine seqQ_ret ?_ | refine blockQ_ret ?_ | refine loopQ_ret ?_ | refine cutQ_ret ?_)
     exact retS (rs := [(ResultVar.tmp 3)]) (v := Value.int .i64 v6) (by kernel_rfl) (⟨by kernel_rfl, trivial⟩) ⟨v6, rfl, h⟩
   · replace h := h.2 hb
     refine wpE_skip (by kernel_rfl) ?_
     change WpE _ _ c124_16 _ _ _
     refine Zs c124_17 c124_26 ?_
     refine Zt r124_18 c124_20 ?_
     refine Zn P1 1 [(1, [], .pointer t1), (10, [], pv_ b_)] ?_
     obtain ⟨v11, hc, h⟩ := h
     refine Zl 3 10 b_ 0 3 11 hc ?_
     refine Zn [] 2 [(1, [], .pointer t1), (11, [], .int .i64 v11)] ?_
     obtain ⟨hp_3, h⟩ := h
     refine Zv (fun pp => [(1, [], .pointer pp), (11, [], .int .i64 v11)]) hp_3 ?_
     obtain ⟨v12, hc, h⟩ := h
     refine Zl 3 1 (pblk t1) (poff t1) 3 12 hc ?_
     refine Zn P1 4 [(1, [], .pointer (some ⟨(pblk t1), (poff t1), none⟩)), (13, [], .bool (v11 != v12))] ?_
     refine Zv (fun pp => [(1, [], .pointer pp), (13, [], .bool (v11 != v12))]) hp_3.symm ?_
     refine Ze [(1, .pointer t1), (13, .bool (v11 != v12))] ?_
     change WpE _ _ c124_20 _ _ _
     refine Zc 13 (v11 != v12) c124_21 c124_25 (fun hb => ?_) (fun hb => ?_)
     · replace h := h.1 hb
       refine Zp c124_24 P1 [(3, .int .i64 6)] ?_
       refine wpE_ret (by kernel_rfl) ?_
       repeat (first | refine seqQ_ret ?_ | refine blockQ_ret ?_ | refine loopQ_ret ?_ | refine cutQ_ret ?_)
       exact retS (rs := [(ResultVar.tmp 3)]) (v := Value.int .i64 6) (by kernel_rfl) (⟨by kernel_rfl, trivial⟩) ⟨6, rfl, h⟩
     · replace h := h.2 hb
       refine wpE_skip (by kernel_rfl) ?_
       change WpE _ _ c124_26 _ _ _
       refine Zt r124_27 c124_29 ?_
       refine Zn [] 0 [(1, [], .pointer t1)] ?_
       obtain ⟨hp_5, h⟩ := h
       refine Zv (fun pp => [(1, [], .pointer pp)]) hp_5 ?_
       obtain ⟨v14, hc, h⟩ := h
       refine Zl 3 1 (pblk t1) (poff t1) 3 14 hc ?_
       refine Zn P1 2 [(1, [], .pointer (some ⟨(pblk t1), (poff t1), none⟩)), (15, [], .int .i64 (IntKind.i64.wrap (v14 + 1)))] ?_
       obtain ⟨hc, h⟩ := h
       refine Zo 3 1 15 (pblk t1) (poff t1) 1 [.int .i64 (IntKind.i64.wrap (v14 + 1))] hc (fun w3 hw => ?_)
       replace h := h w3 hw
       clear hw
       refine Ze [] ?_
       change WpE _ _ c124_29 _ _ _
       refine Zp c124_32 P1 [(3, .int .i64 0)] ?_
       refine wpE_ret (by kernel_rfl) ?_
       repeat (first | refine seqQ_ret ?_ | refine blockQ_ret ?_ | refine loopQ_ret ?_ | refine cutQ_ret ?_)
       exact retS (rs := [(ResultVar.tmp 3)]) (v := Value.int .i64 0) (by kernel_rfl) (⟨by kernel_rfl, trivial⟩) ⟨0, rfl, h⟩
 · rintro e w' ⟨v, rfl, r0, rfl, h⟩; exact ⟨r0, rfl, h⟩
end
end Go.Proofs.YtpedclhflmhakaaGreatDoor
