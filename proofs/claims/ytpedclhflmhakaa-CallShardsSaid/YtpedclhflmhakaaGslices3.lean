/- WRITTEN BY PROGRAM (dec.py): for each Go function the clean formula F, the call's contract C, and the proof S that F gives C. -/
import Derived.Test.YtpedclhflmhakaaRows
import Derived.Test.YtpedclhflmhakaaGF
namespace Go.Proofs.Ytpedclhflmhakaa
open Go
set_option linter.unusedVariables false
set_option maxRecDepth 100000
set_option maxHeartbeats 4000000
noncomputable section

/-! ### slices.insertionSortCmpFunc[towpath/api.Entry] (function 136) -/
def c136_0 := cb_ Try.f136
def c136_3 := cr_ c136_0
def c136_4 := cl_ c136_3
def c136_5 := cl_ c136_4
def c136_6 := cl_ c136_5
def c136_9 := cr_ c136_6
def c136_10 := cl_ c136_9
def c136_11 := cr_ c136_9
def c136_12 := cr_ c136_5
def c136_13 := cl_ c136_12
def c136_14 := cl_ c136_13
def c136_17 := cr_ c136_14
def c136_18 := cl_ c136_17
def c136_19 := cl_ c136_18
def c136_20 := cl_ c136_19
def c136_21 := cl_ c136_20
def r136_21 := co_ c136_21
def c136_23 := cr_ c136_20
def c136_24 := cl_ c136_23
def c136_25 := cr_ c136_23
def c136_26 := cr_ c136_19
def c136_27 := cl_ c136_26
def c136_28 := cl_ c136_27
def r136_28 := co_ c136_28
def c136_30 := cr_ c136_26
def r136_30 := co_ c136_30
def c136_32 := cr_ c136_12
def r136_32 := co_ c136_32
def o_slices_insertionSortCmpFunc_api_Entry_28 : List Nat := [0, 1, 2, 3, 4, 5, 6, 7, 8, 9, 10, 11, 12, 13, 14, 15, 16, 17]

theorem S_slices_insertionSortCmpFunc_api_Entry {data : Slc} {a_ : Int} {b_ : Int} {cmp : Value} {w : World} {R : World → Prop} (h : F_slices_insertionSortCmpFunc_api_Entry data a_ b_ cmp R w) : C_slices_insertionSortCmpFunc_api_Entry data a_ b_ cmp w R := by
 unfold F_slices_insertionSortCmpFunc_api_Entry at h
 unfold C_slices_insertionSortCmpFunc_api_Entry
 refine Calls.mono (calls_of_wpE (args := [sv_ data, Value.int .i64 a_, Value.int .i64 b_, cmp]) (R := fun v w' => v = Value.tuple #[] ∧ R w') Try.func136 (c := c136_0) (by kernel_rfl) 53 (by kernel_rfl) (by kernel_rfl) [(0, sv_ data), (1, Value.int .i64 a_), (2, Value.int .i64 b_), (3, cmp)] (by kernel_rfl) ?_) ?_
 · refine Zp c136_3 P3 [(0, sv_ data), (1, .int .i64 a_), (2, .int .i64 b_), (3, cmp), (8, .int .i64 (IntKind.i64.wrap (a_ + 1)))] ?_
   refine Zb 0 c136_4 ?_
   obtain ⟨I, μ, h0, hr⟩ := h
   refine wpE_loop (x := c136_5) (by kernel_rfl) (fun m l w => ∃ (i : Int), l = [(0, sv_ data), (1, Value.int .i64 a_), (2, Value.int .i64 b_), (3, cmp), (8, Value.int .i64 i)] ∧ I i w ∧ μ i w = m) (l' := [(0, sv_ data), (1, Value.int .i64 a_), (2, Value.int .i64 b_), (3, cmp), (8, Value.int .i64 (IntKind.i64.wrap (a_ + 1)))]) (Sub.mk (by kernel_rfl)) ⟨(IntKind.i64.wrap (a_ + 1)), rfl, h0, rfl⟩ ?_
   rintro _ _ w1 ⟨i, rfl, hI, rfl⟩
   obtain ⟨again_, again__h, h⟩ : ∃ again_ : Int → World → Prop, (∀ i' w', again_ i' w' → I i' w' ∧ μ i' w' < μ i w1) ∧ F_slices_insertionSortCmpFunc_api_Entry_L0 data a_ b_ cmp R again_ i w1 := ⟨_, fun _ _ h => h, hr i w1 hI⟩
   clear h0 hI
   unfold F_slices_insertionSortCmpFunc_api_Entry_L0 at h
   refine Zs c136_6 c136_12 ?_
   refine Zp c136_9 P3 [(0, sv_ data), (1, .int .i64 a_), (2, .int .i64 b_), (3, cmp), (8, .int .i64 i), (14, .bool (decide (i < b_)))] ?_
   refine Zc 14 (decide (i < b_)) c136_10 c136_11 (fun hb => ?_) (fun hb => ?_)
   · replace h := h.1 hb
     refine wpE_skip (by kernel_rfl) ?_
     change WpE _ _ c136_12 _ _ _
     refine Zs c136_13 c136_32 ?_
     refine Zb 1 c136_14 ?_
     refine Zp c136_17 P2 [(0, sv_ data), (1, .int .i64 a_), (2, .int .i64 b_), (3, cmp), (8, .int .i64 i), (9, .int .i64 i)] ?_
     refine Zb 2 c136_18 ?_
     obtain ⟨I, μ, h0, hr⟩ := h
     refine wpE_loop (x := c136_19) (by kernel_rfl) (fun m l w => ∃ (j : Int), l = [(0, sv_ data), (1, Value.int .i64 a_), (2, Value.int .i64 b_), (3, cmp), (8, Value.int .i64 i), (9, Value.int .i64 j)] ∧ I j w ∧ μ j w = m) (l' := [(0, sv_ data), (1, Value.int .i64 a_), (2, Value.int .i64 b_), (3, cmp), (8, Value.int .i64 i), (9, Value.int .i64 i)]) (Sub.mk (by kernel_rfl)) ⟨i, rfl, h0, rfl⟩ ?_
     rintro _ _ w2 ⟨j, rfl, hI, rfl⟩
     obtain ⟨again_1, again_1_h, h⟩ : ∃ again_1 : Int → World → Prop, (∀ j' w', again_1 j' w' → I j' w' ∧ μ j' w' < μ j w2) ∧ F_slices_insertionSortCmpFunc_api_Entry_L1 data a_ cmp i again_ again_1 j w2 := ⟨_, fun _ _ h => h, hr j w2 hI⟩
     clear h0 hI
     unfold F_slices_insertionSortCmpFunc_api_Entry_L1 at h
     refine Zs c136_20 c136_26 ?_
     refine wpE_seq_cut (x := c136_21) (y := c136_23) (by kernel_rfl) (fun l w => ∃ (t34 : Bool), l = [(0, sv_ data), (1, Value.int .i64 a_), (2, Value.int .i64 b_), (3, cmp), (8, Value.int .i64 i), (9, Value.int .i64 j), (34, Value.bool t34)] ∧ F_slices_insertionSortCmpFunc_api_Entry_k2 data i again_ j again_1 t34 w) ?_ ?_
     · refine wpE_tailregion (id := 4) (ops := r136_21) (by kernel_rfl) 14 (by kernel_rfl) (by kernel_rfl) (fun w7 hw => ?_)
       replace h := h w7 hw
       clear hw
       refine qreg_run [.plain, .plain, .plain, .plain, .plain, .plain, .plain] 7 [(0, [], sv_ data), (1, [], Value.int .i64 a_), (2, [], Value.int .i64 b_), (3, [], cmp), (8, [], Value.int .i64 i), (9, [], Value.int .i64 j), (21, [], Value.bool (decide (j > a_))), (22, [(21, true)], cmp), (23, [(21, true)], sv_ data), (24, [(21, true)], Value.int .i64 j)] (by kernel_rfl) (by kernel_rfl) ?_
       refine qreg_split 21 (decide (j > a_)) (by kernel_rfl) (fun hb => ?_) (fun hb => ?_)
       · replace h := h.1 hb
         refine qreg_run [] 7 [(0, [], sv_ data), (1, [], Value.int .i64 a_), (2, [], Value.int .i64 b_), (3, [], cmp), (8, [], Value.int .i64 i), (9, [], Value.int .i64 j), (21, [], Value.bool true), (22, [], cmp), (23, [], sv_ data), (24, [], Value.int .i64 j)] (by kernel_rfl) (by kernel_rfl) ?_
         refine qreg_run [] 7 [(0, [], sv_ data), (1, [], Value.int .i64 a_), (2, [], Value.int .i64 b_), (3, [], cmp), (8, [], Value.int .i64 i), (9, [], Value.int .i64 j), (21, [], Value.bool true), (22, [], cmp), (23, [], sv_ data), (24, [], Value.int .i64 j)] (by kernel_rfl) (by kernel_rfl) ?_
         obtain ⟨hp_30, h⟩ := h
         refine qreg_conv [(0, [], sv_ data), (1, [], Value.int .i64 a_), (2, [], Value.int .i64 b_), (3, [], cmp), (8, [], Value.int .i64 i), (9, [], Value.int .i64 j), (21, [], Value.bool true), (22, [], cmp), (23, [], Value.slice (some ⟨(pblk data.ptr), (poff data.ptr), none⟩) data.len data.cap), (24, [], Value.int .i64 j)] (congrArg (fun pp => ([(0, [], sv_ data), (1, [], Value.int .i64 a_), (2, [], Value.int .i64 b_), (3, [], cmp), (8, [], Value.int .i64 i), (9, [], Value.int .i64 j), (21, [], Value.bool true), (22, [], cmp), (23, [], Value.slice pp data.len data.cap), (24, [], Value.int .i64 j)] : GEnv)) hp_30) ?_
         obtain ⟨h0, h1, h⟩ := h
         refine qreg_indexS (t := 92) (e := 140) (x := (Operand.tmp 23)) (ix := (Operand.tmp 24)) (b := (pblk data.ptr)) (o := (poff data.ptr)) (l := data.len) (c := data.cap) (k := .i64) (j := j) (ty := 0) (dst := some 25) (sz := 2) (by kernel_rfl) (by kernel_rfl) (by kernel_rfl) (by kernel_rfl) (by kernel_rfl) h0 h1 ?_
         refine qreg_run [] 8 [(0, [], sv_ data), (1, [], Value.int .i64 a_), (2, [], Value.int .i64 b_), (3, [], cmp), (8, [], Value.int .i64 i), (9, [], Value.int .i64 j), (21, [], Value.bool true), (22, [], cmp), (25, [], Value.pointer (some ⟨(pblk data.ptr), (poff data.ptr) + j.toNat * 2, none⟩))] (by kernel_rfl) (by kernel_rfl) ?_
         obtain ⟨v26, hc, h⟩ := h
         refine qreg_loadN (t := 140) (a := (Operand.tmp 25)) (b := (pblk data.ptr)) (o := ((poff data.ptr) + j.toNat * 2)) (ty := 140) (dst := some 26) [Value.string v26.Key, Value.string v26.Val] (by kernel_rfl) (by kernel_rfl) (by kernel_rfl) (k := 2) (by kernel_rfl) (by kernel_rfl) hc ?_
         refine qreg_run [.sure, .sure, .sure] 12 [(0, [], sv_ data), (1, [], Value.int .i64 a_), (2, [], Value.int .i64 b_), (3, [], cmp), (8, [], Value.int .i64 i), (9, [], Value.int .i64 j), (21, [], Value.bool true), (22, [], cmp), (26, [], Value.agg #[Value.string v26.Key, Value.string v26.Val]), (27, [], sv_ data), (29, [], Value.int .i64 (IntKind.i64.wrap (j - 1)))] (by kernel_rfl) (by kernel_rfl) ?_
         obtain ⟨hp_31, h⟩ := h
         refine qreg_conv [(0, [], sv_ data), (1, [], Value.int .i64 a_), (2, [], Value.int .i64 b_), (3, [], cmp), (8, [], Value.int .i64 i), (9, [], Value.int .i64 j), (21, [], Value.bool true), (22, [], cmp), (26, [], Value.agg #[Value.string v26.Key, Value.string v26.Val]), (27, [], Value.slice (some ⟨(pblk data.ptr), (poff data.ptr), none⟩) data.len data.cap), (29, [], Value.int .i64 (IntKind.i64.wrap (j - 1)))] (congrArg (fun pp => ([(0, [], sv_ data), (1, [], Value.int .i64 a_), (2, [], Value.int .i64 b_), (3, [], cmp), (8, [], Value.int .i64 i), (9, [], Value.int .i64 j), (21, [], Value.bool true), (22, [], cmp), (26, [], Value.agg #[Value.string v26.Key, Value.string v26.Val]), (27, [], Value.slice pp data.len data.cap), (29, [], Value.int .i64 (IntKind.i64.wrap (j - 1)))] : GEnv)) hp_31) ?_
         obtain ⟨h0, h1, h⟩ := h
         refine qreg_indexS (t := 92) (e := 140) (x := (Operand.tmp 27)) (ix := (Operand.tmp 29)) (b := (pblk data.ptr)) (o := (poff data.ptr)) (l := data.len) (c := data.cap) (k := .i64) (j := (IntKind.i64.wrap (j - 1))) (ty := 0) (dst := some 30) (sz := 2) (by kernel_rfl) (by kernel_rfl) (by kernel_rfl) (by kernel_rfl) (by kernel_rfl) h0 h1 ?_
         refine qreg_run [] 13 [(0, [], sv_ data), (1, [], Value.int .i64 a_), (2, [], Value.int .i64 b_), (3, [], cmp), (8, [], Value.int .i64 i), (9, [], Value.int .i64 j), (21, [], Value.bool true), (22, [], cmp), (26, [], Value.agg #[Value.string v26.Key, Value.string v26.Val]), (30, [], Value.pointer (some ⟨(pblk data.ptr), (poff data.ptr) + (IntKind.i64.wrap (j - 1)).toNat * 2, none⟩))] (by kernel_rfl) (by kernel_rfl) ?_
         obtain ⟨v31, hc, h⟩ := h
         refine qreg_loadN (t := 140) (a := (Operand.tmp 30)) (b := (pblk data.ptr)) (o := ((poff data.ptr) + (IntKind.i64.wrap (j - 1)).toNat * 2)) (ty := 140) (dst := some 31) [Value.string v31.Key, Value.string v31.Val] (by kernel_rfl) (by kernel_rfl) (by kernel_rfl) (k := 2) (by kernel_rfl) (by kernel_rfl) hc ?_
         refine qreg_run [] 14 [(0, [], sv_ data), (1, [], Value.int .i64 a_), (2, [], Value.int .i64 b_), (3, [], cmp), (8, [], Value.int .i64 i), (9, [], Value.int .i64 j), (21, [], Value.bool true), (22, [], cmp), (26, [], Value.agg #[Value.string v26.Key, Value.string v26.Val]), (31, [], Value.agg #[Value.string v31.Key, Value.string v31.Val])] (by kernel_rfl) (by kernel_rfl) ?_
         refine qreg_tail (by kernel_rfl) ?_
         refine Zn [] 14 [(0, [], sv_ data), (1, [], .int .i64 a_), (2, [], .int .i64 b_), (3, [], cmp), (8, [], .int .i64 i), (9, [], .int .i64 j), (21, [], .bool true), (22, [], cmp), (26, [], .agg #[.string v26.Key, .string v26.Val]), (31, [], .agg #[.string v31.Key, .string v31.Val])] ?_
         refine reg_enterV (fo := (Operand.tmp 22)) (aa := #[(Operand.tmp 26), (Operand.tmp 31)]) (ts := #[140, 140]) (fv := cmp) (ty := 3) (dst := some 32) #[Value.agg #[Value.string v26.Key, Value.string v26.Val], Value.agg #[Value.string v31.Key, Value.string v31.Val]] (by kernel_rfl) (by kernel_rfl) (by kernel_rfl) (CallsV.mono h ?_)
         rintro _ w8 ⟨v32, rfl, h⟩
         refine ⟨_, rfl, ?_⟩
         refine Zf [.sure, .plain] [(0, sv_ data), (1, .int .i64 a_), (2, .int .i64 b_), (3, cmp), (8, .int .i64 i), (9, .int .i64 j), (34, .bool (decide (v32 < 0)))] ?_
         exact ⟨[(0, sv_ data), (1, Value.int .i64 a_), (2, Value.int .i64 b_), (3, cmp), (8, Value.int .i64 i), (9, Value.int .i64 j), (34, Value.bool (decide (v32 < 0)))], Sub.mk (by kernel_rfl), (decide (v32 < 0)), rfl, h⟩
       · replace h := h.2 hb
         refine qreg_run [] 7 [(0, [], sv_ data), (1, [], Value.int .i64 a_), (2, [], Value.int .i64 b_), (3, [], cmp), (8, [], Value.int .i64 i), (9, [], Value.int .i64 j), (21, [], Value.bool false), (22, [], undef), (23, [], undef), (24, [], undef)] (by kernel_rfl) (by kernel_rfl) ?_
         refine qreg_run [.skip, .skip, .skip, .skip, .skip, .skip, .skip] 14 [(0, [], sv_ data), (1, [], Value.int .i64 a_), (2, [], Value.int .i64 b_), (3, [], cmp), (8, [], Value.int .i64 i), (9, [], Value.int .i64 j), (21, [], Value.bool false), (22, [], undef), (26, [], undef), (31, [], undef)] (by kernel_rfl) (by kernel_rfl) ?_
         refine qreg_tail (by kernel_rfl) ?_
         refine Zf [.skip, .skip, .plain] [(0, sv_ data), (1, .int .i64 a_), (2, .int .i64 b_), (3, cmp), (8, .int .i64 i), (9, .int .i64 j), (34, .bool false)] ?_
         exact ⟨[(0, sv_ data), (1, Value.int .i64 a_), (2, Value.int .i64 b_), (3, cmp), (8, Value.int .i64 i), (9, Value.int .i64 j), (34, Value.bool false)], Sub.mk (by kernel_rfl), false, rfl, h⟩
     · rintro _ w3 ⟨t34, rfl, h⟩
       unfold F_slices_insertionSortCmpFunc_api_Entry_k2 at h
       refine Zc 34 t34 c136_24 c136_25 (fun hb => ?_) (fun hb => ?_)
       · replace h := h.1 hb
         refine wpE_skip (by kernel_rfl) ?_
         change WpE _ _ c136_26 _ _ _
         refine Zs c136_27 c136_30 ?_
         refine Zb 3 c136_28 ?_
         refine wpE_mixregion (id := 6) (ops := r136_28) o_slices_insertionSortCmpFunc_api_Entry_28 (by kernel_rfl) (by kernel_rfl) (by kernel_rfl) (by kernel_rfl) (fun w4 hw => ?_)
         replace h := h w4 hw
         clear hw
         refine mreg_run [.plain, .plain, .plain, .plain, .plain, .plain, .plain, .plain] 8 [(0, [], sv_ data), (1, [], Value.int .i64 a_), (2, [], Value.int .i64 b_), (3, [], cmp), (8, [], Value.int .i64 i), (9, [], Value.int .i64 j), (37, [], sv_ data), (38, [], Value.int .i64 j), (39, [], sv_ data), (41, [], Value.int .i64 (IntKind.i64.wrap (j - 1))), (42, [], sv_ data), (44, [], Value.int .i64 (IntKind.i64.wrap (j - 1)))] (by kernel_rfl) (by kernel_rfl) ?_
         obtain ⟨hp_26, h⟩ := h
         refine mreg_conv [(0, [], sv_ data), (1, [], Value.int .i64 a_), (2, [], Value.int .i64 b_), (3, [], cmp), (8, [], Value.int .i64 i), (9, [], Value.int .i64 j), (37, [], sv_ data), (38, [], Value.int .i64 j), (39, [], sv_ data), (41, [], Value.int .i64 (IntKind.i64.wrap (j - 1))), (42, [], Value.slice (some ⟨(pblk data.ptr), (poff data.ptr), none⟩) data.len data.cap), (44, [], Value.int .i64 (IntKind.i64.wrap (j - 1)))] (congrArg (fun pp => ([(0, [], sv_ data), (1, [], Value.int .i64 a_), (2, [], Value.int .i64 b_), (3, [], cmp), (8, [], Value.int .i64 i), (9, [], Value.int .i64 j), (37, [], sv_ data), (38, [], Value.int .i64 j), (39, [], sv_ data), (41, [], Value.int .i64 (IntKind.i64.wrap (j - 1))), (42, [], Value.slice pp data.len data.cap), (44, [], Value.int .i64 (IntKind.i64.wrap (j - 1)))] : GEnv)) hp_26) ?_
         obtain ⟨h0, h1, h⟩ := h
         refine mreg_indexS (i := 8) (by kernel_rfl) (t := 92) (e := 140) (x := (Operand.tmp 42)) (ix := (Operand.tmp 44)) (b := (pblk data.ptr)) (o := (poff data.ptr)) (l := data.len) (c := data.cap) (k := .i64) (j := (IntKind.i64.wrap (j - 1))) (ty := 0) (dst := some 45) (sz := 2) (by kernel_rfl) (by kernel_rfl) (by kernel_rfl) (by kernel_rfl) (by kernel_rfl) h0 h1 ?_
         refine mreg_run [] 9 [(0, [], sv_ data), (1, [], Value.int .i64 a_), (2, [], Value.int .i64 b_), (3, [], cmp), (8, [], Value.int .i64 i), (9, [], Value.int .i64 j), (37, [], sv_ data), (38, [], Value.int .i64 j), (39, [], sv_ data), (41, [], Value.int .i64 (IntKind.i64.wrap (j - 1))), (45, [], Value.pointer (some ⟨(pblk data.ptr), (poff data.ptr) + (IntKind.i64.wrap (j - 1)).toNat * 2, none⟩))] (by kernel_rfl) (by kernel_rfl) ?_
         obtain ⟨v46, hc, h⟩ := h
         refine mreg_loadN (i := 9) (by kernel_rfl) (t := 140) (a := (Operand.tmp 45)) (b := (pblk data.ptr)) (o := ((poff data.ptr) + (IntKind.i64.wrap (j - 1)).toNat * 2)) (ty := 140) (dst := some 46) [Value.string v46.Key, Value.string v46.Val] (by kernel_rfl) (by kernel_rfl) (by kernel_rfl) (k := 2) (by kernel_rfl) (by kernel_rfl) hc ?_
         refine mreg_run P2 12 [(0, [], sv_ data), (1, [], Value.int .i64 a_), (2, [], Value.int .i64 b_), (3, [], cmp), (8, [], Value.int .i64 i), (9, [], Value.int .i64 j), (37, [], sv_ data), (38, [], Value.int .i64 j), (39, [], sv_ data), (41, [], Value.int .i64 (IntKind.i64.wrap (j - 1))), (46, [], Value.agg #[Value.string v46.Key, Value.string v46.Val]), (47, [], sv_ data), (48, [], Value.int .i64 j)] (by kernel_rfl) (by kernel_rfl) ?_
         obtain ⟨hp_27, h⟩ := h
         refine mreg_conv [(0, [], sv_ data), (1, [], Value.int .i64 a_), (2, [], Value.int .i64 b_), (3, [], cmp), (8, [], Value.int .i64 i), (9, [], Value.int .i64 j), (37, [], sv_ data), (38, [], Value.int .i64 j), (39, [], sv_ data), (41, [], Value.int .i64 (IntKind.i64.wrap (j - 1))), (46, [], Value.agg #[Value.string v46.Key, Value.string v46.Val]), (47, [], Value.slice (some ⟨(pblk data.ptr), (poff data.ptr), none⟩) data.len data.cap), (48, [], Value.int .i64 j)] (congrArg (fun pp => ([(0, [], sv_ data), (1, [], Value.int .i64 a_), (2, [], Value.int .i64 b_), (3, [], cmp), (8, [], Value.int .i64 i), (9, [], Value.int .i64 j), (37, [], sv_ data), (38, [], Value.int .i64 j), (39, [], sv_ data), (41, [], Value.int .i64 (IntKind.i64.wrap (j - 1))), (46, [], Value.agg #[Value.string v46.Key, Value.string v46.Val]), (47, [], Value.slice pp data.len data.cap), (48, [], Value.int .i64 j)] : GEnv)) hp_27) ?_
         obtain ⟨h0, h1, h⟩ := h
         refine mreg_indexS (i := 12) (by kernel_rfl) (t := 92) (e := 140) (x := (Operand.tmp 47)) (ix := (Operand.tmp 48)) (b := (pblk data.ptr)) (o := (poff data.ptr)) (l := data.len) (c := data.cap) (k := .i64) (j := j) (ty := 0) (dst := some 49) (sz := 2) (by kernel_rfl) (by kernel_rfl) (by kernel_rfl) (by kernel_rfl) (by kernel_rfl) h0 h1 ?_
         refine mreg_run [] 13 [(0, [], sv_ data), (1, [], Value.int .i64 a_), (2, [], Value.int .i64 b_), (3, [], cmp), (8, [], Value.int .i64 i), (9, [], Value.int .i64 j), (37, [], sv_ data), (38, [], Value.int .i64 j), (39, [], sv_ data), (41, [], Value.int .i64 (IntKind.i64.wrap (j - 1))), (46, [], Value.agg #[Value.string v46.Key, Value.string v46.Val]), (49, [], Value.pointer (some ⟨(pblk data.ptr), (poff data.ptr) + j.toNat * 2, none⟩))] (by kernel_rfl) (by kernel_rfl) ?_
         obtain ⟨v50, hc, h⟩ := h
         refine mreg_loadN (i := 13) (by kernel_rfl) (t := 140) (a := (Operand.tmp 49)) (b := (pblk data.ptr)) (o := ((poff data.ptr) + j.toNat * 2)) (ty := 140) (dst := some 50) [Value.string v50.Key, Value.string v50.Val] (by kernel_rfl) (by kernel_rfl) (by kernel_rfl) (k := 2) (by kernel_rfl) (by kernel_rfl) hc ?_
         refine mreg_run [] 14 [(0, [], sv_ data), (1, [], Value.int .i64 a_), (2, [], Value.int .i64 b_), (3, [], cmp), (8, [], Value.int .i64 i), (9, [], Value.int .i64 j), (37, [], sv_ data), (38, [], Value.int .i64 j), (39, [], sv_ data), (41, [], Value.int .i64 (IntKind.i64.wrap (j - 1))), (46, [], Value.agg #[Value.string v46.Key, Value.string v46.Val]), (50, [], Value.agg #[Value.string v50.Key, Value.string v50.Val])] (by kernel_rfl) (by kernel_rfl) ?_
         obtain ⟨hp_28, h⟩ := h
         refine mreg_conv [(0, [], sv_ data), (1, [], Value.int .i64 a_), (2, [], Value.int .i64 b_), (3, [], cmp), (8, [], Value.int .i64 i), (9, [], Value.int .i64 j), (37, [], Value.slice (some ⟨(pblk data.ptr), (poff data.ptr), none⟩) data.len data.cap), (38, [], Value.int .i64 j), (39, [], sv_ data), (41, [], Value.int .i64 (IntKind.i64.wrap (j - 1))), (46, [], Value.agg #[Value.string v46.Key, Value.string v46.Val]), (50, [], Value.agg #[Value.string v50.Key, Value.string v50.Val])] (congrArg (fun pp => ([(0, [], sv_ data), (1, [], Value.int .i64 a_), (2, [], Value.int .i64 b_), (3, [], cmp), (8, [], Value.int .i64 i), (9, [], Value.int .i64 j), (37, [], Value.slice pp data.len data.cap), (38, [], Value.int .i64 j), (39, [], sv_ data), (41, [], Value.int .i64 (IntKind.i64.wrap (j - 1))), (46, [], Value.agg #[Value.string v46.Key, Value.string v46.Val]), (50, [], Value.agg #[Value.string v50.Key, Value.string v50.Val])] : GEnv)) hp_28) ?_
         obtain ⟨h0, h1, h⟩ := h
         refine mreg_indexS (i := 14) (by kernel_rfl) (t := 92) (e := 140) (x := (Operand.tmp 37)) (ix := (Operand.tmp 38)) (b := (pblk data.ptr)) (o := (poff data.ptr)) (l := data.len) (c := data.cap) (k := .i64) (j := j) (ty := 0) (dst := some 51) (sz := 2) (by kernel_rfl) (by kernel_rfl) (by kernel_rfl) (by kernel_rfl) (by kernel_rfl) h0 h1 ?_
         refine mreg_run [] 15 [(0, [], sv_ data), (1, [], Value.int .i64 a_), (2, [], Value.int .i64 b_), (3, [], cmp), (8, [], Value.int .i64 i), (9, [], Value.int .i64 j), (39, [], sv_ data), (41, [], Value.int .i64 (IntKind.i64.wrap (j - 1))), (46, [], Value.agg #[Value.string v46.Key, Value.string v46.Val]), (50, [], Value.agg #[Value.string v50.Key, Value.string v50.Val]), (51, [], Value.pointer (some ⟨(pblk data.ptr), (poff data.ptr) + j.toNat * 2, none⟩))] (by kernel_rfl) (by kernel_rfl) ?_
         obtain ⟨hc, h⟩ := h
         refine mreg_store (t := 140) (a := (Operand.tmp 51)) (x := (Operand.tmp 46)) (b := (pblk data.ptr)) (o := ((poff data.ptr) + j.toNat * 2)) (k := 2) (ty := 0) (dst := none) 15 [0, 1, 5, 6, 7, 8, 9, 13, 14, 12, 10, 11] [] [Value.string v46.Key, Value.string v46.Val] (by kernel_rfl) (by kernel_rfl) (by kernel_rfl) (by kernel_rfl) (by kernel_rfl) (by kernel_rfl) (by kernel_rfl) (by kernel_rfl) (by kernel_rfl) (by kernel_rfl) hc (fun w5 hw => ?_)
         replace h := h w5 hw
         clear hw
         refine ⟨trivial, ?_⟩
         refine mreg_run [] 16 [(0, [], sv_ data), (1, [], Value.int .i64 a_), (2, [], Value.int .i64 b_), (3, [], cmp), (8, [], Value.int .i64 i), (9, [], Value.int .i64 j), (39, [], sv_ data), (41, [], Value.int .i64 (IntKind.i64.wrap (j - 1))), (50, [], Value.agg #[Value.string v50.Key, Value.string v50.Val])] (by kernel_rfl) (by kernel_rfl) ?_
         obtain ⟨hp_29, h⟩ := h
         refine mreg_conv [(0, [], sv_ data), (1, [], Value.int .i64 a_), (2, [], Value.int .i64 b_), (3, [], cmp), (8, [], Value.int .i64 i), (9, [], Value.int .i64 j), (39, [], Value.slice (some ⟨(pblk data.ptr), (poff data.ptr), none⟩) data.len data.cap), (41, [], Value.int .i64 (IntKind.i64.wrap (j - 1))), (50, [], Value.agg #[Value.string v50.Key, Value.string v50.Val])] (congrArg (fun pp => ([(0, [], sv_ data), (1, [], Value.int .i64 a_), (2, [], Value.int .i64 b_), (3, [], cmp), (8, [], Value.int .i64 i), (9, [], Value.int .i64 j), (39, [], Value.slice pp data.len data.cap), (41, [], Value.int .i64 (IntKind.i64.wrap (j - 1))), (50, [], Value.agg #[Value.string v50.Key, Value.string v50.Val])] : GEnv)) hp_29) ?_
         obtain ⟨h0, h1, h⟩ := h
         refine mreg_indexS (i := 16) (by kernel_rfl) (t := 92) (e := 140) (x := (Operand.tmp 39)) (ix := (Operand.tmp 41)) (b := (pblk data.ptr)) (o := (poff data.ptr)) (l := data.len) (c := data.cap) (k := .i64) (j := (IntKind.i64.wrap (j - 1))) (ty := 0) (dst := some 52) (sz := 2) (by kernel_rfl) (by kernel_rfl) (by kernel_rfl) (by kernel_rfl) (by kernel_rfl) h0 h1 ?_
         refine mreg_run [] 17 [(0, [], sv_ data), (1, [], Value.int .i64 a_), (2, [], Value.int .i64 b_), (3, [], cmp), (8, [], Value.int .i64 i), (9, [], Value.int .i64 j), (50, [], Value.agg #[Value.string v50.Key, Value.string v50.Val]), (52, [], Value.pointer (some ⟨(pblk data.ptr), (poff data.ptr) + (IntKind.i64.wrap (j - 1)).toNat * 2, none⟩))] (by kernel_rfl) (by kernel_rfl) ?_
         obtain ⟨hc, h⟩ := h
         refine mreg_store (t := 140) (a := (Operand.tmp 52)) (x := (Operand.tmp 50)) (b := (pblk data.ptr)) (o := ((poff data.ptr) + (IntKind.i64.wrap (j - 1)).toNat * 2)) (k := 2) (ty := 0) (dst := none) 17 [0, 1, 2, 3, 4, 5, 6, 7, 8, 9, 10, 11, 12, 13, 14, 15, 16] [] [Value.string v50.Key, Value.string v50.Val] (by kernel_rfl) (by kernel_rfl) (by kernel_rfl) (by kernel_rfl) (by kernel_rfl) (by kernel_rfl) (by kernel_rfl) (by kernel_rfl) (by kernel_rfl) (by kernel_rfl) hc (fun w6 hw => ?_)
         replace h := h w6 hw
         clear hw
         refine ⟨trivial, ?_⟩
         refine mreg_end [(0, sv_ data), (1, Value.int .i64 a_), (2, Value.int .i64 b_), (3, cmp), (8, Value.int .i64 i), (9, Value.int .i64 j)] (by kernel_rfl) (by kernel_rfl) (by kernel_rfl) ?_
         change WpE _ _ c136_30 _ _ _
         refine Zr r136_30 ?_
         refine Zf P3 [(0, sv_ data), (1, .int .i64 a_), (2, .int .i64 b_), (3, cmp), (8, .int .i64 i), (9, .int .i64 (IntKind.i64.wrap (j - 1)))] ?_
         have hb_ := again_1_h _ _ h
         exact ⟨_, hb_.2, [(0, sv_ data), (1, Value.int .i64 a_), (2, Value.int .i64 b_), (3, cmp), (8, Value.int .i64 i), (9, Value.int .i64 (IntKind.i64.wrap (j - 1)))], Sub.mk (by kernel_rfl), (IntKind.i64.wrap (j - 1)), rfl, hb_.1, rfl⟩
       · replace h := h.2 hb
         refine wpE_exit (id := 2) (by kernel_rfl) ?_
         change WpE _ _ c136_32 _ _ _
         refine Zr r136_32 ?_
         refine Zf P3 [(0, sv_ data), (1, .int .i64 a_), (2, .int .i64 b_), (3, cmp), (8, .int .i64 (IntKind.i64.wrap (i + 1)))] ?_
         have hb_ := again__h _ _ h
         exact ⟨_, hb_.2, [(0, sv_ data), (1, Value.int .i64 a_), (2, Value.int .i64 b_), (3, cmp), (8, Value.int .i64 (IntKind.i64.wrap (i + 1)))], Sub.mk (by kernel_rfl), (IntKind.i64.wrap (i + 1)), rfl, hb_.1, rfl⟩
   · replace h := h.2 hb
     refine wpE_exit (id := 0) (by kernel_rfl) ?_
     repeat (first | refine seqQ_exit ?_ | refine loopQ_exit ?_ | refine cutQ_exit ?_ | refine blockQ_hit ?_ | refine blockQ_miss (by kernel_rfl) ?_)
     refine retQ_normal ?_
     repeat (first | refine seqQ_ret ?_ | refine blockQ_ret ?_ | refine loopQ_ret ?_ | refine cutQ_ret ?_)
     exact retT (rs := []) (vs := []) (by kernel_rfl) (trivial) (by kernel_rfl) ⟨rfl, h⟩
 · rintro e w' ⟨v, rfl, rfl, h⟩; exact ⟨rfl, h⟩
end
end Go.Proofs.Ytpedclhflmhakaa
