/- WRITTEN BY PROGRAM (dec.py): for each Go function the clean formula F, the call's contract C, and the proof S that F gives C. -/
import Derived.Test.YtpedclhflmhakaaGreatDoorRows
import Derived.Test.YtpedclhflmhakaaGreatDoorGF
namespace Go.Proofs.YtpedclhflmhakaaGreatDoor
open Go
set_option linter.unusedVariables false
set_option maxRecDepth 100000
set_option maxHeartbeats 4000000
noncomputable section

/-! ### slices.Clone[[]int,int] (function 74) -/

theorem S_slices_Clone_int_int {s : Slc} {w : World} {R : Slc → World → Prop} (h : F_slices_Clone_int_int s R w) : C_slices_Clone_int_int s w R := by
 unfold F_slices_Clone_int_int at h
 refine Yh Tryz.func74 ?_
 · refine Yp P1 [0] ?_
   refine Ys ?_
   refine Yt ?_
   refine Yn P1 ?_
   refine reg_val (op := (Op.binOp BinOp.eql 67 (Operand.tmp 3) (Operand.const (Value.slice none 0 0)) 67)) (ty := 4) (dst := some 4) (Value.bool s.ptr.isNone) (by kernel_rfl) (fun ww => run_slice_eql_R (p := s.ptr) (l := s.len) (c := s.cap) (by kernel_rfl) (by kernel_rfl) (by kernel_rfl) ww) ?_
   refine Yf [] [0, 4] ?_
   refine Yc h (fun h => ?_) fun h => ?_
   · refine Yp P1 [2] ?_
     exact YS ⟨(Slc.mk none 0 0), rfl, h⟩
   · refine Yskip ?_
     refine Yt ?_
     refine Yw (sl_ 0 0) h fun b_ w1 h => ?_
     refine Yn P1 ?_
     obtain ⟨src, hs, h⟩ := h
     refine reg_append (t := 67) (tx := 67) (e := 3) (a := (Operand.tmp 5)) (xo := (Operand.tmp 6)) (s := (Slc.mk (some ⟨b_, 0, none⟩) 0 0)) (x := s) (sz := 1) (by_ := 8) (zs := [Value.int .i64 0]) (ty := 67) (dst := some 7)  src (by kernel_rfl) (by kernel_rfl) (by kernel_rfl) (by kernel_rfl) (by kernel_rfl) (by kernel_rfl) (by kernel_rfl) (by kernel_rfl) (by kernel_rfl) hs (AppendW.mono h (fun v7 w2 h => ?_))
     refine Yf P1 [2] ?_
     exact YS ⟨v7, rfl, h⟩

/-! ### slices.Clone[[]towpath/api.Version,towpath/api.Version] (function 75) -/

theorem S_slices_Clone_api_Version_api_Version {s : Slc} {w : World} {R : Slc → World → Prop} (h : F_slices_Clone_api_Version_api_Version s R w) : C_slices_Clone_api_Version_api_Version s w R := by
 unfold F_slices_Clone_api_Version_api_Version at h
 refine Yh Tryz.func75 ?_
 · refine Yp P1 [0] ?_
   refine Ys ?_
   refine Yt ?_
   refine Yn P1 ?_
   refine reg_val (op := (Op.binOp BinOp.eql 123 (Operand.tmp 3) (Operand.const (Value.slice none 0 0)) 123)) (ty := 4) (dst := some 4) (Value.bool s.ptr.isNone) (by kernel_rfl) (fun ww => run_slice_eql_R (p := s.ptr) (l := s.len) (c := s.cap) (by kernel_rfl) (by kernel_rfl) (by kernel_rfl) ww) ?_
   refine Yf [] [0, 4] ?_
   refine Yc h (fun h => ?_) fun h => ?_
   · refine Yp P1 [2] ?_
     exact YS ⟨(Slc.mk none 0 0), rfl, h⟩
   · refine Yskip ?_
     refine Yt ?_
     refine Yw (sl_ 0 0) h fun b_ w1 h => ?_
     refine Yn P1 ?_
     obtain ⟨src, hs, h⟩ := h
     refine reg_append (t := 123) (tx := 123) (e := 128) (a := (Operand.tmp 5)) (xo := (Operand.tmp 6)) (s := (Slc.mk (some ⟨b_, 0, none⟩) 0 0)) (x := s) (sz := 3) (by_ := 32) (zs := [Value.int .i64 0, Value.string ByteArray.empty, Value.bool false]) (ty := 123) (dst := some 7)  src (by kernel_rfl) (by kernel_rfl) (by kernel_rfl) (by kernel_rfl) (by kernel_rfl) (by kernel_rfl) (by kernel_rfl) (by kernel_rfl) (by kernel_rfl) hs (AppendW.mono h (fun v7 w2 h => ?_))
     refine Yf P1 [2] ?_
     exact YS ⟨v7, rfl, h⟩

/-! ### slices.Clone[[]towpath/api.Entry,towpath/api.Entry] (function 76) -/

theorem S_slices_Clone_api_Entry_api_Entry {s : Slc} {w : World} {R : Slc → World → Prop} (h : F_slices_Clone_api_Entry_api_Entry s R w) : C_slices_Clone_api_Entry_api_Entry s w R := by
 unfold F_slices_Clone_api_Entry_api_Entry at h
 refine Yh Tryz.func76 ?_
 · refine Yp P1 [0] ?_
   refine Ys ?_
   refine Yt ?_
   refine Yn P1 ?_
   refine reg_val (op := (Op.binOp BinOp.eql 68 (Operand.tmp 3) (Operand.const (Value.slice none 0 0)) 68)) (ty := 4) (dst := some 4) (Value.bool s.ptr.isNone) (by kernel_rfl) (fun ww => run_slice_eql_R (p := s.ptr) (l := s.len) (c := s.cap) (by kernel_rfl) (by kernel_rfl) (by kernel_rfl) ww) ?_
   refine Yf [] [0, 4] ?_
   refine Yc h (fun h => ?_) fun h => ?_
   · refine Yp P1 [2] ?_
     exact YS ⟨(Slc.mk none 0 0), rfl, h⟩
   · refine Yskip ?_
     refine Yt ?_
     refine Yw (sl_ 0 0) h fun b_ w1 h => ?_
     refine Yn P1 ?_
     obtain ⟨src, hs, h⟩ := h
     refine reg_append (t := 68) (tx := 68) (e := 131) (a := (Operand.tmp 5)) (xo := (Operand.tmp 6)) (s := (Slc.mk (some ⟨b_, 0, none⟩) 0 0)) (x := s) (sz := 2) (by_ := 32) (zs := [Value.string ByteArray.empty, Value.string ByteArray.empty]) (ty := 68) (dst := some 7)  src (by kernel_rfl) (by kernel_rfl) (by kernel_rfl) (by kernel_rfl) (by kernel_rfl) (by kernel_rfl) (by kernel_rfl) (by kernel_rfl) (by kernel_rfl) hs (AppendW.mono h (fun v7 w2 h => ?_))
     refine Yf P1 [2] ?_
     exact YS ⟨v7, rfl, h⟩

/-! ### slices.SortStableFunc[[]towpath/api.Held,towpath/api.Held] (function 81) -/

theorem S_slices_SortStableFunc_api_Held_api_Held {x : Slc} {cmp : Value} {w : World} {R : World → Prop} (h : F_slices_SortStableFunc_api_Held_api_Held x cmp R w) : C_slices_SortStableFunc_api_Held_api_Held x cmp w R := by
 unfold F_slices_SortStableFunc_api_Held_api_Held at h
 refine Yh Tryz.func81 ?_
 · refine Yr ?_
   refine Yn P4 ?_
   refine Ym0 h fun w1 h => ?_
   refine Yf [] [] ?_
   repeat (first | refine seqQ_exit ?_ | refine loopQ_exit ?_ | refine cutQ_exit ?_ | refine blockQ_hit ?_ | refine blockQ_miss (by kernel_rfl) ?_)
   refine retQ_normal ?_
   repeat (first | refine seqQ_ret ?_ | refine blockQ_ret ?_ | refine loopQ_ret ?_ | refine cutQ_ret ?_)
   exact retT (rs := []) (vs := []) (by kernel_rfl) (trivial) (by kernel_rfl) ⟨rfl, h⟩

/-! ### slices.Concat[[]towpath/api.Entry,towpath/api.Entry] (function 116) -/

theorem S_slices_Concat_api_Entry_api_Entry {slices : Slc} {w : World} {R : Slc → World → Prop} (h : F_slices_Concat_api_Entry_api_Entry slices R w) : C_slices_Concat_api_Entry_api_Entry slices w R := by
 unfold F_slices_Concat_api_Entry_api_Entry at h
 refine Yh Tryz.func116 ?_
 · refine Yp P1 [0] ?_
   refine Yp P1 [0, 3] ?_
   refine Ys ?_
   refine Yp P3 [0, 3, 9, 10, 11] ?_
   refine Yd 0 ?_
   obtain ⟨I, μ, h0, hr⟩ := h
   refine Yloop (fun m l w => ∃ (size : Int) (t11 : Int), l = [(0, sv_ slices), (3, Value.int .i64 size), (9, sv_ slices), (10, Value.int .i64 ((slices.len : Nat) : Int)), (11, Value.int .i64 t11)] ∧ I size t11 w ∧ μ size t11 w = m) ⟨0, 0, rfl, h0, rfl⟩ ?_
   rintro _ _ w1 ⟨size, t11, rfl, hI, rfl⟩
   obtain ⟨again_, again__h, h⟩ : ∃ again_ : Int → Int → World → Prop, (∀ size' t11' w', again_ size' t11' w' → I size' t11' w' ∧ μ size' t11' w' < μ size t11 w1) ∧ F_slices_Concat_api_Entry_api_Entry_L0 slices R again_ size t11 w1 := ⟨_, fun _ _ _ h => h, hr size t11 w1 hI⟩
   clear h0 hI
   unfold F_slices_Concat_api_Entry_api_Entry_L0 at h
   refine Yp P1 [0, 3, 9, 10, 11, 12] ?_
   refine Ys ?_
   refine Yc h (fun h => ?_) fun h => ?_
   · refine Yskip ?_
     refine Ys ?_
     refine Yd 1 ?_
     refine Yt ?_
     obtain ⟨hp_7, h⟩ := h
     refine Yu 9 (fun pp => .slice pp slices.len slices.cap) hp_7 ?_
     refine Yi1 h fun h => ?_
     refine Yl h fun s h => ?_
     refine Yn P1 ?_
     refine Yu 9 (fun pp => .slice pp slices.len slices.cap) hp_7.symm ?_
     refine Yf [] [0, 3, 5, 9, 10, 11] ?_
     refine Yp (Pl 5) [0, 3, 9, 10, 11] ?_
     refine Yp P2 [0, 3, 9, 10, 11, 20] ?_
     refine Yc h (fun h => ?_) fun h => ?_
     · refine Yr ?_
       refine Yn P1 ?_
       exact h.elim
     · refine Yskip ?_
       refine Yr ?_
       refine Yf P2 [0, 3, 9, 10, 11] ?_
       have hb_ := again__h _ _ _ h
       exact ⟨_, hb_.2, _, Sub.mk (by kernel_rfl), (IntKind.i64.wrap (size + ((s.len : Nat) : Int))), (IntKind.i64.wrap (t11 + 1)), rfl, hb_.1, rfl⟩
   · refine Yexit 0 ?_
     refine Yt ?_
     refine Yn P1 ?_
     refine Ym1 h fun v24 w2 h => ?_
     refine Yf P1 [0, 6] ?_
     refine Ys ?_
     refine Yp P3 [6, 25, 26, 27] ?_
     refine Yd 2 ?_
     obtain ⟨I, μ, h0, hr⟩ := h
     refine Yloop (fun m l w => ∃ (newslice : Slc) (t27 : Int), l = [(6, sv_ newslice), (25, sv_ slices), (26, Value.int .i64 ((slices.len : Nat) : Int)), (27, Value.int .i64 t27)] ∧ I newslice t27 w ∧ μ newslice t27 w = m) ⟨v24, 0, rfl, h0, rfl⟩ ?_
     rintro _ _ w3 ⟨newslice, t27, rfl, hI, rfl⟩
     obtain ⟨again_1, again_1_h, h⟩ : ∃ again_1 : Slc → Int → World → Prop, (∀ newslice' t27' w', again_1 newslice' t27' w' → I newslice' t27' w' ∧ μ newslice' t27' w' < μ newslice t27 w3) ∧ F_slices_Concat_api_Entry_api_Entry_L1 slices R again_1 newslice t27 w3 := ⟨_, fun _ _ _ h => h, hr newslice t27 w3 hI⟩
     clear h0 hI
     unfold F_slices_Concat_api_Entry_api_Entry_L1 at h
     refine Yp P1 [6, 25, 26, 27, 28] ?_
     refine Ys ?_
     refine Yc h (fun h => ?_) fun h => ?_
     · refine Yskip ?_
       refine Ys ?_
       refine Yd 3 ?_
       refine Yt ?_
       obtain ⟨hp_15, h⟩ := h
       refine Yu 25 (fun pp => .slice pp slices.len slices.cap) hp_15 ?_
       refine Yi1 h fun h => ?_
       refine Yl h fun s1 h => ?_
       refine Yn P1 ?_
       refine Yu 25 (fun pp => .slice pp slices.len slices.cap) hp_15.symm ?_
       refine Yf [] [6, 8, 25, 26, 27] ?_
       refine Yr ?_
       refine Yn P2 ?_
       obtain ⟨src, hs, h⟩ := h
       refine reg_append (t := 68) (tx := 68) (e := 131) (a := (Operand.tmp 31)) (xo := (Operand.tmp 32)) (s := newslice) (x := s1) (sz := 2) (by_ := 32) (zs := [Value.string ByteArray.empty, Value.string ByteArray.empty]) (ty := 68) (dst := some 33)  src (by kernel_rfl) (by kernel_rfl) (by kernel_rfl) (by kernel_rfl) (by kernel_rfl) (by kernel_rfl) (by kernel_rfl) (by kernel_rfl) (by kernel_rfl) hs (AppendW.mono h (fun newslice1 w4 h => ?_))
       refine Yf P1 [6, 25, 26, 27] ?_
       refine Yr ?_
       refine Yf P2 [6, 25, 26, 27] ?_
       have hb_ := again_1_h _ _ _ h
       exact ⟨_, hb_.2, _, Sub.mk (by kernel_rfl), newslice1, (IntKind.i64.wrap (t27 + 1)), rfl, hb_.1, rfl⟩
     · refine Yexit 2 ?_
       refine Yp P2 [2] ?_
       exact YS ⟨newslice, rfl, h⟩

/-! ### slices.SortStableFunc[[]towpath/api.Entry,towpath/api.Entry] (function 117) -/

theorem S_slices_SortStableFunc_api_Entry_api_Entry {x : Slc} {cmp : Value} {w : World} {R : World → Prop} (h : F_slices_SortStableFunc_api_Entry_api_Entry x cmp R w) : C_slices_SortStableFunc_api_Entry_api_Entry x cmp w R := by
 unfold F_slices_SortStableFunc_api_Entry_api_Entry at h
 refine Yh Tryz.func117 ?_
 · refine Yr ?_
   refine Yn P4 ?_
   refine Ym0 h fun w1 h => ?_
   refine Yf [] [] ?_
   repeat (first | refine seqQ_exit ?_ | refine loopQ_exit ?_ | refine cutQ_exit ?_ | refine blockQ_hit ?_ | refine blockQ_miss (by kernel_rfl) ?_)
   refine retQ_normal ?_
   repeat (first | refine seqQ_ret ?_ | refine blockQ_ret ?_ | refine loopQ_ret ?_ | refine cutQ_ret ?_)
   exact retT (rs := []) (vs := []) (by kernel_rfl) (trivial) (by kernel_rfl) ⟨rfl, h⟩

/-! ### slices.stableCmpFunc[towpath/api.Held] (function 119) -/

theorem S_slices_stableCmpFunc_api_Held {data : Slc} {n_ : Int} {cmp : Value} {w : World} {R : World → Prop} (h : F_slices_stableCmpFunc_api_Held data n_ cmp R w) : C_slices_stableCmpFunc_api_Held data n_ cmp w R := by
 unfold F_slices_stableCmpFunc_api_Held at h
 refine Yh Tryz.func119 ?_
 · refine Yp P1 [0, 1, 2, 6] ?_
   refine Yp P3 [0, 1, 2, 6, 7, 8] ?_
   refine Ys ?_
   refine Yd 0 ?_
   obtain ⟨I, μ, h0, hr⟩ := h
   refine Yloop (fun m l w => ∃ (a_ : Int) (b_ : Int), l = [(0, sv_ data), (1, Value.int .i64 n_), (2, cmp), (6, Value.int .i64 20), (7, Value.int .i64 a_), (8, Value.int .i64 b_)] ∧ I a_ b_ w ∧ μ a_ b_ w = m) ⟨0, 20, rfl, h0, rfl⟩ ?_
   rintro _ _ w1 ⟨a_, b_, rfl, hI, rfl⟩
   obtain ⟨again_, again__h, h⟩ : ∃ again_ : Int → Int → World → Prop, (∀ a_' b_' w', again_ a_' b_' w' → I a_' b_' w' ∧ μ a_' b_' w' < μ a_ b_ w1) ∧ F_slices_stableCmpFunc_api_Held_L0 data n_ cmp R again_ a_ b_ w1 := ⟨_, fun _ _ _ h => h, hr a_ b_ w1 hI⟩
   clear h0 hI
   unfold F_slices_stableCmpFunc_api_Held_L0 at h
   refine Ys ?_
   refine Yp P3 [0, 1, 2, 6, 7, 8, 13] ?_
   refine Yc h (fun h => ?_) fun h => ?_
   · refine Yskip ?_
     refine Yd 1 ?_
     refine Yt ?_
     refine Yn P4 ?_
     refine Ym0 h fun w2 h => ?_
     refine Yf [] [0, 1, 2, 6, 8] ?_
     refine Yp P2 [0, 1, 2, 6, 7, 8] ?_
     refine Yr ?_
     refine Yf P4 [0, 1, 2, 6, 7, 8] ?_
     have hb_ := again__h _ _ _ h
     exact ⟨_, hb_.2, _, Sub.mk (by kernel_rfl), b_, (IntKind.i64.wrap (b_ + 20)), rfl, hb_.1, rfl⟩
   · refine Yexit 0 ?_
     refine Yt ?_
     refine Yn P4 ?_
     refine Ym0 h fun w3 h => ?_
     refine Yf [] [0, 1, 2, 6] ?_
     refine Yd 2 ?_
     obtain ⟨I, μ, h0, hr⟩ := h
     refine Yloop (fun m l w => ∃ (blockSize : Int), l = [(0, sv_ data), (1, Value.int .i64 n_), (2, cmp), (6, Value.int .i64 blockSize)] ∧ I blockSize w ∧ μ blockSize w = m) ⟨20, rfl, h0, rfl⟩ ?_
     rintro _ _ w4 ⟨blockSize, rfl, hI, rfl⟩
     obtain ⟨again_1, again_1_h, h⟩ : ∃ again_1 : Int → World → Prop, (∀ blockSize' w', again_1 blockSize' w' → I blockSize' w' ∧ μ blockSize' w' < μ blockSize w4) ∧ F_slices_stableCmpFunc_api_Held_L1 data n_ cmp R again_1 blockSize w4 := ⟨_, fun _ _ h => h, hr blockSize w4 hI⟩
     clear h0 hI
     unfold F_slices_stableCmpFunc_api_Held_L1 at h
     refine Ys ?_
     refine Yp P3 [0, 1, 2, 6, 30] ?_
     refine Yc h (fun h => ?_) fun h => ?_
     · refine Yskip ?_
       refine Yd 3 ?_
       refine Yp P4 [0, 1, 2, 6, 7, 8] ?_
       refine Ys ?_
       refine Yd 4 ?_
       obtain ⟨I, μ, h0, hr⟩ := h
       refine Yloop (fun m l w => ∃ (a_1 : Int) (b_1 : Int), l = [(0, sv_ data), (1, Value.int .i64 n_), (2, cmp), (6, Value.int .i64 blockSize), (7, Value.int .i64 a_1), (8, Value.int .i64 b_1)] ∧ I a_1 b_1 w ∧ μ a_1 b_1 w = m) ⟨0, (IntKind.i64.wrap (2 * blockSize)), rfl, h0, rfl⟩ ?_
       rintro _ _ w5 ⟨a_1, b_1, rfl, hI, rfl⟩
       obtain ⟨again_2, again_2_h, h⟩ : ∃ again_2 : Int → Int → World → Prop, (∀ a_1' b_1' w', again_2 a_1' b_1' w' → I a_1' b_1' w' ∧ μ a_1' b_1' w' < μ a_1 b_1 w5) ∧ F_slices_stableCmpFunc_api_Held_L2 data n_ cmp blockSize again_1 again_2 a_1 b_1 w5 := ⟨_, fun _ _ _ h => h, hr a_1 b_1 w5 hI⟩
       clear h0 hI
       unfold F_slices_stableCmpFunc_api_Held_L2 at h
       refine Ys ?_
       refine Yp P3 [0, 1, 2, 6, 7, 8, 35] ?_
       refine Yc h (fun h => ?_) fun h => ?_
       · refine Yskip ?_
         refine Yd 5 ?_
         refine Yt ?_
         refine Yn (Pl 7) ?_
         refine Ym0 h fun w6 h => ?_
         refine Yf [] [0, 1, 2, 6, 8] ?_
         refine Yp P2 [0, 1, 2, 6, 7, 8] ?_
         refine Yr ?_
         refine Yf (Pl 5) [0, 1, 2, 6, 7, 8] ?_
         have hb_ := again_2_h _ _ _ h
         exact ⟨_, hb_.2, _, Sub.mk (by kernel_rfl), b_1, (IntKind.i64.wrap (b_1 + (IntKind.i64.wrap (2 * blockSize)))), rfl, hb_.1, rfl⟩
       · refine Yexit 4 ?_
         refine Ycut (fun l w => l = [(0, sv_ data), (1, Value.int .i64 n_), (2, cmp), (6, Value.int .i64 blockSize)] ∧ F_slices_stableCmpFunc_api_Held_k3 blockSize again_1 w) ?_ ?_
         · refine Yp P4 [0, 1, 2, 6, 7, 9] ?_
           refine Yp P3 [0, 1, 2, 6, 7, 9, 54] ?_
           refine Yc h (fun h => ?_) fun h => ?_
           · refine Yr ?_
             refine Yn (Pl 5) ?_
             refine Ym0 h fun w8 h => ?_
             refine Yf [] [0, 1, 2, 6] ?_
             exact ⟨_, Sub.mk (by kernel_rfl), rfl, h⟩
           · refine Yskip ?_
             exact ⟨_, Sub.mk (by kernel_rfl), rfl, h⟩
         · rintro _ w7 ⟨rfl, h⟩
           unfold F_slices_stableCmpFunc_api_Held_k3 at h
           refine Yr ?_
           refine Yf P3 [0, 1, 2, 6] ?_
           have hb_ := again_1_h _ _ h
           exact ⟨_, hb_.2, _, Sub.mk (by kernel_rfl), (IntKind.i64.wrap (blockSize * 2)), rfl, hb_.1, rfl⟩
     · refine Yexit 2 ?_
       repeat (first | refine seqQ_exit ?_ | refine loopQ_exit ?_ | refine cutQ_exit ?_ | refine blockQ_hit ?_ | refine blockQ_miss (by kernel_rfl) ?_)
       refine retQ_normal ?_
       repeat (first | refine seqQ_ret ?_ | refine blockQ_ret ?_ | refine loopQ_ret ?_ | refine cutQ_ret ?_)
       exact retT (rs := []) (vs := []) (by kernel_rfl) (trivial) (by kernel_rfl) ⟨rfl, h⟩

/-! ### slices.Grow[[]towpath/api.Entry,towpath/api.Entry] (function 129) -/

theorem S_slices_Grow_api_Entry_api_Entry {s : Slc} {n_ : Int} {w : World} {R : Slc → World → Prop} (h : F_slices_Grow_api_Entry_api_Entry s n_ R w) : C_slices_Grow_api_Entry_api_Entry s n_ w R := by
 unfold F_slices_Grow_api_Entry_api_Entry at h
 refine Yh Tryz.func129 ?_
 · refine Yp P1 [0, 1] ?_
   refine Ys ?_
   refine Yp P2 [0, 1, 6] ?_
   refine Yc h (fun h => ?_) fun h => ?_
   · refine Yr ?_
     refine Yn P1 ?_
     exact h.elim
   · refine Yskip ?_
     refine Ycut (fun l w => ∃ (s1 : Slc), l = [(0, sv_ s1)] ∧ F_slices_Grow_api_Entry_api_Entry_k0 R s1 w) ?_ ?_
     · refine Yp (Pl 8) [0, 1] ?_
       refine Yp P2 [0, 1, 16] ?_
       refine Yc h (fun h => ?_) fun h => ?_
       · refine Yr ?_
         refine Yn P3 ?_
         obtain ⟨h0, h1, h⟩ := h
         refine reg_sliceHi (t := 68) (e := 131) (x := (Operand.tmp 17)) (hi := (Operand.tmp 19)) (p := s.ptr) (l := s.len) (c := s.cap) (sz := 2) (k := .i64) (j := ((s.cap : Nat) : Int)) (ty := 68) (dst := some 20) (by kernel_rfl) (by kernel_rfl) (by kernel_rfl) (by kernel_rfl) (by kernel_rfl) h0 h1 ?_
         refine Yn P1 ?_
         obtain ⟨h0, h1, h⟩ := h
         refine reg_appendZ (t := 68) (tx := 3) (e := 131) (a := (Operand.tmp 20)) (xo := (Operand.tmp 21)) (s := (Slc.mk s.ptr (((s.cap : Nat) : Int).toNat) s.cap)) (l := (IntKind.i64.wrap (n_ - (IntKind.i64.wrap (((s.cap : Nat) : Int) - ((s.len : Nat) : Int)))))) (sz := 2) (by_ := 32) (zs := [Value.string ByteArray.empty, Value.string ByteArray.empty]) (ty := 68) (dst := some 22)  (by kernel_rfl) (by kernel_rfl) (by kernel_rfl) (by kernel_rfl) (by kernel_rfl) (by kernel_rfl) (by kernel_rfl) (by kernel_rfl) (by kernel_rfl) (by kernel_rfl) h0 h1 (AppendW.mono h (fun v22 w2 h => ?_))
         refine Yn P2 ?_
         obtain ⟨h0, h1, h⟩ := h
         refine reg_sliceHi (t := 68) (e := 131) (x := (Operand.tmp 22)) (hi := (Operand.tmp 24)) (p := v22.ptr) (l := v22.len) (c := v22.cap) (sz := 2) (k := .i64) (j := ((s.len : Nat) : Int)) (ty := 68) (dst := some 25) (by kernel_rfl) (by kernel_rfl) (by kernel_rfl) (by kernel_rfl) (by kernel_rfl) h0 h1 ?_
         refine Yf P1 [0] ?_
         exact ⟨_, Sub.mk (by kernel_rfl), (Slc.mk v22.ptr (((s.len : Nat) : Int).toNat) v22.cap), rfl, h⟩
       · refine Yskip ?_
         exact ⟨_, Sub.mk (by kernel_rfl), s, rfl, h⟩
     · rintro _ w1 ⟨s1, rfl, h⟩
       unfold F_slices_Grow_api_Entry_api_Entry_k0 at h
       refine Yp P2 [4] ?_
       exact YS ⟨s1, rfl, h⟩

/-! ### slices.stableCmpFunc[towpath/api.Entry] (function 130) -/

theorem S_slices_stableCmpFunc_api_Entry {data : Slc} {n_ : Int} {cmp : Value} {w : World} {R : World → Prop} (h : F_slices_stableCmpFunc_api_Entry data n_ cmp R w) : C_slices_stableCmpFunc_api_Entry data n_ cmp w R := by
 unfold F_slices_stableCmpFunc_api_Entry at h
 refine Yh Tryz.func130 ?_
 · refine Yp P1 [0, 1, 2, 6] ?_
   refine Yp P3 [0, 1, 2, 6, 7, 8] ?_
   refine Ys ?_
   refine Yd 0 ?_
   obtain ⟨I, μ, h0, hr⟩ := h
   refine Yloop (fun m l w => ∃ (a_ : Int) (b_ : Int), l = [(0, sv_ data), (1, Value.int .i64 n_), (2, cmp), (6, Value.int .i64 20), (7, Value.int .i64 a_), (8, Value.int .i64 b_)] ∧ I a_ b_ w ∧ μ a_ b_ w = m) ⟨0, 20, rfl, h0, rfl⟩ ?_
   rintro _ _ w1 ⟨a_, b_, rfl, hI, rfl⟩
   obtain ⟨again_, again__h, h⟩ : ∃ again_ : Int → Int → World → Prop, (∀ a_' b_' w', again_ a_' b_' w' → I a_' b_' w' ∧ μ a_' b_' w' < μ a_ b_ w1) ∧ F_slices_stableCmpFunc_api_Entry_L0 data n_ cmp R again_ a_ b_ w1 := ⟨_, fun _ _ _ h => h, hr a_ b_ w1 hI⟩
   clear h0 hI
   unfold F_slices_stableCmpFunc_api_Entry_L0 at h
   refine Ys ?_
   refine Yp P3 [0, 1, 2, 6, 7, 8, 13] ?_
   refine Yc h (fun h => ?_) fun h => ?_
   · refine Yskip ?_
     refine Yd 1 ?_
     refine Yt ?_
     refine Yn P4 ?_
     refine Ym0 h fun w2 h => ?_
     refine Yf [] [0, 1, 2, 6, 8] ?_
     refine Yp P2 [0, 1, 2, 6, 7, 8] ?_
     refine Yr ?_
     refine Yf P4 [0, 1, 2, 6, 7, 8] ?_
     have hb_ := again__h _ _ _ h
     exact ⟨_, hb_.2, _, Sub.mk (by kernel_rfl), b_, (IntKind.i64.wrap (b_ + 20)), rfl, hb_.1, rfl⟩
   · refine Yexit 0 ?_
     refine Yt ?_
     refine Yn P4 ?_
     refine Ym0 h fun w3 h => ?_
     refine Yf [] [0, 1, 2, 6] ?_
     refine Yd 2 ?_
     obtain ⟨I, μ, h0, hr⟩ := h
     refine Yloop (fun m l w => ∃ (blockSize : Int), l = [(0, sv_ data), (1, Value.int .i64 n_), (2, cmp), (6, Value.int .i64 blockSize)] ∧ I blockSize w ∧ μ blockSize w = m) ⟨20, rfl, h0, rfl⟩ ?_
     rintro _ _ w4 ⟨blockSize, rfl, hI, rfl⟩
     obtain ⟨again_1, again_1_h, h⟩ : ∃ again_1 : Int → World → Prop, (∀ blockSize' w', again_1 blockSize' w' → I blockSize' w' ∧ μ blockSize' w' < μ blockSize w4) ∧ F_slices_stableCmpFunc_api_Entry_L1 data n_ cmp R again_1 blockSize w4 := ⟨_, fun _ _ h => h, hr blockSize w4 hI⟩
     clear h0 hI
     unfold F_slices_stableCmpFunc_api_Entry_L1 at h
     refine Ys ?_
     refine Yp P3 [0, 1, 2, 6, 30] ?_
     refine Yc h (fun h => ?_) fun h => ?_
     · refine Yskip ?_
       refine Yd 3 ?_
       refine Yp P4 [0, 1, 2, 6, 7, 8] ?_
       refine Ys ?_
       refine Yd 4 ?_
       obtain ⟨I, μ, h0, hr⟩ := h
       refine Yloop (fun m l w => ∃ (a_1 : Int) (b_1 : Int), l = [(0, sv_ data), (1, Value.int .i64 n_), (2, cmp), (6, Value.int .i64 blockSize), (7, Value.int .i64 a_1), (8, Value.int .i64 b_1)] ∧ I a_1 b_1 w ∧ μ a_1 b_1 w = m) ⟨0, (IntKind.i64.wrap (2 * blockSize)), rfl, h0, rfl⟩ ?_
       rintro _ _ w5 ⟨a_1, b_1, rfl, hI, rfl⟩
       obtain ⟨again_2, again_2_h, h⟩ : ∃ again_2 : Int → Int → World → Prop, (∀ a_1' b_1' w', again_2 a_1' b_1' w' → I a_1' b_1' w' ∧ μ a_1' b_1' w' < μ a_1 b_1 w5) ∧ F_slices_stableCmpFunc_api_Entry_L2 data n_ cmp blockSize again_1 again_2 a_1 b_1 w5 := ⟨_, fun _ _ _ h => h, hr a_1 b_1 w5 hI⟩
       clear h0 hI
       unfold F_slices_stableCmpFunc_api_Entry_L2 at h
       refine Ys ?_
       refine Yp P3 [0, 1, 2, 6, 7, 8, 35] ?_
       refine Yc h (fun h => ?_) fun h => ?_
       · refine Yskip ?_
         refine Yd 5 ?_
         refine Yt ?_
         refine Yn (Pl 7) ?_
         refine Ym0 h fun w6 h => ?_
         refine Yf [] [0, 1, 2, 6, 8] ?_
         refine Yp P2 [0, 1, 2, 6, 7, 8] ?_
         refine Yr ?_
         refine Yf (Pl 5) [0, 1, 2, 6, 7, 8] ?_
         have hb_ := again_2_h _ _ _ h
         exact ⟨_, hb_.2, _, Sub.mk (by kernel_rfl), b_1, (IntKind.i64.wrap (b_1 + (IntKind.i64.wrap (2 * blockSize)))), rfl, hb_.1, rfl⟩
       · refine Yexit 4 ?_
         refine Ycut (fun l w => l = [(0, sv_ data), (1, Value.int .i64 n_), (2, cmp), (6, Value.int .i64 blockSize)] ∧ F_slices_stableCmpFunc_api_Entry_k3 blockSize again_1 w) ?_ ?_
         · refine Yp P4 [0, 1, 2, 6, 7, 9] ?_
           refine Yp P3 [0, 1, 2, 6, 7, 9, 54] ?_
           refine Yc h (fun h => ?_) fun h => ?_
           · refine Yr ?_
             refine Yn (Pl 5) ?_
             refine Ym0 h fun w8 h => ?_
             refine Yf [] [0, 1, 2, 6] ?_
             exact ⟨_, Sub.mk (by kernel_rfl), rfl, h⟩
           · refine Yskip ?_
             exact ⟨_, Sub.mk (by kernel_rfl), rfl, h⟩
         · rintro _ w7 ⟨rfl, h⟩
           unfold F_slices_stableCmpFunc_api_Entry_k3 at h
           refine Yr ?_
           refine Yf P3 [0, 1, 2, 6] ?_
           have hb_ := again_1_h _ _ h
           exact ⟨_, hb_.2, _, Sub.mk (by kernel_rfl), (IntKind.i64.wrap (blockSize * 2)), rfl, hb_.1, rfl⟩
     · refine Yexit 2 ?_
       repeat (first | refine seqQ_exit ?_ | refine loopQ_exit ?_ | refine cutQ_exit ?_ | refine blockQ_hit ?_ | refine blockQ_miss (by kernel_rfl) ?_)
       refine retQ_normal ?_
       repeat (first | refine seqQ_ret ?_ | refine blockQ_ret ?_ | refine loopQ_ret ?_ | refine cutQ_ret ?_)
       exact retT (rs := []) (vs := []) (by kernel_rfl) (trivial) (by kernel_rfl) ⟨rfl, h⟩
end
end Go.Proofs.YtpedclhflmhakaaGreatDoor
