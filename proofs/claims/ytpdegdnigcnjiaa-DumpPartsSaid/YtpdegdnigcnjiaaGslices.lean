/- WRITTEN BY PROGRAM (dec.py): for each Go function the clean formula F, the call's contract C, and the proof S that F gives C. -/
import Derived.Test.YtpdegdnigcnjiaaRows
import Derived.Test.YtpdegdnigcnjiaaGF
namespace Go.Proofs.Ytpdegdnigcnjiaa
open Go
set_option linter.unusedVariables false
set_option maxRecDepth 100000
set_option maxHeartbeats 4000000
noncomputable section

/-! ### slices.BinarySearch[[]int,int] (function 51) -/

theorem S_slices_BinarySearch_int_int {x : Slc} {target : Int} {w : World} {R : Int → Bool → World → Prop} (h : F_slices_BinarySearch_int_int x target R w) : C_slices_BinarySearch_int_int x target w R := by
 unfold F_slices_BinarySearch_int_int at h
 refine Yh Try.func51 ?_
 · refine Yp P2 [0, 1] ?_
   refine Yp P3 [0, 1, 6] ?_
   refine Yp P3 [0, 1, 6, 7, 8] ?_
   refine Ys ?_
   refine Yd 0 ?_
   obtain ⟨I, μ, h0, hr⟩ := h
   refine Yloop (fun m l w => ∃ (i : Int) (j : Int), l = [(0, sv_ x), (1, Value.int .i64 target), (6, Value.int .i64 ((x.len : Nat) : Int)), (7, Value.int .i64 i), (8, Value.int .i64 j)] ∧ I i j w ∧ μ i j w = m) ⟨0, ((x.len : Nat) : Int), rfl, h0, rfl⟩ ?_
   rintro _ _ w1 ⟨i, j, rfl, hI, rfl⟩
   obtain ⟨again_, again__h, h⟩ : ∃ again_ : Int → Int → World → Prop, (∀ i' j' w', again_ i' j' w' → I i' j' w' ∧ μ i' j' w' < μ i j w1) ∧ F_slices_BinarySearch_int_int_L0 x target R again_ i j w1 := ⟨_, fun _ _ _ h => h, hr i j w1 hI⟩
   clear h0 hI
   unfold F_slices_BinarySearch_int_int_L0 at h
   refine Ys ?_
   refine Yp P3 [0, 1, 6, 7, 8, 15] ?_
   refine Yc h (fun h => ?_) fun h => ?_
   · refine Yskip ?_
     refine Yd 1 ?_
     refine Yp (Pl 7) [0, 1, 6, 7, 8, 9] ?_
     refine Yt ?_
     refine Yn P2 ?_
     obtain ⟨hp_3, h⟩ := h
     refine Yu 22 (fun pp => .slice pp x.len x.cap) hp_3 ?_
     refine Yi1 h fun h => ?_
     refine Yl h fun v25 h => ?_
     refine Yn P1 ?_
     refine Ym1 h fun v27 w2 h => ?_
     refine Yf [] [0, 1, 6, 7, 8, 9, 27] ?_
     refine Yc h (fun h => ?_) fun h => ?_
     · refine Yr ?_
       refine Yf P3 [0, 1, 6, 7, 8] ?_
       have hb_ := again__h _ _ _ h
       exact ⟨_, hb_.2, _, Sub.mk (by kernel_rfl), (IntKind.i64.wrap ((IntKind.i64.wrap (Int.fdiv (IntKind.u64.wrap (IntKind.i64.wrap (i + j))) (2 ^ 1))) + 1)), j, rfl, hb_.1, rfl⟩
     · refine Yr ?_
       refine Yf P2 [0, 1, 6, 7, 8] ?_
       have hb_ := again__h _ _ _ h
       exact ⟨_, hb_.2, _, Sub.mk (by kernel_rfl), i, (IntKind.i64.wrap (Int.fdiv (IntKind.u64.wrap (IntKind.i64.wrap (i + j))) (2 ^ 1))), rfl, hb_.1, rfl⟩
   · refine Yexit 0 ?_
     refine Yt ?_
     refine Yn (Pl 7) ?_
     refine Yspl 35 h (fun h => ?_) fun h => ?_
     · obtain ⟨hp_4, h⟩ := h
       refine Yu 36 (fun pp => .slice pp x.len x.cap) hp_4 ?_
       refine Yi1 h fun h => ?_
       refine Yl h fun v39 h => ?_
       refine Yn [.sure, .sure, .sure, .plain, .plain] ?_
       refine Yspl 42 h (fun h => ?_) fun h => ?_
       · refine Yf [.skip, .skip, .skip, .skip, .skip, .skip, .skip, .sure, .plain, .plain, .plain] [4, 5] ?_
         exact YT2 ⟨i, true, rfl, h⟩
       · obtain ⟨hp_5, h⟩ := h
         refine Yu 43 (fun pp => .slice pp x.len x.cap) hp_5 ?_
         refine Yi1 h fun h => ?_
         refine Yl h fun v46 h => ?_
         refine Ym1 h fun v47 w3 h => ?_
         refine Yn [.sure, .plain] ?_
         refine Yspl 48 h (fun h => ?_) fun h => ?_
         · refine Ym1 h fun v50 w4 h => ?_
           refine Yf [.sure, .sure, .plain, .plain, .plain] [4, 5] ?_
           exact YT2 ⟨i, v50, rfl, h⟩
         · refine Yf [.skip, .sure, .sure, .plain, .plain, .plain] [4, 5] ?_
           exact YT2 ⟨i, false, rfl, h⟩
     · refine Yf [.skip, .skip, .skip, .skip, .skip, .skip, .skip, .skip, .skip, .skip, .skip, .skip, .skip, .skip, .skip, .plain, .plain, .plain] [4, 5] ?_
       exact YT2 ⟨i, false, rfl, h⟩

/-! ### slices.Clone[[]towpath/api.Version,towpath/api.Version] (function 63) -/

theorem S_slices_Clone_api_Version_api_Version {s : Slc} {w : World} {R : Slc → World → Prop} (h : F_slices_Clone_api_Version_api_Version s R w) : C_slices_Clone_api_Version_api_Version s w R := by
 unfold F_slices_Clone_api_Version_api_Version at h
 refine Yh Try.func63 ?_
 · refine Yp P1 [0] ?_
   refine Ys ?_
   refine Yt ?_
   refine Yn P1 ?_
   refine reg_val (op := (Op.binOp BinOp.eql 71 (Operand.tmp 3) (Operand.const (Value.slice none 0 0)) 71)) (ty := 4) (dst := some 4) (Value.bool s.ptr.isNone) (by kernel_rfl) (fun ww => run_slice_eql_R (p := s.ptr) (l := s.len) (c := s.cap) (by kernel_rfl) (by kernel_rfl) (by kernel_rfl) ww) ?_
   refine Yf [] [0, 4] ?_
   refine Yc h (fun h => ?_) fun h => ?_
   · refine Yp P1 [2] ?_
     exact YS ⟨(Slc.mk none 0 0), rfl, h⟩
   · refine Yskip ?_
     refine Yt ?_
     refine Yw (sl_ 0 0) h fun b_ w1 h => ?_
     refine Yn P1 ?_
     obtain ⟨src, hs, h⟩ := h
     refine reg_append (t := 71) (tx := 71) (e := 89) (a := (Operand.tmp 5)) (xo := (Operand.tmp 6)) (s := (Slc.mk (some ⟨b_, 0, none⟩) 0 0)) (x := s) (sz := 3) (by_ := 32) (zs := [Value.int .i64 0, Value.string ByteArray.empty, Value.bool false]) (ty := 71) (dst := some 7)  src (by kernel_rfl) (by kernel_rfl) (by kernel_rfl) (by kernel_rfl) (by kernel_rfl) (by kernel_rfl) (by kernel_rfl) (by kernel_rfl) (by kernel_rfl) hs (AppendW.mono h (fun v7 w2 h => ?_))
     refine Yf P1 [2] ?_
     exact YS ⟨v7, rfl, h⟩

/-! ### slices.Clone[[]byte,byte] (function 71) -/

theorem S_slices_Clone_byte_byte {s : Slc} {w : World} {R : Slc → World → Prop} (h : F_slices_Clone_byte_byte s R w) : C_slices_Clone_byte_byte s w R := by
 unfold F_slices_Clone_byte_byte at h
 refine Yh Try.func71 ?_
 · refine Yp P1 [0] ?_
   refine Ys ?_
   refine Yt ?_
   refine Yn P1 ?_
   refine reg_val (op := (Op.binOp BinOp.eql 22 (Operand.tmp 3) (Operand.const (Value.slice none 0 0)) 22)) (ty := 4) (dst := some 4) (Value.bool s.ptr.isNone) (by kernel_rfl) (fun ww => run_slice_eql_R (p := s.ptr) (l := s.len) (c := s.cap) (by kernel_rfl) (by kernel_rfl) (by kernel_rfl) ww) ?_
   refine Yf [] [0, 4] ?_
   refine Yc h (fun h => ?_) fun h => ?_
   · refine Yp P1 [2] ?_
     exact YS ⟨(Slc.mk none 0 0), rfl, h⟩
   · refine Yskip ?_
     refine Yt ?_
     refine Yw (sl_ 0 0) h fun b_ w1 h => ?_
     refine Yn P1 ?_
     obtain ⟨src, hs, h⟩ := h
     refine reg_append (t := 22) (tx := 22) (e := 5) (a := (Operand.tmp 5)) (xo := (Operand.tmp 6)) (s := (Slc.mk (some ⟨b_, 0, none⟩) 0 0)) (x := s) (sz := 1) (by_ := 1) (zs := [Value.int .u8 0]) (ty := 22) (dst := some 7)  src (by kernel_rfl) (by kernel_rfl) (by kernel_rfl) (by kernel_rfl) (by kernel_rfl) (by kernel_rfl) (by kernel_rfl) (by kernel_rfl) (by kernel_rfl) hs (AppendW.mono h (fun v7 w2 h => ?_))
     refine Yf P1 [2] ?_
     exact YS ⟨v7, rfl, h⟩

/-! ### slices.isNaN[int] (function 79) -/

theorem S_slices_isNaN_int {x : Int} {w : World} {R : Bool → World → Prop} (h : F_slices_isNaN_int x R w) : C_slices_isNaN_int x w R := by
 unfold F_slices_isNaN_int at h
 refine Yh Try.func79 ?_
 · refine Yp P1 [0] ?_
   refine Yp P4 [2] ?_
   exact YS ⟨(x != x), rfl, h⟩
end
end Go.Proofs.Ytpdegdnigcnjiaa
