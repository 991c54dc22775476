/- WRITTEN BY PROGRAM (dec.py): for each Go function the clean formula F, the call's contract C, and the proof S that F gives C. -/
import Derived.Test.YtpdegdnigcnjiaaRows
import Derived.Test.YtpdegdnigcnjiaaGF
namespace Go.Proofs.Ytpdegdnigcnjiaa
open Go
set_option linter.unusedVariables false
set_option maxRecDepth 100000
set_option maxHeartbeats 4000000
noncomputable section

/-! ### (*towpath/codec.Reader).Fixed$1 (function 75) -/
def c75_0 := cb_ Try.f75
def c75_3 := cr_ c75_0
def c75_22 := cr_ c75_3
def c75_23 := cl_ c75_22
def c75_26 := cr_ c75_23
def c75_27 := cl_ c75_26
def c75_28 := cl_ c75_27
def c75_35 := cr_ c75_28
def c75_36 := cl_ c75_35
def c75_37 := cl_ c75_36
def r75_37 := co_ c75_37

theorem S_codec_Reader_Fixed_1 {b_ : Slc} {t1 : Option Addr} {t2 : Option Addr} {w : World} {R : Int → Int → World → Prop} (h : F_codec_Reader_Fixed_1 b_ t1 t2 R w) : C_codec_Reader_Fixed_1 b_ t1 t2 w R := by
 unfold F_codec_Reader_Fixed_1 at h
 refine Yh Try.func75 ?_
 · refine Yp P2 [0, 1, 2] ?_
   refine Ys ?_
   refine Yd 0 ?_
   refine Ycut (fun l w => ∃ (t7 : Bool), l = [(0, sv_ b_), (1, Value.pointer t1), (2, Value.pointer t2), (7, Value.bool t7)] ∧ F_codec_Reader_Fixed_1_k0 b_ t1 t2 R t7 w) ?_ ?_
   · refine Yr ?_
     refine Yv 1 h fun hp_20 h => ?_
     refine Yl h fun v8 h => ?_
     refine Yn P2 ?_
     refine Yspl 10 h (fun h => ?_) fun h => ?_
     · refine Yn [.skip, .skip, .plain, .plain] ?_
       refine Yu 1 (fun pp => .pointer pp) hp_20.symm ?_
       refine Yf [] [0, 1, 2, 7] ?_
       exact ⟨_, Sub.mk (by kernel_rfl), true, rfl, h⟩
     · refine Yl h fun v11 h => ?_
       refine Yn [.sure, .plain, .plain] ?_
       refine Yu 1 (fun pp => .pointer pp) hp_20.symm ?_
       refine Yf [] [0, 1, 2, 7] ?_
       exact ⟨_, Sub.mk (by kernel_rfl), (decide (v11 > 8)), rfl, h⟩
   · rintro _ w1 ⟨t7, rfl, h⟩
     unfold F_codec_Reader_Fixed_1_k0 at h
     refine Yc h (fun h => ?_) fun h => ?_
     · refine Yp P2 [4, 5] ?_
       exact YT2 ⟨0, 1, rfl, h⟩
     · refine Yt ?_
       refine Yv 1 h fun hp_6 h => ?_
       refine Yl h fun v15 h => ?_
       refine Yn P4 ?_
       refine Yu 1 (fun pp => .pointer pp) hp_6.symm ?_
       refine Yf [] [0, 1, 2, 14] ?_
       refine Yc h (fun h => ?_) fun h => ?_
       · refine Yp P2 [4, 5] ?_
         exact YT2 ⟨0, 5, rfl, h⟩
       · refine Yskip ?_
         refine Ys ?_
         refine Yt ?_
         refine Yv 1 h fun hp_14 h => ?_
         refine Yl h fun v19 h => ?_
         refine Yn P2 ?_
         refine Yu 1 (fun pp => .pointer pp) hp_14.symm ?_
         refine Yf [] [0, 1, 2, 6] ?_
         refine Yd 1 ?_
         obtain ⟨I, μ, h0, hr⟩ := h
         refine Yloop (fun m l w => ∃ (i : Int), l = [(0, sv_ b_), (1, Value.pointer t1), (2, Value.pointer t2), (6, Value.int .i64 i)] ∧ I i w ∧ μ i w = m) ⟨(IntKind.i64.wrap (v19 - 1)), rfl, h0, rfl⟩ ?_
         rintro _ _ w2 ⟨i, rfl, hI, rfl⟩
         obtain ⟨again_, again__h, h⟩ : ∃ again_ : Int → World → Prop, (∀ i' w', again_ i' w' → I i' w' ∧ μ i' w' < μ i w2) ∧ F_codec_Reader_Fixed_1_L1 b_ t1 t2 R again_ i w2 := ⟨_, fun _ _ h => h, hr i w2 hI⟩
         clear h0 hI
         unfold F_codec_Reader_Fixed_1_L1 at h
         refine Ys ?_
         refine Yp P2 [0, 1, 2, 6, 22] ?_
         refine Yc h (fun h => ?_) fun h => ?_
         · refine Yskip ?_
           refine Ys ?_
           refine Yd 2 ?_
           refine wpE_tailregion (id := 8) (ops := r75_37) (by kernel_rfl) 8 (by kernel_rfl) (by kernel_rfl) (fun w3 hw => ?_)
           replace h := h w3 hw
           clear hw
           refine Qv 2 h fun hp_17 h => ?_
           refine Ql h fun v25 h => ?_
           refine Qn P3 ?_
           obtain ⟨hp_18, h⟩ := h
           refine Qu 27 (fun pp => .slice pp b_.len b_.cap) hp_18 ?_
           refine Qi1 h fun h => ?_
           refine Ql h fun v30 h => ?_
           refine Qn P2 ?_
           refine qreg_tail (by kernel_rfl) ?_
           refine Yo h fun w4 h => ?_
           refine Yu 2 (fun pp => .pointer pp) hp_17.symm ?_
           refine Yf [] [0, 1, 2, 6] ?_
           refine Yr ?_
           refine Yf P3 [0, 1, 2, 6] ?_
           have hb_ := again__h _ _ h
           exact ⟨_, hb_.2, _, Sub.mk (by kernel_rfl), (IntKind.i64.wrap (i - 1)), rfl, hb_.1, rfl⟩
         · refine Yexit 1 ?_
           refine Yt ?_
           refine Yv 1 h fun hp_19 h => ?_
           refine Yl h fun v33 h => ?_
           refine Yf P2 [4, 5] ?_
           exact YT2 ⟨v33, 0, rfl, h⟩

/-! ### (*towpath/codec.Reader).Text$1 (function 76) -/

theorem S_codec_Reader_Text_1 {b_ : Slc} {t1 : Option Addr} {t2 : Option Addr} {w : World} {R : Int → Int → World → Prop} (h : F_codec_Reader_Text_1 b_ t1 t2 R w) : C_codec_Reader_Text_1 b_ t1 t2 w R := by
 unfold F_codec_Reader_Text_1 at h
 refine Yh Try.func76 ?_
 · refine Yp P2 [0, 1, 2] ?_
   refine Ys ?_
   refine Yt ?_
   refine Yv 1 h fun hp_3 h => ?_
   refine Yl h fun v9 h => ?_
   refine Yn P1 ?_
   refine Yu 1 (fun pp => .pointer pp) hp_3.symm ?_
   refine Yf [] [0, 1, 2, 10] ?_
   refine Yc h (fun h => ?_) fun h => ?_
   · refine Yp P2 [4, 5] ?_
     exact YT2 ⟨0, 1, rfl, h⟩
   · refine Yskip ?_
     refine Yt ?_
     refine Yn P1 ?_
     refine Ym3 h fun n_ size e w1 h => ?_
     refine Yf (Pl 7) [0, 1, 2, 6, 7, 8] ?_
     refine Ys ?_
     refine Yd 0 ?_
     refine Yp P3 [0, 1, 2, 6, 7, 8, 17] ?_
     refine Yc h (fun h => ?_) fun h => ?_
     · refine Yp P3 [4, 5] ?_
       exact YT2 ⟨0, e, rfl, h⟩
     · refine Yt ?_
       refine Yn P1 ?_
       refine Yv 1 h fun hp_7 h => ?_
       refine Yl h fun v23 h => ?_
       refine Yf P3 [0, 2, 6, 7, 21] ?_
       refine Yc h (fun h => ?_) fun h => ?_
       · refine Yp P2 [4, 5] ?_
         exact YT2 ⟨0, 3, rfl, h⟩
       · refine Yp (Pl 8) [0, 2, 6, 7, 26] ?_
         refine Yc h (fun h => ?_) fun h => ?_
         · refine Yp P2 [4, 5] ?_
           exact YT2 ⟨0, 5, rfl, h⟩
         · refine Yskip ?_
           refine Yt ?_
           refine Yn (Pl 6) ?_
           obtain ⟨hc, h⟩ := h
           refine reg_sliceH (t := 22) (e := 5) (x := (Operand.tmp 34)) (lo := (Operand.tmp 35)) (hi := (Operand.tmp 39)) (s := b_) (sz := 1) (k := .i64) (a := size) (k' := .i64) (b := (IntKind.i64.wrap (size + (IntKind.i64.wrap n_)))) (ty := 22) (dst := some 40) (by kernel_rfl) (by kernel_rfl) (by kernel_rfl) (by kernel_rfl) (by kernel_rfl) (by kernel_rfl) hc (fun s hs => ?_)
           replace h := h s hs
           clear hs
           obtain ⟨str, hs, h⟩ := h
           refine reg_toString (t := 22) (d := 9) (e := 5) (x := (Operand.tmp 40)) (s := s) (ty := 9) (dst := some 41) (by kernel_rfl) (by kernel_rfl) (by kernel_rfl) (by kernel_rfl) (by kernel_rfl) hs ?_
           refine Yv 2 h fun hp_9 h => ?_
           refine Yo h fun w2 h => ?_
           refine Yf [] [6, 7] ?_
           refine Yp (Pl 6) [4, 5] ?_
           exact YT2 ⟨(IntKind.i64.wrap (size + (IntKind.i64.wrap n_))), 0, rfl, h⟩

/-! ### (*towpath/codec.Writer).gone (function 77) -/

theorem S_codec_Writer_gone {w_ : Option Addr} {w : World} {R : Bool → World → Prop} (h : F_codec_Writer_gone w_ R w) : C_codec_Writer_gone w_ w R := by
 unfold F_codec_Writer_gone at h
 refine Yh Try.func77 ?_
 · refine Yp P1 [0] ?_
   refine Yt ?_
   refine Yn P1 ?_
   refine reg_val (op := (Op.binOp BinOp.eql 93 (Operand.tmp 3) (Operand.const (Value.pointer none)) 93)) (ty := 4) (dst := some 4) (Value.bool w_.isNone) (by kernel_rfl) (fun ww => run_ptr_eql_R (p := w_) (by kernel_rfl) (by kernel_rfl) (by kernel_rfl) ww) ?_
   refine Yn P2 ?_
   refine Yspl 5 h (fun h => ?_) fun h => ?_
   · refine Yf [.skip, .skip, .skip, .skip, .plain, .plain] [2] ?_
     exact YS ⟨true, rfl, h⟩
   · refine Yv 6 h fun hp_0 h => ?_
     refine Yn [.sure] ?_
     refine Yn [.sure] ?_
     refine Yl h fun v9 h => ?_
     refine Yf [.sure, .plain, .plain] [2] ?_
     exact YS ⟨(!v9), rfl, h⟩
end
end Go.Proofs.Ytpdegdnigcnjiaa
