/- WRITTEN BY PROGRAM (dec.py): for each Go function the clean formula F, the call's contract C, and the proof S that F gives C. -/
import Derived.Test.YtpedclhflmhakaaRows
import Derived.Test.YtpedclhflmhakaaGF
namespace Go.Proofs.Ytpedclhflmhakaa
open Go
set_option linter.unusedVariables false
set_option maxRecDepth 100000
set_option maxHeartbeats 4000000
noncomputable section

/-! ### towpath/towpathlaw01.TwinVersions (function 131) -/

theorem S_towpathlaw01_TwinVersions {l_ : Slc} {w : World} {R : Slc → World → Prop} (h : F_towpathlaw01_TwinVersions l_ R w) : C_towpathlaw01_TwinVersions l_ w R := by
 unfold F_towpathlaw01_TwinVersions at h
 refine Yh Try.func131 ?_
 · refine Yp P1 [0] ?_
   refine Yt ?_
   refine Yn P3 ?_
   obtain ⟨h0, h1, h2, h⟩ := h
   refine reg_makeSlice (t := 141) (e := 145) (lo := (Operand.const (Value.int IntKind.i64 0))) (co := (Operand.tmp 7)) (l := 0) (c := (IntKind.i64.wrap (((l_.len : Nat) : Int) + 1))) (sz := 3) (by_ := 32) (zs := [Value.int .i64 0, Value.string ByteArray.empty, Value.bool false]) (ty := 141) (dst := some 8) (by kernel_rfl) (by kernel_rfl) (by kernel_rfl) (by kernel_rfl) (by kernel_rfl) (by kernel_rfl) (by kernel_rfl) (by kernel_rfl) (by kernel_rfl) h0 h1 h2 (fun b_ w1 hb hw => ?_)
   replace h := h b_ w1 hb hw
   clear hb hw
   refine Yf P1 [0, 3] ?_
   refine Ys ?_
   refine Yp P1 [0, 3, 4] ?_
   refine Yd 0 ?_
   obtain ⟨I, μ, h0, hr⟩ := h
   refine Yloop (fun m l w => ∃ (t_ : Slc) (i : Int), l = [(0, sv_ l_), (3, sv_ t_), (4, Value.int .i64 i)] ∧ I t_ i w ∧ μ t_ i w = m) ⟨(Slc.mk (some ⟨b_, 0, none⟩) 0 ((IntKind.i64.wrap (((l_.len : Nat) : Int) + 1)).toNat)), 0, rfl, h0, rfl⟩ ?_
   rintro _ _ w2 ⟨t_, i, rfl, hI, rfl⟩
   obtain ⟨again_, again__h, h⟩ : ∃ again_ : Slc → Int → World → Prop, (∀ t_' i' w', again_ t_' i' w' → I t_' i' w' ∧ μ t_' i' w' < μ t_ i w2) ∧ F_towpathlaw01_TwinVersions_L0 l_ R again_ t_ i w2 := ⟨_, fun _ _ _ h => h, hr t_ i w2 hI⟩
   clear h0 hI
   unfold F_towpathlaw01_TwinVersions_L0 at h
   refine Ys ?_
   refine Yp P4 [0, 3, 4, 12] ?_
   refine Yc h (fun h => ?_) fun h => ?_
   · refine Yskip ?_
     refine Ys ?_
     refine Yd 1 ?_
     refine Yr ?_
     refine Yn P3 ?_
     obtain ⟨hp_3, h⟩ := h
     refine Yu 16 (fun pp => .slice pp l_.len l_.cap) hp_3 ?_
     refine Yi h fun h => ?_
     refine YL h fun v19 h => ?_
     refine Yw (sl_ 1 1) h fun b_1 w3 h => ?_
     obtain ⟨src, hs, h⟩ := h
     refine reg_append (t := 141) (tx := 141) (e := 145) (a := (Operand.tmp 15)) (xo := (Operand.tmp 20)) (s := t_) (x := (Slc.mk (some ⟨b_1, 0, none⟩) 1 1)) (sz := 3) (by_ := 32) (zs := [Value.int .i64 0, Value.string ByteArray.empty, Value.bool false]) (ty := 141) (dst := some 21)  src (by kernel_rfl) (by kernel_rfl) (by kernel_rfl) (by kernel_rfl) (by kernel_rfl) (by kernel_rfl) (by kernel_rfl) (by kernel_rfl) (by kernel_rfl) hs (AppendW.mono h (fun t_1 w4 h => ?_))
     refine Yf P1 [0, 3, 4] ?_
     refine Yr ?_
     refine Yf P3 [0, 3, 4] ?_
     have hb_ := again__h _ _ _ h
     exact ⟨_, hb_.2, _, Sub.mk (by kernel_rfl), t_1, (IntKind.i64.wrap (i + 1)), rfl, hb_.1, rfl⟩
   · refine Yexit 0 ?_
     refine Yt ?_
     refine Yn P2 ?_
     refine Yw (sl_ 1 1) h fun b_2 w5 h => ?_
     obtain ⟨src, hs, h⟩ := h
     refine reg_append (t := 141) (tx := 141) (e := 145) (a := (Operand.tmp 22)) (xo := (Operand.tmp 24)) (s := t_) (x := (Slc.mk (some ⟨b_2, 0, none⟩) 1 1)) (sz := 3) (by_ := 32) (zs := [Value.int .i64 0, Value.string ByteArray.empty, Value.bool false]) (ty := 141) (dst := some 25)  src (by kernel_rfl) (by kernel_rfl) (by kernel_rfl) (by kernel_rfl) (by kernel_rfl) (by kernel_rfl) (by kernel_rfl) (by kernel_rfl) (by kernel_rfl) hs (AppendW.mono h (fun v25 w6 h => ?_))
     refine Yn P2 ?_
     obtain ⟨h0, h1, h⟩ := h
     refine reg_sliceHi (t := 141) (e := 145) (x := (Operand.tmp 25)) (hi := (Operand.tmp 27)) (p := v25.ptr) (l := v25.len) (c := v25.cap) (sz := 3) (k := .i64) (j := ((l_.len : Nat) : Int)) (ty := 141) (dst := some 28) (by kernel_rfl) (by kernel_rfl) (by kernel_rfl) (by kernel_rfl) (by kernel_rfl) h0 h1 ?_
     refine Yf P1 [2] ?_
     exact YS ⟨(Slc.mk v25.ptr (((l_.len : Nat) : Int).toNat) v25.cap), rfl, h⟩

/-! ### towpath/towpathlaw01.LeftVersions (function 132) -/
def c132_0 := cb_ Try.f132
def c132_3 := cr_ c132_0
def c132_13 := cr_ c132_3
def c132_14 := cl_ c132_13
def c132_17 := cr_ c132_14
def c132_18 := cl_ c132_17
def c132_19 := cl_ c132_18
def c132_26 := cr_ c132_19
def c132_27 := cl_ c132_26
def c132_28 := cl_ c132_27
def c132_29 := cl_ c132_28
def r132_29 := co_ c132_29

theorem S_towpathlaw01_LeftVersions {t_ : Slc} {l_ : Slc} {w : World} {R : Bool → World → Prop} (h : F_towpathlaw01_LeftVersions t_ l_ R w) : C_towpathlaw01_LeftVersions t_ l_ w R := by
 unfold F_towpathlaw01_LeftVersions at h
 refine Yh Try.func132 ?_
 · refine Yp P1 [0, 1] ?_
   refine Ys ?_
   refine Yp [.plain, .plain, .plain, .plain, .plain, .plain, .plain, .plain, .plain, .plain, .plain, .pick] [0, 1, 18] ?_
   refine Yc h (fun h => ?_) fun h => ?_
   · refine Yp P1 [4] ?_
     exact YS ⟨false, rfl, h⟩
   · refine Yskip ?_
     refine Ys ?_
     refine Yp P1 [0, 1, 5] ?_
     refine Yd 0 ?_
     obtain ⟨I, μ, h0, hr⟩ := h
     refine Yloop (fun m l w => ∃ (i : Int), l = [(0, sv_ t_), (1, sv_ l_), (5, Value.int .i64 i)] ∧ I i w ∧ μ i w = m) ⟨0, rfl, h0, rfl⟩ ?_
     rintro _ _ w1 ⟨i, rfl, hI, rfl⟩
     obtain ⟨again_, again__h, h⟩ : ∃ again_ : Int → World → Prop, (∀ i' w', again_ i' w' → I i' w' ∧ μ i' w' < μ i w1) ∧ F_towpathlaw01_LeftVersions_L0 t_ l_ R again_ i w1 := ⟨_, fun _ _ h => h, hr i w1 hI⟩
     clear h0 hI
     unfold F_towpathlaw01_LeftVersions_L0 at h
     refine Ys ?_
     refine Yp P4 [0, 1, 5, 22] ?_
     refine Yc h (fun h => ?_) fun h => ?_
     · refine Yskip ?_
       refine Ys ?_
       refine Yd 1 ?_
       refine Ys ?_
       refine wpE_drawregion (id := 6) (ops := r132_29) (by kernel_rfl) (by kernel_rfl) (by kernel_rfl) ?_
       refine Qn P2 ?_
       obtain ⟨hp_14, h⟩ := h
       refine Qu 25 (fun pp => .slice pp t_.len t_.cap) hp_14 ?_
       refine Qi h fun h => ?_
       refine QL h fun v28 h => ?_
       refine Qn P2 ?_
       obtain ⟨hp_15, h⟩ := h
       refine Qu 29 (fun pp => .slice pp l_.len l_.cap) hp_15 ?_
       refine Qi h fun h => ?_
       refine QL h fun v32 h => ?_
       refine qreg_val (op := (Op.binOp BinOp.neq 145 (Operand.tmp 28) (Operand.tmp 32) 145)) (ty := 4) (dst := some 33) (Value.bool (!(((v28.Number == v32.Number) && (v28.Val == v32.Val)) && (v28.Drop == v32.Drop)))) (by kernel_rfl) (fun ww => run_struct_neq (xs := [Value.int .i64 v28.Number, Value.string v28.Val, Value.bool v28.Drop]) (ys := [Value.int .i64 v32.Number, Value.string v32.Val, Value.bool v32.Drop]) (by kernel_rfl) (by kernel_rfl) (by kernel_rfl) (by kernel_rfl) (by kernel_rfl) ww) ?_
       refine Qf [] [0, 1, 5, 33] h fun w2 h => ?_
       refine Yc h (fun h => ?_) fun h => ?_
       · refine Yp P1 [4] ?_
         exact YS ⟨false, rfl, h⟩
       · refine Yskip ?_
         refine Yr ?_
         refine Yf P3 [0, 1, 5] ?_
         have hb_ := again__h _ _ h
         exact ⟨_, hb_.2, _, Sub.mk (by kernel_rfl), (IntKind.i64.wrap (i + 1)), rfl, hb_.1, rfl⟩
     · refine Yexit 0 ?_
       refine Yt ?_
       refine Yn P4 ?_
       obtain ⟨h0, h1, h⟩ := h
       refine reg_sliceHi (t := 141) (e := 145) (x := (Operand.tmp 34)) (hi := (Operand.tmp 37)) (p := t_.ptr) (l := t_.len) (c := t_.cap) (sz := 3) (k := .i64) (j := (IntKind.i64.wrap (((l_.len : Nat) : Int) + 1))) (ty := 141) (dst := some 38) (by kernel_rfl) (by kernel_rfl) (by kernel_rfl) (by kernel_rfl) (by kernel_rfl) h0 h1 ?_
       refine Yn P2 ?_
       obtain ⟨hp_17, h⟩ := h
       refine Yu 38 (fun pp => .slice pp ((IntKind.i64.wrap (((l_.len : Nat) : Int) + 1)).toNat) t_.cap) hp_17 ?_
       refine Yi h fun h => ?_
       refine YL h fun v42 h => ?_
       refine Yw pv_ h fun b_ w3 h => ?_
       refine Yo h fun w4 h => ?_
       refine Yf [] [6] ?_
       refine Yt ?_
       refine YL h fun v43 h => ?_
       refine Yn P1 ?_
       refine reg_val (op := (Op.binOp BinOp.eql 145 (Operand.tmp 43) (Operand.tmp 44) 145)) (ty := 4) (dst := some 45) (Value.bool (((v43.Number == 7777) && (v43.Val == ByteArray.empty)) && (v43.Drop == false))) (by kernel_rfl) (fun ww => run_struct_eql (xs := [Value.int .i64 v43.Number, Value.string v43.Val, Value.bool v43.Drop]) (ys := [Value.int .i64 7777, Value.string ByteArray.empty, Value.bool false]) (by kernel_rfl) (by kernel_rfl) (by kernel_rfl) (by kernel_rfl) (by kernel_rfl) ww) ?_
       refine Yf P1 [4] ?_
       exact YS ⟨(((v43.Number == 7777) && (v43.Val == ByteArray.empty)) && (v43.Drop == false)), rfl, h⟩
end
end Go.Proofs.Ytpedclhflmhakaa
