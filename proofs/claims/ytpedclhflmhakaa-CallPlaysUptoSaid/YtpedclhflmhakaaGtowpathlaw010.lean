/- WRITTEN BY PROGRAM (dec.py): for each Go function the clean formula F, the call's contract C, and the proof S that F gives C. -/
import Derived.Test.YtpedclhflmhakaaRows
import Derived.Test.YtpedclhflmhakaaGF
namespace Go.Proofs.Ytpedclhflmhakaa
open Go
set_option linter.unusedVariables false
set_option maxRecDepth 100000
set_option maxHeartbeats 4000000
noncomputable section

/-! ### towpath/towpathlaw01.SameReq (function 34) -/

theorem S_towpathlaw01_SameReq {a_ : T_api_Req} {b_ : T_api_Req} {w : World} {R : Bool → World → Prop} (h : F_towpathlaw01_SameReq a_ b_ R w) : C_towpathlaw01_SameReq a_ b_ w R := by
 unfold F_towpathlaw01_SameReq at h
 refine Yh Try.func34 ?_
 · refine Yt ?_
   refine Yw pv_ h fun b_1 w1 h => ?_
   refine Yw pv_ h fun b_2 w2 h => ?_
   refine Yf P1 [2, 3] ?_
   refine Yt ?_
   refine Yn P1 ?_
   refine Yl h fun v6 h => ?_
   refine Yn P1 ?_
   refine Yl h fun v8 h => ?_
   refine Yn P3 ?_
   refine Yspl 10 h (fun h => ?_) fun h => ?_
   · refine Yl h fun v12 h => ?_
     refine Yn [.sure] ?_
     refine Yl h fun v14 h => ?_
     refine Yn [.sure, .plain, .plain, .plain] ?_
     refine Yspl 17 h (fun h => ?_) fun h => ?_
     · refine Yl h fun v19 h => ?_
       refine Yn [.sure] ?_
       refine Yl h fun v21 h => ?_
       refine Yn [.sure, .plain, .plain, .plain] ?_
       refine Yspl 24 h (fun h => ?_) fun h => ?_
       · refine YL h fun v26 h => ?_
         refine Yn [.sure] ?_
         refine YL h fun v28 h => ?_
         refine reg_val (op := (Op.binOp BinOp.eql 78 (Operand.tmp 26) (Operand.tmp 28) 78)) (ty := 4) (dst := some 29) (Value.bool (((v26.Key == v28.Key) && (v26.Val == v28.Val)) && (v26.Drop == v28.Drop))) (by kernel_rfl) (fun ww => run_struct_eql (xs := [Value.string v26.Key, Value.string v26.Val, Value.bool v26.Drop]) (ys := [Value.string v28.Key, Value.string v28.Val, Value.bool v28.Drop]) (by kernel_rfl) (by kernel_rfl) (by kernel_rfl) (by kernel_rfl) (by kernel_rfl) ww) ?_
         refine Yn P3 ?_
         refine Yspl 31 h (fun h => ?_) fun h => ?_
         · refine Yl h fun v33 h => ?_
           refine Yn [.sure] ?_
           refine Yl h fun v35 h => ?_
           refine Yn [.sure, .plain, .plain, .plain] ?_
           refine Yspl 38 h (fun h => ?_) fun h => ?_
           · refine Yl h fun v40 h => ?_
             refine Yn [.sure] ?_
             refine Yl h fun v42 h => ?_
             refine Yn [.sure, .plain, .plain, .plain] ?_
             refine Yspl 45 h (fun h => ?_) fun h => ?_
             · refine Yl h fun v47 h => ?_
               refine Yn [.sure] ?_
               refine Yl h fun v49 h => ?_
               refine Ym1 h fun v50 w3 h => ?_
               refine Yf P2 [4] ?_
               exact YS ⟨v50, rfl, h⟩
             · refine Yf [.skip, .skip, .skip, .skip, .plain, .plain] [4] ?_
               exact YS ⟨false, rfl, h⟩
           · refine Yf [.skip, .skip, .skip, .skip, .plain, .plain, .skip, .skip, .skip, .skip, .skip, .plain, .plain] [4] ?_
             exact YS ⟨false, rfl, h⟩
         · refine Yf [.skip, .skip, .skip, .skip, .plain, .plain, .skip, .skip, .skip, .skip, .skip, .plain, .plain, .skip, .skip, .skip, .skip, .skip, .plain, .plain] [4] ?_
           exact YS ⟨false, rfl, h⟩
       · refine Yf [.skip, .skip, .skip, .skip, .plain, .plain, .skip, .skip, .skip, .skip, .skip, .plain, .plain, .skip, .skip, .skip, .skip, .skip, .plain, .plain, .skip, .skip, .skip, .skip, .skip, .plain, .plain] [4] ?_
         exact YS ⟨false, rfl, h⟩
     · refine Yf [.skip, .skip, .skip, .skip, .plain, .plain, .skip, .skip, .skip, .skip, .skip, .plain, .plain, .skip, .skip, .skip, .skip, .skip, .plain, .plain, .skip, .skip, .skip, .skip, .skip, .plain, .plain, .skip, .skip, .skip, .skip, .skip, .plain, .plain] [4] ?_
       exact YS ⟨false, rfl, h⟩
   · refine Yf [.skip, .skip, .skip, .skip, .plain, .plain, .skip, .skip, .skip, .skip, .skip, .plain, .plain, .skip, .skip, .skip, .skip, .skip, .plain, .plain, .skip, .skip, .skip, .skip, .skip, .plain, .plain, .skip, .skip, .skip, .skip, .skip, .plain, .plain, .skip, .skip, .skip, .skip, .skip, .plain, .plain] [4] ?_
     exact YS ⟨false, rfl, h⟩

/-! ### towpath/towpathlaw01.TwinInts (function 42) -/

theorem S_towpathlaw01_TwinInts {l_ : Slc} {w : World} {R : Slc → World → Prop} (h : F_towpathlaw01_TwinInts l_ R w) : C_towpathlaw01_TwinInts l_ w R := by
 unfold F_towpathlaw01_TwinInts at h
 refine Yh Try.func42 ?_
 · refine Yp P1 [0] ?_
   refine Yt ?_
   refine Yn P3 ?_
   obtain ⟨h0, h1, h2, h⟩ := h
   refine reg_makeSlice (t := 23) (e := 3) (lo := (Operand.const (Value.int IntKind.i64 0))) (co := (Operand.tmp 7)) (l := 0) (c := (IntKind.i64.wrap (((l_.len : Nat) : Int) + 1))) (sz := 1) (by_ := 8) (zs := [Value.int .i64 0]) (ty := 23) (dst := some 8) (by kernel_rfl) (by kernel_rfl) (by kernel_rfl) (by kernel_rfl) (by kernel_rfl) (by kernel_rfl) (by kernel_rfl) (by kernel_rfl) (by kernel_rfl) h0 h1 h2 (fun b_ w1 hb hw => ?_)
   replace h := h b_ w1 hb hw
   clear hb hw
   refine Yf P1 [0, 3] ?_
   refine Ys ?_
   refine Yp P1 [0, 3, 4] ?_
   refine Yd 0 ?_
   obtain ⟨I, μ, h0, hr⟩ := h
   refine Yloop (fun m l w => ∃ (t_ : Slc) (i : Int), l = [(0, sv_ l_), (3, sv_ t_), (4, Value.int .i64 i)] ∧ I t_ i w ∧ μ t_ i w = m) ⟨(Slc.mk (some ⟨b_, 0, none⟩) 0 ((IntKind.i64.wrap (((l_.len : Nat) : Int) + 1)).toNat)), 0, rfl, h0, rfl⟩ ?_
   rintro _ _ w2 ⟨t_, i, rfl, hI, rfl⟩
   obtain ⟨again_, again__h, h⟩ : ∃ again_ : Slc → Int → World → Prop, (∀ t_' i' w', again_ t_' i' w' → I t_' i' w' ∧ μ t_' i' w' < μ t_ i w2) ∧ F_towpathlaw01_TwinInts_L0 l_ R again_ t_ i w2 := ⟨_, fun _ _ _ h => h, hr t_ i w2 hI⟩
   clear h0 hI
   unfold F_towpathlaw01_TwinInts_L0 at h
   refine Ys ?_
   refine Yp P4 [0, 3, 4, 12] ?_
   refine Yc h (fun h => ?_) fun h => ?_
   · refine Yskip ?_
     refine Ys ?_
     refine Yd 1 ?_
     refine Yr ?_
     refine Yn P3 ?_
     obtain ⟨hp_3, h⟩ := h
     refine Yu 16 (fun pp => .slice pp l_.len l_.cap) hp_3 ?_
     refine Yi1 h fun h => ?_
     refine Yl h fun v19 h => ?_
     refine Yw (sl_ 1 1) h fun b_1 w3 h => ?_
     obtain ⟨src, hs, h⟩ := h
     refine reg_append (t := 23) (tx := 23) (e := 3) (a := (Operand.tmp 15)) (xo := (Operand.tmp 20)) (s := t_) (x := (Slc.mk (some ⟨b_1, 0, none⟩) 1 1)) (sz := 1) (by_ := 8) (zs := [Value.int .i64 0]) (ty := 23) (dst := some 21)  src (by kernel_rfl) (by kernel_rfl) (by kernel_rfl) (by kernel_rfl) (by kernel_rfl) (by kernel_rfl) (by kernel_rfl) (by kernel_rfl) (by kernel_rfl) hs (AppendW.mono h (fun t_1 w4 h => ?_))
     refine Yf P1 [0, 3, 4] ?_
     refine Yr ?_
     refine Yf P3 [0, 3, 4] ?_
     have hb_ := again__h _ _ _ h
     exact ⟨_, hb_.2, _, Sub.mk (by kernel_rfl), t_1, (IntKind.i64.wrap (i + 1)), rfl, hb_.1, rfl⟩
   · refine Yexit 0 ?_
     refine Yt ?_
     refine Yn P1 ?_
     refine Yw (sl_ 1 1) h fun b_2 w5 h => ?_
     obtain ⟨src, hs, h⟩ := h
     refine reg_append (t := 23) (tx := 23) (e := 3) (a := (Operand.tmp 22)) (xo := (Operand.tmp 23)) (s := t_) (x := (Slc.mk (some ⟨b_2, 0, none⟩) 1 1)) (sz := 1) (by_ := 8) (zs := [Value.int .i64 0]) (ty := 23) (dst := some 24)  src (by kernel_rfl) (by kernel_rfl) (by kernel_rfl) (by kernel_rfl) (by kernel_rfl) (by kernel_rfl) (by kernel_rfl) (by kernel_rfl) (by kernel_rfl) hs (AppendW.mono h (fun v24 w6 h => ?_))
     refine Yn P2 ?_
     obtain ⟨h0, h1, h⟩ := h
     refine reg_sliceHi (t := 23) (e := 3) (x := (Operand.tmp 24)) (hi := (Operand.tmp 26)) (p := v24.ptr) (l := v24.len) (c := v24.cap) (sz := 1) (k := .i64) (j := ((l_.len : Nat) : Int)) (ty := 23) (dst := some 27) (by kernel_rfl) (by kernel_rfl) (by kernel_rfl) (by kernel_rfl) (by kernel_rfl) h0 h1 ?_
     refine Yf P1 [2] ?_
     exact YS ⟨(Slc.mk v24.ptr (((l_.len : Nat) : Int).toNat) v24.cap), rfl, h⟩

/-! ### towpath/towpathlaw01.LeftInts (function 44) -/
def c44_0 := cb_ Try.f44
def c44_3 := cr_ c44_0
def c44_13 := cr_ c44_3
def c44_14 := cl_ c44_13
def c44_17 := cr_ c44_14
def c44_18 := cl_ c44_17
def c44_19 := cl_ c44_18
def c44_26 := cr_ c44_19
def c44_27 := cl_ c44_26
def c44_28 := cl_ c44_27
def c44_29 := cl_ c44_28
def r44_29 := co_ c44_29

theorem S_towpathlaw01_LeftInts {t_ : Slc} {l_ : Slc} {w : World} {R : Bool → World → Prop} (h : F_towpathlaw01_LeftInts t_ l_ R w) : C_towpathlaw01_LeftInts t_ l_ w R := by
 unfold F_towpathlaw01_LeftInts at h
 refine Yh Try.func44 ?_
 · refine Yp P1 [0, 1] ?_
   refine Ys ?_
   refine Yp [.plain, .plain, .plain, .plain, .plain, .plain, .plain, .plain, .plain, .plain, .plain, .pick] [0, 1, 18] ?_
   refine Yc h (fun h => ?_) fun h => ?_
   · refine Yp P1 [4] ?_
     exact YS ⟨false, rfl, h⟩
   · refine Yskip ?_
     refine Ys ?_
     refine Yp P1 [0, 1, 5] ?_
     refine Yd 0 ?_
     obtain ⟨I, μ, h0, hr⟩ := h
     refine Yloop (fun m l w => ∃ (i : Int), l = [(0, sv_ t_), (1, sv_ l_), (5, Value.int .i64 i)] ∧ I i w ∧ μ i w = m) ⟨0, rfl, h0, rfl⟩ ?_
     rintro _ _ w1 ⟨i, rfl, hI, rfl⟩
     obtain ⟨again_, again__h, h⟩ : ∃ again_ : Int → World → Prop, (∀ i' w', again_ i' w' → I i' w' ∧ μ i' w' < μ i w1) ∧ F_towpathlaw01_LeftInts_L0 t_ l_ R again_ i w1 := ⟨_, fun _ _ h => h, hr i w1 hI⟩
     clear h0 hI
     unfold F_towpathlaw01_LeftInts_L0 at h
     refine Ys ?_
     refine Yp P4 [0, 1, 5, 22] ?_
     refine Yc h (fun h => ?_) fun h => ?_
     · refine Yskip ?_
       refine Ys ?_
       refine Yd 1 ?_
       refine Ys ?_
       refine wpE_drawregion (id := 6) (ops := r44_29) (by kernel_rfl) (by kernel_rfl) (by kernel_rfl) ?_
       refine Qn P2 ?_
       obtain ⟨hp_14, h⟩ := h
       refine Qu 25 (fun pp => .slice pp t_.len t_.cap) hp_14 ?_
       refine Qi1 h fun h => ?_
       refine Ql h fun v28 h => ?_
       refine Qn P2 ?_
       obtain ⟨hp_15, h⟩ := h
       refine Qu 29 (fun pp => .slice pp l_.len l_.cap) hp_15 ?_
       refine Qi1 h fun h => ?_
       refine Ql h fun v32 h => ?_
       refine Qf P1 [0, 1, 5, 33] h fun w2 h => ?_
       refine Yc h (fun h => ?_) fun h => ?_
       · refine Yp P1 [4] ?_
         exact YS ⟨false, rfl, h⟩
       · refine Yskip ?_
         refine Yr ?_
         refine Yf P3 [0, 1, 5] ?_
         have hb_ := again__h _ _ h
         exact ⟨_, hb_.2, _, Sub.mk (by kernel_rfl), (IntKind.i64.wrap (i + 1)), rfl, hb_.1, rfl⟩
     · refine Yexit 0 ?_
       refine Yt ?_
       refine Yn P4 ?_
       obtain ⟨h0, h1, h⟩ := h
       refine reg_sliceHi (t := 23) (e := 3) (x := (Operand.tmp 34)) (hi := (Operand.tmp 37)) (p := t_.ptr) (l := t_.len) (c := t_.cap) (sz := 1) (k := .i64) (j := (IntKind.i64.wrap (((l_.len : Nat) : Int) + 1))) (ty := 23) (dst := some 38) (by kernel_rfl) (by kernel_rfl) (by kernel_rfl) (by kernel_rfl) (by kernel_rfl) h0 h1 ?_
       refine Yn P2 ?_
       obtain ⟨hp_17, h⟩ := h
       refine Yu 38 (fun pp => .slice pp ((IntKind.i64.wrap (((l_.len : Nat) : Int) + 1)).toNat) t_.cap) hp_17 ?_
       refine Yi1 h fun h => ?_
       refine Yl h fun x h => ?_
       refine Yf P1 [6] ?_
       refine Yp P3 [4] ?_
       exact YS ⟨(x == 7777), rfl, h⟩

/-! ### towpath/towpathlaw01.SameInts (function 66) -/
def c66_0 := cb_ Try.f66
def c66_3 := cr_ c66_0
def c66_13 := cr_ c66_3
def c66_14 := cl_ c66_13
def c66_17 := cr_ c66_14
def c66_18 := cl_ c66_17
def c66_19 := cl_ c66_18
def c66_26 := cr_ c66_19
def c66_27 := cl_ c66_26
def c66_28 := cl_ c66_27
def c66_29 := cl_ c66_28
def r66_29 := co_ c66_29

theorem S_towpathlaw01_SameInts {a_ : Slc} {b_ : Slc} {w : World} {R : Bool → World → Prop} (h : F_towpathlaw01_SameInts a_ b_ R w) : C_towpathlaw01_SameInts a_ b_ w R := by
 unfold F_towpathlaw01_SameInts at h
 refine Yh Try.func66 ?_
 · refine Yp P1 [0, 1] ?_
   refine Ys ?_
   refine Yp (Pl 5) [0, 1, 10] ?_
   refine Yc h (fun h => ?_) fun h => ?_
   · refine Yp P1 [4] ?_
     exact YS ⟨false, rfl, h⟩
   · refine Yskip ?_
     refine Ys ?_
     refine Yp P1 [0, 1, 5] ?_
     refine Yd 0 ?_
     obtain ⟨I, μ, h0, hr⟩ := h
     refine Yloop (fun m l w => ∃ (i : Int), l = [(0, sv_ a_), (1, sv_ b_), (5, Value.int .i64 i)] ∧ I i w ∧ μ i w = m) ⟨0, rfl, h0, rfl⟩ ?_
     rintro _ _ w1 ⟨i, rfl, hI, rfl⟩
     obtain ⟨again_, again__h, h⟩ : ∃ again_ : Int → World → Prop, (∀ i' w', again_ i' w' → I i' w' ∧ μ i' w' < μ i w1) ∧ F_towpathlaw01_SameInts_L0 a_ b_ R again_ i w1 := ⟨_, fun _ _ h => h, hr i w1 hI⟩
     clear h0 hI
     unfold F_towpathlaw01_SameInts_L0 at h
     refine Ys ?_
     refine Yp P4 [0, 1, 5, 14] ?_
     refine Yc h (fun h => ?_) fun h => ?_
     · refine Yskip ?_
       refine Ys ?_
       refine Yd 1 ?_
       refine Ys ?_
       refine wpE_drawregion (id := 6) (ops := r66_29) (by kernel_rfl) (by kernel_rfl) (by kernel_rfl) ?_
       refine Qn P2 ?_
       obtain ⟨hp_14, h⟩ := h
       refine Qu 17 (fun pp => .slice pp a_.len a_.cap) hp_14 ?_
       refine Qi1 h fun h => ?_
       refine Ql h fun v20 h => ?_
       refine Qn P2 ?_
       obtain ⟨hp_15, h⟩ := h
       refine Qu 21 (fun pp => .slice pp b_.len b_.cap) hp_15 ?_
       refine Qi1 h fun h => ?_
       refine Ql h fun v24 h => ?_
       refine Qf P1 [0, 1, 5, 25] h fun w2 h => ?_
       refine Yc h (fun h => ?_) fun h => ?_
       · refine Yp P1 [4] ?_
         exact YS ⟨false, rfl, h⟩
       · refine Yskip ?_
         refine Yr ?_
         refine Yf P3 [0, 1, 5] ?_
         have hb_ := again__h _ _ h
         exact ⟨_, hb_.2, _, Sub.mk (by kernel_rfl), (IntKind.i64.wrap (i + 1)), rfl, hb_.1, rfl⟩
     · refine Yexit 0 ?_
       refine Yp P1 [4] ?_
       exact YS ⟨true, rfl, h⟩

/-! ### towpath/towpathlaw01.TwinResp (function 69) -/
def c69_0 := cb_ Try.f69
def c69_3 := cr_ c69_0
def c69_4 := cl_ c69_3
def r69_4 := co_ c69_4
def o_towpathlaw01_TwinResp_4 : List Nat := [0, 1, 2, 3, 4, 5, 7, 8, 10, 11, 6, 9, 12, 13]

theorem S_towpathlaw01_TwinResp {x : T_api_Resp} {w : World} {R : T_api_Resp → World → Prop} (h : F_towpathlaw01_TwinResp x R w) : C_towpathlaw01_TwinResp x w R := by
 unfold F_towpathlaw01_TwinResp at h
 refine Yh Try.func69 ?_
 · refine Yt ?_
   refine Yw pv_ h fun b_ w1 h => ?_
   refine Yw pv_ h fun b_1 w2 h => ?_
   refine Yf [] [1, 2] ?_
   refine Ys ?_
   refine wpE_mixregion (id := 1) (ops := r69_4) o_towpathlaw01_TwinResp_4 (by kernel_rfl) (by kernel_rfl) (by kernel_rfl) (by kernel_rfl) (fun w3 hw => ?_)
   replace h := h w3 hw
   clear hw
   refine Mn P1 ?_
   refine Ml 1 h fun v4 hc h => ?_
   refine Mn P1 ?_
   refine Ml 3 h fun v6 hc h => ?_
   refine Mn P1 ?_
   refine Ml 5 h fun v8 hc h => ?_
   refine Mn P1 ?_
   refine Ml 8 h fun v11 hc h => ?_
   refine Mn P1 ?_
   refine Ml 11 h fun v14 hc h => ?_
   refine mreg_enter (op := (Op.call (Call.mk (Callee.value (Operand.func 100)) #[(Operand.tmp 8)] #[92]))) (ty := 92) (dst := some 9) 6 [5, 4] [(11, fun w' => w'.cell? ⟨b_, 4, none⟩ = some (Value.int .i64 v14)), (8, fun w' => w'.cell? ⟨b_, 3, none⟩ = some (sv_ v11)), (3, fun w' => w'.cell? ⟨b_, 1, none⟩ = some (Value.bool v6)), (1, fun w' => w'.cell? ⟨b_, 0, none⟩ = some (Value.int .i64 v4))] 100 #[sv_ v8] (by kernel_rfl) (by kernel_rfl) (by kernel_rfl) (by kernel_rfl) (by kernel_rfl) (fun ww => by kernel_rfl) (Calls.mono h ?_)
   rintro _ w4 ⟨v9, rfl, h⟩
   obtain ⟨hk0, hk1, hk2, hk3, h⟩ := h
   refine ⟨_, rfl, ⟨hk0, hk1, hk2, hk3, trivial⟩, ?_⟩
   refine mreg_enter (op := (Op.call (Call.mk (Callee.value (Operand.func 101)) #[(Operand.tmp 11)] #[93]))) (ty := 93) (dst := some 12) 9 [6, 8, 5, 7, 4] [(11, fun w' => w'.cell? ⟨b_, 4, none⟩ = some (Value.int .i64 v14)), (3, fun w' => w'.cell? ⟨b_, 1, none⟩ = some (Value.bool v6)), (1, fun w' => w'.cell? ⟨b_, 0, none⟩ = some (Value.int .i64 v4))] 101 #[sv_ v11] (by kernel_rfl) (by kernel_rfl) (by kernel_rfl) (by kernel_rfl) (by kernel_rfl) (fun ww => by kernel_rfl) (Calls.mono h ?_)
   rintro _ w5 ⟨v12, rfl, h⟩
   obtain ⟨hk0, hk1, hk2, h⟩ := h
   refine ⟨_, rfl, ⟨hk0, hk1, hk2, trivial⟩, ?_⟩
   refine Mn P1 ?_
   refine Mstore 13 [0, 1, 2, 3, 4, 5, 6, 7, 8, 9, 10, 11, 12] [] h fun w6 h => ?_
   refine ⟨trivial, ?_⟩
   refine Mf [] [2] ?_
   obtain ⟨res, hc_res, h⟩ := h
   exact YSg (rs := [(ResultVar.cell 2 95)]) (v := Value.agg #[Value.int .i64 res.To, Value.bool res.OK, sv_ res.Entries, sv_ res.Held, Value.int .i64 res.Count]) (⟨b_1, 0, [Value.int .i64 res.To, Value.bool res.OK, sv_ res.Entries, sv_ res.Held, Value.int .i64 res.Count], by kernel_rfl, hc_res, (sizeP_of (k := 5) (by kernel_rfl) (by kernel_rfl)), .inl ⟨by kernel_rfl, rfl⟩, trivial⟩) ⟨res, rfl, h⟩

/-! ### towpath/towpathlaw01.LeftResp (function 71) -/

theorem S_towpathlaw01_LeftResp {t_ : T_api_Resp} {x : T_api_Resp} {w : World} {R : Bool → World → Prop} (h : F_towpathlaw01_LeftResp t_ x R w) : C_towpathlaw01_LeftResp t_ x w R := by
 unfold F_towpathlaw01_LeftResp at h
 refine Yh Try.func71 ?_
 · refine Yt ?_
   refine Yw pv_ h fun b_ w1 h => ?_
   refine Yw pv_ h fun b_1 w2 h => ?_
   refine Yf P1 [2, 3] ?_
   refine Yt ?_
   refine Yn P1 ?_
   refine Yl h fun v6 h => ?_
   refine Yn P1 ?_
   refine Yl h fun v8 h => ?_
   refine Yn P3 ?_
   refine Yspl 10 h (fun h => ?_) fun h => ?_
   · refine Yl h fun v12 h => ?_
     refine Yn [.sure] ?_
     refine Yl h fun v14 h => ?_
     refine Yn [.sure, .plain, .plain, .plain] ?_
     refine Yspl 17 h (fun h => ?_) fun h => ?_
     · refine Yl h fun v19 h => ?_
       refine Yn [.sure] ?_
       refine Yl h fun v21 h => ?_
       refine Ym1 h fun v22 w3 h => ?_
       refine Yn P3 ?_
       refine Yspl 24 h (fun h => ?_) fun h => ?_
       · refine Yl h fun v26 h => ?_
         refine Yn [.sure] ?_
         refine Yl h fun v28 h => ?_
         refine Ym1 h fun v29 w4 h => ?_
         refine Yn P3 ?_
         refine Yspl 31 h (fun h => ?_) fun h => ?_
         · refine Yl h fun v33 h => ?_
           refine Yn [.sure] ?_
           refine Yl h fun v35 h => ?_
           refine Yf [.sure, .plain, .plain] [4] ?_
           exact YS ⟨(v33 == v35), rfl, h⟩
         · refine Yf [.skip, .skip, .skip, .skip, .plain, .plain] [4] ?_
           exact YS ⟨false, rfl, h⟩
       · refine Yf [.skip, .skip, .skip, .skip, .plain, .plain, .skip, .skip, .skip, .skip, .skip, .plain, .plain] [4] ?_
         exact YS ⟨false, rfl, h⟩
     · refine Yf [.skip, .skip, .skip, .skip, .plain, .plain, .skip, .skip, .skip, .skip, .skip, .plain, .plain, .skip, .skip, .skip, .skip, .skip, .plain, .plain] [4] ?_
       exact YS ⟨false, rfl, h⟩
   · refine Yf [.skip, .skip, .skip, .skip, .plain, .plain, .skip, .skip, .skip, .skip, .skip, .plain, .plain, .skip, .skip, .skip, .skip, .skip, .plain, .plain, .skip, .skip, .skip, .skip, .skip, .plain, .plain] [4] ?_
     exact YS ⟨false, rfl, h⟩

/-! ### towpath/towpathlaw01.SameAnswer (function 78) -/

theorem S_towpathlaw01_SameAnswer {a_ : T_api_Answer} {b_ : T_api_Answer} {w : World} {R : Bool → World → Prop} (h : F_towpathlaw01_SameAnswer a_ b_ R w) : C_towpathlaw01_SameAnswer a_ b_ w R := by
 unfold F_towpathlaw01_SameAnswer at h
 refine Yh Try.func78 ?_
 · refine Yt ?_
   refine Yw pv_ h fun b_1 w1 h => ?_
   refine Yw pv_ h fun b_2 w2 h => ?_
   refine Yf P1 [2, 3] ?_
   refine Yt ?_
   refine Yn P1 ?_
   refine Yl h fun v6 h => ?_
   refine Yn P1 ?_
   refine Yl h fun v8 h => ?_
   refine Yn P3 ?_
   refine Yspl 10 h (fun h => ?_) fun h => ?_
   · refine Yl h fun v12 h => ?_
     refine Yn [.sure] ?_
     refine Yl h fun v14 h => ?_
     refine Yn [.sure, .plain, .plain, .plain] ?_
     refine Yspl 17 h (fun h => ?_) fun h => ?_
     · refine Yl h fun v19 h => ?_
       refine Yn [.sure] ?_
       refine Yl h fun v21 h => ?_
       refine Yn [.sure, .plain, .plain, .plain] ?_
       refine Yspl 24 h (fun h => ?_) fun h => ?_
       · refine Yl h fun v26 h => ?_
         refine Yn [.sure] ?_
         refine Yl h fun v28 h => ?_
         refine Ym1 h fun v29 w3 h => ?_
         refine Yn P3 ?_
         refine Yspl 31 h (fun h => ?_) fun h => ?_
         · refine Yl h fun v33 h => ?_
           refine Yn [.sure] ?_
           refine Yl h fun v35 h => ?_
           refine Yf [.sure, .plain, .plain] [4] ?_
           exact YS ⟨(v33 == v35), rfl, h⟩
         · refine Yf [.skip, .skip, .skip, .skip, .plain, .plain] [4] ?_
           exact YS ⟨false, rfl, h⟩
       · refine Yf [.skip, .skip, .skip, .skip, .plain, .plain, .skip, .skip, .skip, .skip, .skip, .plain, .plain] [4] ?_
         exact YS ⟨false, rfl, h⟩
     · refine Yf [.skip, .skip, .skip, .skip, .plain, .plain, .skip, .skip, .skip, .skip, .skip, .plain, .plain, .skip, .skip, .skip, .skip, .skip, .plain, .plain] [4] ?_
       exact YS ⟨false, rfl, h⟩
   · refine Yf [.skip, .skip, .skip, .skip, .plain, .plain, .skip, .skip, .skip, .skip, .skip, .plain, .plain, .skip, .skip, .skip, .skip, .skip, .plain, .plain, .skip, .skip, .skip, .skip, .skip, .plain, .plain] [4] ?_
     exact YS ⟨false, rfl, h⟩

/-! ### towpath/towpathlaw01.SameHelds (function 79) -/
def c79_0 := cb_ Try.f79
def c79_3 := cr_ c79_0
def c79_13 := cr_ c79_3
def c79_14 := cl_ c79_13
def c79_17 := cr_ c79_14
def c79_18 := cl_ c79_17
def c79_19 := cl_ c79_18
def c79_26 := cr_ c79_19
def c79_27 := cl_ c79_26
def c79_28 := cl_ c79_27
def c79_29 := cl_ c79_28
def r79_29 := co_ c79_29

theorem S_towpathlaw01_SameHelds {a_ : Slc} {b_ : Slc} {w : World} {R : Bool → World → Prop} (h : F_towpathlaw01_SameHelds a_ b_ R w) : C_towpathlaw01_SameHelds a_ b_ w R := by
 unfold F_towpathlaw01_SameHelds at h
 refine Yh Try.func79 ?_
 · refine Yp P1 [0, 1] ?_
   refine Ys ?_
   refine Yp (Pl 5) [0, 1, 10] ?_
   refine Yc h (fun h => ?_) fun h => ?_
   · refine Yp P1 [4] ?_
     exact YS ⟨false, rfl, h⟩
   · refine Yskip ?_
     refine Ys ?_
     refine Yp P1 [0, 1, 5] ?_
     refine Yd 0 ?_
     obtain ⟨I, μ, h0, hr⟩ := h
     refine Yloop (fun m l w => ∃ (i : Int), l = [(0, sv_ a_), (1, sv_ b_), (5, Value.int .i64 i)] ∧ I i w ∧ μ i w = m) ⟨0, rfl, h0, rfl⟩ ?_
     rintro _ _ w1 ⟨i, rfl, hI, rfl⟩
     obtain ⟨again_, again__h, h⟩ : ∃ again_ : Int → World → Prop, (∀ i' w', again_ i' w' → I i' w' ∧ μ i' w' < μ i w1) ∧ F_towpathlaw01_SameHelds_L0 a_ b_ R again_ i w1 := ⟨_, fun _ _ h => h, hr i w1 hI⟩
     clear h0 hI
     unfold F_towpathlaw01_SameHelds_L0 at h
     refine Ys ?_
     refine Yp P4 [0, 1, 5, 14] ?_
     refine Yc h (fun h => ?_) fun h => ?_
     · refine Yskip ?_
       refine Ys ?_
       refine Yd 1 ?_
       refine Ys ?_
       refine wpE_drawregion (id := 6) (ops := r79_29) (by kernel_rfl) (by kernel_rfl) (by kernel_rfl) ?_
       refine Qn P2 ?_
       obtain ⟨hp_14, h⟩ := h
       refine Qu 17 (fun pp => .slice pp a_.len a_.cap) hp_14 ?_
       refine Qi h fun h => ?_
       refine QL h fun v20 h => ?_
       refine Qn P2 ?_
       obtain ⟨hp_15, h⟩ := h
       refine Qu 21 (fun pp => .slice pp b_.len b_.cap) hp_15 ?_
       refine Qi h fun h => ?_
       refine QL h fun v24 h => ?_
       obtain ⟨v25, hq, h⟩ := h
       refine qreg_enter (op := (Op.call (Call.mk (Callee.value (Operand.func 107)) #[(Operand.tmp 20), (Operand.tmp 24)] #[143, 143]))) (ty := 4) (dst := some 25) 107 #[Value.agg #[Value.string v20.Key, sv_ v20.Versions], Value.agg #[Value.string v24.Key, sv_ v24.Versions]] (Value.bool v25) (by kernel_rfl) (fun ww => by kernel_rfl) (fun w' he => Calls.mono (hq w' he) (by rintro _ w'' ⟨_, rfl, rfl, hE⟩; exact ⟨rfl, hE⟩)) ?_
       clear hq
       refine Qf P1 [0, 1, 5, 26] h fun w3 h => ?_
       refine Yc h (fun h => ?_) fun h => ?_
       · refine Yp P1 [4] ?_
         exact YS ⟨false, rfl, h⟩
       · refine Yskip ?_
         refine Yr ?_
         refine Yf P3 [0, 1, 5] ?_
         have hb_ := again__h _ _ h
         exact ⟨_, hb_.2, _, Sub.mk (by kernel_rfl), (IntKind.i64.wrap (i + 1)), rfl, hb_.1, rfl⟩
     · refine Yexit 0 ?_
       refine Yp P1 [4] ?_
       exact YS ⟨true, rfl, h⟩
end
end Go.Proofs.Ytpedclhflmhakaa
