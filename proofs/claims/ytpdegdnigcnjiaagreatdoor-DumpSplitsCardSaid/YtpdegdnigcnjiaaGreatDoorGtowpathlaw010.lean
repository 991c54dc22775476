/- WRITTEN BY PROGRAM (dec.py): for each Go function the clean formula F, the call's contract C, and the proof S that F gives C. -/
import Derived.Test.YtpdegdnigcnjiaaGreatDoorRows
import Derived.Test.YtpdegdnigcnjiaaGreatDoorGF
namespace Go.Proofs.YtpdegdnigcnjiaaGreatDoor
open Go
set_option linter.unusedVariables false
set_option maxRecDepth 100000
set_option maxHeartbeats 4000000
noncomputable section

/-! ### towpath/towpathlaw01.Beyond (function 7) -/

theorem S_towpathlaw01_Beyond {l_ : Slc} {w : World} {R : Bool → World → Prop} (h : F_towpathlaw01_Beyond l_ R w) : C_towpathlaw01_Beyond l_ w R := by
 unfold F_towpathlaw01_Beyond at h
 refine Yh Tryz.func7 ?_
 · refine Yp P1 [0] ?_
   refine Yp P1 [0, 3] ?_
   refine Ys ?_
   refine Yp P1 [0, 3, 4] ?_
   refine Yd 0 ?_
   obtain ⟨I, μ, h0, hr⟩ := h
   refine Yloop (fun m l w => ∃ (n_ : Int) (i : Int), l = [(0, sv_ l_), (3, Value.int .i64 n_), (4, Value.int .i64 i)] ∧ I n_ i w ∧ μ n_ i w = m) ⟨0, 0, rfl, h0, rfl⟩ ?_
   rintro _ _ w1 ⟨n_, i, rfl, hI, rfl⟩
   obtain ⟨again_, again__h, h⟩ : ∃ again_ : Int → Int → World → Prop, (∀ n_' i' w', again_ n_' i' w' → I n_' i' w' ∧ μ n_' i' w' < μ n_ i w1) ∧ F_towpathlaw01_Beyond_L0 l_ R again_ n_ i w1 := ⟨_, fun _ _ _ h => h, hr n_ i w1 hI⟩
   clear h0 hI
   unfold F_towpathlaw01_Beyond_L0 at h
   refine Ys ?_
   refine Yp P4 [0, 3, 4, 8] ?_
   refine Yc h (fun h => ?_) fun h => ?_
   · refine Yskip ?_
     refine Ys ?_
     refine Yd 1 ?_
     refine Yt ?_
     refine Yn P3 ?_
     obtain ⟨hp_7, h⟩ := h
     refine Yu 12 (fun pp => .slice pp l_.len l_.cap) hp_7 ?_
     refine Yi1 h fun h => ?_
     refine Yl h fun v15 h => ?_
     refine Yf P2 [0, 3, 4] ?_
     refine Yp P2 [0, 3, 4, 18] ?_
     refine Yc h (fun h => ?_) fun h => ?_
     · refine Yp P1 [2] ?_
       exact YS ⟨true, rfl, h⟩
     · refine Yskip ?_
       refine Yr ?_
       refine Yf P3 [0, 3, 4] ?_
       have hb_ := again__h _ _ _ h
       exact ⟨_, hb_.2, _, Sub.mk (by kernel_rfl), (IntKind.i64.wrap (n_ + v15)), (IntKind.i64.wrap (i + 1)), rfl, hb_.1, rfl⟩
   · refine Yexit 0 ?_
     refine Yp P1 [2] ?_
     exact YS ⟨false, rfl, h⟩

/-! ### (*towpath/towpathlaw01.Book).Apart (function 14) -/

theorem S_towpathlaw01_Book_Apart {b_ : Option Addr} {w : World} {R : Bool → World → Prop} (h : F_towpathlaw01_Book_Apart b_ R w) : C_towpathlaw01_Book_Apart b_ w R := by
 unfold F_towpathlaw01_Book_Apart at h
 refine Yh Tryz.func14 ?_
 · refine Yp P1 [0] ?_
   refine Yt ?_
   refine Yn P1 ?_
   refine Ym0 h fun w1 h => ?_
   refine Yf [] [0] ?_
   refine Yt ?_
   refine Yn P1 ?_
   refine Ym0 h fun w2 h => ?_
   refine Yf [] [0] ?_
   refine Yt ?_
   refine Yn P1 ?_
   refine Ym0 h fun w3 h => ?_
   refine Yf [] [0] ?_
   refine Yt ?_
   refine Yn P1 ?_
   refine Ym0 h fun w4 h => ?_
   refine Yf [] [0] ?_
   refine Yt ?_
   refine Yn P1 ?_
   refine Ym0 h fun w5 h => ?_
   refine Yf [] [0] ?_
   refine Yt ?_
   refine Yn P1 ?_
   refine Ym0 h fun w6 h => ?_
   refine Yf [] [0] ?_
   refine Yt ?_
   refine Yn P1 ?_
   refine Ym0 h fun w7 h => ?_
   refine Yf [] [0] ?_
   refine Yt ?_
   refine Yn P1 ?_
   refine Ym0 h fun w8 h => ?_
   refine Yf [] [0] ?_
   refine Yt ?_
   refine Yn P1 ?_
   refine Ym0 h fun w9 h => ?_
   refine Yf [] [0] ?_
   refine Yt ?_
   refine Yn P1 ?_
   refine Ym0 h fun w10 h => ?_
   refine Yf [] [0] ?_
   refine Yt ?_
   refine Yn P1 ?_
   refine Ym0 h fun w11 h => ?_
   refine Yf [] [0] ?_
   refine Yt ?_
   refine Yn P1 ?_
   refine Ym0 h fun w12 h => ?_
   refine Yf [] [0] ?_
   refine Yt ?_
   refine Yn P1 ?_
   refine Ym0 h fun w13 h => ?_
   refine Yf [] [0] ?_
   refine Yt ?_
   refine Yn P1 ?_
   refine Ym0 h fun w14 h => ?_
   refine Yf [] [0] ?_
   refine Yt ?_
   refine Yn P1 ?_
   refine Ym0 h fun w15 h => ?_
   refine Yf [] [0] ?_
   refine Yt ?_
   refine Yn P1 ?_
   refine Ym0 h fun w16 h => ?_
   refine Yf [] [0] ?_
   refine Yt ?_
   refine Yn P1 ?_
   refine Ym0 h fun w17 h => ?_
   refine Yf [] [0] ?_
   refine Yt ?_
   refine Yn P1 ?_
   refine Ym0 h fun w18 h => ?_
   refine Yf [] [0] ?_
   refine Yt ?_
   refine Yn P1 ?_
   refine Ym0 h fun w19 h => ?_
   refine Yf [] [0] ?_
   refine Yt ?_
   refine Yn P1 ?_
   refine Ym0 h fun w20 h => ?_
   refine Yf [] [0] ?_
   refine Yt ?_
   refine Yn P1 ?_
   refine Ym0 h fun w21 h => ?_
   refine Yf [] [0] ?_
   refine Yt ?_
   refine Yn P1 ?_
   refine Ym0 h fun w22 h => ?_
   refine Yf [] [0] ?_
   refine Yt ?_
   refine Yn P1 ?_
   refine Ym1 h fun v48 w23 h => ?_
   refine Yn P2 ?_
   refine Yspl 49 h (fun h => ?_) fun h => ?_
   · refine Ym1 h fun v51 w24 h => ?_
     refine Yn P3 ?_
     refine Yspl 53 h (fun h => ?_) fun h => ?_
     · refine Ym1 h fun v55 w25 h => ?_
       refine Yn P3 ?_
       refine Yspl 57 h (fun h => ?_) fun h => ?_
       · refine Ym1 h fun v59 w26 h => ?_
         refine Yn P3 ?_
         refine Yspl 61 h (fun h => ?_) fun h => ?_
         · refine Ym1 h fun v63 w27 h => ?_
           refine Yn P3 ?_
           refine Yspl 65 h (fun h => ?_) fun h => ?_
           · refine Ym1 h fun v67 w28 h => ?_
             refine Yn P3 ?_
             refine Yspl 69 h (fun h => ?_) fun h => ?_
             · refine Ym1 h fun v71 w29 h => ?_
               refine Yn P3 ?_
               refine Yspl 73 h (fun h => ?_) fun h => ?_
               · refine Ym1 h fun v75 w30 h => ?_
                 refine Yn P3 ?_
                 refine Yspl 77 h (fun h => ?_) fun h => ?_
                 · refine Ym1 h fun v79 w31 h => ?_
                   refine Yn P3 ?_
                   refine Yspl 81 h (fun h => ?_) fun h => ?_
                   · refine Ym1 h fun v83 w32 h => ?_
                     refine Yn P3 ?_
                     refine Yspl 85 h (fun h => ?_) fun h => ?_
                     · refine Ym1 h fun v87 w33 h => ?_
                       refine Yf P2 [2] ?_
                       exact YS ⟨v87, rfl, h⟩
                     · refine Yf [.skip, .plain, .plain] [2] ?_
                       exact YS ⟨false, rfl, h⟩
                   · refine Yf [.skip, .plain, .plain, .skip, .skip, .plain, .plain] [2] ?_
                     exact YS ⟨false, rfl, h⟩
                 · refine Yf [.skip, .plain, .plain, .skip, .skip, .plain, .plain, .skip, .skip, .plain, .plain] [2] ?_
                   exact YS ⟨false, rfl, h⟩
               · refine Yf [.skip, .plain, .plain, .skip, .skip, .plain, .plain, .skip, .skip, .plain, .plain, .skip, .skip, .plain, .plain] [2] ?_
                 exact YS ⟨false, rfl, h⟩
             · refine Yf [.skip, .plain, .plain, .skip, .skip, .plain, .plain, .skip, .skip, .plain, .plain, .skip, .skip, .plain, .plain, .skip, .skip, .plain, .plain] [2] ?_
               exact YS ⟨false, rfl, h⟩
           · refine Yf [.skip, .plain, .plain, .skip, .skip, .plain, .plain, .skip, .skip, .plain, .plain, .skip, .skip, .plain, .plain, .skip, .skip, .plain, .plain, .skip, .skip, .plain, .plain] [2] ?_
             exact YS ⟨false, rfl, h⟩
         · refine Yf [.skip, .plain, .plain, .skip, .skip, .plain, .plain, .skip, .skip, .plain, .plain, .skip, .skip, .plain, .plain, .skip, .skip, .plain, .plain, .skip, .skip, .plain, .plain, .skip, .skip, .plain, .plain] [2] ?_
           exact YS ⟨false, rfl, h⟩
       · refine Yf [.skip, .plain, .plain, .skip, .skip, .plain, .plain, .skip, .skip, .plain, .plain, .skip, .skip, .plain, .plain, .skip, .skip, .plain, .plain, .skip, .skip, .plain, .plain, .skip, .skip, .plain, .plain, .skip, .skip, .plain, .plain] [2] ?_
         exact YS ⟨false, rfl, h⟩
     · refine Yf [.skip, .plain, .plain, .skip, .skip, .plain, .plain, .skip, .skip, .plain, .plain, .skip, .skip, .plain, .plain, .skip, .skip, .plain, .plain, .skip, .skip, .plain, .plain, .skip, .skip, .plain, .plain, .skip, .skip, .plain, .plain, .skip, .skip, .plain, .plain] [2] ?_
       exact YS ⟨false, rfl, h⟩
   · refine Yf [.skip, .plain, .plain, .skip, .skip, .plain, .plain, .skip, .skip, .plain, .plain, .skip, .skip, .plain, .plain, .skip, .skip, .plain, .plain, .skip, .skip, .plain, .plain, .skip, .skip, .plain, .plain, .skip, .skip, .plain, .plain, .skip, .skip, .plain, .plain, .skip, .skip, .plain, .plain] [2] ?_
     exact YS ⟨false, rfl, h⟩

/-! ### (*towpath/towpathlaw01.Book).Ints (function 21) -/

theorem S_towpathlaw01_Book_Ints {b_ : Option Addr} {l_ : Slc} {w : World} {R : World → Prop} (h : F_towpathlaw01_Book_Ints b_ l_ R w) : C_towpathlaw01_Book_Ints b_ l_ w R := by
 unfold F_towpathlaw01_Book_Ints at h
 refine Yh Tryz.func21 ?_
 · refine Yr ?_
   refine Yn P2 ?_
   refine Ym0 h fun w1 h => ?_
   refine Yf [] [] ?_
   repeat (first | refine seqQ_exit ?_ | refine loopQ_exit ?_ | refine cutQ_exit ?_ | refine blockQ_hit ?_ | refine blockQ_miss (by kernel_rfl) ?_)
   refine retQ_normal ?_
   repeat (first | refine seqQ_ret ?_ | refine blockQ_ret ?_ | refine loopQ_ret ?_ | refine cutQ_ret ?_)
   exact retT (rs := []) (vs := []) (by kernel_rfl) (trivial) (by kernel_rfl) ⟨rfl, h⟩

/-! ### towpath/towpathlaw01.SavedSize (function 25) -/
def c25_0 := cb_ Tryz.f25
def c25_3 := cr_ c25_0
def c25_4 := cl_ c25_3
def r25_4 := co_ c25_4

theorem S_towpathlaw01_SavedSize {s : T_api_Saved} {w : World} {R : Int → World → Prop} (h : F_towpathlaw01_SavedSize s R w) : C_towpathlaw01_SavedSize s w R := by
 unfold F_towpathlaw01_SavedSize at h
 refine Yh Tryz.func25 ?_
 · refine Yt ?_
   refine Yw pv_ h fun b_ w1 h => ?_
   refine Yf P1 [1] ?_
   refine Ys ?_
   refine wpE_drawregion (id := 1) (ops := r25_4) (by kernel_rfl) (by kernel_rfl) (by kernel_rfl) ?_
   refine Qn P1 ?_
   refine Ql h fun v4 h => ?_
   refine Qn P2 ?_
   refine Ql h fun v7 h => ?_
   obtain ⟨v8, hq, h⟩ := h
   refine qreg_enter (op := (Op.call (Call.mk (Callee.value (Operand.func 87)) #[(Operand.tmp 7)] #[66]))) (ty := 3) (dst := some 8) 87 #[sv_ v7] (Value.int .i64 v8) (by kernel_rfl) (fun ww => by kernel_rfl) (fun w' he => Calls.mono (hq w' he) (by rintro _ w'' ⟨_, rfl, rfl, hE⟩; exact ⟨rfl, hE⟩)) ?_
   clear hq
   refine Qf P2 [2] h fun w3 h => ?_
   exact YS ⟨(IntKind.i64.wrap (((v4.len : Nat) : Int) + v8)), rfl, h⟩

/-! ### towpath/towpathlaw01.TwinSaved (function 26) -/
def c26_0 := cb_ Tryz.f26
def c26_3 := cr_ c26_0
def c26_4 := cl_ c26_3
def r26_4 := co_ c26_4
def o_towpathlaw01_TwinSaved_4 : List Nat := [0, 1, 2, 3, 5, 6, 4, 7, 8, 9]

theorem S_towpathlaw01_TwinSaved {x : T_api_Saved} {w : World} {R : T_api_Saved → World → Prop} (h : F_towpathlaw01_TwinSaved x R w) : C_towpathlaw01_TwinSaved x w R := by
 unfold F_towpathlaw01_TwinSaved at h
 refine Yh Tryz.func26 ?_
 · refine Yt ?_
   refine Yw pv_ h fun b_ w1 h => ?_
   refine Yw pv_ h fun b_1 w2 h => ?_
   refine Yf [] [1, 2] ?_
   refine Ys ?_
   refine wpE_mixregion (id := 1) (ops := r26_4) o_towpathlaw01_TwinSaved_4 (by kernel_rfl) (by kernel_rfl) (by kernel_rfl) (by kernel_rfl) (fun w3 hw => ?_)
   replace h := h w3 hw
   clear hw
   refine Mn P1 ?_
   refine Ml 1 h fun v4 hc h => ?_
   refine Mn P1 ?_
   refine Ml 3 h fun v6 hc h => ?_
   refine Mn P1 ?_
   refine Ml 6 h fun v9 hc h => ?_
   refine mreg_enter (op := (Op.call (Call.mk (Callee.value (Operand.func 88)) #[(Operand.tmp 6)] #[23]))) (ty := 23) (dst := some 7) 4 [3, 2] [(6, fun w' => w'.cell? ⟨b_, 2, none⟩ = some (sv_ v9)), (1, fun w' => w'.cell? ⟨b_, 0, none⟩ = some (Value.int .i64 v4))] 88 #[sv_ v6] (by kernel_rfl) (by kernel_rfl) (by kernel_rfl) (by kernel_rfl) (by kernel_rfl) (fun ww => by kernel_rfl) (Calls.mono h ?_)
   rintro _ w4 ⟨v7, rfl, h⟩
   obtain ⟨hk0, hk1, h⟩ := h
   refine ⟨_, rfl, ⟨hk0, hk1, trivial⟩, ?_⟩
   refine mreg_enter (op := (Op.call (Call.mk (Callee.value (Operand.func 89)) #[(Operand.tmp 9)] #[66]))) (ty := 66) (dst := some 10) 7 [4, 6, 3, 5, 2] [(1, fun w' => w'.cell? ⟨b_, 0, none⟩ = some (Value.int .i64 v4))] 89 #[sv_ v9] (by kernel_rfl) (by kernel_rfl) (by kernel_rfl) (by kernel_rfl) (by kernel_rfl) (fun ww => by kernel_rfl) (Calls.mono h ?_)
   rintro _ w5 ⟨v10, rfl, h⟩
   obtain ⟨hk0, h⟩ := h
   refine ⟨_, rfl, ⟨hk0, trivial⟩, ?_⟩
   refine Mn P1 ?_
   refine Mstore 9 [0, 1, 2, 3, 4, 5, 6, 7, 8] [] h fun w6 h => ?_
   refine ⟨trivial, ?_⟩
   refine Mf [] [2] ?_
   obtain ⟨res, hc_res, h⟩ := h
   exact YSg (rs := [(ResultVar.cell 2 68)]) (v := Value.agg #[Value.int .i64 res.Mark, sv_ res.Beyond, sv_ res.Held]) (⟨b_1, 0, [Value.int .i64 res.Mark, sv_ res.Beyond, sv_ res.Held], by kernel_rfl, hc_res, (sizeP_of (k := 3) (by kernel_rfl) (by kernel_rfl)), .inl ⟨by kernel_rfl, rfl⟩, trivial⟩) ⟨res, rfl, h⟩

/-! ### towpath/towpathlaw01.SameHeldLists (function 29) -/
def c29_0 := cb_ Tryz.f29
def c29_3 := cr_ c29_0
def c29_13 := cr_ c29_3
def c29_14 := cl_ c29_13
def c29_17 := cr_ c29_14
def c29_18 := cl_ c29_17
def c29_19 := cl_ c29_18
def c29_26 := cr_ c29_19
def c29_27 := cl_ c29_26
def c29_28 := cl_ c29_27
def c29_29 := cl_ c29_28
def r29_29 := co_ c29_29

theorem S_towpathlaw01_SameHeldLists {a_ : Slc} {b_ : Slc} {w : World} {R : Bool → World → Prop} (h : F_towpathlaw01_SameHeldLists a_ b_ R w) : C_towpathlaw01_SameHeldLists a_ b_ w R := by
 unfold F_towpathlaw01_SameHeldLists at h
 refine Yh Tryz.func29 ?_
 · refine Yp P1 [0, 1] ?_
   refine Ys ?_
   refine Yp (Pl 5) [0, 1, 10] ?_
   refine Yc h (fun h => ?_) fun h => ?_
   · refine Yp P1 [4] ?_
     exact YS ⟨false, rfl, h⟩
   · refine Yskip ?_
     refine Ys ?_
     refine Yp P1 [0, 1, 5] ?_
     refine Yd 0 ?_
     obtain ⟨I, μ, h0, hr⟩ := h
     refine Yloop (fun m l w => ∃ (i : Int), l = [(0, sv_ a_), (1, sv_ b_), (5, Value.int .i64 i)] ∧ I i w ∧ μ i w = m) ⟨0, rfl, h0, rfl⟩ ?_
     rintro _ _ w1 ⟨i, rfl, hI, rfl⟩
     obtain ⟨again_, again__h, h⟩ : ∃ again_ : Int → World → Prop, (∀ i' w', again_ i' w' → I i' w' ∧ μ i' w' < μ i w1) ∧ F_towpathlaw01_SameHeldLists_L0 a_ b_ R again_ i w1 := ⟨_, fun _ _ h => h, hr i w1 hI⟩
     clear h0 hI
     unfold F_towpathlaw01_SameHeldLists_L0 at h
     refine Ys ?_
     refine Yp P4 [0, 1, 5, 14] ?_
     refine Yc h (fun h => ?_) fun h => ?_
     · refine Yskip ?_
       refine Ys ?_
       refine Yd 1 ?_
       refine Ys ?_
       refine wpE_drawregion (id := 6) (ops := r29_29) (by kernel_rfl) (by kernel_rfl) (by kernel_rfl) ?_
       refine Qn P2 ?_
       obtain ⟨hp_14, h⟩ := h
       refine Qu 17 (fun pp => .slice pp a_.len a_.cap) hp_14 ?_
       refine Qi1 h fun h => ?_
       refine Ql h fun v20 h => ?_
       refine Qn P2 ?_
       obtain ⟨hp_15, h⟩ := h
       refine Qu 21 (fun pp => .slice pp b_.len b_.cap) hp_15 ?_
       refine Qi1 h fun h => ?_
       refine Ql h fun v24 h => ?_
       obtain ⟨v25, hq, h⟩ := h
       refine qreg_enter (op := (Op.call (Call.mk (Callee.value (Operand.func 98)) #[(Operand.tmp 20), (Operand.tmp 24)] #[66, 66]))) (ty := 4) (dst := some 25) 98 #[sv_ v20, sv_ v24] (Value.bool v25) (by kernel_rfl) (fun ww => by kernel_rfl) (fun w' he => Calls.mono (hq w' he) (by rintro _ w'' ⟨_, rfl, rfl, hE⟩; exact ⟨rfl, hE⟩)) ?_
       clear hq
       refine Qf P1 [0, 1, 5, 26] h fun w3 h => ?_
       refine Yc h (fun h => ?_) fun h => ?_
       · refine Yp P1 [4] ?_
         exact YS ⟨false, rfl, h⟩
       · refine Yskip ?_
         refine Yr ?_
         refine Yf P3 [0, 1, 5] ?_
         have hb_ := again__h _ _ h
         exact ⟨_, hb_.2, _, Sub.mk (by kernel_rfl), (IntKind.i64.wrap (i + 1)), rfl, hb_.1, rfl⟩
     · refine Yexit 0 ?_
       refine Yp P1 [4] ?_
       exact YS ⟨true, rfl, h⟩

/-! ### towpath/towpathlaw01.LeftSaved (function 30) -/

theorem S_towpathlaw01_LeftSaved {t_ : T_api_Saved} {x : T_api_Saved} {w : World} {R : Bool → World → Prop} (h : F_towpathlaw01_LeftSaved t_ x R w) : C_towpathlaw01_LeftSaved t_ x w R := by
 unfold F_towpathlaw01_LeftSaved at h
 refine Yh Tryz.func30 ?_
 · refine Yt ?_
   refine Yw pv_ h fun b_ w1 h => ?_
   refine Yw pv_ h fun b_1 w2 h => ?_
   refine Yf P1 [2, 3] ?_
   refine Yt ?_
   refine Yn P1 ?_
   refine Yl h fun v6 h => ?_
   refine Yn P1 ?_
   refine Yl h fun v8 h => ?_
   refine Yn P3 ?_
   refine Yspl 10 h (fun h => ?_) fun h => ?_
   · refine Yl h fun v12 h => ?_
     refine Yn [.sure] ?_
     refine Yl h fun v14 h => ?_
     refine Ym1 h fun v15 w3 h => ?_
     refine Yn P3 ?_
     refine Yspl 17 h (fun h => ?_) fun h => ?_
     · refine Yl h fun v19 h => ?_
       refine Yn [.sure] ?_
       refine Yl h fun v21 h => ?_
       refine Ym1 h fun v22 w4 h => ?_
       refine Yf P2 [4] ?_
       exact YS ⟨v22, rfl, h⟩
     · refine Yf [.skip, .skip, .skip, .skip, .plain, .plain] [4] ?_
       exact YS ⟨false, rfl, h⟩
   · refine Yf [.skip, .skip, .skip, .skip, .plain, .plain, .skip, .skip, .skip, .skip, .skip, .plain, .plain] [4] ?_
     exact YS ⟨false, rfl, h⟩

/-! ### (*towpath/towpathlaw01.Book).Saved (function 31) -/

theorem S_towpathlaw01_Book_Saved {b_ : Option Addr} {s : T_api_Saved} {w : World} {R : World → Prop} (h : F_towpathlaw01_Book_Saved b_ s R w) : C_towpathlaw01_Book_Saved b_ s w R := by
 unfold F_towpathlaw01_Book_Saved at h
 refine Yh Tryz.func31 ?_
 · refine Yt ?_
   refine Yw pv_ h fun b_1 w1 h => ?_
   refine Yf [] [0, 3] ?_
   refine Yt ?_
   refine Yn P2 ?_
   refine Yl h fun v6 h => ?_
   refine Ym0 h fun w2 h => ?_
   refine Yf [] [0, 3] ?_
   refine Yr ?_
   refine Yn P2 ?_
   refine Yl h fun v10 h => ?_
   refine Ym0 h fun w3 h => ?_
   refine Yf [] [] ?_
   repeat (first | refine seqQ_exit ?_ | refine loopQ_exit ?_ | refine cutQ_exit ?_ | refine blockQ_hit ?_ | refine blockQ_miss (by kernel_rfl) ?_)
   refine retQ_normal ?_
   repeat (first | refine seqQ_ret ?_ | refine blockQ_ret ?_ | refine loopQ_ret ?_ | refine cutQ_ret ?_)
   exact retT (rs := []) (vs := []) (by kernel_rfl) (trivial) (by kernel_rfl) ⟨rfl, h⟩

/-! ### (*towpath/towpathlaw01.Book).HeldLists (function 32) -/

theorem S_towpathlaw01_Book_HeldLists {b_ : Option Addr} {l_ : Slc} {w : World} {R : World → Prop} (h : F_towpathlaw01_Book_HeldLists b_ l_ R w) : C_towpathlaw01_Book_HeldLists b_ l_ w R := by
 unfold F_towpathlaw01_Book_HeldLists at h
 refine Yh Tryz.func32 ?_
 · refine Ys ?_
   refine Yp P1 [0, 1, 4] ?_
   refine Yd 0 ?_
   obtain ⟨I, μ, h0, hr⟩ := h
   refine Yloop (fun m l w => ∃ (i : Int), l = [(0, Value.pointer b_), (1, sv_ l_), (4, Value.int .i64 i)] ∧ I i w ∧ μ i w = m) ⟨0, rfl, h0, rfl⟩ ?_
   rintro _ _ w1 ⟨i, rfl, hI, rfl⟩
   obtain ⟨again_, again__h, h⟩ : ∃ again_ : Int → World → Prop, (∀ i' w', again_ i' w' → I i' w' ∧ μ i' w' < μ i w1) ∧ F_towpathlaw01_Book_HeldLists_L0 b_ l_ R again_ i w1 := ⟨_, fun _ _ h => h, hr i w1 hI⟩
   clear h0 hI
   unfold F_towpathlaw01_Book_HeldLists_L0 at h
   refine Ys ?_
   refine Yp P4 [0, 1, 4, 8] ?_
   refine Yc h (fun h => ?_) fun h => ?_
   · refine Yskip ?_
     refine Ys ?_
     refine Yd 1 ?_
     refine Yr ?_
     refine Yn P3 ?_
     obtain ⟨hp_3, h⟩ := h
     refine Yu 12 (fun pp => .slice pp l_.len l_.cap) hp_3 ?_
     refine Yi1 h fun h => ?_
     refine Yl h fun v15 h => ?_
     refine Ym0 h fun w2 h => ?_
     refine Yf [] [0, 1, 4] ?_
     refine Yr ?_
     refine Yf P3 [0, 1, 4] ?_
     have hb_ := again__h _ _ h
     exact ⟨_, hb_.2, _, Sub.mk (by kernel_rfl), (IntKind.i64.wrap (i + 1)), rfl, hb_.1, rfl⟩
   · refine Yexit 0 ?_
     refine Yr ?_
     refine Yn P2 ?_
     refine Ym0 h fun w3 h => ?_
     refine Yf [] [] ?_
     repeat (first | refine seqQ_exit ?_ | refine loopQ_exit ?_ | refine cutQ_exit ?_ | refine blockQ_hit ?_ | refine blockQ_miss (by kernel_rfl) ?_)
     refine retQ_normal ?_
     repeat (first | refine seqQ_ret ?_ | refine blockQ_ret ?_ | refine loopQ_ret ?_ | refine cutQ_ret ?_)
     exact retT (rs := []) (vs := []) (by kernel_rfl) (trivial) (by kernel_rfl) ⟨rfl, h⟩

/-! ### (*towpath/towpathlaw01.Book).fillByte (function 50) -/

theorem S_towpathlaw01_Book_fillByte {b_ : Option Addr} {w : World} {R : World → Prop} (h : F_towpathlaw01_Book_fillByte b_ R w) : C_towpathlaw01_Book_fillByte b_ w R := by
 unfold F_towpathlaw01_Book_fillByte at h
 refine Yh Tryz.func50 ?_
 · refine Yp P1 [0, 2] ?_
   refine Yd 0 ?_
   obtain ⟨I, μ, h0, hr⟩ := h
   refine Yloop (fun m l w => ∃ (i : Int), l = [(0, Value.pointer b_), (2, Value.int .i64 i)] ∧ I i w ∧ μ i w = m) ⟨0, rfl, h0, rfl⟩ ?_
   rintro _ _ w1 ⟨i, rfl, hI, rfl⟩
   obtain ⟨again_, again__h, h⟩ : ∃ again_ : Int → World → Prop, (∀ i' w', again_ i' w' → I i' w' ∧ μ i' w' < μ i w1) ∧ F_towpathlaw01_Book_fillByte_L0 b_ R again_ i w1 := ⟨_, fun _ _ h => h, hr i w1 hI⟩
   clear h0 hI
   unfold F_towpathlaw01_Book_fillByte_L0 at h
   refine Ys ?_
   refine Yt ?_
   refine Yn P2 ?_
   refine Yv 6 h fun hp_3 h => ?_
   refine Yn P1 ?_
   refine Yn P1 ?_
   refine Yl h fun v9 h => ?_
   refine Yf P2 [0, 2, 11] ?_
   refine Yc h (fun h => ?_) fun h => ?_
   · exact h.elim
   · refine Yexit 0 ?_
     repeat (first | refine seqQ_exit ?_ | refine loopQ_exit ?_ | refine cutQ_exit ?_ | refine blockQ_hit ?_ | refine blockQ_miss (by kernel_rfl) ?_)
     refine retQ_normal ?_
     repeat (first | refine seqQ_ret ?_ | refine blockQ_ret ?_ | refine loopQ_ret ?_ | refine cutQ_ret ?_)
     exact retT (rs := []) (vs := []) (by kernel_rfl) (trivial) (by kernel_rfl) ⟨rfl, h⟩

/-! ### (*towpath/towpathlaw01.Book).fillInt (function 51) -/
def c51_0 := cb_ Tryz.f51
def c51_3 := cr_ c51_0
def c51_4 := cl_ c51_3
def c51_5 := cl_ c51_4
def c51_12 := cr_ c51_5
def c51_13 := cl_ c51_12
def c51_14 := cl_ c51_13
def c51_17 := cr_ c51_14
def c51_20 := cr_ c51_17
def c51_21 := cl_ c51_20
def c51_22 := cl_ c51_21
def c51_29 := cr_ c51_22
def c51_30 := cl_ c51_29
def c51_31 := cl_ c51_30
def r51_31 := co_ c51_31
def o_towpathlaw01_Book_fillInt_31 : List Nat := [0, 1, 2, 3, 4, 5, 6, 7]

theorem S_towpathlaw01_Book_fillInt {b_ : Option Addr} {w : World} {R : World → Prop} (h : F_towpathlaw01_Book_fillInt b_ R w) : C_towpathlaw01_Book_fillInt b_ w R := by
 unfold F_towpathlaw01_Book_fillInt at h
 refine Yh Tryz.func51 ?_
 · refine Yp P1 [0, 2] ?_
   refine Yd 0 ?_
   obtain ⟨I, μ, h0, hr⟩ := h
   refine Yloop (fun m l w => ∃ (i : Int), l = [(0, Value.pointer b_), (2, Value.int .i64 i)] ∧ I i w ∧ μ i w = m) ⟨0, rfl, h0, rfl⟩ ?_
   rintro _ _ w1 ⟨i, rfl, hI, rfl⟩
   obtain ⟨again_, again__h, h⟩ : ∃ again_ : Int → World → Prop, (∀ i' w', again_ i' w' → I i' w' ∧ μ i' w' < μ i w1) ∧ F_towpathlaw01_Book_fillInt_L0 b_ R again_ i w1 := ⟨_, fun _ _ h => h, hr i w1 hI⟩
   clear h0 hI
   unfold F_towpathlaw01_Book_fillInt_L0 at h
   refine Ys ?_
   refine Yt ?_
   refine Yn P2 ?_
   refine Yv 6 h fun hp_3 h => ?_
   refine Yn P1 ?_
   refine Yn P1 ?_
   refine Yl h fun v9 h => ?_
   refine Yf P2 [0, 2, 11] ?_
   refine Yc h (fun h => ?_) fun h => ?_
   · refine Yskip ?_
     refine Ys ?_
     refine Yd 1 ?_
     refine Yt ?_
     refine Yn P1 ?_
     refine Yv 14 h fun hp_12 h => ?_
     refine Yn P1 ?_
     refine Yn P1 ?_
     refine Yl h fun v17 h => ?_
     refine Yn P1 ?_
     obtain ⟨hp_13, h⟩ := h
     refine Yu 17 (fun pp => .slice pp v17.len v17.cap) hp_13 ?_
     refine Yi h fun h => ?_
     refine YL h fun v20 h => ?_
     refine Yw pv_ h fun b_1 w2 h => ?_
     refine Yo h fun w3 h => ?_
     refine Yf [] [0, 2, 3] ?_
     refine Yp P1 [0, 2, 3, 4] ?_
     refine Yd 2 ?_
     obtain ⟨I, μ, h0, hr⟩ := h
     refine Yloop (fun m l w => ∃ (k_ : Int), l = [(0, Value.pointer b_), (2, Value.int .i64 i), (3, pv_ b_1), (4, Value.int .i64 k_)] ∧ I k_ w ∧ μ k_ w = m) ⟨0, rfl, h0, rfl⟩ ?_
     rintro _ _ w4 ⟨k_, rfl, hI, rfl⟩
     obtain ⟨again_1, again_1_h, h⟩ : ∃ again_1 : Int → World → Prop, (∀ k_' w', again_1 k_' w' → I k_' w' ∧ μ k_' w' < μ k_ w4) ∧ F_towpathlaw01_Book_fillInt_L1 i again_ b_1 again_1 k_ w4 := ⟨_, fun _ _ h => h, hr k_ w4 hI⟩
     clear h0 hI
     unfold F_towpathlaw01_Book_fillInt_L1 at h
     refine Ys ?_
     refine Yt ?_
     refine Yn P2 ?_
     refine Yl h fun v23 h => ?_
     refine Yf P2 [0, 2, 3, 4, 25] ?_
     refine Yc h (fun h => ?_) fun h => ?_
     · refine Yskip ?_
       refine Ys ?_
       refine Yd 3 ?_
       refine wpE_mixregion (id := 7) (ops := r51_31) o_towpathlaw01_Book_fillInt_31 (by kernel_rfl) (by kernel_rfl) (by kernel_rfl) (by kernel_rfl) (fun w5 hw => ?_)
       replace h := h w5 hw
       clear hw
       refine Mn P1 ?_
       refine Ml 1 h fun v29 hc h => ?_
       refine Mn P2 ?_
       refine Ml 4 h fun v32 hc h => ?_
       refine mreg_enter (op := (Op.call (Call.mk (Callee.value (Operand.func 126)) #[(Operand.tmp 32)] #[3]))) (ty := 3) (dst := some 33) 5 [4, 3] [(1, fun w' => w'.cell? ⟨b_1, 0, none⟩ = some (sv_ v29))] 126 #[Value.int .i64 v32] (by kernel_rfl) (by kernel_rfl) (by kernel_rfl) (by kernel_rfl) (by kernel_rfl) (fun ww => by kernel_rfl) (Calls.mono h ?_)
       rintro _ w6 ⟨v33, rfl, h⟩
       obtain ⟨hk0, h⟩ := h
       refine ⟨_, rfl, ⟨hk0, trivial⟩, ?_⟩
       obtain ⟨hp_15, h⟩ := h
       refine Mu 29 (fun pp => .slice pp v29.len v29.cap) hp_15 ?_
       refine Mi1 6 h fun h => ?_
       refine Mstore 7 [0, 1, 2, 3, 4, 5, 6] [] h fun w7 h => ?_
       refine ⟨trivial, ?_⟩
       refine Mf [] [0, 2, 3, 4] ?_
       refine Yr ?_
       refine Yf P3 [0, 2, 3, 4] ?_
       have hb_ := again_1_h _ _ h
       exact ⟨_, hb_.2, _, Sub.mk (by kernel_rfl), (IntKind.i64.wrap (k_ + 1)), rfl, hb_.1, rfl⟩
     · refine Yexit 2 ?_
       refine Yr ?_
       refine Yf P3 [0, 2] ?_
       have hb_ := again__h _ _ h
       exact ⟨_, hb_.2, _, Sub.mk (by kernel_rfl), (IntKind.i64.wrap (i + 1)), rfl, hb_.1, rfl⟩
   · refine Yexit 0 ?_
     repeat (first | refine seqQ_exit ?_ | refine loopQ_exit ?_ | refine cutQ_exit ?_ | refine blockQ_hit ?_ | refine blockQ_miss (by kernel_rfl) ?_)
     refine retQ_normal ?_
     repeat (first | refine seqQ_ret ?_ | refine blockQ_ret ?_ | refine loopQ_ret ?_ | refine cutQ_ret ?_)
     exact retT (rs := []) (vs := []) (by kernel_rfl) (trivial) (by kernel_rfl) ⟨rfl, h⟩
end
end Go.Proofs.YtpdegdnigcnjiaaGreatDoor
