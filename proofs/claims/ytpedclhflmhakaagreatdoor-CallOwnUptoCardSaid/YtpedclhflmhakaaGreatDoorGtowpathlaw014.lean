/- WRITTEN BY PROGRAM (dec.py): for each Go function the clean formula F, the call's contract C, and the proof S that F gives C. -/
import Derived.Test.YtpedclhflmhakaaGreatDoorRows
import Derived.Test.YtpedclhflmhakaaGreatDoorGF
namespace Go.Proofs.YtpedclhflmhakaaGreatDoor
open Go
set_option linter.unusedVariables false
set_option maxRecDepth 100000
set_option maxHeartbeats 4000000
noncomputable section

/-! ### (*towpath/towpathlaw01.Book).lookTxn (function 64) -/

theorem S_towpathlaw01_Book_lookTxn {b_ : Option Addr} {w : World} {R : Bool → World → Prop} (h : F_towpathlaw01_Book_lookTxn b_ R w) : C_towpathlaw01_Book_lookTxn b_ w R := by
 unfold F_towpathlaw01_Book_lookTxn at h
 refine Yh Tryz.func64 ?_
 · refine Yp P1 [0] ?_
   refine Ys ?_
   refine Yp P1 [0, 3] ?_
   refine Yd 0 ?_
   obtain ⟨I, μ, h0, hr⟩ := h
   refine Yloop (fun m l w => ∃ (i : Int), l = [(0, Value.pointer b_), (3, Value.int .i64 i)] ∧ I i w ∧ μ i w = m) ⟨0, rfl, h0, rfl⟩ ?_
   rintro _ _ w1 ⟨i, rfl, hI, rfl⟩
   obtain ⟨again_, again__h, h⟩ : ∃ again_ : Int → World → Prop, (∀ i' w', again_ i' w' → I i' w' ∧ μ i' w' < μ i w1) ∧ F_towpathlaw01_Book_lookTxn_L0 b_ R again_ i w1 := ⟨_, fun _ _ h => h, hr i w1 hI⟩
   clear h0 hI
   unfold F_towpathlaw01_Book_lookTxn_L0 at h
   refine Ys ?_
   refine Yt ?_
   refine Yn P2 ?_
   refine Yv 7 h fun hp_7 h => ?_
   refine Yn P1 ?_
   refine Yn P1 ?_
   refine Yl h fun v10 h => ?_
   refine Yf P2 [0, 3, 12] ?_
   refine Yc h (fun h => ?_) fun h => ?_
   · exact h.elim
   · refine Yexit 0 ?_
     refine Yp P1 [2] ?_
     exact YS ⟨true, rfl, h⟩

/-! ### (*towpath/towpathlaw01.Book).lookHeld (function 65) -/
def c65_0 := cb_ Tryz.f65
def c65_3 := cr_ c65_0
def c65_4 := cl_ c65_3
def c65_7 := cr_ c65_4
def c65_8 := cl_ c65_7
def c65_9 := cl_ c65_8
def c65_16 := cr_ c65_9
def c65_17 := cl_ c65_16
def c65_18 := cl_ c65_17
def c65_21 := cr_ c65_18
def c65_31 := cr_ c65_21
def c65_34 := cr_ c65_31
def c65_35 := cl_ c65_34
def c65_36 := cl_ c65_35
def c65_43 := cr_ c65_36
def c65_44 := cl_ c65_43
def c65_45 := cl_ c65_44
def c65_46 := cl_ c65_45
def r65_46 := co_ c65_46
def o_towpathlaw01_Book_lookHeld_46 : List Nat := [0, 1, 2, 3, 4, 5, 6, 7, 8, 9, 10, 11, 12, 13, 14, 15, 16, 17, 18, 19, 20, 21, 22, 23, 24, 25, 26]

theorem S_towpathlaw01_Book_lookHeld {b_ : Option Addr} {w : World} {R : Bool → World → Prop} (h : F_towpathlaw01_Book_lookHeld b_ R w) : C_towpathlaw01_Book_lookHeld b_ w R := by
 unfold F_towpathlaw01_Book_lookHeld at h
 refine Yh Tryz.func65 ?_
 · refine Yp P1 [0] ?_
   refine Ys ?_
   refine Yp P1 [0, 3] ?_
   refine Yd 0 ?_
   obtain ⟨I, μ, h0, hr⟩ := h
   refine Yloop (fun m l w => ∃ (i : Int), l = [(0, Value.pointer b_), (3, Value.int .i64 i)] ∧ I i w ∧ μ i w = m) ⟨0, rfl, h0, rfl⟩ ?_
   rintro _ _ w1 ⟨i, rfl, hI, rfl⟩
   obtain ⟨again_, again__h, h⟩ : ∃ again_ : Int → World → Prop, (∀ i' w', again_ i' w' → I i' w' ∧ μ i' w' < μ i w1) ∧ F_towpathlaw01_Book_lookHeld_L0 b_ R again_ i w1 := ⟨_, fun _ _ h => h, hr i w1 hI⟩
   clear h0 hI
   unfold F_towpathlaw01_Book_lookHeld_L0 at h
   refine Ys ?_
   refine Yt ?_
   refine Yn P2 ?_
   refine Yv 7 h fun hp_31 h => ?_
   refine Yn P1 ?_
   refine Yn P1 ?_
   refine Yl h fun v10 h => ?_
   refine Yf P2 [0, 3, 12] ?_
   refine Yc h (fun h => ?_) fun h => ?_
   · refine Yskip ?_
     refine Ys ?_
     refine Yd 1 ?_
     refine Yt ?_
     refine Yn P1 ?_
     refine Yv 15 h fun hp_46 h => ?_
     refine Yn P1 ?_
     refine Yn P1 ?_
     refine Yl h fun v18 h => ?_
     refine Yn P1 ?_
     obtain ⟨hp_47, h⟩ := h
     refine Yu 18 (fun pp => .slice pp v18.len v18.cap) hp_47 ?_
     refine Yi h fun h => ?_
     refine YL h fun v21 h => ?_
     refine Yw pv_ h fun b_1 w2 h => ?_
     refine Yo h fun w3 h => ?_
     refine Yf [] [0, 3, 4] ?_
     refine Ys ?_
     refine Yt ?_
     refine Yn P1 ?_
     refine Yl h fun v23 h => ?_
     refine Yn P2 ?_
     refine Yl h fun v26 h => ?_
     refine Yf P3 [0, 3, 4, 29] ?_
     refine Yc h (fun h => ?_) fun h => ?_
     · refine Yp P1 [2] ?_
       exact YS ⟨false, rfl, h⟩
     · refine Yskip ?_
       refine Yp P1 [0, 3, 4, 5] ?_
       refine Yd 2 ?_
       obtain ⟨I, μ, h0, hr⟩ := h
       refine Yloop (fun m l w => ∃ (k_ : Int), l = [(0, Value.pointer b_), (3, Value.int .i64 i), (4, pv_ b_1), (5, Value.int .i64 k_)] ∧ I k_ w ∧ μ k_ w = m) ⟨0, rfl, h0, rfl⟩ ?_
       rintro _ _ w4 ⟨k_, rfl, hI, rfl⟩
       obtain ⟨again_1, again_1_h, h⟩ : ∃ again_1 : Int → World → Prop, (∀ k_' w', again_1 k_' w' → I k_' w' ∧ μ k_' w' < μ k_ w4) ∧ F_towpathlaw01_Book_lookHeld_L1 R i again_ b_1 again_1 k_ w4 := ⟨_, fun _ _ h => h, hr k_ w4 hI⟩
       clear h0 hI
       unfold F_towpathlaw01_Book_lookHeld_L1 at h
       refine Ys ?_
       refine Yt ?_
       refine Yn P2 ?_
       refine Yl h fun v32 h => ?_
       refine Yf P2 [0, 3, 4, 5, 34] ?_
       refine Yc h (fun h => ?_) fun h => ?_
       · refine Yskip ?_
         refine Ys ?_
         refine Yd 3 ?_
         refine Ycut (fun l w => ∃ (t63 : Bool), l = [(0, Value.pointer b_), (3, Value.int .i64 i), (4, pv_ b_1), (5, Value.int .i64 k_), (63, Value.bool t63)] ∧ F_towpathlaw01_Book_lookHeld_k2 R k_ again_1 t63 w) ?_ ?_
         · refine wpE_mixregion (id := 10) (ops := r65_46) o_towpathlaw01_Book_lookHeld_46 (by kernel_rfl) (by kernel_rfl) (by kernel_rfl) (by kernel_rfl) (fun w6 hw => ?_)
           replace h := h w6 hw
           clear hw
           refine Mn P1 ?_
           refine Ml 1 h fun v38 hc h => ?_
           refine Mn P1 ?_
           obtain ⟨hp_54, h⟩ := h
           refine Mu 38 (fun pp => .slice pp v38.len v38.cap) hp_54 ?_
           refine Mi 3 h fun h => ?_
           refine ML 4 h fun v41 hc h => ?_
           refine Mn P1 ?_
           refine Ml 6 h fun v43 hc h => ?_
           refine mreg_enter (op := (Op.call (Call.mk (Callee.value (Operand.func 109)) #[(Operand.tmp 41), (Operand.tmp 43)] #[125, 3]))) (ty := 4) (dst := some 44) 7 [4, 6, 3, 5, 1, 2, 0] [] 109 #[Value.agg #[Value.string v41.Key, sv_ v41.Versions], Value.int .i64 v43] (by kernel_rfl) (by kernel_rfl) (by kernel_rfl) (by kernel_rfl) (by kernel_rfl) (fun ww => by kernel_rfl) (Calls.mono h ?_)
           rintro _ w7 ⟨v44, rfl, h⟩
           refine ⟨_, rfl, trivial, ?_⟩
           refine Mn P4 ?_
           refine Mspl 46 h (fun h => ?_) fun h => ?_
           · refine Mf [.skip, .skip, .skip, .skip, .skip, .skip, .skip, .skip, .skip, .skip, .skip, .skip, .skip, .skip, .plain] [0, 3, 4, 5, 63] ?_
             exact ⟨_, Sub.mk (by kernel_rfl), true, rfl, h⟩
           · refine Ml 12 h fun v49 hc h => ?_
             refine Mn [.sure, .sure, .sure, .plain] ?_
             refine Mspl 52 h (fun h => ?_) fun h => ?_
             · refine Ml 17 h fun v54 hc h => ?_
               refine Mn [.sure] ?_
               obtain ⟨hp_55, h⟩ := h
               refine Mu 54 (fun pp => .slice pp v54.len v54.cap) hp_55 ?_
               refine Mi 19 h fun h => ?_
               refine ML 20 h fun v57 hc h => ?_
               refine Mn [.sure] ?_
               refine Ml 22 h fun v59 hc h => ?_
               refine mreg_enter (op := (Op.call (Call.mk (Callee.value (Operand.func 109)) #[(Operand.tmp 57), (Operand.tmp 59)] #[125, 3]))) (ty := 4) (dst := some 60) 23 [15, 20, 22, 9, 14, 19, 21, 7, 8, 10, 13, 17, 18, 4, 6, 12, 16, 3, 5, 11, 1, 2, 0] [] 109 #[Value.agg #[Value.string v57.Key, sv_ v57.Versions], Value.int .i64 v59] (by kernel_rfl) (by kernel_rfl) (by kernel_rfl) (by kernel_rfl) (by kernel_rfl) (fun ww => by kernel_rfl) (Calls.mono h ?_)
               rintro _ w8 ⟨v60, rfl, h⟩
               refine ⟨_, rfl, trivial, ?_⟩
               refine Mf [.sure, .sure, .plain] [0, 3, 4, 5, 63] ?_
               exact ⟨_, Sub.mk (by kernel_rfl), (!v60), rfl, h⟩
             · refine Mf [.skip, .skip, .skip, .skip, .skip, .skip, .skip, .skip, .sure, .plain] [0, 3, 4, 5, 63] ?_
               exact ⟨_, Sub.mk (by kernel_rfl), false, rfl, h⟩
         · rintro _ w5 ⟨t63, rfl, h⟩
           unfold F_towpathlaw01_Book_lookHeld_k2 at h
           refine Yc h (fun h => ?_) fun h => ?_
           · refine Yp P1 [2] ?_
             exact YS ⟨false, rfl, h⟩
           · refine Yskip ?_
             refine Yr ?_
             refine Yf P3 [0, 3, 4, 5] ?_
             have hb_ := again_1_h _ _ h
             exact ⟨_, hb_.2, _, Sub.mk (by kernel_rfl), (IntKind.i64.wrap (k_ + 1)), rfl, hb_.1, rfl⟩
       · refine Yexit 2 ?_
         refine Yr ?_
         refine Yf P3 [0, 3] ?_
         have hb_ := again__h _ _ h
         exact ⟨_, hb_.2, _, Sub.mk (by kernel_rfl), (IntKind.i64.wrap (i + 1)), rfl, hb_.1, rfl⟩
   · refine Yexit 0 ?_
     refine Yp P1 [2] ?_
     exact YS ⟨true, rfl, h⟩

/-! ### (*towpath/towpathlaw01.Book).lookHeldList (function 66) -/

theorem S_towpathlaw01_Book_lookHeldList {b_ : Option Addr} {w : World} {R : Bool → World → Prop} (h : F_towpathlaw01_Book_lookHeldList b_ R w) : C_towpathlaw01_Book_lookHeldList b_ w R := by
 unfold F_towpathlaw01_Book_lookHeldList at h
 refine Yh Tryz.func66 ?_
 · refine Yp P1 [0] ?_
   refine Ys ?_
   refine Yp P1 [0, 3] ?_
   refine Yd 0 ?_
   obtain ⟨I, μ, h0, hr⟩ := h
   refine Yloop (fun m l w => ∃ (i : Int), l = [(0, Value.pointer b_), (3, Value.int .i64 i)] ∧ I i w ∧ μ i w = m) ⟨0, rfl, h0, rfl⟩ ?_
   rintro _ _ w1 ⟨i, rfl, hI, rfl⟩
   obtain ⟨again_, again__h, h⟩ : ∃ again_ : Int → World → Prop, (∀ i' w', again_ i' w' → I i' w' ∧ μ i' w' < μ i w1) ∧ F_towpathlaw01_Book_lookHeldList_L0 b_ R again_ i w1 := ⟨_, fun _ _ h => h, hr i w1 hI⟩
   clear h0 hI
   unfold F_towpathlaw01_Book_lookHeldList_L0 at h
   refine Ys ?_
   refine Yt ?_
   refine Yn P2 ?_
   refine Yv 7 h fun hp_7 h => ?_
   refine Yn P1 ?_
   refine Yn P1 ?_
   refine Yl h fun v10 h => ?_
   refine Yf P2 [0, 3, 12] ?_
   refine Yc h (fun h => ?_) fun h => ?_
   · exact h.elim
   · refine Yexit 0 ?_
     refine Yp P1 [2] ?_
     exact YS ⟨true, rfl, h⟩

/-! ### (*towpath/towpathlaw01.Book).lookEvent (function 67) -/

theorem S_towpathlaw01_Book_lookEvent {b_ : Option Addr} {w : World} {R : Bool → World → Prop} (h : F_towpathlaw01_Book_lookEvent b_ R w) : C_towpathlaw01_Book_lookEvent b_ w R := by
 unfold F_towpathlaw01_Book_lookEvent at h
 refine Yh Tryz.func67 ?_
 · refine Yp P1 [0] ?_
   refine Ys ?_
   refine Yp P1 [0, 3] ?_
   refine Yd 0 ?_
   obtain ⟨I, μ, h0, hr⟩ := h
   refine Yloop (fun m l w => ∃ (i : Int), l = [(0, Value.pointer b_), (3, Value.int .i64 i)] ∧ I i w ∧ μ i w = m) ⟨0, rfl, h0, rfl⟩ ?_
   rintro _ _ w1 ⟨i, rfl, hI, rfl⟩
   obtain ⟨again_, again__h, h⟩ : ∃ again_ : Int → World → Prop, (∀ i' w', again_ i' w' → I i' w' ∧ μ i' w' < μ i w1) ∧ F_towpathlaw01_Book_lookEvent_L0 b_ R again_ i w1 := ⟨_, fun _ _ h => h, hr i w1 hI⟩
   clear h0 hI
   unfold F_towpathlaw01_Book_lookEvent_L0 at h
   refine Ys ?_
   refine Yt ?_
   refine Yn P2 ?_
   refine Yv 7 h fun hp_7 h => ?_
   refine Yn P1 ?_
   refine Yn P1 ?_
   refine Yl h fun v10 h => ?_
   refine Yf P2 [0, 3, 12] ?_
   refine Yc h (fun h => ?_) fun h => ?_
   · exact h.elim
   · refine Yexit 0 ?_
     refine Yp P1 [2] ?_
     exact YS ⟨true, rfl, h⟩

/-! ### (*towpath/towpathlaw01.Book).lookAnswer (function 68) -/

theorem S_towpathlaw01_Book_lookAnswer {b_ : Option Addr} {w : World} {R : Bool → World → Prop} (h : F_towpathlaw01_Book_lookAnswer b_ R w) : C_towpathlaw01_Book_lookAnswer b_ w R := by
 unfold F_towpathlaw01_Book_lookAnswer at h
 refine Yh Tryz.func68 ?_
 · refine Yp P1 [0] ?_
   refine Ys ?_
   refine Yp P1 [0, 3] ?_
   refine Yd 0 ?_
   obtain ⟨I, μ, h0, hr⟩ := h
   refine Yloop (fun m l w => ∃ (i : Int), l = [(0, Value.pointer b_), (3, Value.int .i64 i)] ∧ I i w ∧ μ i w = m) ⟨0, rfl, h0, rfl⟩ ?_
   rintro _ _ w1 ⟨i, rfl, hI, rfl⟩
   obtain ⟨again_, again__h, h⟩ : ∃ again_ : Int → World → Prop, (∀ i' w', again_ i' w' → I i' w' ∧ μ i' w' < μ i w1) ∧ F_towpathlaw01_Book_lookAnswer_L0 b_ R again_ i w1 := ⟨_, fun _ _ h => h, hr i w1 hI⟩
   clear h0 hI
   unfold F_towpathlaw01_Book_lookAnswer_L0 at h
   refine Ys ?_
   refine Yt ?_
   refine Yn P2 ?_
   refine Yv 7 h fun hp_7 h => ?_
   refine Yn P1 ?_
   refine Yn P1 ?_
   refine Yl h fun v10 h => ?_
   refine Yf P2 [0, 3, 12] ?_
   refine Yc h (fun h => ?_) fun h => ?_
   · exact h.elim
   · refine Yexit 0 ?_
     refine Yp P1 [2] ?_
     exact YS ⟨true, rfl, h⟩

/-! ### towpath/towpathlaw01.TwinEntries (function 77) -/

theorem S_towpathlaw01_TwinEntries {l_ : Slc} {w : World} {R : Slc → World → Prop} (h : F_towpathlaw01_TwinEntries l_ R w) : C_towpathlaw01_TwinEntries l_ w R := by
 unfold F_towpathlaw01_TwinEntries at h
 refine Yh Tryz.func77 ?_
 · refine Yp P1 [0] ?_
   refine Yt ?_
   refine Yn P3 ?_
   obtain ⟨h0, h1, h2, h⟩ := h
   refine reg_makeSlice (t := 68) (e := 131) (lo := (Operand.const (Value.int IntKind.i64 0))) (co := (Operand.tmp 7)) (l := 0) (c := (IntKind.i64.wrap (((l_.len : Nat) : Int) + 1))) (sz := 2) (by_ := 32) (zs := [Value.string ByteArray.empty, Value.string ByteArray.empty]) (ty := 68) (dst := some 8) (by kernel_rfl) (by kernel_rfl) (by kernel_rfl) (by kernel_rfl) (by kernel_rfl) (by kernel_rfl) (by kernel_rfl) (by kernel_rfl) (by kernel_rfl) h0 h1 h2 (fun b_ w1 hb hw => ?_)
   replace h := h b_ w1 hb hw
   clear hb hw
   refine Yf P1 [0, 3] ?_
   refine Ys ?_
   refine Yp P1 [0, 3, 4] ?_
   refine Yd 0 ?_
   obtain ⟨I, μ, h0, hr⟩ := h
   refine Yloop (fun m l w => ∃ (t_ : Slc) (i : Int), l = [(0, sv_ l_), (3, sv_ t_), (4, Value.int .i64 i)] ∧ I t_ i w ∧ μ t_ i w = m) ⟨(Slc.mk (some ⟨b_, 0, none⟩) 0 ((IntKind.i64.wrap (((l_.len : Nat) : Int) + 1)).toNat)), 0, rfl, h0, rfl⟩ ?_
   rintro _ _ w2 ⟨t_, i, rfl, hI, rfl⟩
   obtain ⟨again_, again__h, h⟩ : ∃ again_ : Slc → Int → World → Prop, (∀ t_' i' w', again_ t_' i' w' → I t_' i' w' ∧ μ t_' i' w' < μ t_ i w2) ∧ F_towpathlaw01_TwinEntries_L0 l_ R again_ t_ i w2 := ⟨_, fun _ _ _ h => h, hr t_ i w2 hI⟩
   clear h0 hI
   unfold F_towpathlaw01_TwinEntries_L0 at h
   refine Ys ?_
   refine Yp P4 [0, 3, 4, 12] ?_
   refine Yc h (fun h => ?_) fun h => ?_
   · refine Yskip ?_
     refine Ys ?_
     refine Yd 1 ?_
     refine Yr ?_
     refine Yn P3 ?_
     obtain ⟨hp_3, h⟩ := h
     refine Yu 16 (fun pp => .slice pp l_.len l_.cap) hp_3 ?_
     refine Yi h fun h => ?_
     refine YL h fun v19 h => ?_
     refine Yw (sl_ 1 1) h fun b_1 w3 h => ?_
     obtain ⟨src, hs, h⟩ := h
     refine reg_append (t := 68) (tx := 68) (e := 131) (a := (Operand.tmp 15)) (xo := (Operand.tmp 20)) (s := t_) (x := (Slc.mk (some ⟨b_1, 0, none⟩) 1 1)) (sz := 2) (by_ := 32) (zs := [Value.string ByteArray.empty, Value.string ByteArray.empty]) (ty := 68) (dst := some 21)  src (by kernel_rfl) (by kernel_rfl) (by kernel_rfl) (by kernel_rfl) (by kernel_rfl) (by kernel_rfl) (by kernel_rfl) (by kernel_rfl) (by kernel_rfl) hs (AppendW.mono h (fun t_1 w4 h => ?_))
     refine Yf P1 [0, 3, 4] ?_
     refine Yr ?_
     refine Yf P3 [0, 3, 4] ?_
     have hb_ := again__h _ _ _ h
     exact ⟨_, hb_.2, _, Sub.mk (by kernel_rfl), t_1, (IntKind.i64.wrap (i + 1)), rfl, hb_.1, rfl⟩
   · refine Yexit 0 ?_
     refine Yt ?_
     refine Yn P2 ?_
     refine Yw (sl_ 1 1) h fun b_2 w5 h => ?_
     obtain ⟨src, hs, h⟩ := h
     refine reg_append (t := 68) (tx := 68) (e := 131) (a := (Operand.tmp 22)) (xo := (Operand.tmp 24)) (s := t_) (x := (Slc.mk (some ⟨b_2, 0, none⟩) 1 1)) (sz := 2) (by_ := 32) (zs := [Value.string ByteArray.empty, Value.string ByteArray.empty]) (ty := 68) (dst := some 25)  src (by kernel_rfl) (by kernel_rfl) (by kernel_rfl) (by kernel_rfl) (by kernel_rfl) (by kernel_rfl) (by kernel_rfl) (by kernel_rfl) (by kernel_rfl) hs (AppendW.mono h (fun v25 w6 h => ?_))
     refine Yn P2 ?_
     obtain ⟨h0, h1, h⟩ := h
     refine reg_sliceHi (t := 68) (e := 131) (x := (Operand.tmp 25)) (hi := (Operand.tmp 27)) (p := v25.ptr) (l := v25.len) (c := v25.cap) (sz := 2) (k := .i64) (j := ((l_.len : Nat) : Int)) (ty := 68) (dst := some 28) (by kernel_rfl) (by kernel_rfl) (by kernel_rfl) (by kernel_rfl) (by kernel_rfl) h0 h1 ?_
     refine Yf P1 [2] ?_
     exact YS ⟨(Slc.mk v25.ptr (((l_.len : Nat) : Int).toNat) v25.cap), rfl, h⟩

/-! ### towpath/towpathlaw01.TwinHelds (function 78) -/

theorem S_towpathlaw01_TwinHelds {l_ : Slc} {w : World} {R : Slc → World → Prop} (h : F_towpathlaw01_TwinHelds l_ R w) : C_towpathlaw01_TwinHelds l_ w R := by
 unfold F_towpathlaw01_TwinHelds at h
 refine Yh Tryz.func78 ?_
 · refine Yp P1 [0] ?_
   refine Yt ?_
   refine Yn P3 ?_
   obtain ⟨h0, h1, h2, h⟩ := h
   refine reg_makeSlice (t := 69) (e := 125) (lo := (Operand.const (Value.int IntKind.i64 0))) (co := (Operand.tmp 7)) (l := 0) (c := (IntKind.i64.wrap (((l_.len : Nat) : Int) + 1))) (sz := 2) (by_ := 40) (zs := [Value.string ByteArray.empty, Value.slice none 0 0]) (ty := 69) (dst := some 8) (by kernel_rfl) (by kernel_rfl) (by kernel_rfl) (by kernel_rfl) (by kernel_rfl) (by kernel_rfl) (by kernel_rfl) (by kernel_rfl) (by kernel_rfl) h0 h1 h2 (fun b_ w1 hb hw => ?_)
   replace h := h b_ w1 hb hw
   clear hb hw
   refine Yf P1 [0, 3] ?_
   refine Ys ?_
   refine Yp P1 [0, 3, 4] ?_
   refine Yd 0 ?_
   obtain ⟨I, μ, h0, hr⟩ := h
   refine Yloop (fun m l w => ∃ (t_ : Slc) (i : Int), l = [(0, sv_ l_), (3, sv_ t_), (4, Value.int .i64 i)] ∧ I t_ i w ∧ μ t_ i w = m) ⟨(Slc.mk (some ⟨b_, 0, none⟩) 0 ((IntKind.i64.wrap (((l_.len : Nat) : Int) + 1)).toNat)), 0, rfl, h0, rfl⟩ ?_
   rintro _ _ w2 ⟨t_, i, rfl, hI, rfl⟩
   obtain ⟨again_, again__h, h⟩ : ∃ again_ : Slc → Int → World → Prop, (∀ t_' i' w', again_ t_' i' w' → I t_' i' w' ∧ μ t_' i' w' < μ t_ i w2) ∧ F_towpathlaw01_TwinHelds_L0 l_ R again_ t_ i w2 := ⟨_, fun _ _ _ h => h, hr t_ i w2 hI⟩
   clear h0 hI
   unfold F_towpathlaw01_TwinHelds_L0 at h
   refine Ys ?_
   refine Yp P4 [0, 3, 4, 12] ?_
   refine Yc h (fun h => ?_) fun h => ?_
   · refine Yskip ?_
     refine Ys ?_
     refine Yd 1 ?_
     refine Yr ?_
     refine Yn P3 ?_
     obtain ⟨hp_3, h⟩ := h
     refine Yu 16 (fun pp => .slice pp l_.len l_.cap) hp_3 ?_
     refine Yi h fun h => ?_
     refine YL h fun v19 h => ?_
     refine Ym1 h fun v20 w3 h => ?_
     refine Yw (sl_ 1 1) h fun b_1 w4 h => ?_
     obtain ⟨src, hs, h⟩ := h
     refine reg_append (t := 69) (tx := 69) (e := 125) (a := (Operand.tmp 15)) (xo := (Operand.tmp 21)) (s := t_) (x := (Slc.mk (some ⟨b_1, 0, none⟩) 1 1)) (sz := 2) (by_ := 40) (zs := [Value.string ByteArray.empty, Value.slice none 0 0]) (ty := 69) (dst := some 22)  src (by kernel_rfl) (by kernel_rfl) (by kernel_rfl) (by kernel_rfl) (by kernel_rfl) (by kernel_rfl) (by kernel_rfl) (by kernel_rfl) (by kernel_rfl) hs (AppendW.mono h (fun t_1 w5 h => ?_))
     refine Yf P1 [0, 3, 4] ?_
     refine Yr ?_
     refine Yf P3 [0, 3, 4] ?_
     have hb_ := again__h _ _ _ h
     exact ⟨_, hb_.2, _, Sub.mk (by kernel_rfl), t_1, (IntKind.i64.wrap (i + 1)), rfl, hb_.1, rfl⟩
   · refine Yexit 0 ?_
     refine Yt ?_
     refine Yn P2 ?_
     refine Yw (sl_ 1 1) h fun b_2 w6 h => ?_
     obtain ⟨src, hs, h⟩ := h
     refine reg_append (t := 69) (tx := 69) (e := 125) (a := (Operand.tmp 23)) (xo := (Operand.tmp 25)) (s := t_) (x := (Slc.mk (some ⟨b_2, 0, none⟩) 1 1)) (sz := 2) (by_ := 40) (zs := [Value.string ByteArray.empty, Value.slice none 0 0]) (ty := 69) (dst := some 26)  src (by kernel_rfl) (by kernel_rfl) (by kernel_rfl) (by kernel_rfl) (by kernel_rfl) (by kernel_rfl) (by kernel_rfl) (by kernel_rfl) (by kernel_rfl) hs (AppendW.mono h (fun v26 w7 h => ?_))
     refine Yn P2 ?_
     obtain ⟨h0, h1, h⟩ := h
     refine reg_sliceHi (t := 69) (e := 125) (x := (Operand.tmp 26)) (hi := (Operand.tmp 28)) (p := v26.ptr) (l := v26.len) (c := v26.cap) (sz := 2) (k := .i64) (j := ((l_.len : Nat) : Int)) (ty := 69) (dst := some 29) (by kernel_rfl) (by kernel_rfl) (by kernel_rfl) (by kernel_rfl) (by kernel_rfl) h0 h1 ?_
     refine Yf P1 [2] ?_
     exact YS ⟨(Slc.mk v26.ptr (((l_.len : Nat) : Int).toNat) v26.cap), rfl, h⟩

/-! ### (*towpath/towpathlaw01.Book).Ints (function 84) -/

theorem S_towpathlaw01_Book_Ints {b_ : Option Addr} {l_ : Slc} {w : World} {R : World → Prop} (h : F_towpathlaw01_Book_Ints b_ l_ R w) : C_towpathlaw01_Book_Ints b_ l_ w R := by
 unfold F_towpathlaw01_Book_Ints at h
 refine Yh Tryz.func84 ?_
 · refine Yr ?_
   refine Yn P2 ?_
   refine Ym0 h fun w1 h => ?_
   refine Yf [] [] ?_
   repeat (first | refine seqQ_exit ?_ | refine loopQ_exit ?_ | refine cutQ_exit ?_ | refine blockQ_hit ?_ | refine blockQ_miss (by kernel_rfl) ?_)
   refine retQ_normal ?_
   repeat (first | refine seqQ_ret ?_ | refine blockQ_ret ?_ | refine loopQ_ret ?_ | refine cutQ_ret ?_)
   exact retT (rs := []) (vs := []) (by kernel_rfl) (trivial) (by kernel_rfl) ⟨rfl, h⟩

/-! ### (*towpath/towpathlaw01.Book).Entries (function 85) -/

theorem S_towpathlaw01_Book_Entries {b_ : Option Addr} {l_ : Slc} {w : World} {R : World → Prop} (h : F_towpathlaw01_Book_Entries b_ l_ R w) : C_towpathlaw01_Book_Entries b_ l_ w R := by
 unfold F_towpathlaw01_Book_Entries at h
 refine Yh Tryz.func85 ?_
 · refine Yr ?_
   refine Yn P2 ?_
   refine Ym0 h fun w1 h => ?_
   refine Yf [] [] ?_
   repeat (first | refine seqQ_exit ?_ | refine loopQ_exit ?_ | refine cutQ_exit ?_ | refine blockQ_hit ?_ | refine blockQ_miss (by kernel_rfl) ?_)
   refine retQ_normal ?_
   repeat (first | refine seqQ_ret ?_ | refine blockQ_ret ?_ | refine loopQ_ret ?_ | refine cutQ_ret ?_)
   exact retT (rs := []) (vs := []) (by kernel_rfl) (trivial) (by kernel_rfl) ⟨rfl, h⟩

/-! ### (*towpath/towpathlaw01.Book).Versions (function 86) -/

theorem S_towpathlaw01_Book_Versions {b_ : Option Addr} {l_ : Slc} {w : World} {R : World → Prop} (h : F_towpathlaw01_Book_Versions b_ l_ R w) : C_towpathlaw01_Book_Versions b_ l_ w R := by
 unfold F_towpathlaw01_Book_Versions at h
 refine Yh Tryz.func86 ?_
 · refine Yr ?_
   refine Yn P2 ?_
   refine Ym0 h fun w1 h => ?_
   refine Yf [] [] ?_
   repeat (first | refine seqQ_exit ?_ | refine loopQ_exit ?_ | refine cutQ_exit ?_ | refine blockQ_hit ?_ | refine blockQ_miss (by kernel_rfl) ?_)
   refine retQ_normal ?_
   repeat (first | refine seqQ_ret ?_ | refine blockQ_ret ?_ | refine loopQ_ret ?_ | refine cutQ_ret ?_)
   exact retT (rs := []) (vs := []) (by kernel_rfl) (trivial) (by kernel_rfl) ⟨rfl, h⟩

/-! ### (*towpath/towpathlaw01.Book).keepHeld (function 87) -/
def c87_0 := cb_ Tryz.f87
def c87_3 := cr_ c87_0
def r87_3 := co_ c87_3
def o_towpathlaw01_Book_keepHeld_3 : List Nat := [0, 1, 2, 3, 4, 5, 6, 7, 8, 9, 10, 11, 12, 13, 14, 15]

theorem S_towpathlaw01_Book_keepHeld {b_ : Option Addr} {l_ : Slc} {w : World} {R : World → Prop} (h : F_towpathlaw01_Book_keepHeld b_ l_ R w) : C_towpathlaw01_Book_keepHeld b_ l_ w R := by
 unfold F_towpathlaw01_Book_keepHeld at h
 refine Yh Tryz.func87 ?_
 · refine Yt ?_
   refine Yn P1 ?_
   refine Yv 4 h fun hp_1 h => ?_
   refine Yn P1 ?_
   refine Yn P1 ?_
   refine Yl h fun v7 h => ?_
   refine Yn P3 ?_
   refine Yo h fun w1 h => ?_
   refine Yf [] [0, 1] ?_
   refine wpE_mixregion (id := 1) (ops := r87_3) o_towpathlaw01_Book_keepHeld_3 (by kernel_rfl) (by kernel_rfl) (by kernel_rfl) (by kernel_rfl) (fun w2 hw => ?_)
   replace h := h w2 hw
   clear hw
   refine Mn P2 ?_
   refine Mv 12 h fun hp_2 h => ?_
   refine Mn P1 ?_
   refine Mn P1 ?_
   refine Ml 4 h fun v15 hc h => ?_
   refine Mn P2 ?_
   refine Mv 17 h fun hp_3 h => ?_
   refine Mn P1 ?_
   refine Mn P1 ?_
   refine Ml 9 h fun v20 hc h => ?_
   refine Mn P1 ?_
   refine mreg_new (op := (Op.buildSlice 30 1 #[(0, (Operand.tmp 21))])) (ty := 30) (dst := some 22) 11 [10, 5, 9, 8, 7, 6] [(4, fun w' => w'.cell? ⟨(pblk b_), (poff b_) + 8, none⟩ = some (sv_ v15))] (fun bb => Value.slice (some ⟨bb, 0, none⟩) 1 1) (Obj.cells ([sv_ l_, Value.slice none 0 0, Value.int .i64 v20]).toArray ty_towpathlaw01_heldHeld (0, 0)) (by kernel_rfl) (by kernel_rfl) (by kernel_rfl) (by kernel_rfl) (by kernel_rfl) (by kernel_rfl) (fun b_1 w3 hb hw => ?_)
   replace h := h b_1 w3 hb hw
   clear hb hw
   obtain ⟨hk0, h⟩ := h
   refine ⟨⟨hk0, trivial⟩, ?_⟩
   obtain ⟨src, hs, h⟩ := h
   refine mreg_append (t := 30) (tx := 30) (e := 168) (a := (Operand.tmp 15)) (xo := (Operand.tmp 22)) (s := v15) (x := (Slc.mk (some ⟨b_1, 0, none⟩) 1 1)) (sz := 3) (by_ := 56) (zs := [Value.slice none 0 0, Value.slice none 0 0, Value.int .i64 0]) (ty := 30) (dst := some 23) 12 [4, 11, 3, 10, 2, 5, 9, 1, 8, 7, 6] [] src (by kernel_rfl) (by kernel_rfl) (by kernel_rfl) (by kernel_rfl) (by kernel_rfl) (by kernel_rfl) (by kernel_rfl) (by kernel_rfl) (by kernel_rfl) (by kernel_rfl) (by kernel_rfl) (by kernel_rfl) (by kernel_rfl) hs (AppendW.mono h (fun v23 w4 h => ?_))
   refine ⟨trivial, ?_⟩
   refine Mv 11 h fun hp_4 h => ?_
   refine Mn P1 ?_
   refine Mn P1 ?_
   refine Mstore 15 [0, 1, 2, 3, 4, 5, 6, 7, 8, 9, 10, 11, 12, 14, 13] [] h fun w5 h => ?_
   refine ⟨trivial, ?_⟩
   refine Mf [] [] ?_
   repeat (first | refine seqQ_exit ?_ | refine loopQ_exit ?_ | refine cutQ_exit ?_ | refine blockQ_hit ?_ | refine blockQ_miss (by kernel_rfl) ?_)
   refine retQ_normal ?_
   repeat (first | refine seqQ_ret ?_ | refine blockQ_ret ?_ | refine loopQ_ret ?_ | refine cutQ_ret ?_)
   exact retT (rs := []) (vs := []) (by kernel_rfl) (trivial) (by kernel_rfl) ⟨rfl, h⟩

/-! ### towpath/towpathlaw01.markInt (function 92) -/

theorem S_towpathlaw01_markInt {n_ : Int} {w : World} {R : Int → World → Prop} (h : F_towpathlaw01_markInt n_ R w) : C_towpathlaw01_markInt n_ w R := by
 unfold F_towpathlaw01_markInt at h
 refine Yh Tryz.func92 ?_
 · refine Yp P1 [0] ?_
   refine Yp P3 [2] ?_
   exact YS ⟨(IntKind.i64.wrap ((-1000) - n_)), rfl, h⟩

/-! ### towpath/towpathlaw01.markEntry (function 95) -/

theorem S_towpathlaw01_markEntry {n_ : Int} {w : World} {R : T_api_Entry → World → Prop} (h : F_towpathlaw01_markEntry n_ R w) : C_towpathlaw01_markEntry n_ w R := by
 unfold F_towpathlaw01_markEntry at h
 refine Yh Tryz.func95 ?_
 · refine Yt ?_
   refine Yw pv_ h fun b_ w1 h => ?_
   refine Yf [] [0, 2] ?_
   refine Yt ?_
   refine Yn P1 ?_
   refine Ym1 h fun v4 w2 h => ?_
   refine Yn P1 ?_
   refine Yo h fun w3 h => ?_
   refine Yf [] [2] ?_
   obtain ⟨res, hc_res, h⟩ := h
   exact YSg (rs := [(ResultVar.cell 2 131)]) (v := Value.agg #[Value.string res.Key, Value.string res.Val]) (⟨b_, 0, [Value.string res.Key, Value.string res.Val], by kernel_rfl, hc_res, (sizeP_of (k := 2) (by kernel_rfl) (by kernel_rfl)), .inl ⟨by kernel_rfl, rfl⟩, trivial⟩) ⟨res, rfl, h⟩

/-! ### towpath/towpathlaw01.markVersion (function 96) -/

theorem S_towpathlaw01_markVersion {n_ : Int} {w : World} {R : T_api_Version → World → Prop} (h : F_towpathlaw01_markVersion n_ R w) : C_towpathlaw01_markVersion n_ w R := by
 unfold F_towpathlaw01_markVersion at h
 refine Yh Tryz.func96 ?_
 · refine Yt ?_
   refine Yw pv_ h fun b_ w1 h => ?_
   refine Yf [] [0, 2] ?_
   refine Yt ?_
   refine Yn P3 ?_
   refine Yo h fun w2 h => ?_
   refine Yf [] [2] ?_
   obtain ⟨res, hc_res, h⟩ := h
   exact YSg (rs := [(ResultVar.cell 2 128)]) (v := Value.agg #[Value.int .i64 res.Number, Value.string res.Val, Value.bool res.Drop]) (⟨b_, 0, [Value.int .i64 res.Number, Value.string res.Val, Value.bool res.Drop], by kernel_rfl, hc_res, (sizeP_of (k := 3) (by kernel_rfl) (by kernel_rfl)), .inl ⟨by kernel_rfl, rfl⟩, trivial⟩) ⟨res, rfl, h⟩
end
end Go.Proofs.YtpedclhflmhakaaGreatDoor
