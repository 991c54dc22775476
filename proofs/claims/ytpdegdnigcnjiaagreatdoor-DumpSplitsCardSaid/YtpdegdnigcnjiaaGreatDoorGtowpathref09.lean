/- WRITTEN BY PROGRAM (dec.py): for each Go function the clean formula F, the call's contract C, and the proof S that F gives C. -/
import Derived.Test.YtpdegdnigcnjiaaGreatDoorRows
import Derived.Test.YtpdegdnigcnjiaaGreatDoorGF
namespace Go.Proofs.YtpdegdnigcnjiaaGreatDoor
open Go
set_option linter.unusedVariables false
set_option maxRecDepth 100000
set_option maxHeartbeats 4000000
noncomputable section

/-! ### towpath/towpathref09.Own (function 97) -/

theorem S_towpathref09_Own {l_ : Slc} {w : World} {R : Slc → World → Prop} (h : F_towpathref09_Own l_ R w) : C_towpathref09_Own l_ w R := by
 unfold F_towpathref09_Own at h
 refine Yh Tryz.func97 ?_
 · refine Yp P1 [0] ?_
   refine Yp P1 [0, 3] ?_
   refine Ys ?_
   refine Yp P1 [0, 3, 4] ?_
   refine Yd 0 ?_
   obtain ⟨I, μ, h0, hr⟩ := h
   refine Yloop (fun m l w => ∃ (out : Slc) (i : Int), l = [(0, sv_ l_), (3, sv_ out), (4, Value.int .i64 i)] ∧ I out i w ∧ μ out i w = m) ⟨(Slc.mk none 0 0), 0, rfl, h0, rfl⟩ ?_
   rintro _ _ w1 ⟨out, i, rfl, hI, rfl⟩
   obtain ⟨again_, again__h, h⟩ : ∃ again_ : Slc → Int → World → Prop, (∀ out' i' w', again_ out' i' w' → I out' i' w' ∧ μ out' i' w' < μ out i w1) ∧ F_towpathref09_Own_L0 l_ R again_ out i w1 := ⟨_, fun _ _ _ h => h, hr out i w1 hI⟩
   clear h0 hI
   unfold F_towpathref09_Own_L0 at h
   refine Ys ?_
   refine Yp P4 [0, 3, 4, 9] ?_
   refine Yc h (fun h => ?_) fun h => ?_
   · refine Yskip ?_
     refine Ys ?_
     refine Yd 1 ?_
     refine Yp P1 [0, 3, 4, 5] ?_
     refine Yt ?_
     refine Yn P3 ?_
     obtain ⟨hp_10, h⟩ := h
     refine Yu 13 (fun pp => .slice pp l_.len l_.cap) hp_10 ?_
     refine Yi h fun h => ?_
     refine Yn P1 ?_
     refine Yl h fun v17 h => ?_
     obtain ⟨src, hs, h⟩ := h
     refine reg_append (t := 102) (tx := 102) (e := 109) (a := (Operand.tmp 12)) (xo := (Operand.tmp 17)) (s := (Slc.mk none 0 0)) (x := v17) (sz := 3) (by_ := 32) (zs := [Value.int .i64 0, Value.string ByteArray.empty, Value.bool false]) (ty := 102) (dst := some 18)  src (by kernel_rfl) (by kernel_rfl) (by kernel_rfl) (by kernel_rfl) (by kernel_rfl) (by kernel_rfl) (by kernel_rfl) (by kernel_rfl) (by kernel_rfl) hs (AppendW.mono h (fun v w2 h => ?_))
     refine Yf P1 [0, 3, 4, 5] ?_
     refine Yr ?_
     refine Yn P3 ?_
     obtain ⟨hp_11, h⟩ := h
     refine Yu 20 (fun pp => .slice pp l_.len l_.cap) hp_11 ?_
     refine Yi h fun h => ?_
     refine Yn P1 ?_
     refine Yl h fun v24 h => ?_
     refine Yn P2 ?_
     refine Yw (sl_ 1 1) h fun b_ w3 h => ?_
     obtain ⟨src, hs, h⟩ := h
     refine reg_append (t := 66) (tx := 66) (e := 104) (a := (Operand.tmp 19)) (xo := (Operand.tmp 27)) (s := out) (x := (Slc.mk (some ⟨b_, 0, none⟩) 1 1)) (sz := 2) (by_ := 40) (zs := [Value.string ByteArray.empty, Value.slice none 0 0]) (ty := 66) (dst := some 28)  src (by kernel_rfl) (by kernel_rfl) (by kernel_rfl) (by kernel_rfl) (by kernel_rfl) (by kernel_rfl) (by kernel_rfl) (by kernel_rfl) (by kernel_rfl) hs (AppendW.mono h (fun out1 w4 h => ?_))
     refine Yf P1 [0, 3, 4] ?_
     refine Yr ?_
     refine Yf P3 [0, 3, 4] ?_
     have hb_ := again__h _ _ _ h
     exact ⟨_, hb_.2, _, Sub.mk (by kernel_rfl), out1, (IntKind.i64.wrap (i + 1)), rfl, hb_.1, rfl⟩
   · refine Yexit 0 ?_
     refine Yp P2 [2] ?_
     exact YS ⟨out, rfl, h⟩

/-! ### towpath/towpathref09.May (function 155) -/
def c155_0 := cb_ Tryz.f155
def c155_3 := cr_ c155_0
def c155_4 := cl_ c155_3
def c155_7 := cr_ c155_4
def c155_8 := cl_ c155_7
def c155_9 := cl_ c155_8
def c155_16 := cr_ c155_9
def c155_17 := cl_ c155_16
def c155_18 := cl_ c155_17
def c155_19 := cl_ c155_18
def r155_19 := co_ c155_19
def o_towpathref09_May_19 : List Nat := [0, 1, 2, 3, 4, 5, 6, 7, 8, 9, 10, 11, 12, 13, 14, 15, 16, 17, 18, 19, 20, 21, 22, 23, 24, 25, 26, 27, 28, 29, 30, 31, 32, 33, 34, 35, 36, 37, 38, 39, 40, 41, 42]

theorem S_towpathref09_May {l_ : Slc} {w : World} {R : Bool → World → Prop} (h : F_towpathref09_May l_ R w) : C_towpathref09_May l_ w R := by
 unfold F_towpathref09_May at h
 refine Yh Tryz.func155 ?_
 · refine Yp P1 [0] ?_
   refine Ys ?_
   refine Yp P1 [0, 3] ?_
   refine Yd 0 ?_
   obtain ⟨I, μ, h0, hr⟩ := h
   refine Yloop (fun m l w => ∃ (i : Int), l = [(0, sv_ l_), (3, Value.int .i64 i)] ∧ I i w ∧ μ i w = m) ⟨0, rfl, h0, rfl⟩ ?_
   rintro _ _ w1 ⟨i, rfl, hI, rfl⟩
   obtain ⟨again_, again__h, h⟩ : ∃ again_ : Int → World → Prop, (∀ i' w', again_ i' w' → I i' w' ∧ μ i' w' < μ i w1) ∧ F_towpathref09_May_L0 l_ R again_ i w1 := ⟨_, fun _ _ h => h, hr i w1 hI⟩
   clear h0 hI
   unfold F_towpathref09_May_L0 at h
   refine Ys ?_
   refine Yp P4 [0, 3, 7] ?_
   refine Yc h (fun h => ?_) fun h => ?_
   · refine Yskip ?_
     refine Ys ?_
     refine Yd 1 ?_
     refine Ycut (fun l w => ∃ (t52 : Bool), l = [(0, sv_ l_), (3, Value.int .i64 i), (52, Value.bool t52)] ∧ F_towpathref09_May_k1 R i again_ t52 w) ?_ ?_
     · refine wpE_mixregion (id := 4) (ops := r155_19) o_towpathref09_May_19 (by kernel_rfl) (by kernel_rfl) (by kernel_rfl) (by kernel_rfl) (fun w3 hw => ?_)
       replace h := h w3 hw
       clear hw
       refine Mn P2 ?_
       obtain ⟨hp_49, h⟩ := h
       refine Mu 10 (fun pp => .slice pp l_.len l_.cap) hp_49 ?_
       refine Mi 2 h fun h => ?_
       refine Mn P1 ?_
       refine Ml 4 h fun v14 hc h => ?_
       refine mreg_enter (op := (Op.call (Call.mk (Callee.value (Operand.func 157)) #[(Operand.tmp 14)] #[9]))) (ty := 4) (dst := some 15) 5 [4, 3, 2, 0, 1] [] 157 #[Value.string v14] (by kernel_rfl) (by kernel_rfl) (by kernel_rfl) (by kernel_rfl) (by kernel_rfl) (fun ww => by kernel_rfl) (Calls.mono h ?_)
       rintro _ w4 ⟨v15, rfl, h⟩
       refine ⟨_, rfl, trivial, ?_⟩
       refine Mn (Pl 8) ?_
       refine Mspl 17 h (fun h => ?_) fun h => ?_
       · refine Mf [.skip, .skip, .skip, .skip, .skip, .skip, .skip, .skip, .skip, .skip, .plain, .plain, .skip, .skip, .skip, .skip, .skip, .skip, .skip, .plain, .plain, .skip, .skip, .skip, .skip, .skip, .skip, .skip, .plain] [0, 3, 52] ?_
         exact ⟨_, Sub.mk (by kernel_rfl), true, rfl, h⟩
       · refine Mspl 20 h (fun h => ?_) fun h => ?_
         · obtain ⟨hp_50, h⟩ := h
           refine Mu 21 (fun pp => .slice pp l_.len l_.cap) hp_50 ?_
           refine Mi 14 h fun h => ?_
           refine Mn [.sure] ?_
           refine Ml 16 h fun v26 hc h => ?_
           refine Mn [.sure, .sure] ?_
           obtain ⟨hp_51, h⟩ := h
           refine Mu 27 (fun pp => .slice pp l_.len l_.cap) hp_51 ?_
           refine Mi 19 h fun h => ?_
           refine Mn [.sure] ?_
           refine Ml 21 h fun v31 hc h => ?_
           refine Mn [.sure, .sure, .plain, .plain, .plain, .plain] ?_
           refine Mspl 35 h (fun h => ?_) fun h => ?_
           · refine Mf [.skip, .skip, .skip, .skip, .skip, .plain, .plain, .skip, .skip, .skip, .skip, .skip, .skip, .skip, .plain] [0, 3, 52] ?_
             exact ⟨_, Sub.mk (by kernel_rfl), true, rfl, h⟩
           · obtain ⟨hp_52, h⟩ := h
             refine Mu 36 (fun pp => .slice pp l_.len l_.cap) hp_52 ?_
             refine Mi 28 h fun h => ?_
             refine Mn [.sure] ?_
             refine Ml 30 h fun v40 hc h => ?_
             refine Mn [.sure, .sure, .plain, .plain, .plain, .plain] ?_
             refine Mspl 44 h (fun h => ?_) fun h => ?_
             · refine Mf [.skip, .skip, .skip, .skip, .skip, .plain] [0, 3, 52] ?_
               exact ⟨_, Sub.mk (by kernel_rfl), true, rfl, h⟩
             · obtain ⟨hp_53, h⟩ := h
               refine Mu 45 (fun pp => .slice pp l_.len l_.cap) hp_53 ?_
               refine Mi 37 h fun h => ?_
               refine Mn [.sure] ?_
               refine Ml 39 h fun v49 hc h => ?_
               refine mreg_enter (op := (Op.call (Call.mk (Callee.value (Operand.func 193)) #[(Operand.tmp 49)] #[102]))) (ty := 28) (dst := some 50) 40 [34, 39, 25, 33, 38, 10, 24, 32, 37, 7, 9, 23, 31, 35, 36, 5, 6, 8, 22, 30, 4, 16, 21, 29, 3, 15, 20, 28, 2, 14, 19, 26, 27, 0, 1, 11, 13, 17, 18, 12] [] 193 #[sv_ v49] (by kernel_rfl) (by kernel_rfl) (by kernel_rfl) (by kernel_rfl) (by kernel_rfl) (fun ww => by kernel_rfl) (Calls.mono h ?_)
               rintro _ w5 ⟨v50, rfl, h⟩
               refine ⟨_, rfl, trivial, ?_⟩
               refine Mf [.sure, .plain] [0, 3, 52] ?_
               exact ⟨_, Sub.mk (by kernel_rfl), (v50 != 0), rfl, h⟩
         · refine Mn [.skip, .skip, .skip, .skip, .skip, .skip, .skip, .skip, .skip, .sure, .plain, .plain, .sure, .sure] ?_
           obtain ⟨hp_54, h⟩ := h
           refine Mu 36 (fun pp => .slice pp l_.len l_.cap) hp_54 ?_
           refine Mi 28 h fun h => ?_
           refine Mn [.sure] ?_
           refine Ml 30 h fun v401 hc h => ?_
           refine Mn [.sure, .sure, .plain, .plain, .plain, .plain] ?_
           refine Mspl 44 h (fun h => ?_) fun h => ?_
           · refine Mf [.skip, .skip, .skip, .skip, .skip, .plain] [0, 3, 52] ?_
             exact ⟨_, Sub.mk (by kernel_rfl), true, rfl, h⟩
           · obtain ⟨hp_55, h⟩ := h
             refine Mu 45 (fun pp => .slice pp l_.len l_.cap) hp_55 ?_
             refine Mi 37 h fun h => ?_
             refine Mn [.sure] ?_
             refine Ml 39 h fun v491 hc h => ?_
             refine mreg_enter (op := (Op.call (Call.mk (Callee.value (Operand.func 193)) #[(Operand.tmp 49)] #[102]))) (ty := 28) (dst := some 50) 40 [34, 39, 25, 33, 38, 10, 24, 32, 37, 7, 9, 23, 31, 35, 36, 5, 6, 8, 22, 30, 4, 16, 21, 29, 3, 15, 20, 28, 2, 14, 19, 26, 27, 0, 1, 11, 13, 17, 18, 12] [] 193 #[sv_ v491] (by kernel_rfl) (by kernel_rfl) (by kernel_rfl) (by kernel_rfl) (by kernel_rfl) (fun ww => by kernel_rfl) (Calls.mono h ?_)
             rintro _ w6 ⟨v501, rfl, h⟩
             refine ⟨_, rfl, trivial, ?_⟩
             refine Mf [.sure, .plain] [0, 3, 52] ?_
             exact ⟨_, Sub.mk (by kernel_rfl), (v501 != 0), rfl, h⟩
     · rintro _ w2 ⟨t52, rfl, h⟩
       unfold F_towpathref09_May_k1 at h
       refine Yc h (fun h => ?_) fun h => ?_
       · refine Yp P1 [2] ?_
         exact YS ⟨false, rfl, h⟩
       · refine Yskip ?_
         refine Yr ?_
         refine Yf P3 [0, 3] ?_
         have hb_ := again__h _ _ h
         exact ⟨_, hb_.2, _, Sub.mk (by kernel_rfl), (IntKind.i64.wrap (i + 1)), rfl, hb_.1, rfl⟩
   · refine Yexit 0 ?_
     refine Yp P1 [2] ?_
     exact YS ⟨true, rfl, h⟩
end
end Go.Proofs.YtpdegdnigcnjiaaGreatDoor
