/- WRITTEN BY PROGRAM (dec.py): for each Go function the clean formula F, the call's contract C, and the proof S that F gives C. -/
import Derived.Test.YtpedclhflmhakaaGreatDoorRows
import Derived.Test.YtpedclhflmhakaaGreatDoorGF
namespace Go.Proofs.YtpedclhflmhakaaGreatDoor
open Go
set_option linter.unusedVariables false
set_option maxRecDepth 100000
set_option maxHeartbeats 4000000
noncomputable section

/-! ### (*towpath/call.Task).Sent (function 19) -/

theorem S_call_Task_Sent {t_ : Option Addr} {w : World} {R : Int → World → Prop} (h : F_call_Task_Sent t_ R w) : C_call_Task_Sent t_ w R := by
 unfold F_call_Task_Sent at h
 refine Yh Tryz.func19 ?_
 · refine Yp P1 [0] ?_
   refine Ys ?_
   refine Yd 0 ?_
   refine Yt ?_
   refine Yn P1 ?_
   refine Ym1 h fun v5 w1 h => ?_
   refine Yf P2 [0, 3] ?_
   refine Yc h (fun h => ?_) fun h => ?_
   · refine Yp P1 [2] ?_
     exact YS ⟨2, rfl, h⟩
   · refine Yt ?_
     refine Yn P1 ?_
     refine Yv 8 h fun hp_3 h => ?_
     refine Yn P1 ?_
     refine Yn P1 ?_
     refine Yl h fun v11 h => ?_
     refine Yf P3 [0, 7] ?_
     refine Yc h (fun h => ?_) fun h => ?_
     · refine Yp P1 [2] ?_
       exact YS ⟨9, rfl, h⟩
     · refine Yskip ?_
       refine Yt ?_
       refine Yn P2 ?_
       refine Yv 15 h fun hp_6 h => ?_
       refine Yn P1 ?_
       refine Yn P1 ?_
       refine Yl h fun v18 h => ?_
       obtain ⟨hc, h⟩ := h
       refine reg_slice (t := 112) (e := 122) (x := (Operand.tmp 18)) (lo := (Operand.const (Value.int IntKind.i64 1))) (s := v18) (sz := 10) (k := .i64) (a := 1) (ty := 112) (dst := some 19) (by kernel_rfl) (by kernel_rfl) (by kernel_rfl) (by kernel_rfl) (by kernel_rfl) hc (fun s hs => ?_)
       replace h := h s hs
       clear hs
       refine Yv 14 h fun hp_7 h => ?_
       refine Yn P1 ?_
       refine Yn P1 ?_
       refine Yo h fun w2 h => ?_
       refine Yf [] [0] ?_
       refine Yt ?_
       refine Yn P1 ?_
       refine Yv 22 h fun hp_9 h => ?_
       refine Yn P1 ?_
       refine Yn P1 ?_
       refine Yl h fun v25 h => ?_
       refine Yn P3 ?_
       refine Yo h fun w3 h => ?_
       refine Yf [] [] ?_
       refine Yp P1 [2] ?_
       exact YS ⟨0, rfl, h⟩

/-! ### (*towpath/call.Task).Next (function 20) -/
def c20_0 := cb_ Tryz.f20
def c20_3 := cr_ c20_0
def c20_13 := cr_ c20_3
def c20_16 := cr_ c20_13
def c20_19 := cr_ c20_16
def c20_20 := cl_ c20_19
def r20_20 := co_ c20_20

theorem S_call_Task_Next {t_ : Option Addr} {w : World} {R : Int → T_api_Req → Bool → World → Prop} (h : F_call_Task_Next t_ R w) : C_call_Task_Next t_ w R := by
 unfold F_call_Task_Next at h
 refine Yh Tryz.func20 ?_
 · refine Yt ?_
   refine Yn P1 ?_
   refine Yw pv_ h fun b_ w1 h => ?_
   refine Yf P1 [0, 3] ?_
   refine Ys ?_
   refine Ycut (fun l w => ∃ (t16 : Bool), l = [(0, Value.pointer t_), (3, pv_ b_), (16, Value.bool t16)] ∧ F_call_Task_Next_k0 t_ R b_ t16 w) ?_ ?_
   · refine Yr ?_
     refine Yn P1 ?_
     refine Ym1 h fun v7 w10 h => ?_
     refine Yn P3 ?_
     refine Yspl 9 h (fun h => ?_) fun h => ?_
     · refine Yf [.skip, .skip, .skip, .skip, .skip, .plain] [0, 3, 16] ?_
       exact ⟨_, Sub.mk (by kernel_rfl), true, rfl, h⟩
     · refine Yv 10 h fun hp_9 h => ?_
       refine Yn [.sure] ?_
       refine Yn [.sure] ?_
       refine Yl h fun v13 h => ?_
       refine Yf [.sure, .sure, .plain] [0, 3, 16] ?_
       exact ⟨_, Sub.mk (by kernel_rfl), (((v13.len : Nat) : Int) == 0), rfl, h⟩
   · rintro _ w2 ⟨t16, rfl, h⟩
     unfold F_call_Task_Next_k0 at h
     refine Yc h (fun h => ?_) fun h => ?_
     · refine Yt ?_
       refine Yn P2 ?_
       refine Yo h fun w3 h => ?_
       refine Yf P1 [2, 3, 4] ?_
       obtain ⟨res, hc_res, h⟩ := h
       exact YTg (rs := [(ResultVar.tmp 2), (ResultVar.cell 3 82), (ResultVar.tmp 4)]) (vs := [Value.int .i64 0, Value.agg #[Value.int .u8 res.Kind, Value.int .i64 res.From, Value.int .i64 res.Number, Value.string res.Write.Key, Value.string res.Write.Val, Value.bool res.Write.Drop, Value.string res.Key, Value.string res.End, sv_ res.Beyond], Value.bool false]) (⟨by kernel_rfl, ⟨b_, 0, [Value.int .u8 res.Kind, Value.int .i64 res.From, Value.int .i64 res.Number, Value.string res.Write.Key, Value.string res.Write.Val, Value.bool res.Write.Drop, Value.string res.Key, Value.string res.End, sv_ res.Beyond], by kernel_rfl, hc_res, (sizeP_of (k := 9) (by kernel_rfl) (by kernel_rfl)), .inl ⟨by kernel_rfl, rfl⟩, ⟨by kernel_rfl, trivial⟩⟩⟩) ⟨0, res, false, rfl, h⟩
     · refine Yskip ?_
       refine Yt ?_
       refine Yn P1 ?_
       refine Yv 18 h fun hp_5 h => ?_
       refine Yn P1 ?_
       refine Yn P1 ?_
       refine Yl h fun v21 h => ?_
       obtain ⟨hp_6, h⟩ := h
       refine Yu 21 (fun pp => .slice pp v21.len v21.cap) hp_6 ?_
       refine Yi h fun h => ?_
       refine Yn P1 ?_
       refine YL h fun v24 h => ?_
       refine Yw pv_ h fun b_1 w4 h => ?_
       refine Yo h fun w5 h => ?_
       refine Yf [] [0, 3, 5] ?_
       refine Yt ?_
       refine Yn P1 ?_
       refine Yl h fun v26 h => ?_
       refine Ym1 h fun v27 w6 h => ?_
       refine Yn P1 ?_
       refine Yo h fun w7 h => ?_
       refine Yf [] [0, 3, 5] ?_
       refine Ys ?_
       refine wpE_tailregion (id := 5) (ops := r20_20) (by kernel_rfl) 9 (by kernel_rfl) (by kernel_rfl) (fun w8 hw => ?_)
       replace h := h w8 hw
       clear hw
       refine Qn P1 ?_
       refine Qv 29 h fun hp_7 h => ?_
       refine Qn P1 ?_
       refine Qn P1 ?_
       refine Ql h fun v32 h => ?_
       obtain ⟨hp_8, h⟩ := h
       refine Qu 32 (fun pp => .slice pp v32.len v32.cap) hp_8 ?_
       refine Qi h fun h => ?_
       refine Qn P1 ?_
       refine Ql h fun v35 h => ?_
       refine QL h fun v36 h => ?_
       refine Qn P1 ?_
       refine qreg_tail (by kernel_rfl) ?_
       refine Yo h fun w9 h => ?_
       refine Yf P1 [2, 3, 4] ?_
       obtain ⟨res1, hc_res1, h⟩ := h
       exact YTg (rs := [(ResultVar.tmp 2), (ResultVar.cell 3 82), (ResultVar.tmp 4)]) (vs := [Value.int .i64 v35, Value.agg #[Value.int .u8 res1.Kind, Value.int .i64 res1.From, Value.int .i64 res1.Number, Value.string res1.Write.Key, Value.string res1.Write.Val, Value.bool res1.Write.Drop, Value.string res1.Key, Value.string res1.End, sv_ res1.Beyond], Value.bool true]) (⟨by kernel_rfl, ⟨b_, 0, [Value.int .u8 res1.Kind, Value.int .i64 res1.From, Value.int .i64 res1.Number, Value.string res1.Write.Key, Value.string res1.Write.Val, Value.bool res1.Write.Drop, Value.string res1.Key, Value.string res1.End, sv_ res1.Beyond], by kernel_rfl, hc_res1, (sizeP_of (k := 9) (by kernel_rfl) (by kernel_rfl)), .inl ⟨by kernel_rfl, rfl⟩, ⟨by kernel_rfl, trivial⟩⟩⟩) ⟨v35, res1, true, rfl, h⟩

/-! ### (*towpath/call.Task).Answer (function 21) -/
def c21_0 := cb_ Tryz.f21
def c21_3 := cr_ c21_0
def c21_22 := cr_ c21_3
def c21_25 := cr_ c21_22
def c21_28 := cr_ c21_25
def c21_29 := cl_ c21_28
def c21_32 := cr_ c21_29
def c21_33 := cl_ c21_32
def c21_34 := cl_ c21_33
def c21_37 := cr_ c21_34
def c21_41 := cr_ c21_37
def c21_42 := cl_ c21_41
def c21_43 := cl_ c21_42
def c21_46 := cr_ c21_43
def c21_49 := cr_ c21_46
def c21_50 := cl_ c21_49
def c21_53 := cr_ c21_50
def c21_64 := cr_ c21_53
def c21_67 := cr_ c21_64
def c21_70 := cr_ c21_67
def c21_73 := cr_ c21_70
def c21_76 := cr_ c21_73
def c21_79 := cr_ c21_76
def c21_80 := cl_ c21_79
def c21_83 := cr_ c21_80
def c21_84 := cl_ c21_83
def c21_85 := cl_ c21_84
def c21_88 := cr_ c21_85
def c21_92 := cr_ c21_88
def c21_93 := cl_ c21_92
def c21_94 := cl_ c21_93
def c21_97 := cr_ c21_94
def r21_97 := co_ c21_97
def o_call_Task_Answer_97 : List Nat := [0, 1, 2, 3, 4, 5, 6, 7, 8, 9]

theorem S_call_Task_Answer {t_ : Option Addr} {w : World} {R : T_api_Answer → Slc → Int → World → Prop} (h : F_call_Task_Answer t_ R w) : C_call_Task_Answer t_ w R := by
 unfold F_call_Task_Answer at h
 refine Yh Tryz.func21 ?_
 · refine Yt ?_
   refine Yw pv_ h fun b_ w1 h => ?_
   refine Yf P2 [0, 2] ?_
   refine Ys ?_
   refine Yd 0 ?_
   refine Yt ?_
   refine Yn P1 ?_
   refine Ym1 h fun v13 w2 h => ?_
   refine Yf P2 [0, 2, 11] ?_
   refine Yc h (fun h => ?_) fun h => ?_
   · refine Yt ?_
     refine Yn P1 ?_
     refine Yo h fun w3 h => ?_
     refine Yf P2 [2, 3, 4] ?_
     obtain ⟨res, hc_res, h⟩ := h
     exact YTg (rs := [(ResultVar.cell 2 86), (ResultVar.tmp 3), (ResultVar.tmp 4)]) (vs := [Value.agg #[Value.int .i64 res.Code, Value.int .i64 res.Mark, Value.bool res.OK, sv_ res.Entries, Value.int .i64 res.Count], Value.slice none 0 0, Value.int .i64 2]) (⟨b_, 0, [Value.int .i64 res.Code, Value.int .i64 res.Mark, Value.bool res.OK, sv_ res.Entries, Value.int .i64 res.Count], by kernel_rfl, hc_res, (sizeP_of (k := 5) (by kernel_rfl) (by kernel_rfl)), .inl ⟨by kernel_rfl, rfl⟩, ⟨by kernel_rfl, ⟨by kernel_rfl, trivial⟩⟩⟩) ⟨res, (Slc.mk none 0 0), 2, rfl, h⟩
   · refine Yt ?_
     refine Yn P1 ?_
     refine Ym1 h fun v18 w4 h => ?_
     refine Yf P2 [0, 2, 16] ?_
     refine Yc h (fun h => ?_) fun h => ?_
     · refine Yt ?_
       refine Yn P1 ?_
       refine Yo h fun w5 h => ?_
       refine Yf P2 [2, 3, 4] ?_
       obtain ⟨res1, hc_res1, h⟩ := h
       exact YTg (rs := [(ResultVar.cell 2 86), (ResultVar.tmp 3), (ResultVar.tmp 4)]) (vs := [Value.agg #[Value.int .i64 res1.Code, Value.int .i64 res1.Mark, Value.bool res1.OK, sv_ res1.Entries, Value.int .i64 res1.Count], Value.slice none 0 0, Value.int .i64 6]) (⟨b_, 0, [Value.int .i64 res1.Code, Value.int .i64 res1.Mark, Value.bool res1.OK, sv_ res1.Entries, Value.int .i64 res1.Count], by kernel_rfl, hc_res1, (sizeP_of (k := 5) (by kernel_rfl) (by kernel_rfl)), .inl ⟨by kernel_rfl, rfl⟩, ⟨by kernel_rfl, ⟨by kernel_rfl, trivial⟩⟩⟩) ⟨res1, (Slc.mk none 0 0), 6, rfl, h⟩
     · refine Yskip ?_
       refine Yt ?_
       refine Yn P1 ?_
       refine Yv 21 h fun hp_1 h => ?_
       refine Yn P1 ?_
       refine Yn P1 ?_
       refine Yl h fun v24 h => ?_
       refine Yn P1 ?_
       refine Yw pv_ h fun b_1 w6 h => ?_
       refine Yo h fun w7 h => ?_
       refine Yf [] [0, 2, 5] ?_
       refine Yp P1 [0, 2, 5, 6] ?_
       refine Ys ?_
       refine Yt ?_
       refine Yn P1 ?_
       refine Yv 26 h fun hp_21 h => ?_
       refine Yn P1 ?_
       refine Yn P1 ?_
       refine Yl h fun v29 h => ?_
       refine Yf P2 [0, 2, 5, 6, 29, 30, 31] ?_
       refine Yd 1 ?_
       obtain ⟨I, μ, h0, hr⟩ := h
       refine Yloop (fun m l w => ∃ (held : Slc) (t31 : Int), l = [(0, Value.pointer t_), (2, pv_ b_), (5, pv_ b_1), (6, sv_ held), (29, sv_ v29), (30, Value.int .i64 ((v29.len : Nat) : Int)), (31, Value.int .i64 t31)] ∧ I held t31 w ∧ μ held t31 w = m) ⟨(Slc.mk none 0 0), 0, rfl, h0, rfl⟩ ?_
       rintro _ _ w8 ⟨held, t31, rfl, hI, rfl⟩
       obtain ⟨again_, again__h, h⟩ : ∃ again_ : Slc → Int → World → Prop, (∀ held' t31' w', again_ held' t31' w' → I held' t31' w' ∧ μ held' t31' w' < μ held t31 w8) ∧ F_call_Task_Answer_L0 t_ R b_ b_1 v29 again_ held t31 w8 := ⟨_, fun _ _ _ h => h, hr held t31 w8 hI⟩
       clear h0 hI
       unfold F_call_Task_Answer_L0 at h
       refine Yp P1 [0, 2, 5, 6, 29, 30, 31, 32] ?_
       refine Ys ?_
       refine Yc h (fun h => ?_) fun h => ?_
       · refine Yskip ?_
         refine Ycut (fun l w => ∃ (held1 : Slc), l = [(0, Value.pointer t_), (2, pv_ b_), (5, pv_ b_1), (6, sv_ held1), (29, sv_ v29), (30, Value.int .i64 ((v29.len : Nat) : Int)), (31, Value.int .i64 t31)] ∧ F_call_Task_Answer_k1 t31 again_ held1 w) ?_ ?_
         · refine Yd 2 ?_
           refine Yt ?_
           obtain ⟨hp_31, h⟩ := h
           refine Yu 29 (fun pp => .slice pp v29.len v29.cap) hp_31 ?_
           refine Yi h fun h => ?_
           refine YL h fun v34 h => ?_
           refine Yw pv_ h fun b_2 w10 h => ?_
           refine Yo h fun w11 h => ?_
           refine Yu 29 (fun pp => .slice pp v29.len v29.cap) hp_31.symm ?_
           refine Yf [] [0, 2, 5, 6, 8, 29, 30, 31] ?_
           refine Yt ?_
           refine Yn P1 ?_
           refine Yv 35 h fun hp_33 h => ?_
           refine Yn P1 ?_
           refine Yn P2 ?_
           refine Yl h fun v39 h => ?_
           refine Yf [] [0, 2, 5, 6, 8, 29, 30, 31, 39] ?_
           refine Yd 3 ?_
           refine Yp P2 [0, 2, 5, 6, 8, 29, 30, 31, 39, 40] ?_
           refine Yc h (fun h => ?_) fun h => ?_
           · refine Yt ?_
             refine Yn P1 ?_
             refine Yl h fun v43 h => ?_
             refine Yn P3 ?_
             refine Yo h fun w12 h => ?_
             refine Yf [] [0, 2, 5, 6, 8, 29, 30, 31] ?_
             refine Yt ?_
             refine Yn P1 ?_
             refine Yl h fun v48 h => ?_
             refine Yf [] [0, 2, 5, 6, 8, 29, 30, 31, 48] ?_
             refine Yc h (fun h => ?_) fun h => ?_
             · refine Yr ?_
               refine Yn P1 ?_
               refine Yl h fun v50 h => ?_
               refine Yw (sl_ 1 1) h fun b_3 w13 h => ?_
               refine Ym1 h fun v52 w14 h => ?_
               refine Yn P1 ?_
               refine Yo h fun w15 h => ?_
               refine Yf [] [0, 2, 5, 6, 29, 30, 31] ?_
               exact ⟨_, Sub.mk (by kernel_rfl), held, rfl, h⟩
             · refine Yskip ?_
               exact ⟨_, Sub.mk (by kernel_rfl), held, rfl, h⟩
           · refine Yp P2 [0, 2, 5, 6, 8, 29, 30, 31, 39, 54] ?_
             refine Yc h (fun h => ?_) fun h => ?_
             · refine Yr ?_
               refine Yn P1 ?_
               refine Yl h fun v57 h => ?_
               refine Yn P1 ?_
               refine Yl h fun v59 h => ?_
               refine Yw (sl_ 2 2) h fun b_4 w16 h => ?_
               refine Ym1 h fun v61 w17 h => ?_
               refine Yn P1 ?_
               refine Yo h fun w18 h => ?_
               refine Yf [] [0, 2, 5, 6, 29, 30, 31] ?_
               exact ⟨_, Sub.mk (by kernel_rfl), held, rfl, h⟩
             · refine Yp P2 [0, 2, 5, 6, 8, 29, 30, 31, 39, 63] ?_
               refine Yc h (fun h => ?_) fun h => ?_
               · refine Yr ?_
                 refine Yn P1 ?_
                 refine Yl h fun v66 h => ?_
                 refine Yn P1 ?_
                 refine Yl h fun v68 h => ?_
                 refine Yn P2 ?_
                 refine Yo h fun w19 h => ?_
                 refine Yf [] [0, 2, 5, 6, 29, 30, 31] ?_
                 exact ⟨_, Sub.mk (by kernel_rfl), held, rfl, h⟩
               · refine Yp P2 [0, 2, 5, 6, 8, 29, 30, 31, 71] ?_
                 refine Yc h (fun h => ?_) fun h => ?_
                 · refine Yt ?_
                   refine Yn P1 ?_
                   refine Yl h fun v74 h => ?_
                   refine Yf P2 [0, 2, 5, 6, 29, 30, 31, 74, 75, 76] ?_
                   refine Yd 4 ?_
                   obtain ⟨I, μ, h0, hr⟩ := h
                   refine Yloop (fun m l w => ∃ (held2 : Slc) (t76 : Int), l = [(0, Value.pointer t_), (2, pv_ b_), (5, pv_ b_1), (6, sv_ held2), (29, sv_ v29), (30, Value.int .i64 ((v29.len : Nat) : Int)), (31, Value.int .i64 t31), (74, sv_ v74), (75, Value.int .i64 ((v74.len : Nat) : Int)), (76, Value.int .i64 t76)] ∧ I held2 t76 w ∧ μ held2 t76 w = m) ⟨held, 0, rfl, h0, rfl⟩ ?_
                   rintro _ _ w20 ⟨held2, t76, rfl, hI, rfl⟩
                   obtain ⟨again_1, again_1_h, h⟩ : ∃ again_1 : Slc → Int → World → Prop, (∀ held2' t76' w', again_1 held2' t76' w' → I held2' t76' w' ∧ μ held2' t76' w' < μ held2 t76 w20) ∧ F_call_Task_Answer_L2 t31 again_ v74 again_1 held2 t76 w20 := ⟨_, fun _ _ _ h => h, hr held2 t76 w20 hI⟩
                   clear h0 hI
                   unfold F_call_Task_Answer_L2 at h
                   refine Yp P1 [0, 2, 5, 6, 29, 30, 31, 74, 75, 76, 77] ?_
                   refine Ys ?_
                   refine Yc h (fun h => ?_) fun h => ?_
                   · refine Yskip ?_
                     refine Ys ?_
                     refine Yd 5 ?_
                     refine Yt ?_
                     obtain ⟨hp_37, h⟩ := h
                     refine Yu 74 (fun pp => .slice pp v74.len v74.cap) hp_37 ?_
                     refine Yi h fun h => ?_
                     refine YL h fun v79 h => ?_
                     refine Yw pv_ h fun b_5 w21 h => ?_
                     refine Yo h fun w22 h => ?_
                     refine Yu 74 (fun pp => .slice pp v74.len v74.cap) hp_37.symm ?_
                     refine Yf [] [0, 2, 5, 6, 10, 29, 30, 31, 74, 75, 76] ?_
                     refine wpE_mixregion (id := 23) (ops := r21_97) o_call_Task_Answer_97 (by kernel_rfl) (by kernel_rfl) (by kernel_rfl) (by kernel_rfl) (fun w23 hw => ?_)
                     replace h := h w23 hw
                     clear hw
                     refine Mn P2 ?_
                     refine Ml 2 h fun v82 hc h => ?_
                     refine Mn P1 ?_
                     refine Ml 4 h fun v84 hc h => ?_
                     refine mreg_enter (op := (Op.call (Call.mk (Callee.value (Operand.func 75)) #[(Operand.tmp 84)] #[123]))) (ty := 123) (dst := some 85) 5 [4, 3] [(2, fun w' => w'.cell? ⟨b_5, 0, none⟩ = some (Value.string v82))] 75 #[sv_ v84] (by kernel_rfl) (by kernel_rfl) (by kernel_rfl) (by kernel_rfl) (by kernel_rfl) (fun ww => by kernel_rfl) (Calls.mono h ?_)
                     rintro _ w24 ⟨v85, rfl, h⟩
                     obtain ⟨hk0, h⟩ := h
                     refine ⟨_, rfl, ⟨hk0, trivial⟩, ?_⟩
                     refine Mn P1 ?_
                     refine mreg_new (op := (Op.buildSlice 69 1 #[(0, (Operand.tmp 86))])) (ty := 69) (dst := some 87) 7 [6, 2, 5, 1, 4, 3] [] (fun bb => Value.slice (some ⟨bb, 0, none⟩) 1 1) (Obj.cells ([Value.string v82, sv_ v85]).toArray ty_api_Held (0, 0)) (by kernel_rfl) (by kernel_rfl) (by kernel_rfl) (by kernel_rfl) (by kernel_rfl) (by kernel_rfl) (fun b_6 w25 hb hw => ?_)
                     replace h := h b_6 w25 hb hw
                     clear hb hw
                     refine ⟨trivial, ?_⟩
                     obtain ⟨src, hs, h⟩ := h
                     refine mreg_append (t := 69) (tx := 69) (e := 125) (a := (Operand.tmp 80)) (xo := (Operand.tmp 87)) (s := held2) (x := (Slc.mk (some ⟨b_6, 0, none⟩) 1 1)) (sz := 2) (by_ := 40) (zs := [Value.string ByteArray.empty, Value.slice none 0 0]) (ty := 69) (dst := some 88) 8 [0, 5, 7, 4, 6, 3, 2, 1] [] src (by kernel_rfl) (by kernel_rfl) (by kernel_rfl) (by kernel_rfl) (by kernel_rfl) (by kernel_rfl) (by kernel_rfl) (by kernel_rfl) (by kernel_rfl) (by kernel_rfl) (by kernel_rfl) (by kernel_rfl) (by kernel_rfl) hs (AppendW.mono h (fun held3 w26 h => ?_))
                     refine ⟨trivial, ?_⟩
                     refine Mf P1 [0, 2, 5, 6, 29, 30, 31, 74, 75, 76] ?_
                     refine Yr ?_
                     refine Yf P2 [0, 2, 5, 6, 29, 30, 31, 74, 75, 76] ?_
                     have hb_ := again_1_h _ _ _ h
                     exact ⟨_, hb_.2, _, Sub.mk (by kernel_rfl), held3, (IntKind.i64.wrap (t76 + 1)), rfl, hb_.1, rfl⟩
                   · refine Yexit 4 ?_
                     exact ⟨_, Sub.mk (by kernel_rfl), held2, rfl, h⟩
                 · refine Yskip ?_
                   exact ⟨_, Sub.mk (by kernel_rfl), held, rfl, h⟩
         · rintro _ w9 ⟨held1, rfl, h⟩
           unfold F_call_Task_Answer_k1 at h
           refine Yr ?_
           refine Yf P2 [0, 2, 5, 6, 29, 30, 31] ?_
           have hb_ := again__h _ _ _ h
           exact ⟨_, hb_.2, _, Sub.mk (by kernel_rfl), held1, (IntKind.i64.wrap (t31 + 1)), rfl, hb_.1, rfl⟩
       · refine Yexit 1 ?_
         refine Yt ?_
         refine Yn P1 ?_
         refine Ym0 h fun w27 h => ?_
         refine Yf [] [2, 5, 6] ?_
         refine Yt ?_
         refine YL h fun v93 h => ?_
         refine Yn P1 ?_
         refine Yo h fun w28 h => ?_
         refine Yf P2 [2, 3, 4] ?_
         obtain ⟨res2, hc_res2, h⟩ := h
         exact YTg (rs := [(ResultVar.cell 2 86), (ResultVar.tmp 3), (ResultVar.tmp 4)]) (vs := [Value.agg #[Value.int .i64 res2.Code, Value.int .i64 res2.Mark, Value.bool res2.OK, sv_ res2.Entries, Value.int .i64 res2.Count], sv_ held, Value.int .i64 0]) (⟨b_, 0, [Value.int .i64 res2.Code, Value.int .i64 res2.Mark, Value.bool res2.OK, sv_ res2.Entries, Value.int .i64 res2.Count], by kernel_rfl, hc_res2, (sizeP_of (k := 5) (by kernel_rfl) (by kernel_rfl)), .inl ⟨by kernel_rfl, rfl⟩, ⟨by kernel_rfl, ⟨by kernel_rfl, trivial⟩⟩⟩) ⟨res2, held, 0, rfl, h⟩

/-! ### towpath/call.Check (function 70) -/

theorem S_call_Check {c : T_api_Call} {w : World} {R : Int → World → Prop} (h : F_call_Check c R w) : C_call_Check c w R := by
 unfold F_call_Check at h
 refine Yh Tryz.func70 ?_
 · refine Yt ?_
   refine Yw pv_ h fun b_ w1 h => ?_
   refine Yf P1 [1] ?_
   refine Yp P1 [1, 3] ?_
   refine Ycut (fun l w => ∃ (ok : Bool), l = [(3, Value.bool ok)] ∧ F_call_Check_k0 R ok w) ?_ ?_
   · refine Yt ?_
     refine Yn P1 ?_
     refine Yl h fun v5 h => ?_
     refine Yf [] [1, 3, 5] ?_
     refine Yd 0 ?_
     refine Yp P2 [1, 3, 5, 6] ?_
     refine Yc h (fun h => ?_) fun h => ?_
     · refine Yr ?_
       refine Yn P1 ?_
       refine Yl h fun v9 h => ?_
       refine Yn P3 ?_
       refine Yspl 11 h (fun h => ?_) fun h => ?_
       · refine Yl h fun v13 h => ?_
         refine Yn [.sure, .sure, .plain, .plain, .plain] ?_
         refine Yspl 17 h (fun h => ?_) fun h => ?_
         · refine Yl h fun v19 h => ?_
           refine Yf [.sure, .plain, .plain] [3] ?_
           exact ⟨_, Sub.mk (by kernel_rfl), (v19.toList == ByteArray.empty.toList), rfl, h⟩
         · refine Yf [.skip, .skip, .plain, .plain] [3] ?_
           exact ⟨_, Sub.mk (by kernel_rfl), false, rfl, h⟩
       · refine Yf [.skip, .skip, .skip, .plain, .plain, .skip, .skip, .skip, .plain, .plain] [3] ?_
         exact ⟨_, Sub.mk (by kernel_rfl), false, rfl, h⟩
     · refine Yp P2 [1, 3, 5, 22] ?_
       refine Yc h (fun h => ?_) fun h => ?_
       · refine Yr ?_
         refine Yn P1 ?_
         refine Yl h fun v25 h => ?_
         refine Yn P4 ?_
         refine Yspl 28 h (fun h => ?_) fun h => ?_
         · refine Yl h fun v30 h => ?_
           refine Yf [.sure, .sure, .plain, .plain] [3] ?_
           exact ⟨_, Sub.mk (by kernel_rfl), (decide (((v30.size : Nat) : Int) ≤ 64)), rfl, h⟩
         · refine Yf [.skip, .skip, .skip, .plain, .plain] [3] ?_
           exact ⟨_, Sub.mk (by kernel_rfl), false, rfl, h⟩
       · refine Ycut (fun l w => ∃ (t34 : Bool), l = [(1, pv_ b_), (3, Value.bool false), (34, Value.bool t34)] ∧ F_call_Check_k1 R b_ t34 w) ?_ ?_
         · refine Yp P2 [1, 3, 5, 34] ?_
           refine Yc h (fun h => ?_) fun h => ?_
           · refine Yskip ?_
             exact ⟨_, Sub.mk (by kernel_rfl), (v5 == 3), rfl, h⟩
           · refine Yr ?_
             refine Yf P2 [1, 3, 34] ?_
             exact ⟨_, Sub.mk (by kernel_rfl), (v5 == 4), rfl, h⟩
         · rintro _ w3 ⟨t34, rfl, h⟩
           unfold F_call_Check_k1 at h
           refine Yc h (fun h => ?_) fun h => ?_
           · refine Yr ?_
             refine Yn P1 ?_
             refine Yl h fun v38 h => ?_
             refine Yn P3 ?_
             refine Yspl 40 h (fun h => ?_) fun h => ?_
             · refine Yl h fun v42 h => ?_
               refine Yf [.sure, .plain, .plain] [3] ?_
               exact ⟨_, Sub.mk (by kernel_rfl), (v42.toList == ByteArray.empty.toList), rfl, h⟩
             · refine Yf [.skip, .skip, .plain, .plain] [3] ?_
               exact ⟨_, Sub.mk (by kernel_rfl), false, rfl, h⟩
           · refine Yskip ?_
             exact ⟨_, Sub.mk (by kernel_rfl), false, rfl, h⟩
   · rintro _ w2 ⟨ok, rfl, h⟩
     unfold F_call_Check_k0 at h
     refine Ys ?_
     refine Yp P2 [46] ?_
     refine Yc h (fun h => ?_) fun h => ?_
     · refine Yp P1 [2] ?_
       exact YS ⟨1, rfl, h⟩
     · refine Yskip ?_
       refine Yp P1 [2] ?_
       exact YS ⟨0, rfl, h⟩
end
end Go.Proofs.YtpedclhflmhakaaGreatDoor
