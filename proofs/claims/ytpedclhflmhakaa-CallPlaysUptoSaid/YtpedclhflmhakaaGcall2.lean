/- WRITTEN BY PROGRAM (dec.py): for each Go function the clean formula F, the call's contract C, and the proof S that F gives C. -/
import Derived.Test.YtpedclhflmhakaaRows
import Derived.Test.YtpedclhflmhakaaGF
namespace Go.Proofs.Ytpedclhflmhakaa
open Go
set_option linter.unusedVariables false
set_option maxRecDepth 100000
set_option maxHeartbeats 4000000
noncomputable section

/-! ### (*towpath/call.Task).Answer (function 61) -/
def c61_0 := cb_ Try.f61
def c61_3 := cr_ c61_0
def c61_22 := cr_ c61_3
def c61_25 := cr_ c61_22
def c61_28 := cr_ c61_25
def c61_29 := cl_ c61_28
def c61_32 := cr_ c61_29
def c61_33 := cl_ c61_32
def c61_34 := cl_ c61_33
def c61_37 := cr_ c61_34
def c61_41 := cr_ c61_37
def c61_42 := cl_ c61_41
def c61_43 := cl_ c61_42
def c61_46 := cr_ c61_43
def c61_49 := cr_ c61_46
def c61_50 := cl_ c61_49
def c61_53 := cr_ c61_50
def c61_64 := cr_ c61_53
def c61_67 := cr_ c61_64
def c61_70 := cr_ c61_67
def c61_73 := cr_ c61_70
def c61_76 := cr_ c61_73
def c61_79 := cr_ c61_76
def c61_80 := cl_ c61_79
def c61_83 := cr_ c61_80
def c61_84 := cl_ c61_83
def c61_85 := cl_ c61_84
def c61_88 := cr_ c61_85
def c61_92 := cr_ c61_88
def c61_93 := cl_ c61_92
def c61_94 := cl_ c61_93
def c61_97 := cr_ c61_94
def r61_97 := co_ c61_97
def o_call_Task_Answer_97 : List Nat := [0, 1, 2, 3, 4, 5, 6, 7, 8, 9]

theorem S_call_Task_Answer {t_ : Option Addr} {w : World} {R : T_api_Answer → Slc → Int → World → Prop} (h : F_call_Task_Answer t_ R w) : C_call_Task_Answer t_ w R := by
 unfold F_call_Task_Answer at h
 refine Yh Try.func61 ?_
 · refine Yt ?_
   refine Yw pv_ h fun b_ w1 h => ?_
   refine Yf P2 [0, 2] ?_
   refine Ys ?_
   refine Yd 0 ?_
   refine Yt ?_
   refine Yn P1 ?_
   refine Ym1 h fun v13 w2 h => ?_
   refine Yf P2 [0, 2, 11] ?_
   refine Yc h (fun h => ?_) fun h => ?_
   · refine Yt ?_
     refine Yn P1 ?_
     refine Yo h fun w3 h => ?_
     refine Yf P2 [2, 3, 4] ?_
     obtain ⟨res, hc_res, h⟩ := h
     exact YTg (rs := [(ResultVar.cell 2 125), (ResultVar.tmp 3), (ResultVar.tmp 4)]) (vs := [Value.agg #[Value.int .i64 res.Code, Value.int .i64 res.Mark, Value.bool res.OK, sv_ res.Entries, Value.int .i64 res.Count], Value.slice none 0 0, Value.int .i64 2]) (⟨b_, 0, [Value.int .i64 res.Code, Value.int .i64 res.Mark, Value.bool res.OK, sv_ res.Entries, Value.int .i64 res.Count], by kernel_rfl, hc_res, (sizeP_of (k := 5) (by kernel_rfl) (by kernel_rfl)), .inl ⟨by kernel_rfl, rfl⟩, ⟨by kernel_rfl, ⟨by kernel_rfl, trivial⟩⟩⟩) ⟨res, (Slc.mk none 0 0), 2, rfl, h⟩
   · refine Yt ?_
     refine Yn P1 ?_
     refine Ym1 h fun v18 w4 h => ?_
     refine Yf P2 [0, 2, 16] ?_
     refine Yc h (fun h => ?_) fun h => ?_
     · refine Yt ?_
       refine Yn P1 ?_
       refine Yo h fun w5 h => ?_
       refine Yf P2 [2, 3, 4] ?_
       obtain ⟨res1, hc_res1, h⟩ := h
       exact YTg (rs := [(ResultVar.cell 2 125), (ResultVar.tmp 3), (ResultVar.tmp 4)]) (vs := [Value.agg #[Value.int .i64 res1.Code, Value.int .i64 res1.Mark, Value.bool res1.OK, sv_ res1.Entries, Value.int .i64 res1.Count], Value.slice none 0 0, Value.int .i64 6]) (⟨b_, 0, [Value.int .i64 res1.Code, Value.int .i64 res1.Mark, Value.bool res1.OK, sv_ res1.Entries, Value.int .i64 res1.Count], by kernel_rfl, hc_res1, (sizeP_of (k := 5) (by kernel_rfl) (by kernel_rfl)), .inl ⟨by kernel_rfl, rfl⟩, ⟨by kernel_rfl, ⟨by kernel_rfl, trivial⟩⟩⟩) ⟨res1, (Slc.mk none 0 0), 6, rfl, h⟩
     · refine Yskip ?_
       refine Yt ?_
       refine Yn P1 ?_
       refine Yv 21 h fun hp_1 h => ?_
       refine Yn P1 ?_
       refine Yn P1 ?_
       refine Yl h fun v24 h => ?_
       refine Yn P1 ?_
       refine Yw pv_ h fun b_1 w6 h => ?_
       refine Yo h fun w7 h => ?_
       refine Yf [] [0, 2, 5] ?_
       refine Yp P1 [0, 2, 5, 6] ?_
       refine Ys ?_
       refine Yt ?_
       refine Yn P1 ?_
       refine Yv 26 h fun hp_21 h => ?_
       refine Yn P1 ?_
       refine Yn P1 ?_
       refine Yl h fun v29 h => ?_
       refine Yf P2 [0, 2, 5, 6, 29, 30, 31] ?_
       refine Yd 1 ?_
       obtain ⟨I, μ, h0, hr⟩ := h
       refine Yloop (fun m l w => ∃ (held : Slc) (t31 : Int), l = [(0, Value.pointer t_), (2, pv_ b_), (5, pv_ b_1), (6, sv_ held), (29, sv_ v29), (30, Value.int .i64 ((v29.len : Nat) : Int)), (31, Value.int .i64 t31)] ∧ I held t31 w ∧ μ held t31 w = m) ⟨(Slc.mk none 0 0), 0, rfl, h0, rfl⟩ ?_
       rintro _ _ w8 ⟨held, t31, rfl, hI, rfl⟩
       obtain ⟨again_, again__h, h⟩ : ∃ again_ : Slc → Int → World → Prop, (∀ held' t31' w', again_ held' t31' w' → I held' t31' w' ∧ μ held' t31' w' < μ held t31 w8) ∧ F_call_Task_Answer_L0 t_ R b_ b_1 v29 again_ held t31 w8 := ⟨_, fun _ _ _ h => h, hr held t31 w8 hI⟩
       clear h0 hI
       unfold F_call_Task_Answer_L0 at h
       refine Yp P1 [0, 2, 5, 6, 29, 30, 31, 32] ?_
       refine Ys ?_
       refine Yc h (fun h => ?_) fun h => ?_
       · refine Yskip ?_
         refine Ycut (fun l w => ∃ (held1 : Slc), l = [(0, Value.pointer t_), (2, pv_ b_), (5, pv_ b_1), (6, sv_ held1), (29, sv_ v29), (30, Value.int .i64 ((v29.len : Nat) : Int)), (31, Value.int .i64 t31)] ∧ F_call_Task_Answer_k1 t31 again_ held1 w) ?_ ?_
         · refine Yd 2 ?_
           refine Yt ?_
           obtain ⟨hp_31, h⟩ := h
           refine Yu 29 (fun pp => .slice pp v29.len v29.cap) hp_31 ?_
           refine Yi h fun h => ?_
           refine YL h fun v34 h => ?_
           refine Yw pv_ h fun b_2 w10 h => ?_
           refine Yo h fun w11 h => ?_
           refine Yu 29 (fun pp => .slice pp v29.len v29.cap) hp_31.symm ?_
           refine Yf [] [0, 2, 5, 6, 8, 29, 30, 31] ?_
           refine Yt ?_
           refine Yn P1 ?_
           refine Yv 35 h fun hp_33 h => ?_
           refine Yn P1 ?_
           refine Yn P2 ?_
           refine Yl h fun v39 h => ?_
           refine Yf [] [0, 2, 5, 6, 8, 29, 30, 31, 39] ?_
           refine Yd 3 ?_
           refine Yp P2 [0, 2, 5, 6, 8, 29, 30, 31, 39, 40] ?_
           refine Yc h (fun h => ?_) fun h => ?_
           · refine Yt ?_
             refine Yn P1 ?_
             refine Yl h fun v43 h => ?_
             refine Yn P3 ?_
             refine Yo h fun w12 h => ?_
             refine Yf [] [0, 2, 5, 6, 8, 29, 30, 31] ?_
             refine Yt ?_
             refine Yn P1 ?_
             refine Yl h fun v48 h => ?_
             refine Yf [] [0, 2, 5, 6, 8, 29, 30, 31, 48] ?_
             refine Yc h (fun h => ?_) fun h => ?_
             · refine Yr ?_
               refine Yn P1 ?_
               refine Yl h fun v50 h => ?_
               refine Yw (sl_ 1 1) h fun b_3 w13 h => ?_
               refine Ym1 h fun v52 w14 h => ?_
               refine Yn P1 ?_
               refine Yo h fun w15 h => ?_
               refine Yf [] [0, 2, 5, 6, 29, 30, 31] ?_
               exact ⟨_, Sub.mk (by kernel_rfl), held, rfl, h⟩
             · refine Yskip ?_
               exact ⟨_, Sub.mk (by kernel_rfl), held, rfl, h⟩
           · refine Yp P2 [0, 2, 5, 6, 8, 29, 30, 31, 39, 54] ?_
             refine Yc h (fun h => ?_) fun h => ?_
             · refine Yr ?_
               refine Yn P1 ?_
               refine Yl h fun v57 h => ?_
               refine Yn P1 ?_
               refine Yl h fun v59 h => ?_
               refine Yw (sl_ 2 2) h fun b_4 w16 h => ?_
               refine Ym1 h fun v61 w17 h => ?_
               refine Yn P1 ?_
               refine Yo h fun w18 h => ?_
               refine Yf [] [0, 2, 5, 6, 29, 30, 31] ?_
               exact ⟨_, Sub.mk (by kernel_rfl), held, rfl, h⟩
             · refine Yp P2 [0, 2, 5, 6, 8, 29, 30, 31, 39, 63] ?_
               refine Yc h (fun h => ?_) fun h => ?_
               · refine Yr ?_
                 refine Yn P1 ?_
                 refine Yl h fun v66 h => ?_
                 refine Yn P1 ?_
                 refine Yl h fun v68 h => ?_
                 refine Yn P2 ?_
                 refine Yo h fun w19 h => ?_
                 refine Yf [] [0, 2, 5, 6, 29, 30, 31] ?_
                 exact ⟨_, Sub.mk (by kernel_rfl), held, rfl, h⟩
               · refine Yp P2 [0, 2, 5, 6, 8, 29, 30, 31, 71] ?_
                 refine Yc h (fun h => ?_) fun h => ?_
                 · refine Yt ?_
                   refine Yn P1 ?_
                   refine Yl h fun v74 h => ?_
                   refine Yf P2 [0, 2, 5, 6, 29, 30, 31, 74, 75, 76] ?_
                   refine Yd 4 ?_
                   obtain ⟨I, μ, h0, hr⟩ := h
                   refine Yloop (fun m l w => ∃ (held2 : Slc) (t76 : Int), l = [(0, Value.pointer t_), (2, pv_ b_), (5, pv_ b_1), (6, sv_ held2), (29, sv_ v29), (30, Value.int .i64 ((v29.len : Nat) : Int)), (31, Value.int .i64 t31), (74, sv_ v74), (75, Value.int .i64 ((v74.len : Nat) : Int)), (76, Value.int .i64 t76)] ∧ I held2 t76 w ∧ μ held2 t76 w = m) ⟨held, 0, rfl, h0, rfl⟩ ?_
                   rintro _ _ w20 ⟨held2, t76, rfl, hI, rfl⟩
                   obtain ⟨again_1, again_1_h, h⟩ : ∃ again_1 : Slc → Int → World → Prop, (∀ held2' t76' w', again_1 held2' t76' w' → I held2' t76' w' ∧ μ held2' t76' w' < μ held2 t76 w20) ∧ F_call_Task_Answer_L2 t31 again_ v74 again_1 held2 t76 w20 := ⟨_, fun _ _ _ h => h, hr held2 t76 w20 hI⟩
                   clear h0 hI
                   unfold F_call_Task_Answer_L2 at h
                   refine Yp P1 [0, 2, 5, 6, 29, 30, 31, 74, 75, 76, 77] ?_
                   refine Ys ?_
                   refine Yc h (fun h => ?_) fun h => ?_
                   · refine Yskip ?_
                     refine Ys ?_
                     refine Yd 5 ?_
                     refine Yt ?_
                     obtain ⟨hp_37, h⟩ := h
                     refine Yu 74 (fun pp => .slice pp v74.len v74.cap) hp_37 ?_
                     refine Yi h fun h => ?_
                     refine YL h fun v79 h => ?_
                     refine Yw pv_ h fun b_5 w21 h => ?_
                     refine Yo h fun w22 h => ?_
                     refine Yu 74 (fun pp => .slice pp v74.len v74.cap) hp_37.symm ?_
                     refine Yf [] [0, 2, 5, 6, 10, 29, 30, 31, 74, 75, 76] ?_
                     refine wpE_mixregion (id := 23) (ops := r61_97) o_call_Task_Answer_97 (by kernel_rfl) (by kernel_rfl) (by kernel_rfl) (by kernel_rfl) (fun w23 hw => ?_)
                     replace h := h w23 hw
                     clear hw
                     refine Mn P2 ?_
                     refine Ml 2 h fun v82 hc h => ?_
                     refine Mn P1 ?_
                     refine Ml 4 h fun v84 hc h => ?_
                     refine mreg_enter (op := (Op.call (Call.mk (Callee.value (Operand.func 88)) #[(Operand.tmp 84)] #[141]))) (ty := 141) (dst := some 85) 5 [4, 3] [(2, fun w' => w'.cell? ⟨b_5, 0, none⟩ = some (Value.string v82))] 88 #[sv_ v84] (by kernel_rfl) (by kernel_rfl) (by kernel_rfl) (by kernel_rfl) (by kernel_rfl) (fun ww => by kernel_rfl) (Calls.mono h ?_)
                     rintro _ w24 ⟨v85, rfl, h⟩
                     obtain ⟨hk0, h⟩ := h
                     refine ⟨_, rfl, ⟨hk0, trivial⟩, ?_⟩
                     refine Mn P1 ?_
                     refine mreg_new (op := (Op.buildSlice 93 1 #[(0, (Operand.tmp 86))])) (ty := 93) (dst := some 87) 7 [6, 2, 5, 1, 4, 3] [] (fun bb => Value.slice (some ⟨bb, 0, none⟩) 1 1) (Obj.cells ([Value.string v82, sv_ v85]).toArray ty_api_Held (0, 0)) (by kernel_rfl) (by kernel_rfl) (by kernel_rfl) (by kernel_rfl) (by kernel_rfl) (by kernel_rfl) (fun b_6 w25 hb hw => ?_)
                     replace h := h b_6 w25 hb hw
                     clear hb hw
                     refine ⟨trivial, ?_⟩
                     obtain ⟨src, hs, h⟩ := h
                     refine mreg_append (t := 93) (tx := 93) (e := 143) (a := (Operand.tmp 80)) (xo := (Operand.tmp 87)) (s := held2) (x := (Slc.mk (some ⟨b_6, 0, none⟩) 1 1)) (sz := 2) (by_ := 40) (zs := [Value.string ByteArray.empty, Value.slice none 0 0]) (ty := 93) (dst := some 88) 8 [0, 5, 7, 4, 6, 3, 2, 1] [] src (by kernel_rfl) (by kernel_rfl) (by kernel_rfl) (by kernel_rfl) (by kernel_rfl) (by kernel_rfl) (by kernel_rfl) (by kernel_rfl) (by kernel_rfl) (by kernel_rfl) (by kernel_rfl) (by kernel_rfl) (by kernel_rfl) hs (AppendW.mono h (fun held3 w26 h => ?_))
                     refine ⟨trivial, ?_⟩
                     refine Mf P1 [0, 2, 5, 6, 29, 30, 31, 74, 75, 76] ?_
                     refine Yr ?_
                     refine Yf P2 [0, 2, 5, 6, 29, 30, 31, 74, 75, 76] ?_
                     have hb_ := again_1_h _ _ _ h
                     exact ⟨_, hb_.2, _, Sub.mk (by kernel_rfl), held3, (IntKind.i64.wrap (t76 + 1)), rfl, hb_.1, rfl⟩
                   · refine Yexit 4 ?_
                     exact ⟨_, Sub.mk (by kernel_rfl), held2, rfl, h⟩
                 · refine Yskip ?_
                   exact ⟨_, Sub.mk (by kernel_rfl), held, rfl, h⟩
         · rintro _ w9 ⟨held1, rfl, h⟩
           unfold F_call_Task_Answer_k1 at h
           refine Yr ?_
           refine Yf P2 [0, 2, 5, 6, 29, 30, 31] ?_
           have hb_ := again__h _ _ _ h
           exact ⟨_, hb_.2, _, Sub.mk (by kernel_rfl), held1, (IntKind.i64.wrap (t31 + 1)), rfl, hb_.1, rfl⟩
       · refine Yexit 1 ?_
         refine Yt ?_
         refine Yn P1 ?_
         refine Ym0 h fun w27 h => ?_
         refine Yf [] [2, 5, 6] ?_
         refine Yt ?_
         refine YL h fun v93 h => ?_
         refine Yn P1 ?_
         refine Yo h fun w28 h => ?_
         refine Yf P2 [2, 3, 4] ?_
         obtain ⟨res2, hc_res2, h⟩ := h
         exact YTg (rs := [(ResultVar.cell 2 125), (ResultVar.tmp 3), (ResultVar.tmp 4)]) (vs := [Value.agg #[Value.int .i64 res2.Code, Value.int .i64 res2.Mark, Value.bool res2.OK, sv_ res2.Entries, Value.int .i64 res2.Count], sv_ held, Value.int .i64 0]) (⟨b_, 0, [Value.int .i64 res2.Code, Value.int .i64 res2.Mark, Value.bool res2.OK, sv_ res2.Entries, Value.int .i64 res2.Count], by kernel_rfl, hc_res2, (sizeP_of (k := 5) (by kernel_rfl) (by kernel_rfl)), .inl ⟨by kernel_rfl, rfl⟩, ⟨by kernel_rfl, ⟨by kernel_rfl, trivial⟩⟩⟩) ⟨res2, held, 0, rfl, h⟩

/-! ### (*towpath/call.Task).there (function 63) -/

theorem S_call_Task_there {t_ : Option Addr} {w : World} {R : Bool → World → Prop} (h : F_call_Task_there t_ R w) : C_call_Task_there t_ w R := by
 unfold F_call_Task_there at h
 refine Yh Try.func63 ?_
 · refine Yp P1 [0] ?_
   refine Yt ?_
   refine Yn P1 ?_
   refine reg_val (op := (Op.binOp BinOp.neq 72 (Operand.tmp 3) (Operand.const (Value.pointer none)) 72)) (ty := 4) (dst := some 4) (Value.bool (!t_.isNone)) (by kernel_rfl) (fun ww => run_ptr_neq_R (p := t_) (by kernel_rfl) (by kernel_rfl) (by kernel_rfl) ww) ?_
   refine Yn P2 ?_
   refine Yspl 5 h (fun h => ?_) fun h => ?_
   · refine Yv 6 h fun hp_0 h => ?_
     refine Yn [.sure] ?_
     refine Yn [.sure] ?_
     refine Yl h fun v9 h => ?_
     refine Yf [.sure, .plain, .plain] [2] ?_
     exact YS ⟨(v9 != 0), rfl, h⟩
   · refine Yf [.skip, .skip, .skip, .skip, .plain, .plain] [2] ?_
     exact YS ⟨false, rfl, h⟩

/-! ### towpath/call.may (function 64) -/

theorem S_call_may {l_ : Slc} {than : Int} {w : World} {R : Bool → World → Prop} (h : F_call_may l_ than R w) : C_call_may l_ than w R := by
 unfold F_call_may at h
 refine Yh Try.func64 ?_
 · refine Yp P1 [0, 1] ?_
   refine Ys ?_
   refine Yp P3 [1, 7, 8, 9] ?_
   refine Yd 0 ?_
   obtain ⟨I, μ, h0, hr⟩ := h
   refine Yloop (fun m l w => ∃ (than1 : Int) (t9 : Int), l = [(1, Value.int .i64 than1), (7, sv_ l_), (8, Value.int .i64 ((l_.len : Nat) : Int)), (9, Value.int .i64 t9)] ∧ I than1 t9 w ∧ μ than1 t9 w = m) ⟨than, 0, rfl, h0, rfl⟩ ?_
   rintro _ _ w1 ⟨than1, t9, rfl, hI, rfl⟩
   obtain ⟨again_, again__h, h⟩ : ∃ again_ : Int → Int → World → Prop, (∀ than1' t9' w', again_ than1' t9' w' → I than1' t9' w' ∧ μ than1' t9' w' < μ than1 t9 w1) ∧ F_call_may_L0 l_ R again_ than1 t9 w1 := ⟨_, fun _ _ _ h => h, hr than1 t9 w1 hI⟩
   clear h0 hI
   unfold F_call_may_L0 at h
   refine Yp P1 [1, 7, 8, 9, 10] ?_
   refine Ys ?_
   refine Yc h (fun h => ?_) fun h => ?_
   · refine Yskip ?_
     refine Ys ?_
     refine Yd 1 ?_
     refine Yt ?_
     obtain ⟨hp_7, h⟩ := h
     refine Yu 7 (fun pp => .slice pp l_.len l_.cap) hp_7 ?_
     refine Yi1 h fun h => ?_
     refine Yl h fun n_ h => ?_
     refine Yn P1 ?_
     refine Yu 7 (fun pp => .slice pp l_.len l_.cap) hp_7.symm ?_
     refine Yf [] [1, 6, 7, 8, 9] ?_
     refine Ys ?_
     refine Yp [.plain, .plain, .plain, .plain, .plain, .plain, .pick] [6, 7, 8, 9, 19] ?_
     refine Yc h (fun h => ?_) fun h => ?_
     · refine Yp P1 [4] ?_
       exact YS ⟨false, rfl, h⟩
     · refine Yskip ?_
       refine Yr ?_
       refine Yf P2 [1, 7, 8, 9] ?_
       refine Yr ?_
       refine Yf P2 [1, 7, 8, 9] ?_
       have hb_ := again__h _ _ _ h
       exact ⟨_, hb_.2, _, Sub.mk (by kernel_rfl), n_, (IntKind.i64.wrap (t9 + 1)), rfl, hb_.1, rfl⟩
   · refine Yexit 0 ?_
     refine Yp P1 [4] ?_
     exact YS ⟨true, rfl, h⟩

/-! ### (*towpath/call.Task).shards (function 65) -/

theorem S_call_Task_shards {t_ : Option Addr} {w : World} {R : Value → World → Prop} (h : F_call_Task_shards t_ R w) : C_call_Task_shards t_ w R := by
 unfold F_call_Task_shards at h
 refine Yh Try.func65 ?_
 · refine Yt ?_
   refine Yw pv_ h fun b_ w1 h => ?_
   refine Yf P1 [1] ?_
   refine Yp P2 [2] ?_
   exact YS ⟨(Value.func (.func 94) #[] #[pv_ b_]), rfl, h⟩

/-! ### (*towpath/call.Task).Mark (function 76) -/

theorem S_call_Task_Mark {t_ : Option Addr} {w : World} {R : Int → Bool → World → Prop} (h : F_call_Task_Mark t_ R w) : C_call_Task_Mark t_ w R := by
 unfold F_call_Task_Mark at h
 refine Yh Try.func76 ?_
 · refine Yp P2 [0] ?_
   refine Ys ?_
   refine Ycut (fun l w => ∃ (t13 : Bool), l = [(0, Value.pointer t_), (13, Value.bool t13)] ∧ F_call_Task_Mark_k0 t_ R t13 w) ?_ ?_
   · refine Yr ?_
     refine Yn P1 ?_
     refine Ym1 h fun v5 w2 h => ?_
     refine Yn P3 ?_
     refine Yspl 7 h (fun h => ?_) fun h => ?_
     · refine Yf [.skip, .skip, .skip, .skip, .plain] [0, 13] ?_
       exact ⟨_, Sub.mk (by kernel_rfl), true, rfl, h⟩
     · refine Yv 8 h fun hp_4 h => ?_
       refine Yn [.sure] ?_
       refine Yn [.sure] ?_
       refine Yl h fun v11 h => ?_
       refine Yf [.sure, .plain] [0, 13] ?_
       exact ⟨_, Sub.mk (by kernel_rfl), (!v11), rfl, h⟩
   · rintro _ w1 ⟨t13, rfl, h⟩
     unfold F_call_Task_Mark_k0 at h
     refine Yc h (fun h => ?_) fun h => ?_
     · refine Yp P2 [2, 3] ?_
       exact YT2 ⟨0, false, rfl, h⟩
     · refine Yskip ?_
       refine Yt ?_
       refine Yn P1 ?_
       refine Yv 14 h fun hp_3 h => ?_
       refine Yn P1 ?_
       refine Yn P1 ?_
       refine Yl h fun v17 h => ?_
       refine Yf P2 [2, 3] ?_
       exact YT2 ⟨v17, true, rfl, h⟩

/-! ### towpath/call.entries (function 90) -/

theorem S_call_entries {l_ : Slc} {w : World} {R : Slc → World → Prop} (h : F_call_entries l_ R w) : C_call_entries l_ w R := by
 unfold F_call_entries at h
 refine Yh Try.func90 ?_
 · refine Yp P1 [0] ?_
   refine Yt ?_
   refine Yn P1 ?_
   refine Ym1 h fun v5 w1 h => ?_
   refine Yf P1 [3] ?_
   refine Yt ?_
   refine Yn P1 ?_
   refine Ym0 h fun w2 h => ?_
   refine Yf [] [3] ?_
   refine Yp P2 [2] ?_
   exact YS ⟨v5, rfl, h⟩

/-! ### (*towpath/call.Task).Answer$1 (function 92) -/

theorem S_call_Task_Answer_1 {a_ : T_api_Held} {b_ : T_api_Held} {w : World} {R : Int → World → Prop} (h : F_call_Task_Answer_1 a_ b_ R w) : C_call_Task_Answer_1 a_ b_ w R := by
 unfold F_call_Task_Answer_1 at h
 refine Yh Try.func92 ?_
 · refine Yt ?_
   refine Yw pv_ h fun b_1 w1 h => ?_
   refine Yw pv_ h fun b_2 w2 h => ?_
   refine Yf P1 [2, 3] ?_
   refine Yt ?_
   refine Yn P1 ?_
   refine Yl h fun v6 h => ?_
   refine Yn P1 ?_
   refine Yl h fun v8 h => ?_
   refine Ym1 h fun v9 w3 h => ?_
   refine Yf P1 [4] ?_
   exact YS ⟨v9, rfl, h⟩

/-! ### (*towpath/call.Task).shards$1 (function 94) -/
def c94_0 := cb_ Try.f94
def c94_1 := cl_ c94_0
def c94_4 := cr_ c94_1
def c94_5 := cl_ c94_4
def c94_6 := cl_ c94_5
def r94_6 := co_ c94_6
def o_call_Task_shards_1_6 : List Nat := [0, 1, 2, 3, 4, 5, 6, 7, 8, 9, 10, 11, 12, 13, 14]

theorem S_call_Task_shards_1 {yield : Value} {t1 : Option Addr} {w : World} {R : World → Prop} (h : F_call_Task_shards_1 yield t1 R w) : C_call_Task_shards_1 yield t1 w R := by
 unfold F_call_Task_shards_1 at h
 refine Calls.mono (calls_of_wpY (args := [yield, Value.pointer t1]) (R := fun v w' => v = Value.tuple #[] ∧ R w') Try.func94 (c := c94_0) (by kernel_rfl) 41 (by kernel_rfl) (by kernel_rfl) [(0, yield), (1, Value.pointer t1)] (by kernel_rfl) ?_) ?_
 · letI : Rnd := rndY Try.prog Try.f94 (fun v w' => v = Value.tuple #[] ∧ R w')
   refine Ys ?_
   refine Yt ?_
   refine Yv 1 h fun hp_12 h => ?_
   refine Yl h fun v6 h => ?_
   refine Yv 6 h fun hp_13 h => ?_
   refine Yn P1 ?_
   refine Yn P2 ?_
   refine Yl h fun v10 h => ?_
   refine Yn P1 ?_
   refine Yu 1 (fun pp => .pointer pp) hp_12.symm ?_
   refine Yf [] [0, 1, 11] ?_
   refine Yc h (fun h => ?_) fun h => ?_
   · refine Ys ?_
     refine wpE_mixregionY (id := 1) (ops := r94_6) o_call_Task_shards_1_6 (by kernel_rfl) (by kernel_rfl) (by kernel_rfl) (by kernel_rfl) (by kernel_rfl) (fun w1 hw => ?_)
     replace h := h w1 hw
     clear hw
     refine Mv 1 h fun hp_17 h => ?_
     refine Ml 0 h fun v13 hc h => ?_
     refine Mv 13 h fun hp_18 h => ?_
     refine Mn P1 ?_
     refine Mn P1 ?_
     refine ML 3 h fun v16 hc h => ?_
     refine Ml 4 h fun v17 hc h => ?_
     refine Mv 17 h fun hp_19 h => ?_
     refine Mn P1 ?_
     refine Mn P2 ?_
     refine Ml 8 h fun v21 hc h => ?_
     refine mreg_enter (op := (Op.call (Call.mk (Callee.value (Operand.func 95)) #[(Operand.tmp 16), (Operand.tmp 21)] #[69, 9]))) (ty := 34) (dst := some 22) 9 [3, 8, 2, 7, 1, 6, 0, 5, 4] [] 95 #[Value.agg #[Value.int .i64 v16.Lanes, Value.int .i64 v16.Shards, Value.int .i64 v16.Window, Value.int .i64 v16.Queue], Value.string v21] (by kernel_rfl) (by kernel_rfl) (by kernel_rfl) (by kernel_rfl) (by kernel_rfl) (fun ww => by kernel_rfl) (Calls.mono h ?_)
     rintro _ w2 ⟨k_, v22_1, rfl, h⟩
     refine ⟨_, rfl, trivial, ?_⟩
     refine Mf (Pl 5) [0, 3] ?_
     refine Yt ?_
     refine Yn P2 ?_
     refine reg_enterY rfl (fo := (Operand.tmp 25)) (aa := #[(Operand.tmp 26)]) (ts := #[3]) (fv := yield) (ty := 4) (dst := some 27) #[Value.int .i64 k_] (by kernel_rfl) (by kernel_rfl) (by kernel_rfl) (CallsY.mono h ?_)
     rintro _ w3 ⟨v27, rfl, h⟩
     refine ⟨_, rfl, ?_⟩
     refine Yf [] [] ?_
     exact YT0 ⟨rfl, h⟩
   · refine Yskip ?_
     refine Yt ?_
     refine Yv 1 h fun hp_22 h => ?_
     refine Yl h fun v28 h => ?_
     refine Yv 28 h fun hp_23 h => ?_
     refine Yn P1 ?_
     refine Yn P2 ?_
     refine Yl h fun v32 h => ?_
     refine Yf P1 [0, 32, 33] ?_
     refine Yd 0 ?_
     obtain ⟨I, μ, h0, hr⟩ := h
     refine Yloop (fun m l w => ∃ (t33 : Int), l = [(0, yield), (32, Value.int .i64 v32), (33, Value.int .i64 t33)] ∧ I t33 w ∧ μ t33 w = m) ⟨0, rfl, h0, rfl⟩ ?_
     rintro _ _ w4 ⟨t33, rfl, hI, rfl⟩
     obtain ⟨again_, again__h, h⟩ : ∃ again_ : Int → World → Prop, (∀ t33' w', again_ t33' w' → I t33' w' ∧ μ t33' w' < μ t33 w4) ∧ F_call_Task_shards_1_L0 yield R v32 again_ t33 w4 := ⟨_, fun _ _ h => h, hr t33 w4 hI⟩
     clear h0 hI
     unfold F_call_Task_shards_1_L0 at h
     refine Yp P1 [0, 32, 33, 34] ?_
     refine Ys ?_
     refine Yc h (fun h => ?_) fun h => ?_
     · refine Yskip ?_
       refine Ys ?_
       refine Yd 1 ?_
       refine Yp P2 [0, 5, 32, 33] ?_
       refine Yt ?_
       refine Yn P2 ?_
       refine reg_enterY rfl (fo := (Operand.tmp 36)) (aa := #[(Operand.tmp 37)]) (ts := #[3]) (fv := yield) (ty := 4) (dst := some 38) #[Value.int .i64 t33] (by kernel_rfl) (by kernel_rfl) (by kernel_rfl) (CallsY.mono h ?_)
       rintro _ w5 ⟨v38, rfl, h⟩
       refine ⟨_, rfl, ?_⟩
       refine Yf P1 [0, 32, 33, 39] ?_
       refine Yc h (fun h => ?_) fun h => ?_
       · exact YT0 ⟨rfl, h⟩
       · refine Yskip ?_
         refine Yr ?_
         refine Yf P2 [0, 32, 33] ?_
         have hb_ := again__h _ _ h
         exact ⟨_, hb_.2, _, Sub.mk (by kernel_rfl), (IntKind.i64.wrap (t33 + 1)), rfl, hb_.1, rfl⟩
     · refine Yexit 0 ?_
       repeat (first | refine seqQ_exit ?_ | refine loopQ_exit ?_ | refine cutQ_exit ?_ | refine blockQ_hit ?_ | refine blockQ_miss (by kernel_rfl) ?_)
       refine retQ_normal ?_
       repeat (first | refine seqQ_ret ?_ | refine blockQ_ret ?_ | refine loopQ_ret ?_ | refine cutQ_ret ?_)
       exact retT (rs := []) (vs := []) (by kernel_rfl) (trivial) (by kernel_rfl) ⟨rfl, h⟩
 · rintro e w' ⟨v, rfl, rfl, h⟩; exact ⟨rfl, h⟩
end
end Go.Proofs.Ytpedclhflmhakaa
