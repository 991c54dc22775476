/- WRITTEN BY PROGRAM (dec.py): for each Go function the clean formula F, the call's contract C, and the proof S that F gives C. -/
import Derived.Test.YtpedclhflmhakaaRows
import Derived.Test.YtpedclhflmhakaaGF
namespace Go.Proofs.Ytpedclhflmhakaa
open Go
set_option linter.unusedVariables false
set_option maxRecDepth 100000
set_option maxHeartbeats 4000000
noncomputable section

/-! ### (*towpath/towpathref17.Task).Next (function 73) -/
def c73_0 := cb_ Try.f73
def c73_3 := cr_ c73_0
def c73_4 := cl_ c73_3
def c73_5 := cl_ c73_4
def r73_5 := co_ c73_5
def c73_13 := cr_ c73_3
def c73_14 := cl_ c73_13
def r73_14 := co_ c73_14

theorem S_towpathref17_Task_Next {t_ : Option Addr} {w : World} {R : Int → T_api_Req → Bool → World → Prop} (h : F_towpathref17_Task_Next t_ R w) : C_towpathref17_Task_Next t_ w R := by
 unfold F_towpathref17_Task_Next at h
 refine Yh Try.func73 ?_
 · refine Yt ?_
   refine Yn P1 ?_
   refine Yw pv_ h fun b_ w1 h => ?_
   refine Yf P1 [0, 3] ?_
   refine Ys ?_
   refine Ycut (fun l w => ∃ (t18 : Bool), l = [(0, Value.pointer t_), (3, pv_ b_), (18, Value.bool t18)] ∧ F_towpathref17_Task_Next_k0 t_ R b_ t18 w) ?_ ?_
   · refine wpE_drawregion (id := 1) (ops := r73_5) (by kernel_rfl) (by kernel_rfl) (by kernel_rfl) ?_
     refine Qn P1 ?_
     refine qreg_val (op := (Op.binOp BinOp.eql 87 (Operand.tmp 5) (Operand.const (Value.pointer none)) 87)) (ty := 4) (dst := some 6) (Value.bool t_.isNone) (by kernel_rfl) (fun ww => run_ptr_eql_R (p := t_) (by kernel_rfl) (by kernel_rfl) (by kernel_rfl) ww) ?_
     refine Qn P2 ?_
     refine Qspl 7 h (fun h => ?_) fun h => ?_
     · refine Qf [.skip, .skip, .skip, .skip, .skip, .skip, .skip, .skip, .skip, .plain] [0, 3, 18] h fun w6 h => ?_
       exact ⟨_, Sub.mk (by kernel_rfl), true, rfl, h⟩
     · refine Qv 8 h fun hp_12 h => ?_
       refine Qn [.sure] ?_
       refine Qn [.sure] ?_
       refine Ql h fun v11 h => ?_
       refine Qn [.sure] ?_
       refine Qv 12 h fun hp_13 h => ?_
       refine Qn [.sure] ?_
       refine Qn [.sure] ?_
       refine Ql h fun v15 h => ?_
       refine Qf [.sure, .sure, .plain] [0, 3, 18] h fun w7 h => ?_
       exact ⟨_, Sub.mk (by kernel_rfl), (decide (v11 ≥ ((v15.len : Nat) : Int))), rfl, h⟩
   · rintro _ w2 ⟨t18, rfl, h⟩
     unfold F_towpathref17_Task_Next_k0 at h
     refine Yc h (fun h => ?_) fun h => ?_
     · refine Yt ?_
       refine Yn P2 ?_
       refine Yo h fun w3 h => ?_
       refine Yf P1 [2, 3, 4] ?_
       obtain ⟨res, hc_res, h⟩ := h
       exact YTg (rs := [(ResultVar.tmp 2), (ResultVar.cell 3 80), (ResultVar.tmp 4)]) (vs := [Value.int .i64 0, Value.agg #[Value.int .u8 res.Kind, Value.int .i64 res.From, Value.int .i64 res.Number, Value.string res.Write.Key, Value.string res.Write.Val, Value.bool res.Write.Drop, Value.string res.Key, Value.string res.End, sv_ res.Beyond], Value.bool false]) (⟨by kernel_rfl, ⟨b_, 0, [Value.int .u8 res.Kind, Value.int .i64 res.From, Value.int .i64 res.Number, Value.string res.Write.Key, Value.string res.Write.Val, Value.bool res.Write.Drop, Value.string res.Key, Value.string res.End, sv_ res.Beyond], by kernel_rfl, hc_res, (sizeP_of (k := 9) (by kernel_rfl) (by kernel_rfl)), .inl ⟨by kernel_rfl, rfl⟩, ⟨by kernel_rfl, trivial⟩⟩⟩) ⟨0, res, false, rfl, h⟩
     · refine Yskip ?_
       refine Ys ?_
       refine wpE_tailregion (id := 3) (ops := r73_14) (by kernel_rfl) 21 (by kernel_rfl) (by kernel_rfl) (fun w4 hw => ?_)
       replace h := h w4 hw
       clear hw
       refine Qn P1 ?_
       refine Qv 20 h fun hp_6 h => ?_
       refine Qn P1 ?_
       refine Qn P1 ?_
       refine Ql h fun v23 h => ?_
       refine Qn P1 ?_
       refine Qv 24 h fun hp_7 h => ?_
       refine Qn P1 ?_
       refine Qn P1 ?_
       refine Ql h fun v27 h => ?_
       obtain ⟨hp_8, h⟩ := h
       refine Qu 23 (fun pp => .slice pp v23.len v23.cap) hp_8 ?_
       refine Qi1 h fun h => ?_
       refine Ql h fun v29 h => ?_
       refine Qn P1 ?_
       refine Qv 30 h fun hp_9 h => ?_
       refine Qn P1 ?_
       refine Qn P1 ?_
       refine Ql h fun v33 h => ?_
       refine Qn P1 ?_
       refine Qv 34 h fun hp_10 h => ?_
       refine Qn P1 ?_
       refine Qn P1 ?_
       refine Ql h fun v37 h => ?_
       obtain ⟨hp_11, h⟩ := h
       refine Qu 33 (fun pp => .slice pp v33.len v33.cap) hp_11 ?_
       refine Qi h fun h => ?_
       refine QL h fun v39 h => ?_
       refine Qn P1 ?_
       refine qreg_tail (by kernel_rfl) ?_
       refine Yo h fun w5 h => ?_
       refine Yf P1 [2, 3, 4] ?_
       obtain ⟨res1, hc_res1, h⟩ := h
       exact YTg (rs := [(ResultVar.tmp 2), (ResultVar.cell 3 80), (ResultVar.tmp 4)]) (vs := [Value.int .i64 v29, Value.agg #[Value.int .u8 res1.Kind, Value.int .i64 res1.From, Value.int .i64 res1.Number, Value.string res1.Write.Key, Value.string res1.Write.Val, Value.bool res1.Write.Drop, Value.string res1.Key, Value.string res1.End, sv_ res1.Beyond], Value.bool true]) (⟨by kernel_rfl, ⟨b_, 0, [Value.int .u8 res1.Kind, Value.int .i64 res1.From, Value.int .i64 res1.Number, Value.string res1.Write.Key, Value.string res1.Write.Val, Value.bool res1.Write.Drop, Value.string res1.Key, Value.string res1.End, sv_ res1.Beyond], by kernel_rfl, hc_res1, (sizeP_of (k := 9) (by kernel_rfl) (by kernel_rfl)), .inl ⟨by kernel_rfl, rfl⟩, ⟨by kernel_rfl, trivial⟩⟩⟩) ⟨v29, res1, true, rfl, h⟩

/-! ### (*towpath/towpathref17.Task).All (function 74) -/
def c74_0 := cb_ Try.f74
def c74_3 := cr_ c74_0
def c74_4 := cl_ c74_3
def r74_4 := co_ c74_4

theorem S_towpathref17_Task_All {t_ : Option Addr} {w : World} {R : Bool → World → Prop} (h : F_towpathref17_Task_All t_ R w) : C_towpathref17_Task_All t_ w R := by
 unfold F_towpathref17_Task_All at h
 refine Yh Try.func74 ?_
 · refine Yp P1 [0] ?_
   refine Ys ?_
   refine wpE_drawregion (id := 1) (ops := r74_4) (by kernel_rfl) (by kernel_rfl) (by kernel_rfl) ?_
   refine Qn P1 ?_
   refine qreg_val (op := (Op.binOp BinOp.neq 87 (Operand.tmp 3) (Operand.const (Value.pointer none)) 87)) (ty := 4) (dst := some 4) (Value.bool (!t_.isNone)) (by kernel_rfl) (fun ww => run_ptr_neq_R (p := t_) (by kernel_rfl) (by kernel_rfl) (by kernel_rfl) ww) ?_
   refine Qn P2 ?_
   refine Qspl 5 h (fun h => ?_) fun h => ?_
   · refine Qv 6 h fun hp_0 h => ?_
     refine Qn [.sure] ?_
     refine Qn [.sure] ?_
     refine Ql h fun v9 h => ?_
     refine Qn P3 ?_
     refine Qspl 11 h (fun h => ?_) fun h => ?_
     · refine Qv 12 h fun hp_1 h => ?_
       refine Qn [.sure] ?_
       refine Qn [.sure] ?_
       refine Ql h fun v15 h => ?_
       refine Qn [.sure] ?_
       refine Qv 16 h fun hp_2 h => ?_
       refine Qn [.sure] ?_
       refine Qn [.sure] ?_
       refine Ql h fun v19 h => ?_
       refine Qn [.sure, .sure, .plain, .plain, .plain] ?_
       refine Qspl 23 h (fun h => ?_) fun h => ?_
       · refine Qv 24 h fun hp_3 h => ?_
         refine Qn [.sure] ?_
         refine Qn [.sure] ?_
         refine Ql h fun v27 h => ?_
         refine Qn [.sure, .sure] ?_
         refine Qv 29 h fun hp_4 h => ?_
         refine Qn [.sure] ?_
         refine Qn [.sure] ?_
         refine Ql h fun v32 h => ?_
         refine Qf [.sure, .plain, .plain] [2] h fun w1 h => ?_
         exact YS ⟨(((v27.len : Nat) : Int) == v32), rfl, h⟩
       · refine Qf [.skip, .skip, .skip, .skip, .skip, .skip, .skip, .skip, .skip, .plain, .plain] [2] h fun w2 h => ?_
         exact YS ⟨false, rfl, h⟩
     · refine Qf [.skip, .skip, .skip, .skip, .skip, .skip, .skip, .skip, .skip, .plain, .plain, .skip, .skip, .skip, .skip, .skip, .skip, .skip, .skip, .skip, .skip, .plain, .plain] [2] h fun w3 h => ?_
       exact YS ⟨false, rfl, h⟩
   · refine Qf [.skip, .skip, .skip, .plain, .plain, .skip, .skip, .skip, .skip, .skip, .skip, .skip, .skip, .skip, .skip, .plain, .plain, .skip, .skip, .skip, .skip, .skip, .skip, .skip, .skip, .skip, .skip, .plain, .plain] [2] h fun w4 h => ?_
     exact YS ⟨false, rfl, h⟩

/-! ### (*towpath/towpathref17.Task).Answer (function 75) -/
def c75_0 := cb_ Try.f75
def c75_3 := cr_ c75_0
def c75_13 := cr_ c75_3
def c75_23 := cr_ c75_13
def c75_26 := cr_ c75_23
def c75_29 := cr_ c75_26
def c75_30 := cl_ c75_29
def c75_33 := cr_ c75_30
def c75_34 := cl_ c75_33
def c75_35 := cl_ c75_34
def c75_42 := cr_ c75_35
def c75_43 := cl_ c75_42
def c75_44 := cl_ c75_43
def c75_47 := cr_ c75_44
def c75_50 := cr_ c75_47
def c75_51 := cl_ c75_50
def c75_54 := cr_ c75_51
def c75_55 := cl_ c75_54
def c75_58 := cr_ c75_55
def c75_61 := cr_ c75_58
def c75_62 := cl_ c75_61
def r75_62 := co_ c75_62
def c75_65 := cr_ c75_54
def c75_68 := cr_ c75_65
def c75_69 := cl_ c75_68
def c75_72 := cr_ c75_69
def c75_73 := cl_ c75_72
def c75_74 := cl_ c75_73
def c75_81 := cr_ c75_74
def c75_82 := cl_ c75_81
def c75_83 := cl_ c75_82
def r75_83 := co_ c75_83
def o_towpathref17_Task_Answer_62 : List Nat := [0, 1, 2, 3, 4, 5, 6, 7, 8, 9]

theorem S_towpathref17_Task_Answer {t_ : Option Addr} {w : World} {R : T_api_Answer → Slc → Int → World → Prop} (h : F_towpathref17_Task_Answer t_ R w) : C_towpathref17_Task_Answer t_ w R := by
 unfold F_towpathref17_Task_Answer at h
 refine Yh Try.func75 ?_
 · refine Yt ?_
   refine Yw pv_ h fun b_ w1 h => ?_
   refine Yf P2 [0, 2] ?_
   refine Ys ?_
   refine Yt ?_
   refine Yn P1 ?_
   refine reg_val (op := (Op.binOp BinOp.eql 87 (Operand.tmp 11) (Operand.const (Value.pointer none)) 87)) (ty := 4) (dst := some 12) (Value.bool t_.isNone) (by kernel_rfl) (fun ww => run_ptr_eql_R (p := t_) (by kernel_rfl) (by kernel_rfl) (by kernel_rfl) ww) ?_
   refine Yf [] [0, 2, 12] ?_
   refine Yc h (fun h => ?_) fun h => ?_
   · refine Yt ?_
     refine Yn P1 ?_
     refine Yo h fun w2 h => ?_
     refine Yf P2 [2, 3, 4] ?_
     obtain ⟨res, hc_res, h⟩ := h
     exact YTg (rs := [(ResultVar.cell 2 125), (ResultVar.tmp 3), (ResultVar.tmp 4)]) (vs := [Value.agg #[Value.int .i64 res.Code, Value.int .i64 res.Mark, Value.bool res.OK, sv_ res.Entries, Value.int .i64 res.Count], Value.slice none 0 0, Value.int .i64 2]) (⟨b_, 0, [Value.int .i64 res.Code, Value.int .i64 res.Mark, Value.bool res.OK, sv_ res.Entries, Value.int .i64 res.Count], by kernel_rfl, hc_res, (sizeP_of (k := 5) (by kernel_rfl) (by kernel_rfl)), .inl ⟨by kernel_rfl, rfl⟩, ⟨by kernel_rfl, ⟨by kernel_rfl, trivial⟩⟩⟩) ⟨res, (Slc.mk none 0 0), 2, rfl, h⟩
   · refine Yskip ?_
     refine Ys ?_
     refine Yt ?_
     refine Yn P1 ?_
     refine Ym1 h fun v15 w3 h => ?_
     refine Yf P1 [0, 2, 16] ?_
     refine Yc h (fun h => ?_) fun h => ?_
     · refine Yt ?_
       refine Yn P1 ?_
       refine Yo h fun w4 h => ?_
       refine Yf P2 [2, 3, 4] ?_
       obtain ⟨res1, hc_res1, h⟩ := h
       exact YTg (rs := [(ResultVar.cell 2 125), (ResultVar.tmp 3), (ResultVar.tmp 4)]) (vs := [Value.agg #[Value.int .i64 res1.Code, Value.int .i64 res1.Mark, Value.bool res1.OK, sv_ res1.Entries, Value.int .i64 res1.Count], Value.slice none 0 0, Value.int .i64 6]) (⟨b_, 0, [Value.int .i64 res1.Code, Value.int .i64 res1.Mark, Value.bool res1.OK, sv_ res1.Entries, Value.int .i64 res1.Count], by kernel_rfl, hc_res1, (sizeP_of (k := 5) (by kernel_rfl) (by kernel_rfl)), .inl ⟨by kernel_rfl, rfl⟩, ⟨by kernel_rfl, ⟨by kernel_rfl, trivial⟩⟩⟩) ⟨res1, (Slc.mk none 0 0), 6, rfl, h⟩
     · refine Yskip ?_
       refine Yt ?_
       refine Yn P1 ?_
       refine Yv 18 h fun hp_1 h => ?_
       refine Yn P1 ?_
       refine Yn P1 ?_
       refine Yl h fun v21 h => ?_
       refine Yn P1 ?_
       refine Yw pv_ h fun b_1 w5 h => ?_
       refine Yo h fun w6 h => ?_
       refine Yf [] [0, 2, 5] ?_
       refine Yp P1 [0, 2, 5, 6] ?_
       refine Ys ?_
       refine Yp P1 [0, 2, 5, 6, 7] ?_
       refine Yd 0 ?_
       obtain ⟨I, μ, h0, hr⟩ := h
       refine Yloop (fun m l w => ∃ (l_ : Slc) (i : Int), l = [(0, Value.pointer t_), (2, pv_ b_), (5, pv_ b_1), (6, sv_ l_), (7, Value.int .i64 i)] ∧ I l_ i w ∧ μ l_ i w = m) ⟨(Slc.mk none 0 0), 0, rfl, h0, rfl⟩ ?_
       rintro _ _ w7 ⟨l_, i, rfl, hI, rfl⟩
       obtain ⟨again_, again__h, h⟩ : ∃ again_ : Slc → Int → World → Prop, (∀ l_' i' w', again_ l_' i' w' → I l_' i' w' ∧ μ l_' i' w' < μ l_ i w7) ∧ F_towpathref17_Task_Answer_L0 t_ R b_ b_1 again_ l_ i w7 := ⟨_, fun _ _ _ h => h, hr l_ i w7 hI⟩
       clear h0 hI
       unfold F_towpathref17_Task_Answer_L0 at h
       refine Ys ?_
       refine Yt ?_
       refine Yn P2 ?_
       refine Yv 24 h fun hp_31 h => ?_
       refine Yn P1 ?_
       refine Yn P1 ?_
       refine Yl h fun v27 h => ?_
       refine Yf P2 [0, 2, 5, 6, 7, 29] ?_
       refine Yc h (fun h => ?_) fun h => ?_
       · refine Yskip ?_
         refine Ycut (fun l w => ∃ (l_1 : Slc), l = [(0, Value.pointer t_), (2, pv_ b_), (5, pv_ b_1), (6, sv_ l_1), (7, Value.int .i64 i)] ∧ F_towpathref17_Task_Answer_k1 i again_ l_1 w) ?_ ?_
         · refine Yd 1 ?_
           refine Yt ?_
           refine Yn P1 ?_
           refine Yv 32 h fun hp_45 h => ?_
           refine Yn P1 ?_
           refine Yn P1 ?_
           refine Yl h fun v35 h => ?_
           refine Yn P1 ?_
           obtain ⟨hp_46, h⟩ := h
           refine Yu 35 (fun pp => .slice pp v35.len v35.cap) hp_46 ?_
           refine Yi h fun h => ?_
           refine YL h fun v38 h => ?_
           refine Yw pv_ h fun b_2 w9 h => ?_
           refine Yo h fun w10 h => ?_
           refine Yf [] [0, 2, 5, 6, 7, 8] ?_
           refine Yt ?_
           refine Yn P1 ?_
           refine Yv 39 h fun hp_48 h => ?_
           refine Yn P1 ?_
           refine Yn P2 ?_
           refine Yl h fun v43 h => ?_
           refine Yf [] [0, 2, 5, 6, 7, 8, 43] ?_
           refine Yd 2 ?_
           refine Yp P2 [0, 2, 5, 6, 7, 8, 43, 44] ?_
           refine Yc h (fun h => ?_) fun h => ?_
           · refine Yt ?_
             refine Yn P1 ?_
             refine Yl h fun v47 h => ?_
             refine Yn P3 ?_
             refine Yo h fun w11 h => ?_
             refine Yf [] [0, 2, 5, 6, 7, 8] ?_
             refine Yt ?_
             refine Yn P1 ?_
             refine Yl h fun v52 h => ?_
             refine Yf [] [0, 2, 5, 6, 7, 8, 52] ?_
             refine Yc h (fun h => ?_) fun h => ?_
             · refine wpE_mixregion (id := 15) (ops := r75_62) o_towpathref17_Task_Answer_62 (by kernel_rfl) (by kernel_rfl) (by kernel_rfl) (by kernel_rfl) (fun w12 hw => ?_)
               replace h := h w12 hw
               clear hw
               refine Mn P1 ?_
               refine Ml 1 h fun v54 hc h => ?_
               refine Mn P1 ?_
               refine Ml 3 h fun v56 hc h => ?_
               obtain ⟨hp_49, h⟩ := h
               refine Mu 56 (fun pp => .slice pp v56.len v56.cap) hp_49 ?_
               refine Mi 4 h fun h => ?_
               refine ML 5 h fun v58 hc h => ?_
               refine mreg_new (op := (Op.buildSlice 92 1 #[(0, (Operand.tmp 58))])) (ty := 92) (dst := some 59) 6 [5, 4, 3, 2] [(1, fun w' => w'.cell? ⟨b_1, 3, none⟩ = some (sv_ v54))] (fun bb => Value.slice (some ⟨bb, 0, none⟩) 1 1) (Obj.cells ([Value.string v58.Key, Value.string v58.Val]).toArray ty_api_Entry (0, 0)) (by kernel_rfl) (by kernel_rfl) (by kernel_rfl) (by kernel_rfl) (by kernel_rfl) (by kernel_rfl) (fun b_3 w13 hb hw => ?_)
               replace h := h b_3 w13 hb hw
               clear hb hw
               obtain ⟨hk0, h⟩ := h
               refine ⟨⟨hk0, trivial⟩, ?_⟩
               obtain ⟨src, hs, h⟩ := h
               refine mreg_append (t := 92) (tx := 92) (e := 140) (a := (Operand.tmp 54)) (xo := (Operand.tmp 59)) (s := v54) (x := (Slc.mk (some ⟨b_3, 0, none⟩) 1 1)) (sz := 2) (by_ := 32) (zs := [Value.string ByteArray.empty, Value.string ByteArray.empty]) (ty := 92) (dst := some 60) 7 [1, 6, 0, 5, 4, 3, 2] [] src (by kernel_rfl) (by kernel_rfl) (by kernel_rfl) (by kernel_rfl) (by kernel_rfl) (by kernel_rfl) (by kernel_rfl) (by kernel_rfl) (by kernel_rfl) (by kernel_rfl) (by kernel_rfl) (by kernel_rfl) (by kernel_rfl) hs (AppendW.mono h (fun v60 w14 h => ?_))
               refine ⟨trivial, ?_⟩
               refine Mn P1 ?_
               refine Mstore 9 [0, 1, 2, 3, 4, 5, 6, 7, 8] [] h fun w15 h => ?_
               refine ⟨trivial, ?_⟩
               refine Mf [] [0, 2, 5, 6, 7] ?_
               exact ⟨_, Sub.mk (by kernel_rfl), l_, rfl, h⟩
             · refine Yskip ?_
               exact ⟨_, Sub.mk (by kernel_rfl), l_, rfl, h⟩
           · refine Yp P2 [0, 2, 5, 6, 7, 8, 43, 62] ?_
             refine Yc h (fun h => ?_) fun h => ?_
             · refine Yp P1 [0, 2, 5, 6, 7, 8, 9] ?_
               refine Yd 3 ?_
               obtain ⟨I, μ, h0, hr⟩ := h
               refine Yloop (fun m l w => ∃ (k_ : Int), l = [(0, Value.pointer t_), (2, pv_ b_), (5, pv_ b_1), (6, sv_ l_), (7, Value.int .i64 i), (8, pv_ b_2), (9, Value.int .i64 k_)] ∧ I k_ w ∧ μ k_ w = m) ⟨0, rfl, h0, rfl⟩ ?_
               rintro _ _ w16 ⟨k_, rfl, hI, rfl⟩
               obtain ⟨again_1, again_1_h, h⟩ : ∃ again_1 : Int → World → Prop, (∀ k_' w', again_1 k_' w' → I k_' w' ∧ μ k_' w' < μ k_ w16) ∧ F_towpathref17_Task_Answer_L2 b_1 l_ i again_ b_2 again_1 k_ w16 := ⟨_, fun _ _ h => h, hr k_ w16 hI⟩
               clear h0 hI
               unfold F_towpathref17_Task_Answer_L2 at h
               refine Ys ?_
               refine Yt ?_
               refine Yn P2 ?_
               refine Yl h fun v66 h => ?_
               refine Yf P2 [0, 2, 5, 6, 7, 8, 9, 68] ?_
               refine Yc h (fun h => ?_) fun h => ?_
               · refine Yskip ?_
                 refine Ys ?_
                 refine Yd 4 ?_
                 refine wpE_tailregion (id := 20) (ops := r75_83) (by kernel_rfl) 7 (by kernel_rfl) (by kernel_rfl) (fun w17 hw => ?_)
                 replace h := h w17 hw
                 clear hw
                 refine Qn P1 ?_
                 refine Ql h fun v72 h => ?_
                 refine Qn P1 ?_
                 refine Ql h fun v74 h => ?_
                 refine Qn P1 ?_
                 obtain ⟨hp_51, h⟩ := h
                 refine Qu 74 (fun pp => .slice pp v74.len v74.cap) hp_51 ?_
                 refine Qi h fun h => ?_
                 refine QL h fun v77 h => ?_
                 refine qreg_tail (by kernel_rfl) ?_
                 refine Ym1 h fun v78 w18 h => ?_
                 refine Yn P1 ?_
                 refine Yo h fun w19 h => ?_
                 refine Yf [] [0, 2, 5, 6, 7, 8, 9] ?_
                 refine Yr ?_
                 refine Yf P3 [0, 2, 5, 6, 7, 8, 9] ?_
                 have hb_ := again_1_h _ _ h
                 exact ⟨_, hb_.2, _, Sub.mk (by kernel_rfl), (IntKind.i64.wrap (k_ + 1)), rfl, hb_.1, rfl⟩
               · refine Yexit 3 ?_
                 exact ⟨_, Sub.mk (by kernel_rfl), l_, rfl, h⟩
             · refine Yp P2 [0, 2, 5, 6, 7, 8, 43, 80] ?_
               refine Yc h (fun h => ?_) fun h => ?_
               · refine Yr ?_
                 refine Yn P1 ?_
                 refine Yl h fun v83 h => ?_
                 refine Yn P1 ?_
                 refine Yl h fun v85 h => ?_
                 refine Yn P2 ?_
                 refine Yo h fun w20 h => ?_
                 refine Yf [] [0, 2, 5, 6, 7] ?_
                 exact ⟨_, Sub.mk (by kernel_rfl), l_, rfl, h⟩
               · refine Yp P2 [0, 2, 5, 6, 7, 8, 88] ?_
                 refine Yc h (fun h => ?_) fun h => ?_
                 · refine Yp P1 [0, 2, 5, 6, 7, 8, 10] ?_
                   refine Yd 5 ?_
                   obtain ⟨I, μ, h0, hr⟩ := h
                   refine Yloop (fun m l w => ∃ (l_2 : Slc) (k_1 : Int), l = [(0, Value.pointer t_), (2, pv_ b_), (5, pv_ b_1), (6, sv_ l_2), (7, Value.int .i64 i), (8, pv_ b_2), (10, Value.int .i64 k_1)] ∧ I l_2 k_1 w ∧ μ l_2 k_1 w = m) ⟨l_, 0, rfl, h0, rfl⟩ ?_
                   rintro _ _ w21 ⟨l_2, k_1, rfl, hI, rfl⟩
                   obtain ⟨again_2, again_2_h, h⟩ : ∃ again_2 : Slc → Int → World → Prop, (∀ l_2' k_1' w', again_2 l_2' k_1' w' → I l_2' k_1' w' ∧ μ l_2' k_1' w' < μ l_2 k_1 w21) ∧ F_towpathref17_Task_Answer_L3 i again_ b_2 again_2 l_2 k_1 w21 := ⟨_, fun _ _ _ h => h, hr l_2 k_1 w21 hI⟩
                   clear h0 hI
                   unfold F_towpathref17_Task_Answer_L3 at h
                   refine Ys ?_
                   refine Yt ?_
                   refine Yn P2 ?_
                   refine Yl h fun v92 h => ?_
                   refine Yf P2 [0, 2, 5, 6, 7, 8, 10, 94] ?_
                   refine Yc h (fun h => ?_) fun h => ?_
                   · refine Yskip ?_
                     refine Ys ?_
                     refine Yd 6 ?_
                     refine Yr ?_
                     refine Yn P2 ?_
                     refine Yl h fun v99 h => ?_
                     refine Yn P1 ?_
                     obtain ⟨hp_53, h⟩ := h
                     refine Yu 99 (fun pp => .slice pp v99.len v99.cap) hp_53 ?_
                     refine Yi h fun h => ?_
                     refine YL h fun v102 h => ?_
                     refine Ym1 h fun v103 w22 h => ?_
                     refine Yf P1 [0, 2, 5, 6, 7, 8, 10] ?_
                     refine Yr ?_
                     refine Yf P3 [0, 2, 5, 6, 7, 8, 10] ?_
                     have hb_ := again_2_h _ _ _ h
                     exact ⟨_, hb_.2, _, Sub.mk (by kernel_rfl), v103, (IntKind.i64.wrap (k_1 + 1)), rfl, hb_.1, rfl⟩
                   · refine Yexit 5 ?_
                     exact ⟨_, Sub.mk (by kernel_rfl), l_2, rfl, h⟩
                 · refine Yskip ?_
                   exact ⟨_, Sub.mk (by kernel_rfl), l_, rfl, h⟩
         · rintro _ w8 ⟨l_1, rfl, h⟩
           unfold F_towpathref17_Task_Answer_k1 at h
           refine Yr ?_
           refine Yf P3 [0, 2, 5, 6, 7] ?_
           have hb_ := again__h _ _ _ h
           exact ⟨_, hb_.2, _, Sub.mk (by kernel_rfl), l_1, (IntKind.i64.wrap (i + 1)), rfl, hb_.1, rfl⟩
       · refine Yexit 0 ?_
         refine Yt ?_
         refine YL h fun v104 h => ?_
         refine Yn P1 ?_
         refine Yo h fun w23 h => ?_
         refine Yf P2 [2, 3, 4] ?_
         obtain ⟨res2, hc_res2, h⟩ := h
         exact YTg (rs := [(ResultVar.cell 2 125), (ResultVar.tmp 3), (ResultVar.tmp 4)]) (vs := [Value.agg #[Value.int .i64 res2.Code, Value.int .i64 res2.Mark, Value.bool res2.OK, sv_ res2.Entries, Value.int .i64 res2.Count], sv_ l_, Value.int .i64 0]) (⟨b_, 0, [Value.int .i64 res2.Code, Value.int .i64 res2.Mark, Value.bool res2.OK, sv_ res2.Entries, Value.int .i64 res2.Count], by kernel_rfl, hc_res2, (sizeP_of (k := 5) (by kernel_rfl) (by kernel_rfl)), .inl ⟨by kernel_rfl, rfl⟩, ⟨by kernel_rfl, ⟨by kernel_rfl, trivial⟩⟩⟩) ⟨res2, l_, 0, rfl, h⟩

/-! ### (*towpath/towpathref17.Task).Mark (function 77) -/

theorem S_towpathref17_Task_Mark {t_ : Option Addr} {w : World} {R : Int → Bool → World → Prop} (h : F_towpathref17_Task_Mark t_ R w) : C_towpathref17_Task_Mark t_ w R := by
 unfold F_towpathref17_Task_Mark at h
 refine Yh Try.func77 ?_
 · refine Yp P2 [0] ?_
   refine Ys ?_
   refine Ycut (fun l w => ∃ (t12 : Bool), l = [(0, Value.pointer t_), (12, Value.bool t12)] ∧ F_towpathref17_Task_Mark_k0 t_ R t12 w) ?_ ?_
   · refine Yr ?_
     refine Yn P1 ?_
     refine reg_val (op := (Op.binOp BinOp.eql 87 (Operand.tmp 4) (Operand.const (Value.pointer none)) 87)) (ty := 4) (dst := some 5) (Value.bool t_.isNone) (by kernel_rfl) (fun ww => run_ptr_eql_R (p := t_) (by kernel_rfl) (by kernel_rfl) (by kernel_rfl) ww) ?_
     refine Yn P2 ?_
     refine Yspl 6 h (fun h => ?_) fun h => ?_
     · refine Yf [.skip, .skip, .skip, .skip, .plain] [0, 12] ?_
       exact ⟨_, Sub.mk (by kernel_rfl), true, rfl, h⟩
     · refine Yv 7 h fun hp_4 h => ?_
       refine Yn [.sure] ?_
       refine Yn [.sure] ?_
       refine Yl h fun v10 h => ?_
       refine Yf [.sure, .plain] [0, 12] ?_
       exact ⟨_, Sub.mk (by kernel_rfl), (!v10), rfl, h⟩
   · rintro _ w1 ⟨t12, rfl, h⟩
     unfold F_towpathref17_Task_Mark_k0 at h
     refine Yc h (fun h => ?_) fun h => ?_
     · refine Yp P2 [2, 3] ?_
       exact YT2 ⟨0, false, rfl, h⟩
     · refine Yskip ?_
       refine Yt ?_
       refine Yn P1 ?_
       refine Yv 13 h fun hp_3 h => ?_
       refine Yn P1 ?_
       refine Yn P1 ?_
       refine Yl h fun v16 h => ?_
       refine Yf P2 [2, 3] ?_
       exact YT2 ⟨v16, true, rfl, h⟩
end
end Go.Proofs.Ytpedclhflmhakaa
