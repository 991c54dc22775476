/- WRITTEN BY PROGRAM (dec.py): for each Go function the clean formula F, the call's contract C, and the proof S that F gives C. -/
import Derived.Test.YtpdegdnigcnjiaaRows
import Derived.Test.YtpdegdnigcnjiaaGF
namespace Go.Proofs.Ytpdegdnigcnjiaa
open Go
set_option linter.unusedVariables false
set_option maxRecDepth 100000
set_option maxHeartbeats 4000000
noncomputable section

/-! ### towpath/chain.Check (function 68) -/
def c68_0 := cb_ Try.f68
def c68_3 := cr_ c68_0
def c68_4 := cl_ c68_3
def c68_7 := cr_ c68_4
def c68_8 := cl_ c68_7
def c68_9 := cl_ c68_8
def c68_12 := cr_ c68_9
def c68_16 := cr_ c68_12
def c68_17 := cl_ c68_16
def c68_18 := cl_ c68_17
def c68_21 := cr_ c68_18
def c68_22 := cl_ c68_21
def r68_22 := co_ c68_22

theorem S_chain_Check {l_ : Slc} {w : World} {R : Int → World → Prop} (h : F_chain_Check l_ R w) : C_chain_Check l_ w R := by
 unfold F_chain_Check at h
 refine Yh Try.func68 ?_
 · refine Yp P1 [0] ?_
   refine Ys ?_
   refine Yp P3 [0, 5, 6, 7] ?_
   refine Yd 0 ?_
   obtain ⟨I, μ, h0, hr⟩ := h
   refine Yloop (fun m l w => ∃ (t7 : Int), l = [(0, sv_ l_), (5, sv_ l_), (6, Value.int .i64 ((l_.len : Nat) : Int)), (7, Value.int .i64 t7)] ∧ I t7 w ∧ μ t7 w = m) ⟨0, rfl, h0, rfl⟩ ?_
   rintro _ _ w1 ⟨t7, rfl, hI, rfl⟩
   obtain ⟨again_, again__h, h⟩ : ∃ again_ : Int → World → Prop, (∀ t7' w', again_ t7' w' → I t7' w' ∧ μ t7' w' < μ t7 w1) ∧ F_chain_Check_L0 l_ R again_ t7 w1 := ⟨_, fun _ _ h => h, hr t7 w1 hI⟩
   clear h0 hI
   unfold F_chain_Check_L0 at h
   refine Yp P1 [0, 5, 6, 7, 8] ?_
   refine Ys ?_
   refine Yc h (fun h => ?_) fun h => ?_
   · refine Yskip ?_
     refine Ys ?_
     refine Yd 1 ?_
     refine Yt ?_
     refine Yn P1 ?_
     obtain ⟨hp_19, h⟩ := h
     refine Yu 5 (fun pp => .slice pp l_.len l_.cap) hp_19 ?_
     refine Yi h fun h => ?_
     refine YL h fun v11 h => ?_
     refine Yw pv_ h fun b_ w2 h => ?_
     refine Yn P1 ?_
     refine Yo h fun w3 h => ?_
     refine Yu 5 (fun pp => .slice pp l_.len l_.cap) hp_19.symm ?_
     refine Yf [] [0, 3, 4, 5, 6, 7] ?_
     refine Ycut (fun l w => ∃ (t49 : Bool), l = [(0, sv_ l_), (5, sv_ l_), (6, Value.int .i64 ((l_.len : Nat) : Int)), (7, Value.int .i64 t7), (49, Value.bool t49)] ∧ F_chain_Check_k1 R t7 again_ t49 w) ?_ ?_
     · refine wpE_drawregion (id := 4) (ops := r68_22) (by kernel_rfl) (by kernel_rfl) (by kernel_rfl) ?_
       refine Qn P1 ?_
       refine Ql h fun v13 h => ?_
       refine Qn P3 ?_
       refine Qspl 15 h (fun h => ?_) fun h => ?_
       · refine Qf [.skip, .skip, .plain, .plain, .skip, .skip, .skip, .skip, .plain, .plain, .skip, .skip, .skip, .skip, .skip, .skip, .skip, .plain, .plain, .skip, .skip, .skip, .skip, .skip, .skip, .skip, .skip, .skip, .skip, .skip, .skip, .skip, .plain] [0, 5, 6, 7, 49] h fun w5 h => ?_
         exact ⟨_, Sub.mk (by kernel_rfl), true, rfl, h⟩
       · refine Ql h fun v17 h => ?_
         refine Qn [.sure, .plain, .plain, .plain] ?_
         refine Qspl 20 h (fun h => ?_) fun h => ?_
         · refine Qf [.skip, .skip, .skip, .plain, .plain, .skip, .skip, .skip, .skip, .skip, .skip, .skip, .plain, .plain, .skip, .skip, .skip, .skip, .skip, .skip, .skip, .skip, .skip, .skip, .skip, .skip, .skip, .plain] [0, 5, 6, 7, 49] h fun w6 h => ?_
           exact ⟨_, Sub.mk (by kernel_rfl), true, rfl, h⟩
         · refine Ql h fun v22 h => ?_
           refine Qn [.sure, .sure, .plain, .plain, .plain] ?_
           refine Qspl 26 h (fun h => ?_) fun h => ?_
           · refine Qf [.skip, .skip, .skip, .skip, .skip, .skip, .plain, .plain, .skip, .skip, .skip, .skip, .skip, .skip, .skip, .skip, .skip, .skip, .skip, .skip, .skip, .plain] [0, 5, 6, 7, 49] h fun w7 h => ?_
             exact ⟨_, Sub.mk (by kernel_rfl), true, rfl, h⟩
           · refine Ql h fun v28 h => ?_
             refine Qn [.sure, .plain] ?_
             refine Qspl 29 h (fun h => ?_) fun h => ?_
             · refine Ql h fun v31 h => ?_
               refine Qn [.sure, .sure, .plain, .plain, .plain, .plain, .plain, .plain, .plain, .plain] ?_
               refine Qspl 35 h (fun h => ?_) fun h => ?_
               · refine Qf [.skip, .skip, .skip, .skip, .skip, .skip, .skip, .plain] [0, 5, 6, 7, 49] h fun w8 h => ?_
                 exact ⟨_, Sub.mk (by kernel_rfl), true, rfl, h⟩
               · refine Qspl 38 h (fun h => ?_) fun h => ?_
                 · obtain ⟨hp_22, h⟩ := h
                   refine Qu 39 (fun pp => .slice pp l_.len l_.cap) hp_22 ?_
                   refine Qi h fun h => ?_
                   refine Qn [.sure] ?_
                   refine Ql h fun v44 h => ?_
                   refine Qn [.sure] ?_
                   refine Ql h fun v46 h => ?_
                   refine Qf [.sure, .sure, .plain] [0, 5, 6, 7, 49] h fun w9 h => ?_
                   exact ⟨_, Sub.mk (by kernel_rfl), (decide (v44 ≥ v46)), rfl, h⟩
                 · refine Qf [.skip, .skip, .skip, .skip, .skip, .skip, .sure, .plain] [0, 5, 6, 7, 49] h fun w10 h => ?_
                   exact ⟨_, Sub.mk (by kernel_rfl), false, rfl, h⟩
             · refine Qn [.skip, .skip, .sure, .plain, .plain, .sure, .sure, .sure, .plain, .plain, .plain] ?_
               refine Qspl 38 h (fun h => ?_) fun h => ?_
               · obtain ⟨hp_23, h⟩ := h
                 refine Qu 39 (fun pp => .slice pp l_.len l_.cap) hp_23 ?_
                 refine Qi h fun h => ?_
                 refine Qn [.sure] ?_
                 refine Ql h fun v441 h => ?_
                 refine Qn [.sure] ?_
                 refine Ql h fun v461 h => ?_
                 refine Qf [.sure, .sure, .plain] [0, 5, 6, 7, 49] h fun w11 h => ?_
                 exact ⟨_, Sub.mk (by kernel_rfl), (decide (v441 ≥ v461)), rfl, h⟩
               · refine Qf [.skip, .skip, .skip, .skip, .skip, .skip, .sure, .plain] [0, 5, 6, 7, 49] h fun w12 h => ?_
                 exact ⟨_, Sub.mk (by kernel_rfl), false, rfl, h⟩
     · rintro _ w4 ⟨t49, rfl, h⟩
       unfold F_chain_Check_k1 at h
       refine Yc h (fun h => ?_) fun h => ?_
       · refine Yp P1 [2] ?_
         exact YS ⟨1, rfl, h⟩
       · refine Yskip ?_
         refine Yr ?_
         refine Yf P2 [0, 5, 6, 7] ?_
         have hb_ := again__h _ _ h
         exact ⟨_, hb_.2, _, Sub.mk (by kernel_rfl), (IntKind.i64.wrap (t7 + 1)), rfl, hb_.1, rfl⟩
   · refine Yexit 0 ?_
     refine Yp P1 [2] ?_
     exact YS ⟨0, rfl, h⟩

/-! ### towpath/chain.At (function 70) -/

theorem S_chain_At {l_ : Slc} {mark : Int} {w : World} {R : T_api_Version → Bool → Int → World → Prop} (h : F_chain_At l_ mark R w) : C_chain_At l_ mark w R := by
 unfold F_chain_At at h
 refine Yh Try.func70 ?_
 · refine Yt ?_
   refine Yw pv_ h fun b_ w1 h => ?_
   refine Yf P2 [0, 1, 4] ?_
   refine Ys ?_
   refine Yt ?_
   refine Yn P1 ?_
   refine Ym1 h fun v10 w2 h => ?_
   refine Yf P1 [0, 1, 4, 7] ?_
   refine Yp P2 [0, 1, 4, 7, 12] ?_
   refine Yc h (fun h => ?_) fun h => ?_
   · refine Yt ?_
     refine Yn P2 ?_
     refine Yo h fun w3 h => ?_
     refine Yf P2 [4, 5, 6] ?_
     obtain ⟨res, hc_res, h⟩ := h
     exact YTg (rs := [(ResultVar.cell 4 89), (ResultVar.tmp 5), (ResultVar.tmp 6)]) (vs := [Value.agg #[Value.int .i64 res.Number, Value.string res.Val, Value.bool res.Drop], Value.bool false, Value.int .i64 v10]) (⟨b_, 0, [Value.int .i64 res.Number, Value.string res.Val, Value.bool res.Drop], by kernel_rfl, hc_res, (sizeP_of (k := 3) (by kernel_rfl) (by kernel_rfl)), .inl ⟨by kernel_rfl, rfl⟩, ⟨by kernel_rfl, ⟨by kernel_rfl, trivial⟩⟩⟩) ⟨res, false, v10, rfl, h⟩
   · refine Yskip ?_
     refine Yt ?_
     refine Yn P2 ?_
     refine Ym1 h fun v17 w4 h => ?_
     refine Yf P1 [0, 4, 8] ?_
     refine Ys ?_
     refine Yp P2 [0, 4, 8, 19] ?_
     refine Yc h (fun h => ?_) fun h => ?_
     · refine Yt ?_
       refine Yn P1 ?_
       refine Yo h fun w5 h => ?_
       refine Yf P2 [4, 5, 6] ?_
       obtain ⟨res1, hc_res1, h⟩ := h
       exact YTg (rs := [(ResultVar.cell 4 89), (ResultVar.tmp 5), (ResultVar.tmp 6)]) (vs := [Value.agg #[Value.int .i64 res1.Number, Value.string res1.Val, Value.bool res1.Drop], Value.bool false, Value.int .i64 0]) (⟨b_, 0, [Value.int .i64 res1.Number, Value.string res1.Val, Value.bool res1.Drop], by kernel_rfl, hc_res1, (sizeP_of (k := 3) (by kernel_rfl) (by kernel_rfl)), .inl ⟨by kernel_rfl, rfl⟩, ⟨by kernel_rfl, ⟨by kernel_rfl, trivial⟩⟩⟩) ⟨res1, false, 0, rfl, h⟩
     · refine Yskip ?_
       refine Yt ?_
       refine Yn P3 ?_
       obtain ⟨hp_0, h⟩ := h
       refine Yu 21 (fun pp => .slice pp l_.len l_.cap) hp_0 ?_
       refine Yi h fun h => ?_
       refine YL h fun v25 h => ?_
       refine Yo h fun w6 h => ?_
       refine Yf P2 [4, 5, 6] ?_
       obtain ⟨res2, hc_res2, h⟩ := h
       exact YTg (rs := [(ResultVar.cell 4 89), (ResultVar.tmp 5), (ResultVar.tmp 6)]) (vs := [Value.agg #[Value.int .i64 res2.Number, Value.string res2.Val, Value.bool res2.Drop], Value.bool true, Value.int .i64 0]) (⟨b_, 0, [Value.int .i64 res2.Number, Value.string res2.Val, Value.bool res2.Drop], by kernel_rfl, hc_res2, (sizeP_of (k := 3) (by kernel_rfl) (by kernel_rfl)), .inl ⟨by kernel_rfl, rfl⟩, ⟨by kernel_rfl, ⟨by kernel_rfl, trivial⟩⟩⟩) ⟨res2, true, 0, rfl, h⟩

/-! ### (towpath/chain.list).upto (function 88) -/

theorem S_chain_list_upto {l_ : Slc} {at_ : Int} {w : World} {R : Int → World → Prop} (h : F_chain_list_upto l_ at_ R w) : C_chain_list_upto l_ at_ w R := by
 unfold F_chain_list_upto at h
 refine Yh Try.func88 ?_
 · refine Yp P1 [0, 1] ?_
   refine Yt ?_
   refine Yn (Pl 6) ?_
   refine Ym1 h fun v11 w1 h => ?_
   refine Yf P1 [4] ?_
   exact YS ⟨v11, rfl, h⟩

/-! ### (towpath/chain.mark).above (function 93) -/
def c93_0 := cb_ Try.f93
def c93_3 := cr_ c93_0
def c93_4 := cl_ c93_3
def r93_4 := co_ c93_4

theorem S_chain_mark_above {m_ : T_chain_mark} {i : Int} {w : World} {R : Bool → World → Prop} (h : F_chain_mark_above m_ i R w) : C_chain_mark_above m_ i w R := by
 unfold F_chain_mark_above at h
 refine Yh Try.func93 ?_
 · refine Yt ?_
   refine Yw pv_ h fun b_ w1 h => ?_
   refine Yf P1 [1, 2] ?_
   refine Ys ?_
   refine wpE_drawregion (id := 1) (ops := r93_4) (by kernel_rfl) (by kernel_rfl) (by kernel_rfl) ?_
   refine Qn P1 ?_
   refine Ql h fun v6 h => ?_
   refine Qn P1 ?_
   obtain ⟨hp_0, h⟩ := h
   refine Qu 6 (fun pp => .slice pp v6.len v6.cap) hp_0 ?_
   refine Qi h fun h => ?_
   refine Qn P1 ?_
   refine Ql h fun v10 h => ?_
   refine Qn P1 ?_
   refine Ql h fun v12 h => ?_
   refine Qf P2 [4] h fun w2 h => ?_
   exact YS ⟨(decide (v10 > v12)), rfl, h⟩
end
end Go.Proofs.Ytpdegdnigcnjiaa
