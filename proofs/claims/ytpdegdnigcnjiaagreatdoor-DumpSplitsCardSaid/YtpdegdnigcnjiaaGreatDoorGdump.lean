/- WRITTEN BY PROGRAM (dec.py): for each Go function the clean formula F, the call's contract C, and the proof S that F gives C. -/
import Derived.Test.YtpdegdnigcnjiaaGreatDoorRows
import Derived.Test.YtpdegdnigcnjiaaGreatDoorGF
namespace Go.Proofs.YtpdegdnigcnjiaaGreatDoor
open Go
set_option linter.unusedVariables false
set_option maxRecDepth 100000
set_option maxHeartbeats 4000000
noncomputable section

/-! ### towpath/dump.Split (function 27) -/
def c27_0 := cb_ Tryz.f27
def c27_3 := cr_ c27_0
def c27_16 := cr_ c27_3
def c27_29 := cr_ c27_16
def c27_32 := cr_ c27_29
def c27_33 := cl_ c27_32
def c27_36 := cr_ c27_33
def c27_37 := cl_ c27_36
def c27_38 := cl_ c27_37
def c27_41 := cr_ c27_38
def c27_45 := cr_ c27_41
def c27_46 := cl_ c27_45
def c27_47 := cl_ c27_46
def c27_50 := cr_ c27_47
def c27_53 := cr_ c27_50
def c27_56 := cr_ c27_53
def r27_56 := co_ c27_56
def o_dump_Split_56 : List Nat := [0, 1, 2, 3, 4, 5, 6, 7, 8, 9, 10, 11, 12, 13, 14, 15]

theorem S_dump_Split {c : T_api_Config} {s : T_api_Saved} {w : World} {R : Slc → Int → World → Prop} (h : F_dump_Split c s R w) : C_dump_Split c s w R := by
 unfold F_dump_Split at h
 refine Yh Tryz.func27 ?_
 · refine Yt ?_
   refine Yw pv_ h fun b_ w1 h => ?_
   refine Yw pv_ h fun b_1 w2 h => ?_
   refine Yf P2 [2, 3] ?_
   refine Ys ?_
   refine Yt ?_
   refine YL h fun v13 h => ?_
   refine Ym1 h fun v14 w3 h => ?_
   refine Yf P1 [2, 3, 6] ?_
   refine Yp P2 [2, 3, 6, 16] ?_
   refine Yc h (fun h => ?_) fun h => ?_
   · refine Yp P3 [4, 5] ?_
     exact YT2 ⟨(Slc.mk none 0 0), v14, rfl, h⟩
   · refine Yskip ?_
     refine Ys ?_
     refine Yt ?_
     refine YL h fun v18 h => ?_
     refine Ym1 h fun v19 w4 h => ?_
     refine Yf P1 [2, 3, 7] ?_
     refine Yp P2 [2, 3, 7, 21] ?_
     refine Yc h (fun h => ?_) fun h => ?_
     · refine Yp P3 [4, 5] ?_
       exact YT2 ⟨(Slc.mk none 0 0), v19, rfl, h⟩
     · refine Yskip ?_
       refine Yt ?_
       refine Yn P1 ?_
       refine Yl h fun v24 h => ?_
       obtain ⟨h0, h1, h2, h⟩ := h
       refine reg_makeSlice (t := 71) (e := 66) (lo := (Operand.tmp 24)) (co := (Operand.tmp 24)) (l := v24) (c := v24) (sz := 1) (by_ := 24) (zs := [Value.slice none 0 0]) (ty := 71) (dst := some 25) (by kernel_rfl) (by kernel_rfl) (by kernel_rfl) (by kernel_rfl) (by kernel_rfl) (by kernel_rfl) (by kernel_rfl) (by kernel_rfl) (by kernel_rfl) h0 h1 h2 (fun b_2 w5 hb hw => ?_)
       replace h := h b_2 w5 hb hw
       clear hb hw
       refine Yf P1 [2, 3, 8] ?_
       refine Ys ?_
       refine Yt ?_
       refine Yn P1 ?_
       refine Yl h fun v27 h => ?_
       refine Yf P2 [2, 3, 8, 28, 29] ?_
       refine Yd 0 ?_
       obtain ⟨I, μ, h0, hr⟩ := h
       refine Yloop (fun m l w => ∃ (t29 : Int), l = [(2, pv_ b_), (3, pv_ b_1), (8, Value.slice (some ⟨b_2, 0, none⟩) v24.toNat v24.toNat), (28, Value.int .i64 ((v27.len : Nat) : Int)), (29, Value.int .i64 t29)] ∧ I t29 w ∧ μ t29 w = m) ⟨0, rfl, h0, rfl⟩ ?_
       rintro _ _ w6 ⟨t29, rfl, hI, rfl⟩
       obtain ⟨again_, again__h, h⟩ : ∃ again_ : Int → World → Prop, (∀ t29' w', again_ t29' w' → I t29' w' ∧ μ t29' w' < μ t29 w6) ∧ F_dump_Split_L0 R b_ b_1 v24 b_2 v27 again_ t29 w6 := ⟨_, fun _ _ h => h, hr t29 w6 hI⟩
       clear h0 hI
       unfold F_dump_Split_L0 at h
       refine Yp P1 [2, 3, 8, 28, 29, 30] ?_
       refine Ys ?_
       refine Yc h (fun h => ?_) fun h => ?_
       · refine Yskip ?_
         refine Ys ?_
         refine Yd 1 ?_
         refine Yp P2 [2, 3, 8, 9, 28, 29] ?_
         refine Yt ?_
         refine Yn P1 ?_
         refine Yl h fun v33 h => ?_
         refine Yn P1 ?_
         obtain ⟨hp_7, h⟩ := h
         refine Yu 33 (fun pp => .slice pp v33.len v33.cap) hp_7 ?_
         refine Yi h fun h => ?_
         refine YL h fun v36 h => ?_
         refine Yw pv_ h fun b_3 w7 h => ?_
         refine Yo h fun w8 h => ?_
         refine Yf [] [2, 3, 8, 10, 28, 29] ?_
         refine Yt ?_
         refine YL h fun v38 h => ?_
         refine Yn P1 ?_
         refine Yl h fun v40 h => ?_
         refine Ym2 h fun n_ v41_1 w9 h => ?_
         refine Yf (Pl 5) [2, 3, 8, 10, 11, 28, 29] ?_
         refine wpE_mixregion (id := 13) (ops := r27_56) o_dump_Split_56 (by kernel_rfl) (by kernel_rfl) (by kernel_rfl) (by kernel_rfl) (fun w10 hw => ?_)
         replace h := h w10 hw
         clear hw
         refine Mn P4 ?_
         refine Mi1 4 h fun h => ?_
         refine Ml 5 h fun v49 hc h => ?_
         refine Mn P1 ?_
         refine Ml 7 h fun v51 hc h => ?_
         refine Mn P1 ?_
         refine Ml 9 h fun v53 hc h => ?_
         refine mreg_enter (op := (Op.call (Call.mk (Callee.value (Operand.func 93)) #[(Operand.tmp 53)] #[102]))) (ty := 102) (dst := some 54) 10 [9, 8] [(7, fun w' => w'.cell? ⟨b_3, 0, none⟩ = some (Value.string v51)), (5, fun w' => w'.cell? ⟨b_2, 0 + n_.toNat, none⟩ = some (sv_ v49))] 93 #[sv_ v53] (by kernel_rfl) (by kernel_rfl) (by kernel_rfl) (by kernel_rfl) (by kernel_rfl) (fun ww => by kernel_rfl) (Calls.mono h ?_)
         rintro _ w11 ⟨v54, rfl, h⟩
         obtain ⟨hk0, hk1, h⟩ := h
         refine ⟨_, rfl, ⟨hk0, hk1, trivial⟩, ?_⟩
         refine Mn P1 ?_
         refine mreg_new (op := (Op.buildSlice 66 1 #[(0, (Operand.tmp 55))])) (ty := 66) (dst := some 56) 12 [11, 7, 10, 6, 9, 8] [(5, fun w' => w'.cell? ⟨b_2, 0 + n_.toNat, none⟩ = some (sv_ v49))] (fun bb => Value.slice (some ⟨bb, 0, none⟩) 1 1) (Obj.cells ([Value.string v51, sv_ v54]).toArray ty_api_Held (0, 0)) (by kernel_rfl) (by kernel_rfl) (by kernel_rfl) (by kernel_rfl) (by kernel_rfl) (by kernel_rfl) (fun b_4 w12 hb hw => ?_)
         replace h := h b_4 w12 hb hw
         clear hb hw
         obtain ⟨hk0, h⟩ := h
         refine ⟨⟨hk0, trivial⟩, ?_⟩
         obtain ⟨src, hs, h⟩ := h
         refine mreg_append (t := 66) (tx := 66) (e := 104) (a := (Operand.tmp 49)) (xo := (Operand.tmp 56)) (s := v49) (x := (Slc.mk (some ⟨b_4, 0, none⟩) 1 1)) (sz := 2) (by_ := 40) (zs := [Value.string ByteArray.empty, Value.slice none 0 0]) (ty := 66) (dst := some 57) 13 [5, 10, 12, 4, 9, 11, 2, 3, 8, 7, 6] [] src (by kernel_rfl) (by kernel_rfl) (by kernel_rfl) (by kernel_rfl) (by kernel_rfl) (by kernel_rfl) (by kernel_rfl) (by kernel_rfl) (by kernel_rfl) (by kernel_rfl) (by kernel_rfl) (by kernel_rfl) (by kernel_rfl) hs (AppendW.mono h (fun v57 w13 h => ?_))
         refine ⟨trivial, ?_⟩
         refine Mi1 14 h fun h => ?_
         refine Mstore 15 [0, 1, 2, 3, 4, 5, 6, 7, 8, 9, 10, 11, 12, 13, 14] [] h fun w14 h => ?_
         refine ⟨trivial, ?_⟩
         refine Mf [] [2, 3, 8, 28, 29] ?_
         refine Yr ?_
         refine Yf P2 [2, 3, 8, 28, 29] ?_
         have hb_ := again__h _ _ h
         exact ⟨_, hb_.2, _, Sub.mk (by kernel_rfl), (IntKind.i64.wrap (t29 + 1)), rfl, hb_.1, rfl⟩
       · refine Yexit 0 ?_
         refine Yp P3 [4, 5] ?_
         exact YT2 ⟨(Slc.mk (some ⟨b_2, 0, none⟩) v24.toNat v24.toNat), 0, rfl, h⟩

/-! ### towpath/dump.Check (function 91) -/

theorem S_dump_Check {s : T_api_Saved} {w : World} {R : Int → World → Prop} (h : F_dump_Check s R w) : C_dump_Check s w R := by
 unfold F_dump_Check at h
 refine Yh Tryz.func91 ?_
 · refine Yt ?_
   refine Yw pv_ h fun b_ w1 h => ?_
   refine Yf P1 [1] ?_
   refine Ys ?_
   refine Ycut (fun l w => ∃ (t21 : Bool), l = [(1, pv_ b_), (21, Value.bool t21)] ∧ F_dump_Check_k0 R b_ t21 w) ?_ ?_
   · refine Yr ?_
     refine Yn P1 ?_
     refine Yl h fun v15 h => ?_
     refine Yn P3 ?_
     refine Yspl 17 h (fun h => ?_) fun h => ?_
     · refine Yf [.skip, .skip, .plain] [1, 21] ?_
       exact ⟨_, Sub.mk (by kernel_rfl), true, rfl, h⟩
     · refine Yl h fun v19 h => ?_
       refine Yf [.sure, .plain] [1, 21] ?_
       exact ⟨_, Sub.mk (by kernel_rfl), (decide (v19 > 65536)), rfl, h⟩
   · rintro _ w2 ⟨t21, rfl, h⟩
     unfold F_dump_Check_k0 at h
     refine Yc h (fun h => ?_) fun h => ?_
     · refine Yp P1 [2] ?_
       exact YS ⟨1, rfl, h⟩
     · refine Yskip ?_
       refine Yt ?_
       refine Yn P1 ?_
       refine Yl h fun v23 h => ?_
       refine Yf P2 [1, 3] ?_
       refine Ys ?_
       refine Yt ?_
       refine Yn P1 ?_
       refine Yl h fun v26 h => ?_
       refine Yf P2 [1, 3, 26, 27, 28] ?_
       refine Yd 0 ?_
       obtain ⟨I, μ, h0, hr⟩ := h
       refine Yloop (fun m l w => ∃ (least : Int) (t28 : Int), l = [(1, pv_ b_), (3, Value.int .i64 least), (26, sv_ v26), (27, Value.int .i64 ((v26.len : Nat) : Int)), (28, Value.int .i64 t28)] ∧ I least t28 w ∧ μ least t28 w = m) ⟨(IntKind.i64.wrap (v23 + 2)), 0, rfl, h0, rfl⟩ ?_
       rintro _ _ w3 ⟨least, t28, rfl, hI, rfl⟩
       obtain ⟨again_, again__h, h⟩ : ∃ again_ : Int → Int → World → Prop, (∀ least' t28' w', again_ least' t28' w' → I least' t28' w' ∧ μ least' t28' w' < μ least t28 w3) ∧ F_dump_Check_L1 R b_ v26 again_ least t28 w3 := ⟨_, fun _ _ _ h => h, hr least t28 w3 hI⟩
       clear h0 hI
       unfold F_dump_Check_L1 at h
       refine Yp P1 [1, 3, 26, 27, 28, 29] ?_
       refine Ys ?_
       refine Yc h (fun h => ?_) fun h => ?_
       · refine Yskip ?_
         refine Ys ?_
         refine Yd 1 ?_
         refine Yt ?_
         obtain ⟨hp_7, h⟩ := h
         refine Yu 26 (fun pp => .slice pp v26.len v26.cap) hp_7 ?_
         refine Yi1 h fun h => ?_
         refine Yl h fun n_ h => ?_
         refine Yn P1 ?_
         refine Yu 26 (fun pp => .slice pp v26.len v26.cap) hp_7.symm ?_
         refine Yf [] [1, 3, 5, 26, 27, 28] ?_
         refine Ys ?_
         refine Yp [.plain, .plain, .plain, .plain, .plain, .plain, .pick] [1, 5, 26, 27, 28, 38] ?_
         refine Yc h (fun h => ?_) fun h => ?_
         · refine Yp P1 [2] ?_
           exact YS ⟨1, rfl, h⟩
         · refine Yskip ?_
           refine Yr ?_
           refine Yf P3 [1, 3, 26, 27, 28] ?_
           refine Yr ?_
           refine Yf P2 [1, 3, 26, 27, 28] ?_
           have hb_ := again__h _ _ _ h
           exact ⟨_, hb_.2, _, Sub.mk (by kernel_rfl), (IntKind.i64.wrap (n_ + 1)), (IntKind.i64.wrap (t28 + 1)), rfl, hb_.1, rfl⟩
       · refine Yexit 0 ?_
         refine Ys ?_
         refine Yt ?_
         refine Yn P1 ?_
         refine Yl h fun v44 h => ?_
         refine Ym2 h fun v45 e w4 h => ?_
         refine Yf (Pl 5) [1, 7] ?_
         refine Yp P2 [1, 49] ?_
         refine Yc h (fun h => ?_) fun h => ?_
         · refine Yp P1 [2] ?_
           exact YS ⟨1, rfl, h⟩
         · refine Yskip ?_
           refine Ys ?_
           refine Yt ?_
           refine Yn P1 ?_
           refine Yl h fun v51 h => ?_
           refine Yf P2 [1, 51, 52, 53] ?_
           refine Yd 2 ?_
           obtain ⟨I, μ, h0, hr⟩ := h
           refine Yloop (fun m l w => ∃ (t53 : Int), l = [(1, pv_ b_), (51, sv_ v51), (52, Value.int .i64 ((v51.len : Nat) : Int)), (53, Value.int .i64 t53)] ∧ I t53 w ∧ μ t53 w = m) ⟨0, rfl, h0, rfl⟩ ?_
           rintro _ _ w5 ⟨t53, rfl, hI, rfl⟩
           obtain ⟨again_1, again_1_h, h⟩ : ∃ again_1 : Int → World → Prop, (∀ t53' w', again_1 t53' w' → I t53' w' ∧ μ t53' w' < μ t53 w5) ∧ F_dump_Check_L2 R b_ v51 again_1 t53 w5 := ⟨_, fun _ _ h => h, hr t53 w5 hI⟩
           clear h0 hI
           unfold F_dump_Check_L2 at h
           refine Yp P1 [1, 51, 52, 53, 54] ?_
           refine Ys ?_
           refine Yc h (fun h => ?_) fun h => ?_
           · refine Yskip ?_
             refine Ys ?_
             refine Yd 3 ?_
             refine Yt ?_
             obtain ⟨hp_27, h⟩ := h
             refine Yu 51 (fun pp => .slice pp v51.len v51.cap) hp_27 ?_
             refine Yi h fun h => ?_
             refine YL h fun v56 h => ?_
             refine Yw pv_ h fun b_1 w6 h => ?_
             refine Yo h fun w7 h => ?_
             refine Yu 51 (fun pp => .slice pp v51.len v51.cap) hp_27.symm ?_
             refine Yf [] [1, 9, 51, 52, 53] ?_
             refine Yt ?_
             refine Yn P1 ?_
             refine Yl h fun v58 h => ?_
             refine Yf P2 [1, 51, 52, 53, 58, 59, 60] ?_
             refine Yd 4 ?_
             obtain ⟨I, μ, h0, hr⟩ := h
             refine Yloop (fun m l w => ∃ (t60 : Int), l = [(1, pv_ b_), (51, sv_ v51), (52, Value.int .i64 ((v51.len : Nat) : Int)), (53, Value.int .i64 t53), (58, sv_ v58), (59, Value.int .i64 ((v58.len : Nat) : Int)), (60, Value.int .i64 t60)] ∧ I t60 w ∧ μ t60 w = m) ⟨0, rfl, h0, rfl⟩ ?_
             rintro _ _ w8 ⟨t60, rfl, hI, rfl⟩
             obtain ⟨again_2, again_2_h, h⟩ : ∃ again_2 : Int → World → Prop, (∀ t60' w', again_2 t60' w' → I t60' w' ∧ μ t60' w' < μ t60 w8) ∧ F_dump_Check_L3 R b_ t53 again_1 v58 again_2 t60 w8 := ⟨_, fun _ _ h => h, hr t60 w8 hI⟩
             clear h0 hI
             unfold F_dump_Check_L3 at h
             refine Yp P1 [1, 51, 52, 53, 58, 59, 60, 61] ?_
             refine Ys ?_
             refine Yc h (fun h => ?_) fun h => ?_
             · refine Yskip ?_
               refine Ys ?_
               refine Yd 5 ?_
               refine Yt ?_
               refine Yn P1 ?_
               obtain ⟨hp_31, h⟩ := h
               refine Yu 58 (fun pp => .slice pp v58.len v58.cap) hp_31 ?_
               refine Yi h fun h => ?_
               refine YL h fun v64 h => ?_
               refine Yw pv_ h fun b_2 w9 h => ?_
               refine Yn P1 ?_
               refine Yo h fun w10 h => ?_
               refine Yu 58 (fun pp => .slice pp v58.len v58.cap) hp_31.symm ?_
               refine Yf [] [1, 10, 11, 51, 52, 53, 58, 59, 60] ?_
               refine Ys ?_
               refine Ycut (fun l w => ∃ (t77 : Bool), l = [(1, pv_ b_), (11, pv_ b_2), (51, sv_ v51), (52, Value.int .i64 ((v51.len : Nat) : Int)), (53, Value.int .i64 t53), (58, sv_ v58), (59, Value.int .i64 ((v58.len : Nat) : Int)), (60, Value.int .i64 t60), (77, Value.bool t77)] ∧ F_dump_Check_k4 R b_ t60 again_2 b_2 t77 w) ?_ ?_
               · refine Yr ?_
                 refine Yn P1 ?_
                 refine Yl h fun v66 h => ?_
                 refine Yn P1 ?_
                 refine Yl h fun v68 h => ?_
                 refine Yn (Pl 6) ?_
                 refine Yspl 70 h (fun h => ?_) fun h => ?_
                 · refine Yspl 73 h (fun h => ?_) fun h => ?_
                   · refine Yf [.skip, .sure, .plain] [1, 11, 51, 52, 53, 58, 59, 60, 77] ?_
                     exact ⟨_, Sub.mk (by kernel_rfl), true, rfl, h⟩
                   · refine Yl h fun v75 h => ?_
                     refine Yf [.sure, .plain] [1, 11, 51, 52, 53, 58, 59, 60, 77] ?_
                     exact ⟨_, Sub.mk (by kernel_rfl), v75, rfl, h⟩
                 · refine Yf [.skip, .skip, .plain] [1, 11, 51, 52, 53, 58, 59, 60, 77] ?_
                   exact ⟨_, Sub.mk (by kernel_rfl), false, rfl, h⟩
               · rintro _ w11 ⟨t77, rfl, h⟩
                 unfold F_dump_Check_k4 at h
                 refine Yc h (fun h => ?_) fun h => ?_
                 · refine Yp P1 [2] ?_
                   exact YS ⟨1, rfl, h⟩
                 · refine Yskip ?_
                   refine Yt ?_
                   refine Yn P1 ?_
                   refine Yl h fun v80 h => ?_
                   refine Yn P1 ?_
                   refine Yl h fun v82 h => ?_
                   refine Ym2 h fun v83 ok w12 h => ?_
                   refine Yf (Pl 5) [1, 11, 13, 51, 52, 53, 58, 59, 60] ?_
                   refine Yt ?_
                   refine Yn P1 ?_
                   refine Yl h fun v87 h => ?_
                   refine Yn P1 ?_
                   refine Yl h fun v89 h => ?_
                   refine Yf [.plain, .plain, .plain, .plain, .pick] [1, 51, 52, 53, 58, 59, 60, 94] ?_
                   refine Yc h (fun h => ?_) fun h => ?_
                   · refine Yp P1 [2] ?_
                     exact YS ⟨1, rfl, h⟩
                   · refine Yskip ?_
                     refine Yr ?_
                     refine Yf P2 [1, 51, 52, 53, 58, 59, 60] ?_
                     have hb_ := again_2_h _ _ h
                     exact ⟨_, hb_.2, _, Sub.mk (by kernel_rfl), (IntKind.i64.wrap (t60 + 1)), rfl, hb_.1, rfl⟩
             · refine Yexit 4 ?_
               refine Yr ?_
               refine Yf P2 [1, 51, 52, 53] ?_
               have hb_ := again_1_h _ _ h
               exact ⟨_, hb_.2, _, Sub.mk (by kernel_rfl), (IntKind.i64.wrap (t53 + 1)), rfl, hb_.1, rfl⟩
           · refine Yexit 2 ?_
             refine Yp P1 [2] ?_
             exact YS ⟨0, rfl, h⟩
end
end Go.Proofs.YtpdegdnigcnjiaaGreatDoor
