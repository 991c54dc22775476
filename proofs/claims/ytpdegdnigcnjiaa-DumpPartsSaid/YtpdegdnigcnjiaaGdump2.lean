/- WRITTEN BY PROGRAM (dec.py): for each Go function the clean formula F, the call's contract C, and the proof S that F gives C. -/
import Derived.Test.YtpdegdnigcnjiaaRows
import Derived.Test.YtpdegdnigcnjiaaGF
namespace Go.Proofs.Ytpdegdnigcnjiaa
open Go
set_option linter.unusedVariables false
set_option maxRecDepth 100000
set_option maxHeartbeats 4000000
noncomputable section

/-! ### towpath/dump.Split (function 31) -/
def c31_0 := cb_ Try.f31
def c31_3 := cr_ c31_0
def c31_16 := cr_ c31_3
def c31_29 := cr_ c31_16
def c31_32 := cr_ c31_29
def c31_33 := cl_ c31_32
def c31_36 := cr_ c31_33
def c31_37 := cl_ c31_36
def c31_38 := cl_ c31_37
def c31_41 := cr_ c31_38
def c31_45 := cr_ c31_41
def c31_46 := cl_ c31_45
def c31_47 := cl_ c31_46
def c31_50 := cr_ c31_47
def c31_53 := cr_ c31_50
def c31_56 := cr_ c31_53
def r31_56 := co_ c31_56
def o_dump_Split_56 : List Nat := [0, 1, 2, 3, 4, 5, 6, 7, 8, 9, 10, 11, 12, 13, 14, 15]

theorem S_dump_Split {c : T_api_Config} {s : T_api_Saved} {w : World} {R : Slc → Int → World → Prop} (h : F_dump_Split c s R w) : C_dump_Split c s w R := by
 unfold F_dump_Split at h
 refine Yh Try.func31 ?_
 · refine Yt ?_
   refine Yw pv_ h fun b_ w1 h => ?_
   refine Yw pv_ h fun b_1 w2 h => ?_
   refine Yf P2 [2, 3] ?_
   refine Ys ?_
   refine Yt ?_
   refine YL h fun v13 h => ?_
   refine Ym1 h fun v14 w3 h => ?_
   refine Yf P1 [2, 3, 6] ?_
   refine Yp P2 [2, 3, 6, 16] ?_
   refine Yc h (fun h => ?_) fun h => ?_
   · refine Yp P3 [4, 5] ?_
     exact YT2 ⟨(Slc.mk none 0 0), v14, rfl, h⟩
   · refine Yskip ?_
     refine Ys ?_
     refine Yt ?_
     refine YL h fun v18 h => ?_
     refine Ym1 h fun v19 w4 h => ?_
     refine Yf P1 [2, 3, 7] ?_
     refine Yp P2 [2, 3, 7, 21] ?_
     refine Yc h (fun h => ?_) fun h => ?_
     · refine Yp P3 [4, 5] ?_
       exact YT2 ⟨(Slc.mk none 0 0), v19, rfl, h⟩
     · refine Yskip ?_
       refine Yt ?_
       refine Yn P1 ?_
       refine Yl h fun v24 h => ?_
       obtain ⟨h0, h1, h2, h⟩ := h
       refine reg_makeSlice (t := 66) (e := 26) (lo := (Operand.tmp 24)) (co := (Operand.tmp 24)) (l := v24) (c := v24) (sz := 1) (by_ := 24) (zs := [Value.slice none 0 0]) (ty := 66) (dst := some 25) (by kernel_rfl) (by kernel_rfl) (by kernel_rfl) (by kernel_rfl) (by kernel_rfl) (by kernel_rfl) (by kernel_rfl) (by kernel_rfl) (by kernel_rfl) h0 h1 h2 (fun b_2 w5 hb hw => ?_)
       replace h := h b_2 w5 hb hw
       clear hb hw
       refine Yf P1 [2, 3, 8] ?_
       refine Ys ?_
       refine Yt ?_
       refine Yn P1 ?_
       refine Yl h fun v27 h => ?_
       refine Yf P2 [2, 3, 8, 28, 29] ?_
       refine Yd 0 ?_
       obtain ⟨I, μ, h0, hr⟩ := h
       refine Yloop (fun m l w => ∃ (t29 : Int), l = [(2, pv_ b_), (3, pv_ b_1), (8, Value.slice (some ⟨b_2, 0, none⟩) v24.toNat v24.toNat), (28, Value.int .i64 ((v27.len : Nat) : Int)), (29, Value.int .i64 t29)] ∧ I t29 w ∧ μ t29 w = m) ⟨0, rfl, h0, rfl⟩ ?_
       rintro _ _ w6 ⟨t29, rfl, hI, rfl⟩
       obtain ⟨again_, again__h, h⟩ : ∃ again_ : Int → World → Prop, (∀ t29' w', again_ t29' w' → I t29' w' ∧ μ t29' w' < μ t29 w6) ∧ F_dump_Split_L0 R b_ b_1 v24 b_2 v27 again_ t29 w6 := ⟨_, fun _ _ h => h, hr t29 w6 hI⟩
       clear h0 hI
       unfold F_dump_Split_L0 at h
       refine Yp P1 [2, 3, 8, 28, 29, 30] ?_
       refine Ys ?_
       refine Yc h (fun h => ?_) fun h => ?_
       · refine Yskip ?_
         refine Ys ?_
         refine Yd 1 ?_
         refine Yp P2 [2, 3, 8, 9, 28, 29] ?_
         refine Yt ?_
         refine Yn P1 ?_
         refine Yl h fun v33 h => ?_
         refine Yn P1 ?_
         obtain ⟨hp_7, h⟩ := h
         refine Yu 33 (fun pp => .slice pp v33.len v33.cap) hp_7 ?_
         refine Yi h fun h => ?_
         refine YL h fun v36 h => ?_
         refine Yw pv_ h fun b_3 w7 h => ?_
         refine Yo h fun w8 h => ?_
         refine Yf [] [2, 3, 8, 10, 28, 29] ?_
         refine Yt ?_
         refine YL h fun v38 h => ?_
         refine Yn P1 ?_
         refine Yl h fun v40 h => ?_
         refine Ym2 h fun n_ v41_1 w9 h => ?_
         refine Yf (Pl 5) [2, 3, 8, 10, 11, 28, 29] ?_
         refine wpE_mixregion (id := 13) (ops := r31_56) o_dump_Split_56 (by kernel_rfl) (by kernel_rfl) (by kernel_rfl) (by kernel_rfl) (fun w10 hw => ?_)
         replace h := h w10 hw
         clear hw
         refine Mn P4 ?_
         refine Mi1 4 h fun h => ?_
         refine Ml 5 h fun v49 hc h => ?_
         refine Mn P1 ?_
         refine Ml 7 h fun v51 hc h => ?_
         refine Mn P1 ?_
         refine Ml 9 h fun v53 hc h => ?_
         refine mreg_enter (op := (Op.call (Call.mk (Callee.value (Operand.func 63)) #[(Operand.tmp 53)] #[71]))) (ty := 71) (dst := some 54) 10 [9, 8] [(7, fun w' => w'.cell? ⟨b_3, 0, none⟩ = some (Value.string v51)), (5, fun w' => w'.cell? ⟨b_2, 0 + n_.toNat, none⟩ = some (sv_ v49))] 63 #[sv_ v53] (by kernel_rfl) (by kernel_rfl) (by kernel_rfl) (by kernel_rfl) (by kernel_rfl) (fun ww => by kernel_rfl) (Calls.mono h ?_)
         rintro _ w11 ⟨v54, rfl, h⟩
         obtain ⟨hk0, hk1, h⟩ := h
         refine ⟨_, rfl, ⟨hk0, hk1, trivial⟩, ?_⟩
         refine Mn P1 ?_
         refine mreg_new (op := (Op.buildSlice 26 1 #[(0, (Operand.tmp 55))])) (ty := 26) (dst := some 56) 12 [11, 7, 10, 6, 9, 8] [(5, fun w' => w'.cell? ⟨b_2, 0 + n_.toNat, none⟩ = some (sv_ v49))] (fun bb => Value.slice (some ⟨bb, 0, none⟩) 1 1) (Obj.cells ([Value.string v51, sv_ v54]).toArray ty_api_Held (0, 0)) (by kernel_rfl) (by kernel_rfl) (by kernel_rfl) (by kernel_rfl) (by kernel_rfl) (by kernel_rfl) (fun b_4 w12 hb hw => ?_)
         replace h := h b_4 w12 hb hw
         clear hb hw
         obtain ⟨hk0, h⟩ := h
         refine ⟨⟨hk0, trivial⟩, ?_⟩
         obtain ⟨src, hs, h⟩ := h
         refine mreg_append (t := 26) (tx := 26) (e := 73) (a := (Operand.tmp 49)) (xo := (Operand.tmp 56)) (s := v49) (x := (Slc.mk (some ⟨b_4, 0, none⟩) 1 1)) (sz := 2) (by_ := 40) (zs := [Value.string ByteArray.empty, Value.slice none 0 0]) (ty := 26) (dst := some 57) 13 [5, 10, 12, 4, 9, 11, 2, 3, 8, 7, 6] [] src (by kernel_rfl) (by kernel_rfl) (by kernel_rfl) (by kernel_rfl) (by kernel_rfl) (by kernel_rfl) (by kernel_rfl) (by kernel_rfl) (by kernel_rfl) (by kernel_rfl) (by kernel_rfl) (by kernel_rfl) (by kernel_rfl) hs (AppendW.mono h (fun v57 w13 h => ?_))
         refine ⟨trivial, ?_⟩
         refine Mi1 14 h fun h => ?_
         refine Mstore 15 [0, 1, 2, 3, 4, 5, 6, 7, 8, 9, 10, 11, 12, 13, 14] [] h fun w14 h => ?_
         refine ⟨trivial, ?_⟩
         refine Mf [] [2, 3, 8, 28, 29] ?_
         refine Yr ?_
         refine Yf P2 [2, 3, 8, 28, 29] ?_
         have hb_ := again__h _ _ h
         exact ⟨_, hb_.2, _, Sub.mk (by kernel_rfl), (IntKind.i64.wrap (t29 + 1)), rfl, hb_.1, rfl⟩
       · refine Yexit 0 ?_
         refine Yp P3 [4, 5] ?_
         exact YT2 ⟨(Slc.mk (some ⟨b_2, 0, none⟩) v24.toNat v24.toNat), 0, rfl, h⟩

/-! ### towpath/dump.Decode$1 (function 38) -/
def c38_0 := cb_ Try.f38
def c38_3 := cr_ c38_0
def c38_4 := cl_ c38_3
def c38_5 := cl_ c38_4
def c38_8 := cr_ c38_5
def c38_10 := cr_ c38_8
def c38_11 := cl_ c38_10
def r38_11 := co_ c38_11
def o_dump_Decode_1_11 : List Nat := [0, 2, 1, 3, 4]

theorem S_dump_Decode_1 {is : Bool} {f : Int} {t2 : Option Addr} {t3 : Option Addr} {t4 : Option Addr} {w : World} {R : Bool → World → Prop} (h : F_dump_Decode_1 is f t2 t3 t4 R w) : C_dump_Decode_1 is f t2 t3 t4 w R := by
 unfold F_dump_Decode_1 at h
 refine Yh Try.func38 ?_
 · refine Yp P1 [0, 1, 2, 3, 4] ?_
   refine Ycut (fun l w => l = [(2, Value.pointer t2), (3, Value.pointer t3), (4, Value.pointer t4)] ∧ F_dump_Decode_1_k0 t2 t3 t4 R w) ?_ ?_
   · refine Yd 0 ?_
     refine Yt ?_
     refine Yv 2 h fun hp_20 h => ?_
     refine Yl h fun v9 h => ?_
     refine Yn P2 ?_
     refine Yu 2 (fun pp => .pointer pp) hp_20.symm ?_
     refine Yf [] [0, 1, 2, 3, 4, 8] ?_
     refine Yc h (fun h => ?_) fun h => ?_
     · refine Yskip ?_
       exact ⟨_, Sub.mk (by kernel_rfl), rfl, h⟩
     · refine Ys ?_
       refine wpE_mixregion (id := 2) (ops := r38_11) o_dump_Decode_1_11 (by kernel_rfl) (by kernel_rfl) (by kernel_rfl) (by kernel_rfl) (fun w4 hw => ?_)
       replace h := h w4 hw
       clear hw
       refine Mv 3 h fun hp_23 h => ?_
       refine Ml 0 h fun v12 hc h => ?_
       refine Mv 4 h fun hp_24 h => ?_
       refine Ml 2 h fun v14 hc h => ?_
       refine mreg_enter (op := (Op.call (Call.mk (Callee.value (Operand.func 39)) #[(Operand.tmp 12)] #[82]))) (ty := 3) (dst := some 13) 1 [0] [(2, fun w' => w'.cell? ⟨(pblk t4), (poff t4), none⟩ = some (Value.int .i64 v14))] 39 #[Value.pointer v12] (by kernel_rfl) (by kernel_rfl) (by kernel_rfl) (by kernel_rfl) (by kernel_rfl) (fun ww => by kernel_rfl) (Calls.mono h ?_)
       rintro _ w5 ⟨v13, rfl, h⟩
       obtain ⟨hk0, h⟩ := h
       refine ⟨_, rfl, ⟨hk0, trivial⟩, ?_⟩
       refine Mn P2 ?_
       refine Mu 3 (fun pp => .pointer pp) hp_23.symm ?_
       refine Mu 4 (fun pp => .pointer pp) hp_24.symm ?_
       refine Mf [] [0, 1, 2, 3, 4, 11] ?_
       refine Yc h (fun h => ?_) fun h => ?_
       · refine Yt ?_
         refine Yv 3 h fun hp_27 h => ?_
         refine Yl h fun v16 h => ?_
         refine Ym1 h fun v17 w6 h => ?_
         refine Yv 2 h fun hp_28 h => ?_
         refine Yo h fun w7 h => ?_
         refine Yu 3 (fun pp => .pointer pp) hp_27.symm ?_
         refine Yu 2 (fun pp => .pointer pp) hp_28.symm ?_
         refine Yf [] [2, 3, 4] ?_
         refine Yt ?_
         refine Yv 2 h fun hp_30 h => ?_
         refine Yl h fun v18 h => ?_
         refine Yn P1 ?_
         refine Yu 2 (fun pp => .pointer pp) hp_30.symm ?_
         refine Yf [] [2, 3, 4, 19] ?_
         refine Yc h (fun h => ?_) fun h => ?_
         · refine Yr ?_
           refine Yv 2 h fun hp_31 h => ?_
           refine Yo h fun w8 h => ?_
           refine Yu 2 (fun pp => .pointer pp) hp_31.symm ?_
           refine Yf [] [2, 3, 4] ?_
           exact ⟨_, Sub.mk (by kernel_rfl), rfl, h⟩
         · refine Yskip ?_
           exact ⟨_, Sub.mk (by kernel_rfl), rfl, h⟩
       · refine Yp P2 [1, 2, 3, 4, 20] ?_
         refine Yc h (fun h => ?_) fun h => ?_
         · refine Yr ?_
           refine Yn P1 ?_
           refine Yv 2 h fun hp_32 h => ?_
           refine Yo h fun w9 h => ?_
           refine Yu 2 (fun pp => .pointer pp) hp_32.symm ?_
           refine Yf [] [2, 3, 4] ?_
           exact ⟨_, Sub.mk (by kernel_rfl), rfl, h⟩
         · refine Yskip ?_
           exact ⟨_, Sub.mk (by kernel_rfl), rfl, h⟩
   · rintro _ w1 ⟨rfl, h⟩
     unfold F_dump_Decode_1_k0 at h
     refine Yt ?_
     refine Yv 3 h fun hp_16 h => ?_
     refine Yl h fun v23 h => ?_
     refine Ym1 h fun v24 w2 h => ?_
     refine Yv 4 h fun hp_17 h => ?_
     refine Yo h fun w3 h => ?_
     refine Yf [] [2] ?_
     refine Yt ?_
     refine Yv 2 h fun hp_18 h => ?_
     refine Yl h fun v25 h => ?_
     refine Yf P2 [7] ?_
     exact YS ⟨(v25 != 0), rfl, h⟩

/-! ### towpath/dump.Decode$2 (function 41) -/

theorem S_dump_Decode_2 {t0 : Option Addr} {t1 : Option Addr} {t2 : Option Addr} {w : World} {R : Int → World → Prop} (h : F_dump_Decode_2 t0 t1 t2 R w) : C_dump_Decode_2 t0 t1 t2 w R := by
 unfold F_dump_Decode_2 at h
 refine Yh Try.func41 ?_
 · refine Yp P1 [0, 1, 2] ?_
   refine Ys ?_
   refine Yt ?_
   refine Yv 0 h fun hp_3 h => ?_
   refine Yl h fun v5 h => ?_
   refine Yf P1 [1, 2, 6] ?_
   refine Yc h (fun h => ?_) fun h => ?_
   · refine Yp P1 [3] ?_
     exact YS ⟨0, rfl, h⟩
   · refine Yskip ?_
     refine Yt ?_
     refine Yv 1 h fun hp_5 h => ?_
     refine Yl h fun v7 h => ?_
     refine Ym1 h fun v8 w1 h => ?_
     refine Yf P1 [2, 4] ?_
     refine Ys ?_
     refine Yt ?_
     refine Yv 2 h fun hp_9 h => ?_
     refine Yl h fun v9 h => ?_
     refine Yn P2 ?_
     refine reg_enterV (fo := (Operand.tmp 9)) (aa := #[(Operand.tmp 11), (Operand.const (Value.int IntKind.i64 3))]) (ts := #[4, 29]) (fv := v9) (ty := 4) (dst := some 12) #[Value.bool (decide (v8 > 65536)), Value.int .i64 3] (by kernel_rfl) (by kernel_rfl) (by kernel_rfl) (CallsV.mono h ?_)
     rintro _ w2 ⟨v12, rfl, h⟩
     refine ⟨_, rfl, ?_⟩
     refine Yf [] [4, 12] ?_
     refine Yc h (fun h => ?_) fun h => ?_
     · refine Yp P1 [3] ?_
       exact YS ⟨0, rfl, h⟩
     · refine Yskip ?_
       refine Yp P3 [3] ?_
       exact YS ⟨(IntKind.i64.wrap v8), rfl, h⟩

/-! ### towpath/dump.Decode$3 (function 43) -/

theorem S_dump_Decode_3 {t0 : Option Addr} {t1 : Option Addr} {t2 : Option Addr} {t3 : Option Addr} {w : World} {R : T_api_Version → World → Prop} (h : F_dump_Decode_3 t0 t1 t2 t3 R w) : C_dump_Decode_3 t0 t1 t2 t3 w R := by
 unfold F_dump_Decode_3 at h
 refine Yh Try.func43 ?_
 · refine Yt ?_
   refine Yw pv_ h fun b_ w1 h => ?_
   refine Yf [] [0, 1, 2, 3, 4] ?_
   refine Yt ?_
   refine Yv 0 h fun hp_1 h => ?_
   refine Yl h fun v6 h => ?_
   refine reg_enterV (fo := (Operand.tmp 6)) (aa := #[]) (ts := #[]) (fv := v6) (ty := 3) (dst := some 7) #[] (by kernel_rfl) (by kernel_rfl) (by kernel_rfl) (CallsV.mono h ?_)
   rintro _ w2 ⟨v7, rfl, h⟩
   refine ⟨_, rfl, ?_⟩
   refine Yn P1 ?_
   refine Yo h fun w3 h => ?_
   refine Yf [] [1, 2, 3, 4] ?_
   refine Ys ?_
   refine Yt ?_
   refine Yv 1 h fun hp_5 h => ?_
   refine Yl h fun v9 h => ?_
   refine Yf P1 [2, 3, 4, 10] ?_
   refine Yc h (fun h => ?_) fun h => ?_
   · refine Yt ?_
     refine YL h fun v11 h => ?_
     refine Yo h fun w4 h => ?_
     refine Yf [] [4] ?_
     obtain ⟨res, hc_res, h⟩ := h
     exact YSg (rs := [(ResultVar.cell 4 89)]) (v := Value.agg #[Value.int .i64 res.Number, Value.string res.Val, Value.bool res.Drop]) (⟨b_, 0, [Value.int .i64 res.Number, Value.string res.Val, Value.bool res.Drop], by kernel_rfl, hc_res, (sizeP_of (k := 3) (by kernel_rfl) (by kernel_rfl)), .inl ⟨by kernel_rfl, rfl⟩, trivial⟩) ⟨res, rfl, h⟩
   · refine Yskip ?_
     refine Yt ?_
     refine Yv 2 h fun hp_7 h => ?_
     refine Yl h fun v12 h => ?_
     refine Ym1 h fun v13 w5 h => ?_
     refine Yn P1 ?_
     refine Yu 2 (fun pp => .pointer pp) hp_7.symm ?_
     refine Yf [] [2, 3, 4, 5] ?_
     refine Ycut (fun l w => l = [(4, pv_ b_)] ∧ F_dump_Decode_3_k0 R b_ w) ?_ ?_
     · refine Yt ?_
       refine Yn P3 ?_
       refine Yo h fun w8 h => ?_
       refine Yf [] [2, 3, 4, 5] ?_
       refine Ycut (fun l w => ∃ (t26 : Bool), l = [(2, Value.pointer t2), (3, Value.pointer t3), (4, pv_ b_), (26, Value.bool t26)] ∧ F_dump_Decode_3_k1 t2 t3 R b_ t26 w) ?_ ?_
       · refine Yr ?_
         refine Yv 3 h fun hp_17 h => ?_
         refine Yl h fun v17 h => ?_
         refine Yn P2 ?_
         refine reg_enterV (fo := (Operand.tmp 17)) (aa := #[(Operand.tmp 19), (Operand.const (Value.int IntKind.i64 4))]) (ts := #[4, 29]) (fv := v17) (ty := 4) (dst := some 20) #[Value.bool (decide (v13 > 1)), Value.int .i64 4] (by kernel_rfl) (by kernel_rfl) (by kernel_rfl) (CallsV.mono h ?_)
         rintro _ w13 ⟨v20, rfl, h⟩
         refine ⟨_, rfl, ?_⟩
         refine Yn P3 ?_
         refine Yspl 22 h (fun h => ?_) fun h => ?_
         · refine Yl h fun v24 h => ?_
           refine Yn [.sure, .plain] ?_
           refine Yu 3 (fun pp => .pointer pp) hp_17.symm ?_
           refine Yf [] [2, 3, 4, 26] ?_
           exact ⟨_, Sub.mk (by kernel_rfl), (!v24), rfl, h⟩
         · refine Yn [.skip, .skip, .plain] ?_
           refine Yu 3 (fun pp => .pointer pp) hp_17.symm ?_
           refine Yf [] [2, 3, 4, 26] ?_
           exact ⟨_, Sub.mk (by kernel_rfl), false, rfl, h⟩
       · rintro _ w9 ⟨t26, rfl, h⟩
         unfold F_dump_Decode_3_k1 at h
         refine Yc h (fun h => ?_) fun h => ?_
         · refine Yt ?_
           refine Yv 2 h fun hp_15 h => ?_
           refine Yl h fun v27 h => ?_
           refine Ym1 h fun v28 w10 h => ?_
           refine Yn P1 ?_
           refine Yo h fun w11 h => ?_
           refine Yf [] [3, 4] ?_
           refine Yr ?_
           refine Yv 3 h fun hp_16 h => ?_
           refine Yl h fun v30 h => ?_
           refine reg_enterV (fo := (Operand.tmp 30)) (aa := #[(Operand.const (Value.bool false)), (Operand.const (Value.int IntKind.i64 0))]) (ts := #[4, 29]) (fv := v30) (ty := 4) (dst := some 31) #[Value.bool false, Value.int .i64 0] (by kernel_rfl) (by kernel_rfl) (by kernel_rfl) (CallsV.mono h ?_)
           rintro _ w12 ⟨v31, rfl, h⟩
           refine ⟨_, rfl, ?_⟩
           refine Yf [] [4] ?_
           exact ⟨_, Sub.mk (by kernel_rfl), rfl, h⟩
         · refine Yskip ?_
           exact ⟨_, Sub.mk (by kernel_rfl), rfl, h⟩
     · rintro _ w6 ⟨rfl, h⟩
       unfold F_dump_Decode_3_k0 at h
       refine Yt ?_
       refine YL h fun v32 h => ?_
       refine Yo h fun w7 h => ?_
       refine Yf [] [4] ?_
       obtain ⟨res1, hc_res1, h⟩ := h
       exact YSg (rs := [(ResultVar.cell 4 89)]) (v := Value.agg #[Value.int .i64 res1.Number, Value.string res1.Val, Value.bool res1.Drop]) (⟨b_, 0, [Value.int .i64 res1.Number, Value.string res1.Val, Value.bool res1.Drop], by kernel_rfl, hc_res1, (sizeP_of (k := 3) (by kernel_rfl) (by kernel_rfl)), .inl ⟨by kernel_rfl, rfl⟩, trivial⟩) ⟨res1, rfl, h⟩
end
end Go.Proofs.Ytpdegdnigcnjiaa
