/- WRITTEN BY PROGRAM (dec.py): for each Go function the clean formula F, the call's contract C, and the proof S that F gives C. -/
import Derived.Test.YtpedclhflmhakaaRows
import Derived.Test.YtpedclhflmhakaaGF
namespace Go.Proofs.Ytpedclhflmhakaa
open Go
set_option linter.unusedVariables false
set_option maxRecDepth 100000
set_option maxHeartbeats 4000000
noncomputable section

/-! ### (*towpath/call.Task).All (function 35) -/
def c35_0 := cb_ Try.f35
def c35_3 := cr_ c35_0
def c35_4 := cl_ c35_3
def r35_4 := co_ c35_4
def o_call_Task_All_4 : List Nat := [0, 1, 2, 3, 4, 5, 6, 7, 8, 9, 10, 11, 12, 13, 14, 15, 16, 17, 18, 19, 20, 21, 22, 23, 24, 25, 26, 27, 28]

theorem S_call_Task_All {t_ : Option Addr} {w : World} {R : Bool → World → Prop} (h : F_call_Task_All t_ R w) : C_call_Task_All t_ w R := by
 unfold F_call_Task_All at h
 refine Yh Try.func35 ?_
 · refine Yp P1 [0] ?_
   refine Ys ?_
   refine wpE_mixregion (id := 1) (ops := r35_4) o_call_Task_All_4 (by kernel_rfl) (by kernel_rfl) (by kernel_rfl) (by kernel_rfl) (fun w1 hw => ?_)
   replace h := h w1 hw
   clear hw
   refine Mn P1 ?_
   refine mreg_enter (op := (Op.call (Call.mk (Callee.value (Operand.func 63)) #[(Operand.tmp 3)] #[72]))) (ty := 4) (dst := some 4) 1 [0] [] 63 #[Value.pointer t_] (by kernel_rfl) (by kernel_rfl) (by kernel_rfl) (by kernel_rfl) (by kernel_rfl) (fun ww => by kernel_rfl) (Calls.mono h ?_)
   rintro _ w2 ⟨v4, rfl, h⟩
   refine ⟨_, rfl, trivial, ?_⟩
   refine Mn P2 ?_
   refine Mspl 5 h (fun h => ?_) fun h => ?_
   · refine Mv 6 h fun hp_0 h => ?_
     refine Mn [.sure] ?_
     refine Mn [.sure] ?_
     refine Ml 6 h fun v9 hc h => ?_
     refine Mn P3 ?_
     refine Mspl 11 h (fun h => ?_) fun h => ?_
     · refine Mv 12 h fun hp_1 h => ?_
       refine Mn [.sure] ?_
       refine Mn [.sure] ?_
       refine Ml 12 h fun v15 hc h => ?_
       refine Mn [.sure, .sure, .plain, .plain, .plain] ?_
       refine Mspl 19 h (fun h => ?_) fun h => ?_
       · refine Mv 20 h fun hp_2 h => ?_
         refine Mn [.sure] ?_
         refine Mn [.sure] ?_
         refine Ml 20 h fun v23 hc h => ?_
         refine Mn [.sure, .sure] ?_
         refine Mv 25 h fun hp_3 h => ?_
         refine Mn [.sure] ?_
         refine Mn [.sure] ?_
         refine Ml 25 h fun v28 hc h => ?_
         refine Mf [.sure, .plain, .plain] [2] ?_
         exact YS ⟨(((v23.len : Nat) : Int) == v28), rfl, h⟩
       · refine Mf [.skip, .skip, .skip, .skip, .skip, .skip, .skip, .skip, .skip, .plain, .plain] [2] ?_
         exact YS ⟨false, rfl, h⟩
     · refine Mf [.skip, .skip, .skip, .skip, .skip, .plain, .plain, .skip, .skip, .skip, .skip, .skip, .skip, .skip, .skip, .skip, .skip, .plain, .plain] [2] ?_
       exact YS ⟨false, rfl, h⟩
   · refine Mf [.skip, .skip, .skip, .plain, .plain, .skip, .skip, .skip, .skip, .skip, .skip, .plain, .plain, .skip, .skip, .skip, .skip, .skip, .skip, .skip, .skip, .skip, .skip, .plain, .plain] [2] ?_
     exact YS ⟨false, rfl, h⟩

/-! ### (*towpath/call.Task).Sent (function 36) -/

theorem S_call_Task_Sent {t_ : Option Addr} {w : World} {R : Int → World → Prop} (h : F_call_Task_Sent t_ R w) : C_call_Task_Sent t_ w R := by
 unfold F_call_Task_Sent at h
 refine Yh Try.func36 ?_
 · refine Yp P1 [0] ?_
   refine Ys ?_
   refine Yd 0 ?_
   refine Yt ?_
   refine Yn P1 ?_
   refine Ym1 h fun v5 w1 h => ?_
   refine Yf P2 [0, 3] ?_
   refine Yc h (fun h => ?_) fun h => ?_
   · refine Yp P1 [2] ?_
     exact YS ⟨2, rfl, h⟩
   · refine Yt ?_
     refine Yn P1 ?_
     refine Yv 8 h fun hp_3 h => ?_
     refine Yn P1 ?_
     refine Yn P1 ?_
     refine Yl h fun v11 h => ?_
     refine Yf P3 [0, 7] ?_
     refine Yc h (fun h => ?_) fun h => ?_
     · refine Yp P1 [2] ?_
       exact YS ⟨9, rfl, h⟩
     · refine Yskip ?_
       refine Yt ?_
       refine Yn P2 ?_
       refine Yv 15 h fun hp_6 h => ?_
       refine Yn P1 ?_
       refine Yn P1 ?_
       refine Yl h fun v18 h => ?_
       obtain ⟨hc, h⟩ := h
       refine reg_slice (t := 100) (e := 133) (x := (Operand.tmp 18)) (lo := (Operand.const (Value.int IntKind.i64 1))) (s := v18) (sz := 10) (k := .i64) (a := 1) (ty := 100) (dst := some 19) (by kernel_rfl) (by kernel_rfl) (by kernel_rfl) (by kernel_rfl) (by kernel_rfl) hc (fun s hs => ?_)
       replace h := h s hs
       clear hs
       refine Yv 14 h fun hp_7 h => ?_
       refine Yn P1 ?_
       refine Yn P1 ?_
       refine Yo h fun w2 h => ?_
       refine Yf [] [0] ?_
       refine Yt ?_
       refine Yn P1 ?_
       refine Yv 22 h fun hp_9 h => ?_
       refine Yn P1 ?_
       refine Yn P1 ?_
       refine Yl h fun v25 h => ?_
       refine Yn P3 ?_
       refine Yo h fun w3 h => ?_
       refine Yf [] [] ?_
       refine Yp P1 [2] ?_
       exact YS ⟨0, rfl, h⟩

/-! ### (*towpath/call.Task).Got (function 60) -/
def c60_0 := cb_ Try.f60
def c60_3 := cr_ c60_0
def c60_4 := cl_ c60_3
def c60_5 := cl_ c60_4
def c60_8 := cr_ c60_5
def c60_13 := cr_ c60_8
def c60_14 := cl_ c60_13
def r60_14 := co_ c60_14
def c60_16 := cr_ c60_13
def c60_21 := cr_ c60_16
def c60_22 := cl_ c60_21
def r60_22 := co_ c60_22
def c60_30 := cr_ c60_3
def c60_33 := cr_ c60_30
def c60_34 := cl_ c60_33
def c60_37 := cr_ c60_34
def c60_38 := cl_ c60_37
def c60_39 := cl_ c60_38
def c60_42 := cr_ c60_39
def c60_46 := cr_ c60_42
def c60_47 := cl_ c60_46
def c60_48 := cl_ c60_47
def c60_51 := cr_ c60_48
def r60_51 := co_ c60_51
def c60_55 := cr_ c60_33
def c60_56 := cl_ c60_55
def r60_56 := co_ c60_56
def o_call_Task_Got_51 : List Nat := [0, 1, 2, 3, 4, 5, 6, 7, 8, 9]
def o_call_Task_Got_56 : List Nat := [0, 1, 2, 3, 4, 5, 6, 7, 8, 10, 11, 12, 9, 13, 14, 15, 16, 17, 18]

theorem S_call_Task_Got {t_ : Option Addr} {r : T_api_Resp} {w : World} {R : Int → World → Prop} (h : F_call_Task_Got t_ r R w) : C_call_Task_Got t_ r w R := by
 unfold F_call_Task_Got at h
 refine Yh Try.func60 ?_
 · refine Yt ?_
   refine Yw pv_ h fun b_ w1 h => ?_
   refine Yf P1 [0, 3] ?_
   refine Ys ?_
   refine Yd 0 ?_
   refine Yt ?_
   refine Yn P1 ?_
   refine Ym1 h fun v10 w2 h => ?_
   refine Yf P2 [0, 3, 8] ?_
   refine Yc h (fun h => ?_) fun h => ?_
   · refine Yp P1 [4] ?_
     exact YS ⟨2, rfl, h⟩
   · refine Ys ?_
     refine wpE_drawregion (id := 3) (ops := r60_14) (by kernel_rfl) (by kernel_rfl) (by kernel_rfl) ?_
     refine Qn P1 ?_
     refine Qv 13 h fun hp_8 h => ?_
     refine Qn P1 ?_
     refine Qn P1 ?_
     refine Ql h fun v16 h => ?_
     refine Qn P2 ?_
     refine Qv 18 h fun hp_9 h => ?_
     refine Qn P1 ?_
     refine Qn P1 ?_
     refine Ql h fun v21 h => ?_
     refine Qf P2 [0, 3, 12] h fun w3 h => ?_
     refine Yc h (fun h => ?_) fun h => ?_
     · refine Yp P1 [4] ?_
       exact YS ⟨9, rfl, h⟩
     · refine Ys ?_
       refine wpE_drawregion (id := 5) (ops := r60_22) (by kernel_rfl) (by kernel_rfl) (by kernel_rfl) ?_
       refine Qn P1 ?_
       refine Ql h fun v25 h => ?_
       refine Qn P1 ?_
       refine Qv 26 h fun hp_11 h => ?_
       refine Qn P1 ?_
       refine Qn P1 ?_
       refine Ql h fun v29 h => ?_
       refine Qf P2 [0, 3, 23] h fun w4 h => ?_
       refine Yc h (fun h => ?_) fun h => ?_
       · refine Yp P1 [4] ?_
         exact YS ⟨1, rfl, h⟩
       · refine Yskip ?_
         refine Yt ?_
         refine Yn P1 ?_
         refine Yl h fun v32 h => ?_
         refine Yn P1 ?_
         obtain ⟨h0, h1, h2, h⟩ := h
         refine reg_makeSlice (t := 93) (e := 143) (lo := (Operand.const (Value.int IntKind.i64 0))) (co := (Operand.tmp 33)) (l := 0) (c := ((v32.len : Nat) : Int)) (sz := 2) (by_ := 40) (zs := [Value.string ByteArray.empty, Value.slice none 0 0]) (ty := 93) (dst := some 34) (by kernel_rfl) (by kernel_rfl) (by kernel_rfl) (by kernel_rfl) (by kernel_rfl) (by kernel_rfl) (by kernel_rfl) (by kernel_rfl) (by kernel_rfl) h0 h1 h2 (fun b_1 w5 hb hw => ?_)
         replace h := h b_1 w5 hb hw
         clear hb hw
         refine Yf P1 [0, 3, 5] ?_
         refine Ys ?_
         refine Yt ?_
         refine Yn P1 ?_
         refine Yl h fun v36 h => ?_
         refine Yf P2 [0, 3, 5, 36, 37, 38] ?_
         refine Yd 1 ?_
         obtain ⟨I, μ, h0, hr⟩ := h
         refine Yloop (fun m l w => ∃ (held : Slc) (t38 : Int), l = [(0, Value.pointer t_), (3, pv_ b_), (5, sv_ held), (36, sv_ v36), (37, Value.int .i64 ((v36.len : Nat) : Int)), (38, Value.int .i64 t38)] ∧ I held t38 w ∧ μ held t38 w = m) ⟨(Slc.mk (some ⟨b_1, 0, none⟩) 0 (((v32.len : Nat) : Int).toNat)), 0, rfl, h0, rfl⟩ ?_
         rintro _ _ w6 ⟨held, t38, rfl, hI, rfl⟩
         obtain ⟨again_, again__h, h⟩ : ∃ again_ : Slc → Int → World → Prop, (∀ held' t38' w', again_ held' t38' w' → I held' t38' w' ∧ μ held' t38' w' < μ held t38 w6) ∧ F_call_Task_Got_L0 t_ R b_ v36 again_ held t38 w6 := ⟨_, fun _ _ _ h => h, hr held t38 w6 hI⟩
         clear h0 hI
         unfold F_call_Task_Got_L0 at h
         refine Yp P1 [0, 3, 5, 36, 37, 38, 39] ?_
         refine Ys ?_
         refine Yc h (fun h => ?_) fun h => ?_
         · refine Yskip ?_
           refine Ys ?_
           refine Yd 2 ?_
           refine Yt ?_
           obtain ⟨hp_19, h⟩ := h
           refine Yu 36 (fun pp => .slice pp v36.len v36.cap) hp_19 ?_
           refine Yi h fun h => ?_
           refine YL h fun v41 h => ?_
           refine Yw pv_ h fun b_2 w7 h => ?_
           refine Yo h fun w8 h => ?_
           refine Yu 36 (fun pp => .slice pp v36.len v36.cap) hp_19.symm ?_
           refine Yf [] [0, 3, 5, 7, 36, 37, 38] ?_
           refine wpE_mixregion (id := 11) (ops := r60_51) o_call_Task_Got_51 (by kernel_rfl) (by kernel_rfl) (by kernel_rfl) (by kernel_rfl) (fun w9 hw => ?_)
           replace h := h w9 hw
           clear hw
           refine Mn P2 ?_
           refine Ml 2 h fun v44 hc h => ?_
           refine Mn P1 ?_
           refine Ml 4 h fun v46 hc h => ?_
           refine mreg_enter (op := (Op.call (Call.mk (Callee.value (Operand.func 88)) #[(Operand.tmp 46)] #[141]))) (ty := 141) (dst := some 47) 5 [4, 3] [(2, fun w' => w'.cell? ⟨b_2, 0, none⟩ = some (Value.string v44))] 88 #[sv_ v46] (by kernel_rfl) (by kernel_rfl) (by kernel_rfl) (by kernel_rfl) (by kernel_rfl) (fun ww => by kernel_rfl) (Calls.mono h ?_)
           rintro _ w10 ⟨v47, rfl, h⟩
           obtain ⟨hk0, h⟩ := h
           refine ⟨_, rfl, ⟨hk0, trivial⟩, ?_⟩
           refine Mn P1 ?_
           refine mreg_new (op := (Op.buildSlice 93 1 #[(0, (Operand.tmp 48))])) (ty := 93) (dst := some 49) 7 [6, 2, 5, 1, 4, 3] [] (fun bb => Value.slice (some ⟨bb, 0, none⟩) 1 1) (Obj.cells ([Value.string v44, sv_ v47]).toArray ty_api_Held (0, 0)) (by kernel_rfl) (by kernel_rfl) (by kernel_rfl) (by kernel_rfl) (by kernel_rfl) (by kernel_rfl) (fun b_3 w11 hb hw => ?_)
           replace h := h b_3 w11 hb hw
           clear hb hw
           refine ⟨trivial, ?_⟩
           obtain ⟨src, hs, h⟩ := h
           refine mreg_append (t := 93) (tx := 93) (e := 143) (a := (Operand.tmp 42)) (xo := (Operand.tmp 49)) (s := held) (x := (Slc.mk (some ⟨b_3, 0, none⟩) 1 1)) (sz := 2) (by_ := 40) (zs := [Value.string ByteArray.empty, Value.slice none 0 0]) (ty := 93) (dst := some 50) 8 [0, 5, 7, 4, 6, 3, 2, 1] [] src (by kernel_rfl) (by kernel_rfl) (by kernel_rfl) (by kernel_rfl) (by kernel_rfl) (by kernel_rfl) (by kernel_rfl) (by kernel_rfl) (by kernel_rfl) (by kernel_rfl) (by kernel_rfl) (by kernel_rfl) (by kernel_rfl) hs (AppendW.mono h (fun held1 w12 h => ?_))
           refine ⟨trivial, ?_⟩
           refine Mf P1 [0, 3, 5, 36, 37, 38] ?_
           refine Yr ?_
           refine Yf P2 [0, 3, 5, 36, 37, 38] ?_
           have hb_ := again__h _ _ _ h
           exact ⟨_, hb_.2, _, Sub.mk (by kernel_rfl), held1, (IntKind.i64.wrap (t38 + 1)), rfl, hb_.1, rfl⟩
         · refine Yexit 1 ?_
           refine Ys ?_
           refine wpE_mixregion (id := 13) (ops := r60_56) o_call_Task_Got_56 (by kernel_rfl) (by kernel_rfl) (by kernel_rfl) (by kernel_rfl) (fun w13 hw => ?_)
           replace h := h w13 hw
           clear hw
           refine Mn P2 ?_
           refine Mv 53 h fun hp_22 h => ?_
           refine Mn P1 ?_
           refine Mn P1 ?_
           refine Ml 4 h fun v56 hc h => ?_
           refine Mn P1 ?_
           refine Ml 6 h fun v58 hc h => ?_
           refine Mn P1 ?_
           refine Ml 8 h fun v60 hc h => ?_
           refine Mn P2 ?_
           refine Ml 12 h fun v64 hc h => ?_
           refine mreg_enter (op := (Op.call (Call.mk (Callee.value (Operand.func 89)) #[(Operand.tmp 60)] #[92]))) (ty := 92) (dst := some 61) 9 [8, 7] [(12, fun w' => w'.cell? ⟨b_, 4, none⟩ = some (Value.int .i64 v64)), (6, fun w' => w'.cell? ⟨b_, 1, none⟩ = some (Value.bool v58)), (4, fun w' => w'.cell? ⟨(pblk t_), (poff t_) + 12, none⟩ = some (sv_ v56))] 89 #[sv_ v60] (by kernel_rfl) (by kernel_rfl) (by kernel_rfl) (by kernel_rfl) (by kernel_rfl) (fun ww => by kernel_rfl) (Calls.mono h ?_)
           rintro _ w14 ⟨v61, rfl, h⟩
           obtain ⟨hk0, hk1, hk2, h⟩ := h
           refine ⟨_, rfl, ⟨hk0, hk1, hk2, trivial⟩, ?_⟩
           refine Mn P1 ?_
           refine mreg_new (op := (Op.buildSlice 101 1 #[(0, (Operand.tmp 65))])) (ty := 101) (dst := some 66) 14 [13, 6, 9, 10, 12, 5, 8, 11, 7] [(4, fun w' => w'.cell? ⟨(pblk t_), (poff t_) + 12, none⟩ = some (sv_ v56))] (fun bb => Value.slice (some ⟨bb, 0, none⟩) 1 1) (Obj.cells ([Value.int .i64 0, Value.bool v58, sv_ v61, sv_ held, Value.int .i64 v64]).toArray ty_api_Resp (0, 0)) (by kernel_rfl) (by kernel_rfl) (by kernel_rfl) (by kernel_rfl) (by kernel_rfl) (by kernel_rfl) (fun b_4 w15 hb hw => ?_)
           replace h := h b_4 w15 hb hw
           clear hb hw
           obtain ⟨hk0, h⟩ := h
           refine ⟨⟨hk0, trivial⟩, ?_⟩
           obtain ⟨src, hs, h⟩ := h
           refine mreg_append (t := 101) (tx := 101) (e := 95) (a := (Operand.tmp 56)) (xo := (Operand.tmp 66)) (s := v56) (x := (Slc.mk (some ⟨b_4, 0, none⟩) 1 1)) (sz := 5) (by_ := 72) (zs := [Value.int .i64 0, Value.bool false, Value.slice none 0 0, Value.slice none 0 0, Value.int .i64 0]) (ty := 101) (dst := some 67) 15 [4, 9, 14, 3, 8, 13, 2, 7, 6, 10, 12, 1, 5, 11] [] src (by kernel_rfl) (by kernel_rfl) (by kernel_rfl) (by kernel_rfl) (by kernel_rfl) (by kernel_rfl) (by kernel_rfl) (by kernel_rfl) (by kernel_rfl) (by kernel_rfl) (by kernel_rfl) (by kernel_rfl) (by kernel_rfl) hs (AppendW.mono h (fun v67 w16 h => ?_))
           refine ⟨trivial, ?_⟩
           refine Mv 52 h fun hp_23 h => ?_
           refine Mn P1 ?_
           refine Mn P1 ?_
           refine Mstore 18 [0, 1, 2, 3, 4, 5, 6, 7, 8, 9, 10, 11, 12, 13, 14, 15, 17, 16] [] h fun w17 h => ?_
           refine ⟨trivial, ?_⟩
           refine Mf [] [] ?_
           refine Yp P1 [4] ?_
           exact YS ⟨0, rfl, h⟩
end
end Go.Proofs.Ytpedclhflmhakaa
