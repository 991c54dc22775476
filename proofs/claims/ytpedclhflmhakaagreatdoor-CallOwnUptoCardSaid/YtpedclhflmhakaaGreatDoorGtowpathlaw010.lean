/- WRITTEN BY PROGRAM (dec.py): for each Go function the clean formula F, the call's contract C, and the proof S that F gives C. -/
import Derived.Test.YtpedclhflmhakaaGreatDoorRows
import Derived.Test.YtpedclhflmhakaaGreatDoorGF
namespace Go.Proofs.YtpedclhflmhakaaGreatDoor
open Go
set_option linter.unusedVariables false
set_option maxRecDepth 100000
set_option maxHeartbeats 4000000
noncomputable section

/-! ### (*towpath/towpathlaw01.Book).Apart (function 13) -/

theorem S_towpathlaw01_Book_Apart {b_ : Option Addr} {w : World} {R : Bool → World → Prop} (h : F_towpathlaw01_Book_Apart b_ R w) : C_towpathlaw01_Book_Apart b_ w R := by
 unfold F_towpathlaw01_Book_Apart at h
 refine Yh Tryz.func13 ?_
 · refine Yp P1 [0] ?_
   refine Yt ?_
   refine Yn P1 ?_
   refine Ym0 h fun w1 h => ?_
   refine Yf [] [0] ?_
   refine Yt ?_
   refine Yn P1 ?_
   refine Ym0 h fun w2 h => ?_
   refine Yf [] [0] ?_
   refine Yt ?_
   refine Yn P1 ?_
   refine Ym0 h fun w3 h => ?_
   refine Yf [] [0] ?_
   refine Yt ?_
   refine Yn P1 ?_
   refine Ym0 h fun w4 h => ?_
   refine Yf [] [0] ?_
   refine Yt ?_
   refine Yn P1 ?_
   refine Ym0 h fun w5 h => ?_
   refine Yf [] [0] ?_
   refine Yt ?_
   refine Yn P1 ?_
   refine Ym0 h fun w6 h => ?_
   refine Yf [] [0] ?_
   refine Yt ?_
   refine Yn P1 ?_
   refine Ym0 h fun w7 h => ?_
   refine Yf [] [0] ?_
   refine Yt ?_
   refine Yn P1 ?_
   refine Ym0 h fun w8 h => ?_
   refine Yf [] [0] ?_
   refine Yt ?_
   refine Yn P1 ?_
   refine Ym0 h fun w9 h => ?_
   refine Yf [] [0] ?_
   refine Yt ?_
   refine Yn P1 ?_
   refine Ym0 h fun w10 h => ?_
   refine Yf [] [0] ?_
   refine Yt ?_
   refine Yn P1 ?_
   refine Ym0 h fun w11 h => ?_
   refine Yf [] [0] ?_
   refine Yt ?_
   refine Yn P1 ?_
   refine Ym0 h fun w12 h => ?_
   refine Yf [] [0] ?_
   refine Yt ?_
   refine Yn P1 ?_
   refine Ym0 h fun w13 h => ?_
   refine Yf [] [0] ?_
   refine Yt ?_
   refine Yn P1 ?_
   refine Ym0 h fun w14 h => ?_
   refine Yf [] [0] ?_
   refine Yt ?_
   refine Yn P1 ?_
   refine Ym0 h fun w15 h => ?_
   refine Yf [] [0] ?_
   refine Yt ?_
   refine Yn P1 ?_
   refine Ym0 h fun w16 h => ?_
   refine Yf [] [0] ?_
   refine Yt ?_
   refine Yn P1 ?_
   refine Ym0 h fun w17 h => ?_
   refine Yf [] [0] ?_
   refine Yt ?_
   refine Yn P1 ?_
   refine Ym0 h fun w18 h => ?_
   refine Yf [] [0] ?_
   refine Yt ?_
   refine Yn P1 ?_
   refine Ym0 h fun w19 h => ?_
   refine Yf [] [0] ?_
   refine Yt ?_
   refine Yn P1 ?_
   refine Ym0 h fun w20 h => ?_
   refine Yf [] [0] ?_
   refine Yt ?_
   refine Yn P1 ?_
   refine Ym0 h fun w21 h => ?_
   refine Yf [] [0] ?_
   refine Yt ?_
   refine Yn P1 ?_
   refine Ym0 h fun w22 h => ?_
   refine Yf [] [0] ?_
   refine Yt ?_
   refine Yn P1 ?_
   refine Ym1 h fun v48 w23 h => ?_
   refine Yn P2 ?_
   refine Yspl 49 h (fun h => ?_) fun h => ?_
   · refine Ym1 h fun v51 w24 h => ?_
     refine Yn P3 ?_
     refine Yspl 53 h (fun h => ?_) fun h => ?_
     · refine Ym1 h fun v55 w25 h => ?_
       refine Yn P3 ?_
       refine Yspl 57 h (fun h => ?_) fun h => ?_
       · refine Ym1 h fun v59 w26 h => ?_
         refine Yn P3 ?_
         refine Yspl 61 h (fun h => ?_) fun h => ?_
         · refine Ym1 h fun v63 w27 h => ?_
           refine Yn P3 ?_
           refine Yspl 65 h (fun h => ?_) fun h => ?_
           · refine Ym1 h fun v67 w28 h => ?_
             refine Yn P3 ?_
             refine Yspl 69 h (fun h => ?_) fun h => ?_
             · refine Ym1 h fun v71 w29 h => ?_
               refine Yn P3 ?_
               refine Yspl 73 h (fun h => ?_) fun h => ?_
               · refine Ym1 h fun v75 w30 h => ?_
                 refine Yn P3 ?_
                 refine Yspl 77 h (fun h => ?_) fun h => ?_
                 · refine Ym1 h fun v79 w31 h => ?_
                   refine Yn P3 ?_
                   refine Yspl 81 h (fun h => ?_) fun h => ?_
                   · refine Ym1 h fun v83 w32 h => ?_
                     refine Yn P3 ?_
                     refine Yspl 85 h (fun h => ?_) fun h => ?_
                     · refine Ym1 h fun v87 w33 h => ?_
                       refine Yf P2 [2] ?_
                       exact YS ⟨v87, rfl, h⟩
                     · refine Yf [.skip, .plain, .plain] [2] ?_
                       exact YS ⟨false, rfl, h⟩
                   · refine Yf [.skip, .plain, .plain, .skip, .skip, .plain, .plain] [2] ?_
                     exact YS ⟨false, rfl, h⟩
                 · refine Yf [.skip, .plain, .plain, .skip, .skip, .plain, .plain, .skip, .skip, .plain, .plain] [2] ?_
                   exact YS ⟨false, rfl, h⟩
               · refine Yf [.skip, .plain, .plain, .skip, .skip, .plain, .plain, .skip, .skip, .plain, .plain, .skip, .skip, .plain, .plain] [2] ?_
                 exact YS ⟨false, rfl, h⟩
             · refine Yf [.skip, .plain, .plain, .skip, .skip, .plain, .plain, .skip, .skip, .plain, .plain, .skip, .skip, .plain, .plain, .skip, .skip, .plain, .plain] [2] ?_
               exact YS ⟨false, rfl, h⟩
           · refine Yf [.skip, .plain, .plain, .skip, .skip, .plain, .plain, .skip, .skip, .plain, .plain, .skip, .skip, .plain, .plain, .skip, .skip, .plain, .plain, .skip, .skip, .plain, .plain] [2] ?_
             exact YS ⟨false, rfl, h⟩
         · refine Yf [.skip, .plain, .plain, .skip, .skip, .plain, .plain, .skip, .skip, .plain, .plain, .skip, .skip, .plain, .plain, .skip, .skip, .plain, .plain, .skip, .skip, .plain, .plain, .skip, .skip, .plain, .plain] [2] ?_
           exact YS ⟨false, rfl, h⟩
       · refine Yf [.skip, .plain, .plain, .skip, .skip, .plain, .plain, .skip, .skip, .plain, .plain, .skip, .skip, .plain, .plain, .skip, .skip, .plain, .plain, .skip, .skip, .plain, .plain, .skip, .skip, .plain, .plain, .skip, .skip, .plain, .plain] [2] ?_
         exact YS ⟨false, rfl, h⟩
     · refine Yf [.skip, .plain, .plain, .skip, .skip, .plain, .plain, .skip, .skip, .plain, .plain, .skip, .skip, .plain, .plain, .skip, .skip, .plain, .plain, .skip, .skip, .plain, .plain, .skip, .skip, .plain, .plain, .skip, .skip, .plain, .plain, .skip, .skip, .plain, .plain] [2] ?_
       exact YS ⟨false, rfl, h⟩
   · refine Yf [.skip, .plain, .plain, .skip, .skip, .plain, .plain, .skip, .skip, .plain, .plain, .skip, .skip, .plain, .plain, .skip, .skip, .plain, .plain, .skip, .skip, .plain, .plain, .skip, .skip, .plain, .plain, .skip, .skip, .plain, .plain, .skip, .skip, .plain, .plain, .skip, .skip, .plain, .plain] [2] ?_
     exact YS ⟨false, rfl, h⟩

/-! ### towpath/towpathlaw01.TwinResp (function 18) -/
def c18_0 := cb_ Tryz.f18
def c18_3 := cr_ c18_0
def c18_4 := cl_ c18_3
def r18_4 := co_ c18_4
def o_towpathlaw01_TwinResp_4 : List Nat := [0, 1, 2, 3, 4, 5, 7, 8, 10, 11, 6, 9, 12, 13]

theorem S_towpathlaw01_TwinResp {x : T_api_Resp} {w : World} {R : T_api_Resp → World → Prop} (h : F_towpathlaw01_TwinResp x R w) : C_towpathlaw01_TwinResp x w R := by
 unfold F_towpathlaw01_TwinResp at h
 refine Yh Tryz.func18 ?_
 · refine Yt ?_
   refine Yw pv_ h fun b_ w1 h => ?_
   refine Yw pv_ h fun b_1 w2 h => ?_
   refine Yf [] [1, 2] ?_
   refine Ys ?_
   refine wpE_mixregion (id := 1) (ops := r18_4) o_towpathlaw01_TwinResp_4 (by kernel_rfl) (by kernel_rfl) (by kernel_rfl) (by kernel_rfl) (fun w3 hw => ?_)
   replace h := h w3 hw
   clear hw
   refine Mn P1 ?_
   refine Ml 1 h fun v4 hc h => ?_
   refine Mn P1 ?_
   refine Ml 3 h fun v6 hc h => ?_
   refine Mn P1 ?_
   refine Ml 5 h fun v8 hc h => ?_
   refine Mn P1 ?_
   refine Ml 8 h fun v11 hc h => ?_
   refine Mn P1 ?_
   refine Ml 11 h fun v14 hc h => ?_
   refine mreg_enter (op := (Op.call (Call.mk (Callee.value (Operand.func 77)) #[(Operand.tmp 8)] #[68]))) (ty := 68) (dst := some 9) 6 [5, 4] [(11, fun w' => w'.cell? ⟨b_, 4, none⟩ = some (Value.int .i64 v14)), (8, fun w' => w'.cell? ⟨b_, 3, none⟩ = some (sv_ v11)), (3, fun w' => w'.cell? ⟨b_, 1, none⟩ = some (Value.bool v6)), (1, fun w' => w'.cell? ⟨b_, 0, none⟩ = some (Value.int .i64 v4))] 77 #[sv_ v8] (by kernel_rfl) (by kernel_rfl) (by kernel_rfl) (by kernel_rfl) (by kernel_rfl) (fun ww => by kernel_rfl) (Calls.mono h ?_)
   rintro _ w4 ⟨v9, rfl, h⟩
   obtain ⟨hk0, hk1, hk2, hk3, h⟩ := h
   refine ⟨_, rfl, ⟨hk0, hk1, hk2, hk3, trivial⟩, ?_⟩
   refine mreg_enter (op := (Op.call (Call.mk (Callee.value (Operand.func 78)) #[(Operand.tmp 11)] #[69]))) (ty := 69) (dst := some 12) 9 [6, 8, 5, 7, 4] [(11, fun w' => w'.cell? ⟨b_, 4, none⟩ = some (Value.int .i64 v14)), (3, fun w' => w'.cell? ⟨b_, 1, none⟩ = some (Value.bool v6)), (1, fun w' => w'.cell? ⟨b_, 0, none⟩ = some (Value.int .i64 v4))] 78 #[sv_ v11] (by kernel_rfl) (by kernel_rfl) (by kernel_rfl) (by kernel_rfl) (by kernel_rfl) (fun ww => by kernel_rfl) (Calls.mono h ?_)
   rintro _ w5 ⟨v12, rfl, h⟩
   obtain ⟨hk0, hk1, hk2, h⟩ := h
   refine ⟨_, rfl, ⟨hk0, hk1, hk2, trivial⟩, ?_⟩
   refine Mn P1 ?_
   refine Mstore 13 [0, 1, 2, 3, 4, 5, 6, 7, 8, 9, 10, 11, 12] [] h fun w6 h => ?_
   refine ⟨trivial, ?_⟩
   refine Mf [] [2] ?_
   obtain ⟨res, hc_res, h⟩ := h
   exact YSg (rs := [(ResultVar.cell 2 71)]) (v := Value.agg #[Value.int .i64 res.To, Value.bool res.OK, sv_ res.Entries, sv_ res.Held, Value.int .i64 res.Count]) (⟨b_1, 0, [Value.int .i64 res.To, Value.bool res.OK, sv_ res.Entries, sv_ res.Held, Value.int .i64 res.Count], by kernel_rfl, hc_res, (sizeP_of (k := 5) (by kernel_rfl) (by kernel_rfl)), .inl ⟨by kernel_rfl, rfl⟩, trivial⟩) ⟨res, rfl, h⟩

/-! ### (*towpath/towpathlaw01.Book).Req (function 22) -/

theorem S_towpathlaw01_Book_Req {b_ : Option Addr} {r : T_api_Req} {w : World} {R : World → Prop} (h : F_towpathlaw01_Book_Req b_ r R w) : C_towpathlaw01_Book_Req b_ r w R := by
 unfold F_towpathlaw01_Book_Req at h
 refine Yh Tryz.func22 ?_
 · refine Yt ?_
   refine Yw pv_ h fun b_1 w1 h => ?_
   refine Yf [] [0, 3] ?_
   refine Yr ?_
   refine Yn P2 ?_
   refine Yl h fun v6 h => ?_
   refine Ym0 h fun w2 h => ?_
   refine Yf [] [] ?_
   repeat (first | refine seqQ_exit ?_ | refine loopQ_exit ?_ | refine cutQ_exit ?_ | refine blockQ_hit ?_ | refine blockQ_miss (by kernel_rfl) ?_)
   refine retQ_normal ?_
   repeat (first | refine seqQ_ret ?_ | refine blockQ_ret ?_ | refine loopQ_ret ?_ | refine cutQ_ret ?_)
   exact retT (rs := []) (vs := []) (by kernel_rfl) (trivial) (by kernel_rfl) ⟨rfl, h⟩

/-! ### (*towpath/towpathlaw01.Book).Answer (function 23) -/

theorem S_towpathlaw01_Book_Answer {b_ : Option Addr} {a_ : T_api_Answer} {w : World} {R : World → Prop} (h : F_towpathlaw01_Book_Answer b_ a_ R w) : C_towpathlaw01_Book_Answer b_ a_ w R := by
 unfold F_towpathlaw01_Book_Answer at h
 refine Yh Tryz.func23 ?_
 · refine Yt ?_
   refine Yw pv_ h fun b_1 w1 h => ?_
   refine Yf [] [0, 3] ?_
   refine Yr ?_
   refine Yn P2 ?_
   refine Yl h fun v6 h => ?_
   refine Ym0 h fun w2 h => ?_
   refine Yf [] [] ?_
   repeat (first | refine seqQ_exit ?_ | refine loopQ_exit ?_ | refine cutQ_exit ?_ | refine blockQ_hit ?_ | refine blockQ_miss (by kernel_rfl) ?_)
   refine retQ_normal ?_
   repeat (first | refine seqQ_ret ?_ | refine blockQ_ret ?_ | refine loopQ_ret ?_ | refine cutQ_ret ?_)
   exact retT (rs := []) (vs := []) (by kernel_rfl) (trivial) (by kernel_rfl) ⟨rfl, h⟩

/-! ### (*towpath/towpathlaw01.Book).Helds (function 24) -/

theorem S_towpathlaw01_Book_Helds {b_ : Option Addr} {l_ : Slc} {w : World} {R : World → Prop} (h : F_towpathlaw01_Book_Helds b_ l_ R w) : C_towpathlaw01_Book_Helds b_ l_ w R := by
 unfold F_towpathlaw01_Book_Helds at h
 refine Yh Tryz.func24 ?_
 · refine Ys ?_
   refine Yp P1 [0, 1, 4] ?_
   refine Yd 0 ?_
   obtain ⟨I, μ, h0, hr⟩ := h
   refine Yloop (fun m l w => ∃ (i : Int), l = [(0, Value.pointer b_), (1, sv_ l_), (4, Value.int .i64 i)] ∧ I i w ∧ μ i w = m) ⟨0, rfl, h0, rfl⟩ ?_
   rintro _ _ w1 ⟨i, rfl, hI, rfl⟩
   obtain ⟨again_, again__h, h⟩ : ∃ again_ : Int → World → Prop, (∀ i' w', again_ i' w' → I i' w' ∧ μ i' w' < μ i w1) ∧ F_towpathlaw01_Book_Helds_L0 b_ l_ R again_ i w1 := ⟨_, fun _ _ h => h, hr i w1 hI⟩
   clear h0 hI
   unfold F_towpathlaw01_Book_Helds_L0 at h
   refine Ys ?_
   refine Yp P4 [0, 1, 4, 8] ?_
   refine Yc h (fun h => ?_) fun h => ?_
   · refine Yskip ?_
     refine Ys ?_
     refine Yd 1 ?_
     refine Yr ?_
     refine Yn P3 ?_
     obtain ⟨hp_3, h⟩ := h
     refine Yu 12 (fun pp => .slice pp l_.len l_.cap) hp_3 ?_
     refine Yi h fun h => ?_
     refine Yn P1 ?_
     refine Yl h fun v16 h => ?_
     refine Ym0 h fun w2 h => ?_
     refine Yf [] [0, 1, 4] ?_
     refine Yr ?_
     refine Yf P3 [0, 1, 4] ?_
     have hb_ := again__h _ _ h
     exact ⟨_, hb_.2, _, Sub.mk (by kernel_rfl), (IntKind.i64.wrap (i + 1)), rfl, hb_.1, rfl⟩
   · refine Yexit 0 ?_
     refine Yr ?_
     refine Yn P2 ?_
     refine Ym0 h fun w3 h => ?_
     refine Yf [] [] ?_
     repeat (first | refine seqQ_exit ?_ | refine loopQ_exit ?_ | refine cutQ_exit ?_ | refine blockQ_hit ?_ | refine blockQ_miss (by kernel_rfl) ?_)
     refine retQ_normal ?_
     repeat (first | refine seqQ_ret ?_ | refine blockQ_ret ?_ | refine loopQ_ret ?_ | refine cutQ_ret ?_)
     exact retT (rs := []) (vs := []) (by kernel_rfl) (trivial) (by kernel_rfl) ⟨rfl, h⟩

/-! ### (*towpath/towpathlaw01.Book).fillByte (function 36) -/

theorem S_towpathlaw01_Book_fillByte {b_ : Option Addr} {w : World} {R : World → Prop} (h : F_towpathlaw01_Book_fillByte b_ R w) : C_towpathlaw01_Book_fillByte b_ w R := by
 unfold F_towpathlaw01_Book_fillByte at h
 refine Yh Tryz.func36 ?_
 · refine Yp P1 [0, 2] ?_
   refine Yd 0 ?_
   obtain ⟨I, μ, h0, hr⟩ := h
   refine Yloop (fun m l w => ∃ (i : Int), l = [(0, Value.pointer b_), (2, Value.int .i64 i)] ∧ I i w ∧ μ i w = m) ⟨0, rfl, h0, rfl⟩ ?_
   rintro _ _ w1 ⟨i, rfl, hI, rfl⟩
   obtain ⟨again_, again__h, h⟩ : ∃ again_ : Int → World → Prop, (∀ i' w', again_ i' w' → I i' w' ∧ μ i' w' < μ i w1) ∧ F_towpathlaw01_Book_fillByte_L0 b_ R again_ i w1 := ⟨_, fun _ _ h => h, hr i w1 hI⟩
   clear h0 hI
   unfold F_towpathlaw01_Book_fillByte_L0 at h
   refine Ys ?_
   refine Yt ?_
   refine Yn P2 ?_
   refine Yv 6 h fun hp_3 h => ?_
   refine Yn P1 ?_
   refine Yn P1 ?_
   refine Yl h fun v9 h => ?_
   refine Yf P2 [0, 2, 11] ?_
   refine Yc h (fun h => ?_) fun h => ?_
   · exact h.elim
   · refine Yexit 0 ?_
     repeat (first | refine seqQ_exit ?_ | refine loopQ_exit ?_ | refine cutQ_exit ?_ | refine blockQ_hit ?_ | refine blockQ_miss (by kernel_rfl) ?_)
     refine retQ_normal ?_
     repeat (first | refine seqQ_ret ?_ | refine blockQ_ret ?_ | refine loopQ_ret ?_ | refine cutQ_ret ?_)
     exact retT (rs := []) (vs := []) (by kernel_rfl) (trivial) (by kernel_rfl) ⟨rfl, h⟩

/-! ### (*towpath/towpathlaw01.Book).fillInt (function 37) -/
def c37_0 := cb_ Tryz.f37
def c37_3 := cr_ c37_0
def c37_4 := cl_ c37_3
def c37_5 := cl_ c37_4
def c37_12 := cr_ c37_5
def c37_13 := cl_ c37_12
def c37_14 := cl_ c37_13
def c37_17 := cr_ c37_14
def c37_20 := cr_ c37_17
def c37_21 := cl_ c37_20
def c37_22 := cl_ c37_21
def c37_29 := cr_ c37_22
def c37_30 := cl_ c37_29
def c37_31 := cl_ c37_30
def r37_31 := co_ c37_31
def o_towpathlaw01_Book_fillInt_31 : List Nat := [0, 1, 2, 3, 4, 5, 6, 7]

theorem S_towpathlaw01_Book_fillInt {b_ : Option Addr} {w : World} {R : World → Prop} (h : F_towpathlaw01_Book_fillInt b_ R w) : C_towpathlaw01_Book_fillInt b_ w R := by
 unfold F_towpathlaw01_Book_fillInt at h
 refine Yh Tryz.func37 ?_
 · refine Yp P1 [0, 2] ?_
   refine Yd 0 ?_
   obtain ⟨I, μ, h0, hr⟩ := h
   refine Yloop (fun m l w => ∃ (i : Int), l = [(0, Value.pointer b_), (2, Value.int .i64 i)] ∧ I i w ∧ μ i w = m) ⟨0, rfl, h0, rfl⟩ ?_
   rintro _ _ w1 ⟨i, rfl, hI, rfl⟩
   obtain ⟨again_, again__h, h⟩ : ∃ again_ : Int → World → Prop, (∀ i' w', again_ i' w' → I i' w' ∧ μ i' w' < μ i w1) ∧ F_towpathlaw01_Book_fillInt_L0 b_ R again_ i w1 := ⟨_, fun _ _ h => h, hr i w1 hI⟩
   clear h0 hI
   unfold F_towpathlaw01_Book_fillInt_L0 at h
   refine Ys ?_
   refine Yt ?_
   refine Yn P2 ?_
   refine Yv 6 h fun hp_3 h => ?_
   refine Yn P1 ?_
   refine Yn P1 ?_
   refine Yl h fun v9 h => ?_
   refine Yf P2 [0, 2, 11] ?_
   refine Yc h (fun h => ?_) fun h => ?_
   · refine Yskip ?_
     refine Ys ?_
     refine Yd 1 ?_
     refine Yt ?_
     refine Yn P1 ?_
     refine Yv 14 h fun hp_12 h => ?_
     refine Yn P1 ?_
     refine Yn P1 ?_
     refine Yl h fun v17 h => ?_
     refine Yn P1 ?_
     obtain ⟨hp_13, h⟩ := h
     refine Yu 17 (fun pp => .slice pp v17.len v17.cap) hp_13 ?_
     refine Yi h fun h => ?_
     refine YL h fun v20 h => ?_
     refine Yw pv_ h fun b_1 w2 h => ?_
     refine Yo h fun w3 h => ?_
     refine Yf [] [0, 2, 3] ?_
     refine Yp P1 [0, 2, 3, 4] ?_
     refine Yd 2 ?_
     obtain ⟨I, μ, h0, hr⟩ := h
     refine Yloop (fun m l w => ∃ (k_ : Int), l = [(0, Value.pointer b_), (2, Value.int .i64 i), (3, pv_ b_1), (4, Value.int .i64 k_)] ∧ I k_ w ∧ μ k_ w = m) ⟨0, rfl, h0, rfl⟩ ?_
     rintro _ _ w4 ⟨k_, rfl, hI, rfl⟩
     obtain ⟨again_1, again_1_h, h⟩ : ∃ again_1 : Int → World → Prop, (∀ k_' w', again_1 k_' w' → I k_' w' ∧ μ k_' w' < μ k_ w4) ∧ F_towpathlaw01_Book_fillInt_L1 i again_ b_1 again_1 k_ w4 := ⟨_, fun _ _ h => h, hr k_ w4 hI⟩
     clear h0 hI
     unfold F_towpathlaw01_Book_fillInt_L1 at h
     refine Ys ?_
     refine Yt ?_
     refine Yn P2 ?_
     refine Yl h fun v23 h => ?_
     refine Yf P2 [0, 2, 3, 4, 25] ?_
     refine Yc h (fun h => ?_) fun h => ?_
     · refine Yskip ?_
       refine Ys ?_
       refine Yd 3 ?_
       refine wpE_mixregion (id := 7) (ops := r37_31) o_towpathlaw01_Book_fillInt_31 (by kernel_rfl) (by kernel_rfl) (by kernel_rfl) (by kernel_rfl) (fun w5 hw => ?_)
       replace h := h w5 hw
       clear hw
       refine Mn P1 ?_
       refine Ml 1 h fun v29 hc h => ?_
       refine Mn P2 ?_
       refine Ml 4 h fun v32 hc h => ?_
       refine mreg_enter (op := (Op.call (Call.mk (Callee.value (Operand.func 92)) #[(Operand.tmp 32)] #[3]))) (ty := 3) (dst := some 33) 5 [4, 3] [(1, fun w' => w'.cell? ⟨b_1, 0, none⟩ = some (sv_ v29))] 92 #[Value.int .i64 v32] (by kernel_rfl) (by kernel_rfl) (by kernel_rfl) (by kernel_rfl) (by kernel_rfl) (fun ww => by kernel_rfl) (Calls.mono h ?_)
       rintro _ w6 ⟨v33, rfl, h⟩
       obtain ⟨hk0, h⟩ := h
       refine ⟨_, rfl, ⟨hk0, trivial⟩, ?_⟩
       obtain ⟨hp_15, h⟩ := h
       refine Mu 29 (fun pp => .slice pp v29.len v29.cap) hp_15 ?_
       refine Mi1 6 h fun h => ?_
       refine Mstore 7 [0, 1, 2, 3, 4, 5, 6] [] h fun w7 h => ?_
       refine ⟨trivial, ?_⟩
       refine Mf [] [0, 2, 3, 4] ?_
       refine Yr ?_
       refine Yf P3 [0, 2, 3, 4] ?_
       have hb_ := again_1_h _ _ h
       exact ⟨_, hb_.2, _, Sub.mk (by kernel_rfl), (IntKind.i64.wrap (k_ + 1)), rfl, hb_.1, rfl⟩
     · refine Yexit 2 ?_
       refine Yr ?_
       refine Yf P3 [0, 2] ?_
       have hb_ := again__h _ _ h
       exact ⟨_, hb_.2, _, Sub.mk (by kernel_rfl), (IntKind.i64.wrap (i + 1)), rfl, hb_.1, rfl⟩
   · refine Yexit 0 ?_
     repeat (first | refine seqQ_exit ?_ | refine loopQ_exit ?_ | refine cutQ_exit ?_ | refine blockQ_hit ?_ | refine blockQ_miss (by kernel_rfl) ?_)
     refine retQ_normal ?_
     repeat (first | refine seqQ_ret ?_ | refine blockQ_ret ?_ | refine loopQ_ret ?_ | refine cutQ_ret ?_)
     exact retT (rs := []) (vs := []) (by kernel_rfl) (trivial) (by kernel_rfl) ⟨rfl, h⟩

/-! ### (*towpath/towpathlaw01.Book).fillText (function 38) -/

theorem S_towpathlaw01_Book_fillText {b_ : Option Addr} {w : World} {R : World → Prop} (h : F_towpathlaw01_Book_fillText b_ R w) : C_towpathlaw01_Book_fillText b_ w R := by
 unfold F_towpathlaw01_Book_fillText at h
 refine Yh Tryz.func38 ?_
 · refine Yp P1 [0, 2] ?_
   refine Yd 0 ?_
   obtain ⟨I, μ, h0, hr⟩ := h
   refine Yloop (fun m l w => ∃ (i : Int), l = [(0, Value.pointer b_), (2, Value.int .i64 i)] ∧ I i w ∧ μ i w = m) ⟨0, rfl, h0, rfl⟩ ?_
   rintro _ _ w1 ⟨i, rfl, hI, rfl⟩
   obtain ⟨again_, again__h, h⟩ : ∃ again_ : Int → World → Prop, (∀ i' w', again_ i' w' → I i' w' ∧ μ i' w' < μ i w1) ∧ F_towpathlaw01_Book_fillText_L0 b_ R again_ i w1 := ⟨_, fun _ _ h => h, hr i w1 hI⟩
   clear h0 hI
   unfold F_towpathlaw01_Book_fillText_L0 at h
   refine Ys ?_
   refine Yt ?_
   refine Yn P2 ?_
   refine Yv 6 h fun hp_3 h => ?_
   refine Yn P1 ?_
   refine Yn P1 ?_
   refine Yl h fun v9 h => ?_
   refine Yf P2 [0, 2, 11] ?_
   refine Yc h (fun h => ?_) fun h => ?_
   · exact h.elim
   · refine Yexit 0 ?_
     repeat (first | refine seqQ_exit ?_ | refine loopQ_exit ?_ | refine cutQ_exit ?_ | refine blockQ_hit ?_ | refine blockQ_miss (by kernel_rfl) ?_)
     refine retQ_normal ?_
     repeat (first | refine seqQ_ret ?_ | refine blockQ_ret ?_ | refine loopQ_ret ?_ | refine cutQ_ret ?_)
     exact retT (rs := []) (vs := []) (by kernel_rfl) (trivial) (by kernel_rfl) ⟨rfl, h⟩

/-! ### (*towpath/towpathlaw01.Book).fillWrite (function 39) -/

theorem S_towpathlaw01_Book_fillWrite {b_ : Option Addr} {w : World} {R : World → Prop} (h : F_towpathlaw01_Book_fillWrite b_ R w) : C_towpathlaw01_Book_fillWrite b_ w R := by
 unfold F_towpathlaw01_Book_fillWrite at h
 refine Yh Tryz.func39 ?_
 · refine Yp P1 [0, 2] ?_
   refine Yd 0 ?_
   obtain ⟨I, μ, h0, hr⟩ := h
   refine Yloop (fun m l w => ∃ (i : Int), l = [(0, Value.pointer b_), (2, Value.int .i64 i)] ∧ I i w ∧ μ i w = m) ⟨0, rfl, h0, rfl⟩ ?_
   rintro _ _ w1 ⟨i, rfl, hI, rfl⟩
   obtain ⟨again_, again__h, h⟩ : ∃ again_ : Int → World → Prop, (∀ i' w', again_ i' w' → I i' w' ∧ μ i' w' < μ i w1) ∧ F_towpathlaw01_Book_fillWrite_L0 b_ R again_ i w1 := ⟨_, fun _ _ h => h, hr i w1 hI⟩
   clear h0 hI
   unfold F_towpathlaw01_Book_fillWrite_L0 at h
   refine Ys ?_
   refine Yt ?_
   refine Yn P2 ?_
   refine Yv 6 h fun hp_3 h => ?_
   refine Yn P1 ?_
   refine Yn P1 ?_
   refine Yl h fun v9 h => ?_
   refine Yf P2 [0, 2, 11] ?_
   refine Yc h (fun h => ?_) fun h => ?_
   · exact h.elim
   · refine Yexit 0 ?_
     repeat (first | refine seqQ_exit ?_ | refine loopQ_exit ?_ | refine cutQ_exit ?_ | refine blockQ_hit ?_ | refine blockQ_miss (by kernel_rfl) ?_)
     refine retQ_normal ?_
     repeat (first | refine seqQ_ret ?_ | refine blockQ_ret ?_ | refine loopQ_ret ?_ | refine cutQ_ret ?_)
     exact retT (rs := []) (vs := []) (by kernel_rfl) (trivial) (by kernel_rfl) ⟨rfl, h⟩

/-! ### (*towpath/towpathlaw01.Book).fillEntry (function 40) -/
def c40_0 := cb_ Tryz.f40
def c40_3 := cr_ c40_0
def c40_4 := cl_ c40_3
def c40_5 := cl_ c40_4
def c40_12 := cr_ c40_5
def c40_13 := cl_ c40_12
def c40_14 := cl_ c40_13
def c40_17 := cr_ c40_14
def c40_20 := cr_ c40_17
def c40_21 := cl_ c40_20
def c40_22 := cl_ c40_21
def c40_29 := cr_ c40_22
def c40_30 := cl_ c40_29
def c40_31 := cl_ c40_30
def r40_31 := co_ c40_31
def o_towpathlaw01_Book_fillEntry_31 : List Nat := [0, 1, 2, 3, 4, 5, 6, 7]

theorem S_towpathlaw01_Book_fillEntry {b_ : Option Addr} {w : World} {R : World → Prop} (h : F_towpathlaw01_Book_fillEntry b_ R w) : C_towpathlaw01_Book_fillEntry b_ w R := by
 unfold F_towpathlaw01_Book_fillEntry at h
 refine Yh Tryz.func40 ?_
 · refine Yp P1 [0, 2] ?_
   refine Yd 0 ?_
   obtain ⟨I, μ, h0, hr⟩ := h
   refine Yloop (fun m l w => ∃ (i : Int), l = [(0, Value.pointer b_), (2, Value.int .i64 i)] ∧ I i w ∧ μ i w = m) ⟨0, rfl, h0, rfl⟩ ?_
   rintro _ _ w1 ⟨i, rfl, hI, rfl⟩
   obtain ⟨again_, again__h, h⟩ : ∃ again_ : Int → World → Prop, (∀ i' w', again_ i' w' → I i' w' ∧ μ i' w' < μ i w1) ∧ F_towpathlaw01_Book_fillEntry_L0 b_ R again_ i w1 := ⟨_, fun _ _ h => h, hr i w1 hI⟩
   clear h0 hI
   unfold F_towpathlaw01_Book_fillEntry_L0 at h
   refine Ys ?_
   refine Yt ?_
   refine Yn P2 ?_
   refine Yv 6 h fun hp_3 h => ?_
   refine Yn P1 ?_
   refine Yn P1 ?_
   refine Yl h fun v9 h => ?_
   refine Yf P2 [0, 2, 11] ?_
   refine Yc h (fun h => ?_) fun h => ?_
   · refine Yskip ?_
     refine Ys ?_
     refine Yd 1 ?_
     refine Yt ?_
     refine Yn P1 ?_
     refine Yv 14 h fun hp_12 h => ?_
     refine Yn P1 ?_
     refine Yn P1 ?_
     refine Yl h fun v17 h => ?_
     refine Yn P1 ?_
     obtain ⟨hp_13, h⟩ := h
     refine Yu 17 (fun pp => .slice pp v17.len v17.cap) hp_13 ?_
     refine Yi h fun h => ?_
     refine YL h fun v20 h => ?_
     refine Yw pv_ h fun b_1 w2 h => ?_
     refine Yo h fun w3 h => ?_
     refine Yf [] [0, 2, 3] ?_
     refine Yp P1 [0, 2, 3, 4] ?_
     refine Yd 2 ?_
     obtain ⟨I, μ, h0, hr⟩ := h
     refine Yloop (fun m l w => ∃ (k_ : Int), l = [(0, Value.pointer b_), (2, Value.int .i64 i), (3, pv_ b_1), (4, Value.int .i64 k_)] ∧ I k_ w ∧ μ k_ w = m) ⟨0, rfl, h0, rfl⟩ ?_
     rintro _ _ w4 ⟨k_, rfl, hI, rfl⟩
     obtain ⟨again_1, again_1_h, h⟩ : ∃ again_1 : Int → World → Prop, (∀ k_' w', again_1 k_' w' → I k_' w' ∧ μ k_' w' < μ k_ w4) ∧ F_towpathlaw01_Book_fillEntry_L1 i again_ b_1 again_1 k_ w4 := ⟨_, fun _ _ h => h, hr k_ w4 hI⟩
     clear h0 hI
     unfold F_towpathlaw01_Book_fillEntry_L1 at h
     refine Ys ?_
     refine Yt ?_
     refine Yn P2 ?_
     refine Yl h fun v23 h => ?_
     refine Yf P2 [0, 2, 3, 4, 25] ?_
     refine Yc h (fun h => ?_) fun h => ?_
     · refine Yskip ?_
       refine Ys ?_
       refine Yd 3 ?_
       refine wpE_mixregion (id := 7) (ops := r40_31) o_towpathlaw01_Book_fillEntry_31 (by kernel_rfl) (by kernel_rfl) (by kernel_rfl) (by kernel_rfl) (fun w5 hw => ?_)
       replace h := h w5 hw
       clear hw
       refine Mn P1 ?_
       refine Ml 1 h fun v29 hc h => ?_
       refine Mn P2 ?_
       refine Ml 4 h fun v32 hc h => ?_
       refine mreg_enter (op := (Op.call (Call.mk (Callee.value (Operand.func 95)) #[(Operand.tmp 32)] #[3]))) (ty := 131) (dst := some 33) 5 [4, 3] [(1, fun w' => w'.cell? ⟨b_1, 0, none⟩ = some (sv_ v29))] 95 #[Value.int .i64 v32] (by kernel_rfl) (by kernel_rfl) (by kernel_rfl) (by kernel_rfl) (by kernel_rfl) (fun ww => by kernel_rfl) (Calls.mono h ?_)
       rintro _ w6 ⟨v33, rfl, h⟩
       obtain ⟨hk0, h⟩ := h
       refine ⟨_, rfl, ⟨hk0, trivial⟩, ?_⟩
       obtain ⟨hp_15, h⟩ := h
       refine Mu 29 (fun pp => .slice pp v29.len v29.cap) hp_15 ?_
       refine Mi 6 h fun h => ?_
       refine Mstore 7 [0, 1, 2, 3, 4, 5, 6] [] h fun w7 h => ?_
       refine ⟨trivial, ?_⟩
       refine Mf [] [0, 2, 3, 4] ?_
       refine Yr ?_
       refine Yf P3 [0, 2, 3, 4] ?_
       have hb_ := again_1_h _ _ h
       exact ⟨_, hb_.2, _, Sub.mk (by kernel_rfl), (IntKind.i64.wrap (k_ + 1)), rfl, hb_.1, rfl⟩
     · refine Yexit 2 ?_
       refine Yr ?_
       refine Yf P3 [0, 2] ?_
       have hb_ := again__h _ _ h
       exact ⟨_, hb_.2, _, Sub.mk (by kernel_rfl), (IntKind.i64.wrap (i + 1)), rfl, hb_.1, rfl⟩
   · refine Yexit 0 ?_
     repeat (first | refine seqQ_exit ?_ | refine loopQ_exit ?_ | refine cutQ_exit ?_ | refine blockQ_hit ?_ | refine blockQ_miss (by kernel_rfl) ?_)
     refine retQ_normal ?_
     repeat (first | refine seqQ_ret ?_ | refine blockQ_ret ?_ | refine loopQ_ret ?_ | refine cutQ_ret ?_)
     exact retT (rs := []) (vs := []) (by kernel_rfl) (trivial) (by kernel_rfl) ⟨rfl, h⟩
end
end Go.Proofs.YtpedclhflmhakaaGreatDoor
