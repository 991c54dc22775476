/- WRITTEN BY PROGRAM (dec.py): for each Go function the clean formula F, the call's contract C, and the proof S that F gives C. -/
import Derived.Test.YtpdegdnigcnjiaaRows
import Derived.Test.YtpdegdnigcnjiaaGF
namespace Go.Proofs.Ytpdegdnigcnjiaa
open Go
set_option linter.unusedVariables false
set_option maxRecDepth 100000
set_option maxHeartbeats 4000000
noncomputable section

/-! ### towpath/dump.Decode (function 11) -/
def c11_0 := cb_ Try.f11
def c11_3 := cr_ c11_0
def c11_6 := cr_ c11_3
def c11_9 := cr_ c11_6
def c11_12 := cr_ c11_9
def c11_15 := cr_ c11_12
def c11_18 := cr_ c11_15
def c11_21 := cr_ c11_18
def c11_22 := cl_ c11_21
def c11_25 := cr_ c11_22
def c11_26 := cl_ c11_25
def c11_27 := cl_ c11_26
def c11_34 := cr_ c11_27
def c11_35 := cl_ c11_34
def c11_36 := cl_ c11_35
def r11_36 := co_ c11_36
def c11_40 := cr_ c11_21
def c11_43 := cr_ c11_40
def c11_51 := cr_ c11_43
def c11_52 := cl_ c11_51
def c11_53 := cl_ c11_52
def c11_54 := cl_ c11_53
def c11_61 := cr_ c11_54
def c11_62 := cl_ c11_61
def c11_63 := cl_ c11_62
def c11_66 := cr_ c11_63
def c11_73 := cr_ c11_66
def c11_74 := cl_ c11_73
def c11_77 := cr_ c11_74
def c11_78 := cl_ c11_77
def c11_79 := cl_ c11_78
def c11_86 := cr_ c11_79
def c11_87 := cl_ c11_86
def c11_88 := cl_ c11_87
def r11_88 := co_ c11_88
def c11_96 := cr_ c11_51
def c11_97 := cl_ c11_96
def c11_98 := cl_ c11_97
def c11_101 := cr_ c11_98
def c11_102 := cl_ c11_101
def c11_103 := cl_ c11_102
def r11_103 := co_ c11_103
def o_dump_Decode_36 : List Nat := [0, 1, 2, 3, 4, 5, 6, 7]
def o_dump_Decode_88 : List Nat := [0, 1, 2, 3, 4, 5, 6, 7]
def o_dump_Decode_103 : List Nat := [0, 1, 2, 3]

theorem S_dump_Decode {b_ : Slc} {w : World} {R : T_api_Saved → Int → World → Prop} (h : F_dump_Decode b_ R w) : C_dump_Decode b_ w R := by
 unfold F_dump_Decode at h
 refine Yh Try.func11 ?_
 · refine Yt ?_
   refine Yw pv_ h fun b_1 w1 h => ?_
   refine Yw pv_ h fun b_2 w2 h => ?_
   refine Yf [] [0, 2, 3] ?_
   refine Yt ?_
   refine Yn P1 ?_
   refine Ym1 h fun v14 w3 h => ?_
   refine Yw pv_ h fun b_3 w4 h => ?_
   refine Yo h fun w5 h => ?_
   refine Yf [] [0, 2, 3, 4] ?_
   refine Yt ?_
   refine Yn P2 ?_
   refine Yw pv_ h fun b_4 w6 h => ?_
   refine Yo h fun w7 h => ?_
   refine Yf [] [2, 3, 4, 5] ?_
   refine Yt ?_
   refine Yn P1 ?_
   refine Yw pv_ h fun b_5 w8 h => ?_
   refine Yo h fun w9 h => ?_
   refine Yf [] [2, 3, 4, 6] ?_
   refine Yt ?_
   refine Yn P1 ?_
   refine Yw pv_ h fun b_6 w10 h => ?_
   refine Yo h fun w11 h => ?_
   refine Yf [] [2, 3, 4, 6, 7] ?_
   refine Yp P2 [2, 3, 4, 6, 7, 8] ?_
   refine Yt ?_
   refine Yl h fun v20 h => ?_
   refine reg_enterV (fo := (Operand.tmp 20)) (aa := #[]) (ts := #[]) (fv := v20) (ty := 3) (dst := some 21) #[] (by kernel_rfl) (by kernel_rfl) (by kernel_rfl) (CallsV.mono h ?_)
   rintro _ w12 ⟨v21, rfl, h⟩
   refine ⟨_, rfl, ?_⟩
   refine Yn P1 ?_
   refine Yo h fun w13 h => ?_
   refine Yf [] [2, 3, 4, 6, 7, 8] ?_
   refine Ys ?_
   refine Yt ?_
   refine Yl h fun v23 h => ?_
   refine reg_enterV (fo := (Operand.tmp 23)) (aa := #[]) (ts := #[]) (fv := v23) (ty := 3) (dst := some 24) #[] (by kernel_rfl) (by kernel_rfl) (by kernel_rfl) (CallsV.mono h ?_)
   rintro _ w14 ⟨v24, rfl, h⟩
   refine ⟨_, rfl, ?_⟩
   refine Yf P1 [2, 3, 4, 6, 7, 8, 9] ?_
   refine Yd 0 ?_
   obtain ⟨I, μ, h0, hr⟩ := h
   refine Yloop (fun m l w => ∃ (n_ : Int), l = [(2, pv_ b_1), (3, pv_ b_2), (4, pv_ b_3), (6, pv_ b_5), (7, pv_ b_6), (8, Value.func (.func 43) #[] #[pv_ b_6, pv_ b_2, pv_ b_3, pv_ b_5]), (9, Value.int .i64 n_)] ∧ I n_ w ∧ μ n_ w = m) ⟨v24, rfl, h0, rfl⟩ ?_
   rintro _ _ w15 ⟨n_, rfl, hI, rfl⟩
   obtain ⟨again_, again__h, h⟩ : ∃ again_ : Int → World → Prop, (∀ n_' w', again_ n_' w' → I n_' w' ∧ μ n_' w' < μ n_ w15) ∧ F_dump_Decode_L0 R b_1 b_2 b_3 b_5 b_6 again_ n_ w15 := ⟨_, fun _ _ h => h, hr n_ w15 hI⟩
   clear h0 hI
   unfold F_dump_Decode_L0 at h
   refine Ys ?_
   refine Ycut (fun l w => ∃ (t30 : Bool), l = [(2, pv_ b_1), (3, pv_ b_2), (4, pv_ b_3), (6, pv_ b_5), (7, pv_ b_6), (8, Value.func (.func 43) #[] #[pv_ b_6, pv_ b_2, pv_ b_3, pv_ b_5]), (9, Value.int .i64 n_), (30, Value.bool t30)] ∧ F_dump_Decode_k1 R b_1 b_2 b_3 b_5 b_6 n_ again_ t30 w) ?_ ?_
   · refine Yr ?_
     refine Yn P3 ?_
     refine Yspl 27 h (fun h => ?_) fun h => ?_
     · refine Yl h fun v28 h => ?_
       refine Yf [.sure, .plain] [2, 3, 4, 6, 7, 8, 9, 30] ?_
       exact ⟨_, Sub.mk (by kernel_rfl), (v28 == 0), rfl, h⟩
     · refine Yf [.skip, .skip, .plain] [2, 3, 4, 6, 7, 8, 9, 30] ?_
       exact ⟨_, Sub.mk (by kernel_rfl), false, rfl, h⟩
   · rintro _ w16 ⟨t30, rfl, h⟩
     unfold F_dump_Decode_k1 at h
     refine Yc h (fun h => ?_) fun h => ?_
     · refine Yskip ?_
       refine Ys ?_
       refine Yd 1 ?_
       refine wpE_mixregion (id := 10) (ops := r11_36) o_dump_Decode_36 (by kernel_rfl) (by kernel_rfl) (by kernel_rfl) (by kernel_rfl) (fun w17 hw => ?_)
       replace h := h w17 hw
       clear hw
       refine Mn P1 ?_
       refine Ml 1 h fun v34 hc h => ?_
       refine Ml 2 h fun v35 hc h => ?_
       refine mreg_enterV (fo := (Operand.tmp 35)) (aa := #[]) (ts := #[]) (fv := v35) (ty := 3) (dst := some 36) 3 [2] [(1, fun w' => w'.cell? ⟨b_1, 1, none⟩ = some (sv_ v34))] #[] (by kernel_rfl) (by kernel_rfl) (by kernel_rfl) (by kernel_rfl) (by kernel_rfl) (by kernel_rfl) (by kernel_rfl) (CallsV.mono h ?_)
       rintro _ w18 ⟨v36, rfl, h⟩
       obtain ⟨hk0, h⟩ := h
       refine ⟨_, rfl, ⟨hk0, trivial⟩, ?_⟩
       refine mreg_new (op := (Op.buildSlice 25 1 #[(0, (Operand.tmp 36))])) (ty := 25) (dst := some 37) 4 [3, 2] [(1, fun w' => w'.cell? ⟨b_1, 1, none⟩ = some (sv_ v34))] (fun bb => Value.slice (some ⟨bb, 0, none⟩) 1 1) (Obj.cells ([Value.int .i64 v36]).toArray ty_int (0, 0)) (by kernel_rfl) (by kernel_rfl) (by kernel_rfl) (by kernel_rfl) (by kernel_rfl) (by kernel_rfl) (fun b_7 w19 hb hw => ?_)
       replace h := h b_7 w19 hb hw
       clear hb hw
       obtain ⟨hk0, h⟩ := h
       refine ⟨⟨hk0, trivial⟩, ?_⟩
       obtain ⟨src, hs, h⟩ := h
       refine mreg_append (t := 25) (tx := 25) (e := 3) (a := (Operand.tmp 34)) (xo := (Operand.tmp 37)) (s := v34) (x := (Slc.mk (some ⟨b_7, 0, none⟩) 1 1)) (sz := 1) (by_ := 8) (zs := [Value.int .i64 0]) (ty := 25) (dst := some 38) 5 [1, 3, 4, 0, 2] [] src (by kernel_rfl) (by kernel_rfl) (by kernel_rfl) (by kernel_rfl) (by kernel_rfl) (by kernel_rfl) (by kernel_rfl) (by kernel_rfl) (by kernel_rfl) (by kernel_rfl) (by kernel_rfl) (by kernel_rfl) (by kernel_rfl) hs (AppendW.mono h (fun v38 w20 h => ?_))
       refine ⟨trivial, ?_⟩
       refine Mn P1 ?_
       refine Mstore 7 [0, 1, 2, 3, 4, 5, 6] [] h fun w21 h => ?_
       refine ⟨trivial, ?_⟩
       refine Mf [] [2, 3, 4, 6, 7, 8, 9] ?_
       refine Yr ?_
       refine Yf P3 [2, 3, 4, 6, 7, 8, 9] ?_
       have hb_ := again__h _ _ h
       exact ⟨_, hb_.2, _, Sub.mk (by kernel_rfl), (IntKind.i64.wrap (n_ - 1)), rfl, hb_.1, rfl⟩
     · refine Yexit 0 ?_
       refine Yt ?_
       refine Yl h fun v40 h => ?_
       refine Ym1 h fun v41 w22 h => ?_
       refine Yf P1 [2, 3, 4, 6, 7, 8, 10] ?_
       refine Ycut (fun l w => l = [(2, pv_ b_1), (3, pv_ b_2), (4, pv_ b_3), (6, pv_ b_5), (7, pv_ b_6), (8, Value.func (.func 43) #[] #[pv_ b_6, pv_ b_2, pv_ b_3, pv_ b_5]), (10, Value.int .u64 v41)] ∧ F_dump_Decode_k2 R b_1 b_2 b_3 b_5 b_6 v41 w) ?_ ?_
       · refine Yt ?_
         refine Yl h fun v42 h => ?_
         refine Yf P1 [2, 3, 4, 6, 7, 8, 10, 43] ?_
         refine Yc h (fun h => ?_) fun h => ?_
         · refine Yr ?_
           refine Yl h fun v44 h => ?_
           refine reg_enterV (fo := (Operand.tmp 44)) (aa := #[(Operand.const (Value.bool false)), (Operand.const (Value.int IntKind.i64 0))]) (ts := #[4, 29]) (fv := v44) (ty := 4) (dst := some 45) #[Value.bool false, Value.int .i64 0] (by kernel_rfl) (by kernel_rfl) (by kernel_rfl) (CallsV.mono h ?_)
           rintro _ w53 ⟨v45, rfl, h⟩
           refine ⟨_, rfl, ?_⟩
           refine Yf [] [2, 3, 4, 6, 7, 8, 10] ?_
           exact ⟨_, Sub.mk (by kernel_rfl), rfl, h⟩
         · refine Yskip ?_
           exact ⟨_, Sub.mk (by kernel_rfl), rfl, h⟩
       · rintro _ w23 ⟨rfl, h⟩
         unfold F_dump_Decode_k2 at h
         refine Ycut (fun l w => l = [(2, pv_ b_1), (3, pv_ b_2), (4, pv_ b_3)] ∧ F_dump_Decode_k3 R b_1 b_2 b_3 w) ?_ ?_
         · refine Yd 2 ?_
           obtain ⟨I, μ, h0, hr⟩ := h
           refine Yloop (fun m l w => ∃ (keys : Int), l = [(2, pv_ b_1), (3, pv_ b_2), (4, pv_ b_3), (6, pv_ b_5), (7, pv_ b_6), (8, Value.func (.func 43) #[] #[pv_ b_6, pv_ b_2, pv_ b_3, pv_ b_5]), (10, Value.int .u64 keys)] ∧ I keys w ∧ μ keys w = m) ⟨v41, rfl, h0, rfl⟩ ?_
           rintro _ _ w36 ⟨keys, rfl, hI, rfl⟩
           obtain ⟨again_1, again_1_h, h⟩ : ∃ again_1 : Int → World → Prop, (∀ keys' w', again_1 keys' w' → I keys' w' ∧ μ keys' w' < μ keys w36) ∧ F_dump_Decode_L4 R b_1 b_2 b_3 b_5 b_6 again_1 keys w36 := ⟨_, fun _ _ h => h, hr keys w36 hI⟩
           clear h0 hI
           unfold F_dump_Decode_L4 at h
           refine Ys ?_
           refine Ycut (fun l w => ∃ (t51 : Bool), l = [(2, pv_ b_1), (3, pv_ b_2), (4, pv_ b_3), (6, pv_ b_5), (7, pv_ b_6), (8, Value.func (.func 43) #[] #[pv_ b_6, pv_ b_2, pv_ b_3, pv_ b_5]), (10, Value.int .u64 keys), (51, Value.bool t51)] ∧ F_dump_Decode_k5 R b_1 b_2 b_3 b_5 b_6 keys again_1 t51 w) ?_ ?_
           · refine Yr ?_
             refine Yn P3 ?_
             refine Yspl 48 h (fun h => ?_) fun h => ?_
             · refine Yl h fun v49 h => ?_
               refine Yf [.sure, .plain] [2, 3, 4, 6, 7, 8, 10, 51] ?_
               exact ⟨_, Sub.mk (by kernel_rfl), (v49 == 0), rfl, h⟩
             · refine Yf [.skip, .skip, .plain] [2, 3, 4, 6, 7, 8, 10, 51] ?_
               exact ⟨_, Sub.mk (by kernel_rfl), false, rfl, h⟩
           · rintro _ w37 ⟨t51, rfl, h⟩
             unfold F_dump_Decode_k5 at h
             refine Yc h (fun h => ?_) fun h => ?_
             · refine Yskip ?_
               refine Ys ?_
               refine Yd 3 ?_
               refine Yt ?_
               refine Yl h fun v54 h => ?_
               refine Ym1 h fun v55 w38 h => ?_
               refine Yn P1 ?_
               refine Yw pv_ h fun b_8 w39 h => ?_
               refine Yo h fun w40 h => ?_
               refine Yf [] [2, 3, 4, 6, 7, 8, 10, 11] ?_
               refine Ys ?_
               refine Yt ?_
               refine Yl h fun v57 h => ?_
               refine reg_enterV (fo := (Operand.tmp 57)) (aa := #[(Operand.const (Value.bool false)), (Operand.const (Value.int IntKind.i64 0))]) (ts := #[4, 29]) (fv := v57) (ty := 4) (dst := some 58) #[Value.bool false, Value.int .i64 0] (by kernel_rfl) (by kernel_rfl) (by kernel_rfl) (CallsV.mono h ?_)
               rintro _ w41 ⟨v58, rfl, h⟩
               refine ⟨_, rfl, ?_⟩
               refine Yf [] [2, 3, 4, 6, 7, 8, 10, 11, 58] ?_
               refine Yc h (fun h => ?_) fun h => ?_
               · refine Yexit 2 ?_
                 exact ⟨_, Sub.mk (by kernel_rfl), rfl, h⟩
               · refine Yskip ?_
                 refine Ys ?_
                 refine Yt ?_
                 refine Yl h fun v59 h => ?_
                 refine reg_enterV (fo := (Operand.tmp 59)) (aa := #[]) (ts := #[]) (fv := v59) (ty := 3) (dst := some 60) #[] (by kernel_rfl) (by kernel_rfl) (by kernel_rfl) (CallsV.mono h ?_)
                 rintro _ w42 ⟨v60, rfl, h⟩
                 refine ⟨_, rfl, ?_⟩
                 refine Yf P1 [2, 3, 4, 6, 7, 8, 10, 11, 12] ?_
                 refine Yd 4 ?_
                 obtain ⟨I, μ, h0, hr⟩ := h
                 refine Yloop (fun m l w => ∃ (k_ : Int), l = [(2, pv_ b_1), (3, pv_ b_2), (4, pv_ b_3), (6, pv_ b_5), (7, pv_ b_6), (8, Value.func (.func 43) #[] #[pv_ b_6, pv_ b_2, pv_ b_3, pv_ b_5]), (10, Value.int .u64 keys), (11, pv_ b_8), (12, Value.int .i64 k_)] ∧ I k_ w ∧ μ k_ w = m) ⟨v60, rfl, h0, rfl⟩ ?_
                 rintro _ _ w43 ⟨k_, rfl, hI, rfl⟩
                 obtain ⟨again_2, again_2_h, h⟩ : ∃ again_2 : Int → World → Prop, (∀ k_' w', again_2 k_' w' → I k_' w' ∧ μ k_' w' < μ k_ w43) ∧ F_dump_Decode_L6 b_1 b_2 b_3 b_5 b_6 keys again_1 b_8 again_2 k_ w43 := ⟨_, fun _ _ h => h, hr k_ w43 hI⟩
                 clear h0 hI
                 unfold F_dump_Decode_L6 at h
                 refine Ys ?_
                 refine Ycut (fun l w => ∃ (t66 : Bool), l = [(2, pv_ b_1), (3, pv_ b_2), (4, pv_ b_3), (6, pv_ b_5), (7, pv_ b_6), (8, Value.func (.func 43) #[] #[pv_ b_6, pv_ b_2, pv_ b_3, pv_ b_5]), (10, Value.int .u64 keys), (11, pv_ b_8), (12, Value.int .i64 k_), (66, Value.bool t66)] ∧ F_dump_Decode_k7 b_1 b_2 b_3 b_5 b_6 keys again_1 b_8 k_ again_2 t66 w) ?_ ?_
                 · refine Yr ?_
                   refine Yn P3 ?_
                   refine Yspl 63 h (fun h => ?_) fun h => ?_
                   · refine Yl h fun v64 h => ?_
                     refine Yf [.sure, .plain] [2, 3, 4, 6, 7, 8, 10, 11, 12, 66] ?_
                     exact ⟨_, Sub.mk (by kernel_rfl), (v64 == 0), rfl, h⟩
                   · refine Yf [.skip, .skip, .plain] [2, 3, 4, 6, 7, 8, 10, 11, 12, 66] ?_
                     exact ⟨_, Sub.mk (by kernel_rfl), false, rfl, h⟩
                 · rintro _ w44 ⟨t66, rfl, h⟩
                   unfold F_dump_Decode_k7 at h
                   refine Yc h (fun h => ?_) fun h => ?_
                   · refine Yskip ?_
                     refine Ys ?_
                     refine Yd 5 ?_
                     refine wpE_mixregion (id := 21) (ops := r11_88) o_dump_Decode_88 (by kernel_rfl) (by kernel_rfl) (by kernel_rfl) (by kernel_rfl) (fun w45 hw => ?_)
                     replace h := h w45 hw
                     clear hw
                     refine Mn P1 ?_
                     refine Ml 1 h fun v70 hc h => ?_
                     refine Mn P1 ?_
                     refine mreg_enter (op := (Op.call (Call.mk (Callee.value (Operand.tmp 71)) #[] #[]))) (ty := 89) (dst := some 72) 3 [2] [(1, fun w' => w'.cell? ⟨b_8, 1, none⟩ = some (sv_ v70))] 43 #[pv_ b_6, pv_ b_2, pv_ b_3, pv_ b_5] (by kernel_rfl) (by kernel_rfl) (by kernel_rfl) (by kernel_rfl) (by kernel_rfl) (fun ww => by kernel_rfl) (Calls.mono h ?_)
                     rintro _ w46 ⟨v72, rfl, h⟩
                     obtain ⟨hk0, h⟩ := h
                     refine ⟨_, rfl, ⟨hk0, trivial⟩, ?_⟩
                     refine mreg_new (op := (Op.buildSlice 71 1 #[(0, (Operand.tmp 72))])) (ty := 71) (dst := some 73) 4 [3, 2] [(1, fun w' => w'.cell? ⟨b_8, 1, none⟩ = some (sv_ v70))] (fun bb => Value.slice (some ⟨bb, 0, none⟩) 1 1) (Obj.cells ([Value.int .i64 v72.Number, Value.string v72.Val, Value.bool v72.Drop]).toArray ty_api_Version (0, 0)) (by kernel_rfl) (by kernel_rfl) (by kernel_rfl) (by kernel_rfl) (by kernel_rfl) (by kernel_rfl) (fun b_9 w47 hb hw => ?_)
                     replace h := h b_9 w47 hb hw
                     clear hb hw
                     obtain ⟨hk0, h⟩ := h
                     refine ⟨⟨hk0, trivial⟩, ?_⟩
                     obtain ⟨src, hs, h⟩ := h
                     refine mreg_append (t := 71) (tx := 71) (e := 89) (a := (Operand.tmp 70)) (xo := (Operand.tmp 73)) (s := v70) (x := (Slc.mk (some ⟨b_9, 0, none⟩) 1 1)) (sz := 3) (by_ := 32) (zs := [Value.int .i64 0, Value.string ByteArray.empty, Value.bool false]) (ty := 71) (dst := some 74) 5 [1, 3, 4, 0, 2] [] src (by kernel_rfl) (by kernel_rfl) (by kernel_rfl) (by kernel_rfl) (by kernel_rfl) (by kernel_rfl) (by kernel_rfl) (by kernel_rfl) (by kernel_rfl) (by kernel_rfl) (by kernel_rfl) (by kernel_rfl) (by kernel_rfl) hs (AppendW.mono h (fun v74 w48 h => ?_))
                     refine ⟨trivial, ?_⟩
                     refine Mn P1 ?_
                     refine Mstore 7 [0, 1, 2, 3, 4, 5, 6] [] h fun w49 h => ?_
                     refine ⟨trivial, ?_⟩
                     refine Mf [] [2, 3, 4, 6, 7, 8, 10, 11, 12] ?_
                     refine Yr ?_
                     refine Yf P3 [2, 3, 4, 6, 7, 8, 10, 11, 12] ?_
                     have hb_ := again_2_h _ _ h
                     exact ⟨_, hb_.2, _, Sub.mk (by kernel_rfl), (IntKind.i64.wrap (k_ - 1)), rfl, hb_.1, rfl⟩
                   · refine Yexit 4 ?_
                     refine Yr ?_
                     refine Yn P1 ?_
                     refine Yl h fun v77 h => ?_
                     refine YL h fun v78 h => ?_
                     refine Yw (sl_ 1 1) h fun b_10 w50 h => ?_
                     obtain ⟨src, hs, h⟩ := h
                     refine reg_append (t := 26) (tx := 26) (e := 73) (a := (Operand.tmp 77)) (xo := (Operand.tmp 79)) (s := v77) (x := (Slc.mk (some ⟨b_10, 0, none⟩) 1 1)) (sz := 2) (by_ := 40) (zs := [Value.string ByteArray.empty, Value.slice none 0 0]) (ty := 26) (dst := some 80)  src (by kernel_rfl) (by kernel_rfl) (by kernel_rfl) (by kernel_rfl) (by kernel_rfl) (by kernel_rfl) (by kernel_rfl) (by kernel_rfl) (by kernel_rfl) hs (AppendW.mono h (fun v80 w51 h => ?_))
                     refine Yn P1 ?_
                     refine Yo h fun w52 h => ?_
                     refine Yf [] [2, 3, 4, 6, 7, 8, 10] ?_
                     refine Yr ?_
                     refine Yf P3 [2, 3, 4, 6, 7, 8, 10] ?_
                     have hb_ := again_1_h _ _ h
                     exact ⟨_, hb_.2, _, Sub.mk (by kernel_rfl), (IntKind.u64.wrap (keys - 1)), rfl, hb_.1, rfl⟩
             · refine Yexit 2 ?_
               exact ⟨_, Sub.mk (by kernel_rfl), rfl, h⟩
         · rintro _ w24 ⟨rfl, h⟩
           unfold F_dump_Decode_k3 at h
           refine Ys ?_
           refine Yd 6 ?_
           refine Yt ?_
           refine Yl h fun v83 h => ?_
           refine Yf P2 [2, 3, 4, 82] ?_
           refine Yc h (fun h => ?_) fun h => ?_
           · refine Ys ?_
             refine wpE_mixregion (id := 24) (ops := r11_103) o_dump_Decode_103 (by kernel_rfl) (by kernel_rfl) (by kernel_rfl) (by kernel_rfl) (fun w25 hw => ?_)
             replace h := h w25 hw
             clear hw
             refine Mn P1 ?_
             refine Ml 1 h fun v86 hc h => ?_
             refine Mstore 2 [0] [(1, fun w' => w'.cell? ⟨b_2, 0, none⟩ = some (Value.int .i64 v86))] h fun w26 h => ?_
             obtain ⟨hk0, h⟩ := h
             refine ⟨⟨hk0, trivial⟩, ?_⟩
             refine Mstore 3 [0, 1, 2] [] h fun w27 h => ?_
             refine ⟨trivial, ?_⟩
             refine Mf [] [2, 3] ?_
             obtain ⟨res, hc_res, h⟩ := h
             obtain ⟨res1, hc_res1, h⟩ := h
             exact YTg (rs := [(ResultVar.cell 2 28), (ResultVar.cell 3 29)]) (vs := [Value.agg #[Value.int .i64 res.Mark, sv_ res.Beyond, sv_ res.Held], Value.int .i64 res1]) (⟨b_1, 0, [Value.int .i64 res.Mark, sv_ res.Beyond, sv_ res.Held], by kernel_rfl, hc_res, (sizeP_of (k := 3) (by kernel_rfl) (by kernel_rfl)), .inl ⟨by kernel_rfl, rfl⟩, ⟨b_2, 0, [Value.int .i64 res1], by kernel_rfl, hc_res1, (sizeP_of (k := 1) (by kernel_rfl) (by kernel_rfl)), .inr ⟨by kernel_rfl, rfl⟩, trivial⟩⟩) ⟨res, res1, rfl, h⟩
           · refine Yt ?_
             refine Yl h fun v88 h => ?_
             refine Ym1 h fun v89 w28 h => ?_
             refine Yf P2 [2, 3, 87] ?_
             refine Yc h (fun h => ?_) fun h => ?_
             · refine Yt ?_
               refine Yn P1 ?_
               refine Yo h fun w29 h => ?_
               refine Yo h fun w30 h => ?_
               refine Yf [] [2, 3] ?_
               obtain ⟨res2, hc_res2, h⟩ := h
               obtain ⟨res3, hc_res3, h⟩ := h
               exact YTg (rs := [(ResultVar.cell 2 28), (ResultVar.cell 3 29)]) (vs := [Value.agg #[Value.int .i64 res2.Mark, sv_ res2.Beyond, sv_ res2.Held], Value.int .i64 res3]) (⟨b_1, 0, [Value.int .i64 res2.Mark, sv_ res2.Beyond, sv_ res2.Held], by kernel_rfl, hc_res2, (sizeP_of (k := 3) (by kernel_rfl) (by kernel_rfl)), .inl ⟨by kernel_rfl, rfl⟩, ⟨b_2, 0, [Value.int .i64 res3], by kernel_rfl, hc_res3, (sizeP_of (k := 1) (by kernel_rfl) (by kernel_rfl)), .inr ⟨by kernel_rfl, rfl⟩, trivial⟩⟩) ⟨res2, res3, rfl, h⟩
             · refine Yt ?_
               refine YL h fun v93 h => ?_
               refine Ym1 h fun v94 w31 h => ?_
               refine Yf P2 [2, 3, 92] ?_
               refine Yc h (fun h => ?_) fun h => ?_
               · refine Yt ?_
                 refine Yn P1 ?_
                 refine Yo h fun w32 h => ?_
                 refine Yo h fun w33 h => ?_
                 refine Yf [] [2, 3] ?_
                 obtain ⟨res4, hc_res4, h⟩ := h
                 obtain ⟨res5, hc_res5, h⟩ := h
                 exact YTg (rs := [(ResultVar.cell 2 28), (ResultVar.cell 3 29)]) (vs := [Value.agg #[Value.int .i64 res4.Mark, sv_ res4.Beyond, sv_ res4.Held], Value.int .i64 res5]) (⟨b_1, 0, [Value.int .i64 res4.Mark, sv_ res4.Beyond, sv_ res4.Held], by kernel_rfl, hc_res4, (sizeP_of (k := 3) (by kernel_rfl) (by kernel_rfl)), .inl ⟨by kernel_rfl, rfl⟩, ⟨b_2, 0, [Value.int .i64 res5], by kernel_rfl, hc_res5, (sizeP_of (k := 1) (by kernel_rfl) (by kernel_rfl)), .inr ⟨by kernel_rfl, rfl⟩, trivial⟩⟩) ⟨res4, res5, rfl, h⟩
               · refine Yskip ?_
                 refine Yt ?_
                 refine YL h fun v97 h => ?_
                 refine Yo h fun w34 h => ?_
                 refine Yo h fun w35 h => ?_
                 refine Yf [] [2, 3] ?_
                 obtain ⟨res6, hc_res6, h⟩ := h
                 obtain ⟨res7, hc_res7, h⟩ := h
                 exact YTg (rs := [(ResultVar.cell 2 28), (ResultVar.cell 3 29)]) (vs := [Value.agg #[Value.int .i64 res6.Mark, sv_ res6.Beyond, sv_ res6.Held], Value.int .i64 res7]) (⟨b_1, 0, [Value.int .i64 res6.Mark, sv_ res6.Beyond, sv_ res6.Held], by kernel_rfl, hc_res6, (sizeP_of (k := 3) (by kernel_rfl) (by kernel_rfl)), .inl ⟨by kernel_rfl, rfl⟩, ⟨b_2, 0, [Value.int .i64 res7], by kernel_rfl, hc_res7, (sizeP_of (k := 1) (by kernel_rfl) (by kernel_rfl)), .inr ⟨by kernel_rfl, rfl⟩, trivial⟩⟩) ⟨res6, res7, rfl, h⟩
end
end Go.Proofs.Ytpdegdnigcnjiaa
