/- WRITTEN BY PROGRAM (dec.py): for each Go function the clean formula F, the call's contract C, and the proof S that F gives C. -/
import Derived.Test.YtpedclhflmhakaaRows
import Derived.Test.YtpedclhflmhakaaGF
namespace Go.Proofs.Ytpedclhflmhakaa
open Go
set_option linter.unusedVariables false
set_option maxRecDepth 100000
set_option maxHeartbeats 4000000
noncomputable section

/-! ### towpath/towpathref17.Check (function 29) -/

theorem S_towpathref17_Check {c : T_api_Call} {w : World} {R : Int → World → Prop} (h : F_towpathref17_Check c R w) : C_towpathref17_Check c w R := by
 unfold F_towpathref17_Check at h
 refine Yh Try.func29 ?_
 · refine Yt ?_
   refine Yw pv_ h fun b_ w1 h => ?_
   refine Yf P1 [1] ?_
   refine Ycut (fun l w => ∃ (bare : Bool), l = [(1, pv_ b_), (3, Value.bool bare)] ∧ F_towpathref17_Check_k0 R b_ bare w) ?_ ?_
   · refine Yr ?_
     refine Yn P1 ?_
     refine Yl h fun v5 h => ?_
     refine Yn P3 ?_
     refine Yspl 7 h (fun h => ?_) fun h => ?_
     · refine Yl h fun v9 h => ?_
       refine Yf [.sure, .plain, .plain] [1, 3] ?_
       exact ⟨_, Sub.mk (by kernel_rfl), (v9.toList == ByteArray.empty.toList), rfl, h⟩
     · refine Yf [.skip, .skip, .plain, .plain] [1, 3] ?_
       exact ⟨_, Sub.mk (by kernel_rfl), false, rfl, h⟩
   · rintro _ w2 ⟨bare, rfl, h⟩
     unfold F_towpathref17_Check_k0 at h
     refine Ycut (fun l w => l = [] ∧ F_towpathref17_Check_k1 R w) ?_ ?_
     · refine Yt ?_
       refine Yn P1 ?_
       refine Yl h fun v13 h => ?_
       refine Yf [] [1, 3, 13] ?_
       refine Yd 0 ?_
       refine Yp P2 [1, 3, 13, 14] ?_
       refine Yc h (fun h => ?_) fun h => ?_
       · refine Ycut (fun l w => ∃ (t23 : Bool), l = [(23, Value.bool t23)] ∧ F_towpathref17_Check_k2 R t23 w) ?_ ?_
         · refine Yr ?_
           refine Yn P1 ?_
           refine Yl h fun v17 h => ?_
           refine Ym1 h fun v18 w5 h => ?_
           refine Yn P2 ?_
           refine Yspl 19 h (fun h => ?_) fun h => ?_
           · refine Yl h fun v21 h => ?_
             refine Yf [.sure, .plain] [23] ?_
             exact ⟨_, Sub.mk (by kernel_rfl), (v21.toList == ByteArray.empty.toList), rfl, h⟩
           · refine Yf [.skip, .skip, .plain] [23] ?_
             exact ⟨_, Sub.mk (by kernel_rfl), false, rfl, h⟩
         · rintro _ w4 ⟨t23, rfl, h⟩
           unfold F_towpathref17_Check_k2 at h
           refine Yc h (fun h => ?_) fun h => ?_
           · refine Yp P1 [2] ?_
             exact YS ⟨0, rfl, h⟩
           · refine Yskip ?_
             exact ⟨_, Sub.mk (by kernel_rfl), rfl, h⟩
       · refine Yp P2 [1, 3, 13, 24] ?_
         refine Yc h (fun h => ?_) fun h => ?_
         · refine Ycut (fun l w => ∃ (t35 : Bool), l = [(35, Value.bool t35)] ∧ F_towpathref17_Check_k3 R t35 w) ?_ ?_
           · refine Yr ?_
             refine Yn P1 ?_
             refine Yl h fun v27 h => ?_
             refine Yn P4 ?_
             refine Yspl 30 h (fun h => ?_) fun h => ?_
             · refine Yl h fun v32 h => ?_
               refine Yf [.sure, .sure, .plain] [35] ?_
               exact ⟨_, Sub.mk (by kernel_rfl), (decide (((v32.size : Nat) : Int) ≤ 64)), rfl, h⟩
             · refine Yf [.skip, .skip, .skip, .plain] [35] ?_
               exact ⟨_, Sub.mk (by kernel_rfl), false, rfl, h⟩
           · rintro _ w6 ⟨t35, rfl, h⟩
             unfold F_towpathref17_Check_k3 at h
             refine Yc h (fun h => ?_) fun h => ?_
             · refine Yp P1 [2] ?_
               exact YS ⟨0, rfl, h⟩
             · refine Yskip ?_
               exact ⟨_, Sub.mk (by kernel_rfl), rfl, h⟩
         · refine Ycut (fun l w => ∃ (t36 : Bool), l = [(3, Value.bool bare), (36, Value.bool t36)] ∧ F_towpathref17_Check_k4 R bare t36 w) ?_ ?_
           · refine Yp P2 [3, 13, 36] ?_
             refine Yc h (fun h => ?_) fun h => ?_
             · refine Yskip ?_
               exact ⟨_, Sub.mk (by kernel_rfl), (v13 == 3), rfl, h⟩
             · refine Yr ?_
               refine Yf P2 [3, 36] ?_
               exact ⟨_, Sub.mk (by kernel_rfl), (v13 == 4), rfl, h⟩
           · rintro _ w7 ⟨t36, rfl, h⟩
             unfold F_towpathref17_Check_k4 at h
             refine Yc h (fun h => ?_) fun h => ?_
             · refine Yp P1 [39] ?_
               refine Yc h (fun h => ?_) fun h => ?_
               · refine Yp P1 [2] ?_
                 exact YS ⟨0, rfl, h⟩
               · refine Yskip ?_
                 exact ⟨_, Sub.mk (by kernel_rfl), rfl, h⟩
             · refine Yskip ?_
               exact ⟨_, Sub.mk (by kernel_rfl), rfl, h⟩
     · rintro _ w3 ⟨rfl, h⟩
       unfold F_towpathref17_Check_k1 at h
       refine Yp P1 [2] ?_
       exact YS ⟨1, rfl, h⟩

/-! ### towpath/towpathref17.New (function 37) -/

theorem S_towpathref17_New {number : Int} {c : T_api_Config} {x : T_api_Call} {w : World} {R : Option Addr → Int → World → Prop} (h : F_towpathref17_New number c x R w) : C_towpathref17_New number c x w R := by
 unfold F_towpathref17_New at h
 refine Yh Try.func37 ?_
 · refine Yt ?_
   refine Yw pv_ h fun b_ w1 h => ?_
   refine Yw pv_ h fun b_1 w2 h => ?_
   refine Yf P2 [0, 4, 5] ?_
   refine Ys ?_
   refine Yd 0 ?_
   refine Yp P3 [0, 4, 5, 8] ?_
   refine Yc h (fun h => ?_) fun h => ?_
   · refine Yp P2 [6, 7] ?_
     exact YT2 ⟨none, 1, rfl, h⟩
   · refine Yt ?_
     refine YL h fun v12 h => ?_
     refine Ym1 h fun v13 w3 h => ?_
     refine Yf P2 [0, 4, 5, 11] ?_
     refine Yc h (fun h => ?_) fun h => ?_
     · refine Yp P2 [6, 7] ?_
       exact YT2 ⟨none, 7, rfl, h⟩
     · refine Yt ?_
       refine YL h fun v16 h => ?_
       refine Ym1 h fun v17 w4 h => ?_
       refine Yf P2 [0, 4, 5, 15] ?_
       refine Yc h (fun h => ?_) fun h => ?_
       · refine Yp P2 [6, 7] ?_
         exact YT2 ⟨none, 1, rfl, h⟩
       · refine Yskip ?_
         refine Yt ?_
         refine Yn P1 ?_
         refine YL h fun v20 h => ?_
         refine YL h fun v21 h => ?_
         refine Yn P1 ?_
         refine Yw pv_ h fun b_2 w5 h => ?_
         refine Yf P2 [6, 7] ?_
         exact YT2 ⟨(some ⟨b_2, 0, none⟩), 0, rfl, h⟩

/-! ### (*towpath/towpathref17.Task).Begin (function 68) -/
def c68_0 := cb_ Try.f68
def c68_3 := cr_ c68_0
def c68_30 := cr_ c68_3
def c68_33 := cr_ c68_30
def c68_36 := cr_ c68_33
def c68_37 := cl_ c68_36
def c68_40 := cr_ c68_37
def c68_41 := cl_ c68_40
def c68_42 := cl_ c68_41
def r68_42 := co_ c68_42
def c68_55 := cr_ c68_36
def c68_56 := cl_ c68_55
def c68_59 := cr_ c68_56
def c68_60 := cl_ c68_59
def c68_61 := cl_ c68_60
def c68_68 := cr_ c68_61
def c68_69 := cl_ c68_68
def c68_70 := cl_ c68_69
def c68_73 := cr_ c68_70
def r68_73 := co_ c68_73
def o_towpathref17_Task_Begin_42 : List Nat := [0, 1, 2, 3, 4, 5, 6, 7, 8, 9, 10, 11, 12, 13, 14]
def o_towpathref17_Task_Begin_73 : List Nat := [0, 1, 2, 3, 4, 5, 6, 7, 8, 9, 10, 11, 12, 13, 14]

theorem S_towpathref17_Task_Begin {t_ : Option Addr} {mark : Int} {least : Int} {beyond : Slc} {w : World} {R : Int → World → Prop} (h : F_towpathref17_Task_Begin t_ mark least beyond R w) : C_towpathref17_Task_Begin t_ mark least beyond w R := by
 unfold F_towpathref17_Task_Begin at h
 refine Yh Try.func68 ?_
 · refine Yp P1 [0, 1, 2, 3] ?_
   refine Ys ?_
   refine Yd 0 ?_
   refine Yt ?_
   refine Yn P1 ?_
   refine reg_val (op := (Op.binOp BinOp.eql 87 (Operand.tmp 13) (Operand.const (Value.pointer none)) 87)) (ty := 4) (dst := some 14) (Value.bool t_.isNone) (by kernel_rfl) (fun ww => run_ptr_eql_R (p := t_) (by kernel_rfl) (by kernel_rfl) (by kernel_rfl) ww) ?_
   refine Yf P1 [0, 1, 2, 3, 12] ?_
   refine Yc h (fun h => ?_) fun h => ?_
   · refine Yp P1 [8] ?_
     exact YS ⟨2, rfl, h⟩
   · refine Yt ?_
     refine Yn P1 ?_
     refine Yv 16 h fun hp_3 h => ?_
     refine Yn P1 ?_
     refine Yn P1 ?_
     refine Yl h fun v19 h => ?_
     refine Yf P1 [0, 1, 2, 3, 15] ?_
     refine Yc h (fun h => ?_) fun h => ?_
     · refine Yp P1 [8] ?_
       exact YS ⟨10, rfl, h⟩
     · refine Ycut (fun l w => ∃ (t20 : Bool), l = [(0, Value.pointer t_), (1, Value.int .i64 mark), (2, Value.int .i64 least), (3, sv_ beyond), (20, Value.bool t20)] ∧ F_towpathref17_Task_Begin_k0 t_ mark least beyond R t20 w) ?_ ?_
       · refine Yr ?_
         refine Yn [.plain, .plain, .plain, .plain, .plain, .pick, .plain, .plain, .plain, .pick, .plain, .plain, .plain, .plain, .pick, .plain, .plain, .plain, .plain] ?_
         refine Yspl 36 h (fun h => ?_) fun h => ?_
         · refine Yf [.skip, .skip, .plain, .plain] [0, 1, 2, 3, 20] ?_
           exact ⟨_, Sub.mk (by kernel_rfl), true, rfl, h⟩
         · refine Ym1 h fun v40 w20 h => ?_
           refine Yf [.sure, .plain, .plain] [0, 1, 2, 3, 20] ?_
           exact ⟨_, Sub.mk (by kernel_rfl), (!v40), rfl, h⟩
       · rintro _ w1 ⟨t20, rfl, h⟩
         unfold F_towpathref17_Task_Begin_k0 at h
         refine Yc h (fun h => ?_) fun h => ?_
         · refine Yp P1 [8] ?_
           exact YS ⟨1, rfl, h⟩
         · refine Yskip ?_
           refine Yt ?_
           refine Yn P1 ?_
           refine Yv 43 h fun hp_5 h => ?_
           refine Yn P1 ?_
           refine Yn P1 ?_
           refine Yo h fun w2 h => ?_
           refine Yf [] [0, 1, 2, 3] ?_
           refine Yt ?_
           refine Yn P2 ?_
           refine Yv 46 h fun hp_7 h => ?_
           refine Yn P1 ?_
           refine Yn P1 ?_
           refine Yo h fun w3 h => ?_
           refine Yf [] [0, 1, 2, 3] ?_
           refine Ys ?_
           refine Yt ?_
           refine Yn P1 ?_
           refine Yv 50 h fun hp_19 h => ?_
           refine Yn P1 ?_
           refine Yn P2 ?_
           refine Yl h fun v54 h => ?_
           refine Yf P1 [0, 1, 2, 3, 55] ?_
           refine Yc h (fun h => ?_) fun h => ?_
           · refine Ys ?_
             refine wpE_mixregion (id := 10) (ops := r68_42) o_towpathref17_Task_Begin_42 (by kernel_rfl) (by kernel_rfl) (by kernel_rfl) (by kernel_rfl) (fun w4 hw => ?_)
             replace h := h w4 hw
             clear hw
             refine Mn P1 ?_
             refine Mv 57 h fun hp_22 h => ?_
             refine Mn P1 ?_
             refine Mn P1 ?_
             refine ML 3 h fun v60 hc h => ?_
             refine Mn P1 ?_
             refine Mv 61 h fun hp_23 h => ?_
             refine Mn P1 ?_
             refine Mn P2 ?_
             refine Ml 8 h fun v65 hc h => ?_
             refine mreg_enter (op := (Op.call (Call.mk (Callee.value (Operand.func 98)) #[(Operand.tmp 60), (Operand.tmp 65)] #[69, 9]))) (ty := 34) (dst := some 66) 9 [3, 8, 2, 7, 1, 6, 0, 5, 4] [] 98 #[Value.agg #[Value.int .i64 v60.Lanes, Value.int .i64 v60.Shards, Value.int .i64 v60.Window, Value.int .i64 v60.Queue], Value.string v65] (by kernel_rfl) (by kernel_rfl) (by kernel_rfl) (by kernel_rfl) (by kernel_rfl) (fun ww => by kernel_rfl) (Calls.mono h ?_)
             rintro _ w5 ⟨k_, v66_1, rfl, h⟩
             refine ⟨_, rfl, trivial, ?_⟩
             refine Mf (Pl 5) [0, 1, 2, 3, 9] ?_
             refine Yt ?_
             refine Yn P2 ?_
             refine Yw (sl_ 1 1) h fun b_ w6 h => ?_
             refine Yv 69 h fun hp_25 h => ?_
             refine Yn P1 ?_
             refine Yn P1 ?_
             refine Yo h fun w7 h => ?_
             refine Yf [] [0, 1, 2, 3] ?_
             refine Yt ?_
             refine Yn (Pl 5) ?_
             refine Ym1 h fun v79 w8 h => ?_
             refine Yw (sl_ 1 1) h fun b_1 w9 h => ?_
             refine Yv 74 h fun hp_27 h => ?_
             refine Yn P1 ?_
             refine Yn P1 ?_
             refine Yo h fun w10 h => ?_
             refine Yf [] [] ?_
             refine Yp P1 [8] ?_
             exact YS ⟨0, rfl, h⟩
           · refine Yskip ?_
             refine Ys ?_
             refine Yp P1 [0, 1, 2, 3, 11] ?_
             refine Yd 1 ?_
             obtain ⟨I, μ, h0, hr⟩ := h
             refine Yloop (fun m l w => ∃ (i : Int), l = [(0, Value.pointer t_), (1, Value.int .i64 mark), (2, Value.int .i64 least), (3, sv_ beyond), (11, Value.int .i64 i)] ∧ I i w ∧ μ i w = m) ⟨0, rfl, h0, rfl⟩ ?_
             rintro _ _ w11 ⟨i, rfl, hI, rfl⟩
             obtain ⟨again_, again__h, h⟩ : ∃ again_ : Int → World → Prop, (∀ i' w', again_ i' w' → I i' w' ∧ μ i' w' < μ i w11) ∧ F_towpathref17_Task_Begin_L1 t_ mark least beyond R again_ i w11 := ⟨_, fun _ _ h => h, hr i w11 hI⟩
             clear h0 hI
             unfold F_towpathref17_Task_Begin_L1 at h
             refine Ys ?_
             refine Yt ?_
             refine Yn P2 ?_
             refine Yv 84 h fun hp_47 h => ?_
             refine Yn P1 ?_
             refine Yn P2 ?_
             refine Yl h fun v88 h => ?_
             refine Yf P1 [0, 1, 2, 3, 11, 89] ?_
             refine Yc h (fun h => ?_) fun h => ?_
             · refine Yskip ?_
               refine Ys ?_
               refine Yd 2 ?_
               refine Yt ?_
               refine Yn P2 ?_
               refine Yv 93 h fun hp_56 h => ?_
               refine Yn P1 ?_
               refine Yn P1 ?_
               refine Yl h fun v96 h => ?_
               refine Yn P1 ?_
               refine Yw (sl_ 1 1) h fun b_2 w12 h => ?_
               obtain ⟨src, hs, h⟩ := h
               refine reg_append (t := 23) (tx := 23) (e := 3) (a := (Operand.tmp 96)) (xo := (Operand.tmp 98)) (s := v96) (x := (Slc.mk (some ⟨b_2, 0, none⟩) 1 1)) (sz := 1) (by_ := 8) (zs := [Value.int .i64 0]) (ty := 23) (dst := some 99)  src (by kernel_rfl) (by kernel_rfl) (by kernel_rfl) (by kernel_rfl) (by kernel_rfl) (by kernel_rfl) (by kernel_rfl) (by kernel_rfl) (by kernel_rfl) hs (AppendW.mono h (fun v99 w13 h => ?_))
               refine Yv 92 h fun hp_57 h => ?_
               refine Yn P1 ?_
               refine Yn P1 ?_
               refine Yo h fun w14 h => ?_
               refine Yf [] [0, 1, 2, 3, 11] ?_
               refine wpE_mixregion (id := 18) (ops := r68_73) o_towpathref17_Task_Begin_73 (by kernel_rfl) (by kernel_rfl) (by kernel_rfl) (by kernel_rfl) (fun w15 hw => ?_)
               replace h := h w15 hw
               clear hw
               refine Mn P2 ?_
               refine Mv 103 h fun hp_58 h => ?_
               refine Mn P1 ?_
               refine Mn P1 ?_
               refine Ml 4 h fun v106 hc h => ?_
               refine Mn P4 ?_
               refine mreg_enter (op := (Op.call (Call.mk (Callee.value (Operand.func 99)) #[(Operand.tmp 107), (Operand.tmp 108), (Operand.tmp 109), (Operand.tmp 110)] #[87, 3, 3, 23]))) (ty := 80) (dst := some 111) 9 [5, 6, 7, 8] [(4, fun w' => w'.cell? ⟨(pblk t_), (poff t_) + 11, none⟩ = some (sv_ v106))] 99 #[Value.pointer t_, Value.int .i64 mark, Value.int .i64 least, sv_ beyond] (by kernel_rfl) (by kernel_rfl) (by kernel_rfl) (by kernel_rfl) (by kernel_rfl) (fun ww => by kernel_rfl) (Calls.mono h ?_)
               rintro _ w16 ⟨v111, rfl, h⟩
               obtain ⟨hk0, h⟩ := h
               refine ⟨_, rfl, ⟨hk0, trivial⟩, ?_⟩
               refine mreg_new (op := (Op.buildSlice 134 1 #[(0, (Operand.tmp 111))])) (ty := 134) (dst := some 112) 10 [9, 5, 6, 7, 8] [(4, fun w' => w'.cell? ⟨(pblk t_), (poff t_) + 11, none⟩ = some (sv_ v106))] (fun bb => Value.slice (some ⟨bb, 0, none⟩) 1 1) (Obj.cells ([Value.int .u8 v111.Kind, Value.int .i64 v111.From, Value.int .i64 v111.Number, Value.string v111.Write.Key, Value.string v111.Write.Val, Value.bool v111.Write.Drop, Value.string v111.Key, Value.string v111.End, sv_ v111.Beyond]).toArray ty_api_Req (0, 0)) (by kernel_rfl) (by kernel_rfl) (by kernel_rfl) (by kernel_rfl) (by kernel_rfl) (by kernel_rfl) (fun b_3 w17 hb hw => ?_)
               replace h := h b_3 w17 hb hw
               clear hb hw
               obtain ⟨hk0, h⟩ := h
               refine ⟨⟨hk0, trivial⟩, ?_⟩
               obtain ⟨src, hs, h⟩ := h
               refine mreg_append (t := 134) (tx := 134) (e := 80) (a := (Operand.tmp 106)) (xo := (Operand.tmp 112)) (s := v106) (x := (Slc.mk (some ⟨b_3, 0, none⟩) 1 1)) (sz := 9) (by_ := 120) (zs := [Value.int .u8 0, Value.int .i64 0, Value.int .i64 0, Value.string ByteArray.empty, Value.string ByteArray.empty, Value.bool false, Value.string ByteArray.empty, Value.string ByteArray.empty, Value.slice none 0 0]) (ty := 134) (dst := some 113) 11 [4, 9, 10, 3, 5, 6, 7, 8, 2, 1] [] src (by kernel_rfl) (by kernel_rfl) (by kernel_rfl) (by kernel_rfl) (by kernel_rfl) (by kernel_rfl) (by kernel_rfl) (by kernel_rfl) (by kernel_rfl) (by kernel_rfl) (by kernel_rfl) (by kernel_rfl) (by kernel_rfl) hs (AppendW.mono h (fun v113 w18 h => ?_))
               refine ⟨trivial, ?_⟩
               refine Mv 102 h fun hp_59 h => ?_
               refine Mn P1 ?_
               refine Mn P1 ?_
               refine Mstore 14 [0, 1, 2, 3, 4, 5, 6, 7, 8, 9, 10, 11, 13, 12] [] h fun w19 h => ?_
               refine ⟨trivial, ?_⟩
               refine Mf [] [0, 1, 2, 3, 11] ?_
               refine Yr ?_
               refine Yf P3 [0, 1, 2, 3, 11] ?_
               have hb_ := again__h _ _ h
               exact ⟨_, hb_.2, _, Sub.mk (by kernel_rfl), (IntKind.i64.wrap (i + 1)), rfl, hb_.1, rfl⟩
             · refine Yexit 1 ?_
               refine Yp P1 [8] ?_
               exact YS ⟨0, rfl, h⟩

/-! ### (*towpath/towpathref17.Task).Got (function 70) -/
def c70_0 := cb_ Try.f70
def c70_3 := cr_ c70_0
def c70_4 := cl_ c70_3
def c70_5 := cl_ c70_4
def c70_8 := cr_ c70_5
def c70_13 := cr_ c70_8
def c70_14 := cl_ c70_13
def r70_14 := co_ c70_14
def c70_16 := cr_ c70_13
def c70_21 := cr_ c70_16
def c70_22 := cl_ c70_21
def r70_22 := co_ c70_22
def c70_30 := cr_ c70_3
def c70_31 := cl_ c70_30
def r70_31 := co_ c70_31
def o_towpathref17_Task_Got_31 : List Nat := [0, 1, 2, 3, 4, 5, 6, 7, 8, 9, 10]

theorem S_towpathref17_Task_Got {t_ : Option Addr} {r : T_api_Resp} {w : World} {R : Int → World → Prop} (h : F_towpathref17_Task_Got t_ r R w) : C_towpathref17_Task_Got t_ r w R := by
 unfold F_towpathref17_Task_Got at h
 refine Yh Try.func70 ?_
 · refine Yt ?_
   refine Yw pv_ h fun b_ w1 h => ?_
   refine Yf P1 [0, 3] ?_
   refine Ys ?_
   refine Yd 0 ?_
   refine Yt ?_
   refine Yn P1 ?_
   refine reg_val (op := (Op.binOp BinOp.eql 87 (Operand.tmp 6) (Operand.const (Value.pointer none)) 87)) (ty := 4) (dst := some 7) (Value.bool t_.isNone) (by kernel_rfl) (fun ww => run_ptr_eql_R (p := t_) (by kernel_rfl) (by kernel_rfl) (by kernel_rfl) ww) ?_
   refine Yf P1 [0, 3, 5] ?_
   refine Yc h (fun h => ?_) fun h => ?_
   · refine Yp P1 [4] ?_
     exact YS ⟨2, rfl, h⟩
   · refine Ys ?_
     refine wpE_drawregion (id := 3) (ops := r70_14) (by kernel_rfl) (by kernel_rfl) (by kernel_rfl) ?_
     refine Qn P1 ?_
     refine Qv 9 h fun hp_8 h => ?_
     refine Qn P1 ?_
     refine Qn P1 ?_
     refine Ql h fun v12 h => ?_
     refine Qn P2 ?_
     refine Qv 14 h fun hp_9 h => ?_
     refine Qn P1 ?_
     refine Qn P1 ?_
     refine Ql h fun v17 h => ?_
     refine Qf P2 [0, 3, 8] h fun w2 h => ?_
     refine Yc h (fun h => ?_) fun h => ?_
     · refine Yp P1 [4] ?_
       exact YS ⟨9, rfl, h⟩
     · refine Ys ?_
       refine wpE_drawregion (id := 5) (ops := r70_22) (by kernel_rfl) (by kernel_rfl) (by kernel_rfl) ?_
       refine Qn P1 ?_
       refine Ql h fun v21 h => ?_
       refine Qn P1 ?_
       refine Qv 22 h fun hp_11 h => ?_
       refine Qn P1 ?_
       refine Qn P1 ?_
       refine Ql h fun v25 h => ?_
       refine Qf P2 [0, 3, 19] h fun w3 h => ?_
       refine Yc h (fun h => ?_) fun h => ?_
       · refine Yp P1 [4] ?_
         exact YS ⟨1, rfl, h⟩
       · refine Yskip ?_
         refine Ys ?_
         refine wpE_mixregion (id := 7) (ops := r70_31) o_towpathref17_Task_Got_31 (by kernel_rfl) (by kernel_rfl) (by kernel_rfl) (by kernel_rfl) (fun w4 hw => ?_)
         replace h := h w4 hw
         clear hw
         refine Mn P2 ?_
         refine Mv 28 h fun hp_14 h => ?_
         refine Mn P1 ?_
         refine Mn P1 ?_
         refine Ml 4 h fun v31 hc h => ?_
         refine ML 5 h fun v32 hc h => ?_
         refine mreg_new (op := (Op.buildSlice 101 1 #[(0, (Operand.tmp 32))])) (ty := 101) (dst := some 33) 6 [5] [(4, fun w' => w'.cell? ⟨(pblk t_), (poff t_) + 13, none⟩ = some (sv_ v31))] (fun bb => Value.slice (some ⟨bb, 0, none⟩) 1 1) (Obj.cells ([Value.int .i64 v32.To, Value.bool v32.OK, sv_ v32.Entries, sv_ v32.Held, Value.int .i64 v32.Count]).toArray ty_api_Resp (0, 0)) (by kernel_rfl) (by kernel_rfl) (by kernel_rfl) (by kernel_rfl) (by kernel_rfl) (by kernel_rfl) (fun b_1 w5 hb hw => ?_)
         replace h := h b_1 w5 hb hw
         clear hb hw
         obtain ⟨hk0, h⟩ := h
         refine ⟨⟨hk0, trivial⟩, ?_⟩
         obtain ⟨src, hs, h⟩ := h
         refine mreg_append (t := 101) (tx := 101) (e := 95) (a := (Operand.tmp 31)) (xo := (Operand.tmp 33)) (s := v31) (x := (Slc.mk (some ⟨b_1, 0, none⟩) 1 1)) (sz := 5) (by_ := 72) (zs := [Value.int .i64 0, Value.bool false, Value.slice none 0 0, Value.slice none 0 0, Value.int .i64 0]) (ty := 101) (dst := some 34) 7 [4, 6, 3, 5, 2, 1] [] src (by kernel_rfl) (by kernel_rfl) (by kernel_rfl) (by kernel_rfl) (by kernel_rfl) (by kernel_rfl) (by kernel_rfl) (by kernel_rfl) (by kernel_rfl) (by kernel_rfl) (by kernel_rfl) (by kernel_rfl) (by kernel_rfl) hs (AppendW.mono h (fun v34 w6 h => ?_))
         refine ⟨trivial, ?_⟩
         refine Mv 27 h fun hp_15 h => ?_
         refine Mn P1 ?_
         refine Mn P1 ?_
         refine Mstore 10 [0, 1, 2, 3, 4, 5, 6, 7, 9, 8] [] h fun w7 h => ?_
         refine ⟨trivial, ?_⟩
         refine Mf [] [] ?_
         refine Yp P1 [4] ?_
         exact YS ⟨0, rfl, h⟩

/-! ### (*towpath/towpathref17.Task).Sent (function 72) -/
def c72_0 := cb_ Try.f72
def c72_3 := cr_ c72_0
def c72_13 := cr_ c72_3
def c72_14 := cl_ c72_13
def c72_15 := cl_ c72_14
def r72_15 := co_ c72_15

theorem S_towpathref17_Task_Sent {t_ : Option Addr} {w : World} {R : Int → World → Prop} (h : F_towpathref17_Task_Sent t_ R w) : C_towpathref17_Task_Sent t_ w R := by
 unfold F_towpathref17_Task_Sent at h
 refine Yh Try.func72 ?_
 · refine Yp P1 [0] ?_
   refine Ys ?_
   refine Yt ?_
   refine Yn P1 ?_
   refine reg_val (op := (Op.binOp BinOp.eql 87 (Operand.tmp 3) (Operand.const (Value.pointer none)) 87)) (ty := 4) (dst := some 4) (Value.bool t_.isNone) (by kernel_rfl) (fun ww => run_ptr_eql_R (p := t_) (by kernel_rfl) (by kernel_rfl) (by kernel_rfl) ww) ?_
   refine Yf [] [0, 4] ?_
   refine Yc h (fun h => ?_) fun h => ?_
   · refine Yp P1 [2] ?_
     exact YS ⟨2, rfl, h⟩
   · refine Yskip ?_
     refine Ys ?_
     refine Ys ?_
     refine wpE_drawregion (id := 3) (ops := r72_15) (by kernel_rfl) (by kernel_rfl) (by kernel_rfl) ?_
     refine Qn P1 ?_
     refine Qv 5 h fun hp_6 h => ?_
     refine Qn P1 ?_
     refine Qn P1 ?_
     refine Ql h fun v8 h => ?_
     refine Qn P1 ?_
     refine Qv 9 h fun hp_7 h => ?_
     refine Qn P1 ?_
     refine Qn P1 ?_
     refine Ql h fun v12 h => ?_
     refine Qf P2 [0, 14] h fun w1 h => ?_
     refine Yc h (fun h => ?_) fun h => ?_
     · refine Yp P1 [2] ?_
       exact YS ⟨9, rfl, h⟩
     · refine Yskip ?_
       refine Yt ?_
       refine Yn P1 ?_
       refine Yv 15 h fun hp_9 h => ?_
       refine Yn P1 ?_
       refine Yn P1 ?_
       refine Yl h fun v18 h => ?_
       refine Yn P3 ?_
       refine Yo h fun w2 h => ?_
       refine Yf [] [] ?_
       refine Yp P1 [2] ?_
       exact YS ⟨0, rfl, h⟩
end
end Go.Proofs.Ytpedclhflmhakaa
