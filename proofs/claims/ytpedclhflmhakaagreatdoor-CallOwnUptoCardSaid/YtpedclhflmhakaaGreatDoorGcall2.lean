/- WRITTEN BY PROGRAM (dec.py): for each Go function the clean formula F, the call's contract C, and the proof S that F gives C. -/
import Derived.Test.YtpedclhflmhakaaGreatDoorRows
import Derived.Test.YtpedclhflmhakaaGreatDoorGF
namespace Go.Proofs.YtpedclhflmhakaaGreatDoor
open Go
set_option linter.unusedVariables false
set_option maxRecDepth 100000
set_option maxHeartbeats 4000000
noncomputable section

/-! ### (*towpath/call.Task).there (function 71) -/

theorem S_call_Task_there {t_ : Option Addr} {w : World} {R : Bool → World → Prop} (h : F_call_Task_there t_ R w) : C_call_Task_there t_ w R := by
 unfold F_call_Task_there at h
 refine Yh Tryz.func71 ?_
 · refine Yp P1 [0] ?_
   refine Yt ?_
   refine Yn P1 ?_
   refine reg_val (op := (Op.binOp BinOp.neq 63 (Operand.tmp 3) (Operand.const (Value.pointer none)) 63)) (ty := 4) (dst := some 4) (Value.bool (!t_.isNone)) (by kernel_rfl) (fun ww => run_ptr_neq_R (p := t_) (by kernel_rfl) (by kernel_rfl) (by kernel_rfl) ww) ?_
   refine Yn P2 ?_
   refine Yspl 5 h (fun h => ?_) fun h => ?_
   · refine Yv 6 h fun hp_0 h => ?_
     refine Yn [.sure] ?_
     refine Yn [.sure] ?_
     refine Yl h fun v9 h => ?_
     refine Yf [.sure, .plain, .plain] [2] ?_
     exact YS ⟨(v9 != 0), rfl, h⟩
   · refine Yf [.skip, .skip, .skip, .skip, .plain, .plain] [2] ?_
     exact YS ⟨false, rfl, h⟩

/-! ### towpath/call.may (function 72) -/

theorem S_call_may {l_ : Slc} {than : Int} {w : World} {R : Bool → World → Prop} (h : F_call_may l_ than R w) : C_call_may l_ than w R := by
 unfold F_call_may at h
 refine Yh Tryz.func72 ?_
 · refine Yp P1 [0, 1] ?_
   refine Ys ?_
   refine Yp P3 [1, 7, 8, 9] ?_
   refine Yd 0 ?_
   obtain ⟨I, μ, h0, hr⟩ := h
   refine Yloop (fun m l w => ∃ (than1 : Int) (t9 : Int), l = [(1, Value.int .i64 than1), (7, sv_ l_), (8, Value.int .i64 ((l_.len : Nat) : Int)), (9, Value.int .i64 t9)] ∧ I than1 t9 w ∧ μ than1 t9 w = m) ⟨than, 0, rfl, h0, rfl⟩ ?_
   rintro _ _ w1 ⟨than1, t9, rfl, hI, rfl⟩
   obtain ⟨again_, again__h, h⟩ : ∃ again_ : Int → Int → World → Prop, (∀ than1' t9' w', again_ than1' t9' w' → I than1' t9' w' ∧ μ than1' t9' w' < μ than1 t9 w1) ∧ F_call_may_L0 l_ R again_ than1 t9 w1 := ⟨_, fun _ _ _ h => h, hr than1 t9 w1 hI⟩
   clear h0 hI
   unfold F_call_may_L0 at h
   refine Yp P1 [1, 7, 8, 9, 10] ?_
   refine Ys ?_
   refine Yc h (fun h => ?_) fun h => ?_
   · refine Yskip ?_
     refine Ys ?_
     refine Yd 1 ?_
     refine Yt ?_
     obtain ⟨hp_7, h⟩ := h
     refine Yu 7 (fun pp => .slice pp l_.len l_.cap) hp_7 ?_
     refine Yi1 h fun h => ?_
     refine Yl h fun n_ h => ?_
     refine Yn P1 ?_
     refine Yu 7 (fun pp => .slice pp l_.len l_.cap) hp_7.symm ?_
     refine Yf [] [1, 6, 7, 8, 9] ?_
     refine Ys ?_
     refine Yp [.plain, .plain, .plain, .plain, .plain, .plain, .pick] [6, 7, 8, 9, 19] ?_
     refine Yc h (fun h => ?_) fun h => ?_
     · refine Yp P1 [4] ?_
       exact YS ⟨false, rfl, h⟩
     · refine Yskip ?_
       refine Yr ?_
       refine Yf P2 [1, 7, 8, 9] ?_
       refine Yr ?_
       refine Yf P2 [1, 7, 8, 9] ?_
       have hb_ := again__h _ _ _ h
       exact ⟨_, hb_.2, _, Sub.mk (by kernel_rfl), n_, (IntKind.i64.wrap (t9 + 1)), rfl, hb_.1, rfl⟩
   · refine Yexit 0 ?_
     refine Yp P1 [4] ?_
     exact YS ⟨true, rfl, h⟩

/-! ### (*towpath/call.Task).shards (function 73) -/

theorem S_call_Task_shards {t_ : Option Addr} {w : World} {R : Value → World → Prop} (h : F_call_Task_shards t_ R w) : C_call_Task_shards t_ w R := by
 unfold F_call_Task_shards at h
 refine Yh Tryz.func73 ?_
 · refine Yt ?_
   refine Yw pv_ h fun b_ w1 h => ?_
   refine Yf P1 [1] ?_
   refine Yp P2 [2] ?_
   exact YS ⟨(Value.func (.func 113) #[] #[pv_ b_]), rfl, h⟩

/-! ### (*towpath/call.Task).All (function 79) -/
def c79_0 := cb_ Tryz.f79
def c79_3 := cr_ c79_0
def c79_4 := cl_ c79_3
def r79_4 := co_ c79_4
def o_call_Task_All_4 : List Nat := [0, 1, 2, 3, 4, 5, 6, 7, 8, 9, 10, 11, 12, 13, 14, 15, 16, 17, 18, 19, 20, 21, 22, 23, 24, 25, 26, 27, 28]

theorem S_call_Task_All {t_ : Option Addr} {w : World} {R : Bool → World → Prop} (h : F_call_Task_All t_ R w) : C_call_Task_All t_ w R := by
 unfold F_call_Task_All at h
 refine Yh Tryz.func79 ?_
 · refine Yp P1 [0] ?_
   refine Ys ?_
   refine wpE_mixregion (id := 1) (ops := r79_4) o_call_Task_All_4 (by kernel_rfl) (by kernel_rfl) (by kernel_rfl) (by kernel_rfl) (fun w1 hw => ?_)
   replace h := h w1 hw
   clear hw
   refine Mn P1 ?_
   refine mreg_enter (op := (Op.call (Call.mk (Callee.value (Operand.func 71)) #[(Operand.tmp 3)] #[63]))) (ty := 4) (dst := some 4) 1 [0] [] 71 #[Value.pointer t_] (by kernel_rfl) (by kernel_rfl) (by kernel_rfl) (by kernel_rfl) (by kernel_rfl) (fun ww => by kernel_rfl) (Calls.mono h ?_)
   rintro _ w2 ⟨v4, rfl, h⟩
   refine ⟨_, rfl, trivial, ?_⟩
   refine Mn P2 ?_
   refine Mspl 5 h (fun h => ?_) fun h => ?_
   · refine Mv 6 h fun hp_0 h => ?_
     refine Mn [.sure] ?_
     refine Mn [.sure] ?_
     refine Ml 6 h fun v9 hc h => ?_
     refine Mn P3 ?_
     refine Mspl 11 h (fun h => ?_) fun h => ?_
     · refine Mv 12 h fun hp_1 h => ?_
       refine Mn [.sure] ?_
       refine Mn [.sure] ?_
       refine Ml 12 h fun v15 hc h => ?_
       refine Mn [.sure, .sure, .plain, .plain, .plain] ?_
       refine Mspl 19 h (fun h => ?_) fun h => ?_
       · refine Mv 20 h fun hp_2 h => ?_
         refine Mn [.sure] ?_
         refine Mn [.sure] ?_
         refine Ml 20 h fun v23 hc h => ?_
         refine Mn [.sure, .sure] ?_
         refine Mv 25 h fun hp_3 h => ?_
         refine Mn [.sure] ?_
         refine Mn [.sure] ?_
         refine Ml 25 h fun v28 hc h => ?_
         refine Mf [.sure, .plain, .plain] [2] ?_
         exact YS ⟨(((v23.len : Nat) : Int) == v28), rfl, h⟩
       · refine Mf [.skip, .skip, .skip, .skip, .skip, .skip, .skip, .skip, .skip, .plain, .plain] [2] ?_
         exact YS ⟨false, rfl, h⟩
     · refine Mf [.skip, .skip, .skip, .skip, .skip, .plain, .plain, .skip, .skip, .skip, .skip, .skip, .skip, .skip, .skip, .skip, .skip, .plain, .plain] [2] ?_
       exact YS ⟨false, rfl, h⟩
   · refine Mf [.skip, .skip, .skip, .plain, .plain, .skip, .skip, .skip, .skip, .skip, .skip, .plain, .plain, .skip, .skip, .skip, .skip, .skip, .skip, .skip, .skip, .skip, .skip, .plain, .plain] [2] ?_
     exact YS ⟨false, rfl, h⟩

/-! ### towpath/call.entries (function 80) -/

theorem S_call_entries {l_ : Slc} {w : World} {R : Slc → World → Prop} (h : F_call_entries l_ R w) : C_call_entries l_ w R := by
 unfold F_call_entries at h
 refine Yh Tryz.func80 ?_
 · refine Yp P1 [0] ?_
   refine Yt ?_
   refine Yn P1 ?_
   refine Ym1 h fun v5 w1 h => ?_
   refine Yf P1 [3] ?_
   refine Yt ?_
   refine Yn P1 ?_
   refine Ym0 h fun w2 h => ?_
   refine Yf [] [3] ?_
   refine Yp P2 [2] ?_
   exact YS ⟨v5, rfl, h⟩

/-! ### (*towpath/call.Task).Answer$1 (function 82) -/

theorem S_call_Task_Answer_1 {a_ : T_api_Held} {b_ : T_api_Held} {w : World} {R : Int → World → Prop} (h : F_call_Task_Answer_1 a_ b_ R w) : C_call_Task_Answer_1 a_ b_ w R := by
 unfold F_call_Task_Answer_1 at h
 refine Yh Tryz.func82 ?_
 · refine Yt ?_
   refine Yw pv_ h fun b_1 w1 h => ?_
   refine Yw pv_ h fun b_2 w2 h => ?_
   refine Yf P1 [2, 3] ?_
   refine Yt ?_
   refine Yn P1 ?_
   refine Yl h fun v6 h => ?_
   refine Yn P1 ?_
   refine Yl h fun v8 h => ?_
   refine Ym1 h fun v9 w3 h => ?_
   refine Yf P1 [4] ?_
   exact YS ⟨v9, rfl, h⟩

/-! ### (*towpath/call.Task).shards$1 (function 113) -/
def c113_0 := cb_ Tryz.f113
def c113_1 := cl_ c113_0
def c113_4 := cr_ c113_1
def c113_5 := cl_ c113_4
def c113_6 := cl_ c113_5
def r113_6 := co_ c113_6
def o_call_Task_shards_1_6 : List Nat := [0, 1, 2, 3, 4, 5, 6, 7, 8, 9, 10, 11, 12, 13, 14]

theorem S_call_Task_shards_1 {yield : Value} {t1 : Option Addr} {w : World} {R : World → Prop} (h : F_call_Task_shards_1 yield t1 R w) : C_call_Task_shards_1 yield t1 w R := by
 unfold F_call_Task_shards_1 at h
 refine Calls.mono (calls_of_wpY (args := [yield, Value.pointer t1]) (R := fun v w' => v = Value.tuple #[] ∧ R w') Tryz.func113 (c := c113_0) (by kernel_rfl) 41 (by kernel_rfl) (by kernel_rfl) [(0, yield), (1, Value.pointer t1)] (by kernel_rfl) ?_) ?_
 · letI : Rnd := rndY Tryz.prog Tryz.f113 (fun v w' => v = Value.tuple #[] ∧ R w')
   refine Ys ?_
   refine Yt ?_
   refine Yv 1 h fun hp_12 h => ?_
   refine Yl h fun v6 h => ?_
   refine Yv 6 h fun hp_13 h => ?_
   refine Yn P1 ?_
   refine Yn P2 ?_
   refine Yl h fun v10 h => ?_
   refine Yn P1 ?_
   refine Yu 1 (fun pp => .pointer pp) hp_12.symm ?_
   refine Yf [] [0, 1, 11] ?_
   refine Yc h (fun h => ?_) fun h => ?_
   · refine Ys ?_
     refine wpE_mixregionY (id := 1) (ops := r113_6) o_call_Task_shards_1_6 (by kernel_rfl) (by kernel_rfl) (by kernel_rfl) (by kernel_rfl) (by kernel_rfl) (fun w1 hw => ?_)
     replace h := h w1 hw
     clear hw
     refine Mv 1 h fun hp_17 h => ?_
     refine Ml 0 h fun v13 hc h => ?_
     refine Mv 13 h fun hp_18 h => ?_
     refine Mn P1 ?_
     refine Mn P1 ?_
     refine ML 3 h fun v16 hc h => ?_
     refine Ml 4 h fun v17 hc h => ?_
     refine Mv 17 h fun hp_19 h => ?_
     refine Mn P1 ?_
     refine Mn P2 ?_
     refine Ml 8 h fun v21 hc h => ?_
     refine mreg_enter (op := (Op.call (Call.mk (Callee.value (Operand.func 114)) #[(Operand.tmp 16), (Operand.tmp 21)] #[56, 9]))) (ty := 45) (dst := some 22) 9 [3, 8, 2, 7, 1, 6, 0, 5, 4] [] 114 #[Value.agg #[Value.int .i64 v16.Lanes, Value.int .i64 v16.Shards, Value.int .i64 v16.Window, Value.int .i64 v16.Queue], Value.string v21] (by kernel_rfl) (by kernel_rfl) (by kernel_rfl) (by kernel_rfl) (by kernel_rfl) (fun ww => by kernel_rfl) (Calls.mono h ?_)
     rintro _ w2 ⟨k_, v22_1, rfl, h⟩
     refine ⟨_, rfl, trivial, ?_⟩
     refine Mf (Pl 5) [0, 3] ?_
     refine Yt ?_
     refine Yn P2 ?_
     refine reg_enterY rfl (fo := (Operand.tmp 25)) (aa := #[(Operand.tmp 26)]) (ts := #[3]) (fv := yield) (ty := 4) (dst := some 27) #[Value.int .i64 k_] (by kernel_rfl) (by kernel_rfl) (by kernel_rfl) (CallsY.mono h ?_)
     rintro _ w3 ⟨v27, rfl, h⟩
     refine ⟨_, rfl, ?_⟩
     refine Yf [] [] ?_
     exact YT0 ⟨rfl, h⟩
   · refine Yskip ?_
     refine Yt ?_
     refine Yv 1 h fun hp_22 h => ?_
     refine Yl h fun v28 h => ?_
     refine Yv 28 h fun hp_23 h => ?_
     refine Yn P1 ?_
     refine Yn P2 ?_
     refine Yl h fun v32 h => ?_
     refine Yf P1 [0, 32, 33] ?_
     refine Yd 0 ?_
     obtain ⟨I, μ, h0, hr⟩ := h
     refine Yloop (fun m l w => ∃ (t33 : Int), l = [(0, yield), (32, Value.int .i64 v32), (33, Value.int .i64 t33)] ∧ I t33 w ∧ μ t33 w = m) ⟨0, rfl, h0, rfl⟩ ?_
     rintro _ _ w4 ⟨t33, rfl, hI, rfl⟩
     obtain ⟨again_, again__h, h⟩ : ∃ again_ : Int → World → Prop, (∀ t33' w', again_ t33' w' → I t33' w' ∧ μ t33' w' < μ t33 w4) ∧ F_call_Task_shards_1_L0 yield R v32 again_ t33 w4 := ⟨_, fun _ _ h => h, hr t33 w4 hI⟩
     clear h0 hI
     unfold F_call_Task_shards_1_L0 at h
     refine Yp P1 [0, 32, 33, 34] ?_
     refine Ys ?_
     refine Yc h (fun h => ?_) fun h => ?_
     · refine Yskip ?_
       refine Ys ?_
       refine Yd 1 ?_
       refine Yp P2 [0, 5, 32, 33] ?_
       refine Yt ?_
       refine Yn P2 ?_
       refine reg_enterY rfl (fo := (Operand.tmp 36)) (aa := #[(Operand.tmp 37)]) (ts := #[3]) (fv := yield) (ty := 4) (dst := some 38) #[Value.int .i64 t33] (by kernel_rfl) (by kernel_rfl) (by kernel_rfl) (CallsY.mono h ?_)
       rintro _ w5 ⟨v38, rfl, h⟩
       refine ⟨_, rfl, ?_⟩
       refine Yf P1 [0, 32, 33, 39] ?_
       refine Yc h (fun h => ?_) fun h => ?_
       · exact YT0 ⟨rfl, h⟩
       · refine Yskip ?_
         refine Yr ?_
         refine Yf P2 [0, 32, 33] ?_
         have hb_ := again__h _ _ h
         exact ⟨_, hb_.2, _, Sub.mk (by kernel_rfl), (IntKind.i64.wrap (t33 + 1)), rfl, hb_.1, rfl⟩
     · refine Yexit 0 ?_
       repeat (first | refine seqQ_exit ?_ | refine loopQ_exit ?_ | refine cutQ_exit ?_ | refine blockQ_hit ?_ | refine blockQ_miss (by kernel_rfl) ?_)
       refine retQ_normal ?_
       repeat (first | refine seqQ_ret ?_ | refine blockQ_ret ?_ | refine loopQ_ret ?_ | refine cutQ_ret ?_)
       exact retT (rs := []) (vs := []) (by kernel_rfl) (trivial) (by kernel_rfl) ⟨rfl, h⟩
 · rintro e w' ⟨v, rfl, rfl, h⟩; exact ⟨rfl, h⟩

/-! ### towpath/call.entries$1 (function 118) -/

theorem S_call_entries_1 {a_ : T_api_Entry} {b_ : T_api_Entry} {w : World} {R : Int → World → Prop} (h : F_call_entries_1 a_ b_ R w) : C_call_entries_1 a_ b_ w R := by
 unfold F_call_entries_1 at h
 refine Yh Tryz.func118 ?_
 · refine Yt ?_
   refine Yw pv_ h fun b_1 w1 h => ?_
   refine Yw pv_ h fun b_2 w2 h => ?_
   refine Yf P1 [2, 3] ?_
   refine Yt ?_
   refine Yn P1 ?_
   refine Yl h fun v6 h => ?_
   refine Yn P1 ?_
   refine Yl h fun v8 h => ?_
   refine Ym1 h fun v9 w3 h => ?_
   refine Yf P1 [4] ?_
   exact YS ⟨v9, rfl, h⟩
end
end Go.Proofs.YtpedclhflmhakaaGreatDoor
