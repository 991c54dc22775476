/- WRITTEN BY PROGRAM (dec.py): for each Go function the clean formula F, the call's contract C, and the proof S that F gives C. -/
import Derived.Test.YtpedclhflmhakaaRows
import Derived.Test.YtpedclhflmhakaaGF
namespace Go.Proofs.Ytpedclhflmhakaa
open Go
set_option linter.unusedVariables false
set_option maxRecDepth 100000
set_option maxHeartbeats 4000000
noncomputable section

/-! ### towpath/towpathlaw17.CallChecks (function 7) -/
def c7_0 := cb_ Try.f7
def c7_1 := cl_ c7_0
def r7_1 := co_ c7_1
def c7_3 := cr_ c7_0
def c7_4 := cl_ c7_3
def r7_4 := co_ c7_4
def c7_6 := cr_ c7_3
def o_towpathlaw17_CallChecks_4 : List Nat := [0, 2, 1, 3, 4, 5, 6, 7, 8]

theorem S_towpathlaw17_CallChecks {c : T_api_Call} {w : World} {R : Bool → World → Prop} (h : F_towpathlaw17_CallChecks c R w) : C_towpathlaw17_CallChecks c w R := by
 unfold F_towpathlaw17_CallChecks at h
 unfold C_towpathlaw17_CallChecks
 refine Calls.mono (calls_of_wpE (args := [Value.agg #[Value.int .u8 c.Kind, Value.string c.Key, Value.string c.End]]) (R := fun v w' => ∃ (r0 : Bool), v = Value.bool r0 ∧ R r0 w') Try.func7 (c := c7_0) (by kernel_rfl) 11 (by kernel_rfl) (by kernel_rfl) [(0, Value.agg #[Value.int .u8 c.Kind, Value.string c.Key, Value.string c.End])] (by kernel_rfl) ?_) ?_
 · refine Zt r7_1 c7_3 ?_
   refine Zn [] 0 [(0, [], .agg #[.int .u8 c.Kind, .string c.Key, .string c.End])] ?_
   refine Zw (some 1) (fun bb => pv_ bb) (Obj.cells ([.int .u8 c.Kind, .string c.Key, .string c.End]).toArray ty_api_Call (0, 0)) (fun b_ w1 hb hw => ?_)
   replace h := h b_ w1 hb hw
   clear hb hw
   refine Zf P1 [(1, pv_ b_)] ?_
   change WpE _ _ c7_3 _ _ _
   refine Zs c7_4 c7_6 ?_
   refine wpE_mixregion (id := 1) (ops := r7_4) o_towpathlaw17_CallChecks_4 (by kernel_rfl) (by kernel_rfl) (by kernel_rfl) (by kernel_rfl) (fun w2 hw => ?_)
   replace h := h w2 hw
   clear hw
   refine mreg_run [] 0 [(1, [], pv_ b_)] (by kernel_rfl) (by kernel_rfl) ?_
   obtain ⟨v3, hc, h⟩ := h
   refine mreg_loadN (i := 0) (by kernel_rfl) (t := 65) (a := (Operand.tmp 1)) (b := b_) (o := 0) (ty := 65) (dst := some 3) [Value.int .u8 v3.Kind, Value.string v3.Key, Value.string v3.End] (by kernel_rfl) (by kernel_rfl) (by kernel_rfl) (k := 3) (by kernel_rfl) (by kernel_rfl) hc ?_
   refine mreg_run [] 1 [(1, [], pv_ b_), (3, [], Value.agg #[Value.int .u8 v3.Kind, Value.string v3.Key, Value.string v3.End])] (by kernel_rfl) (by kernel_rfl) ?_
   obtain ⟨v5, hc, h⟩ := h
   refine mreg_loadN (i := 2) (by kernel_rfl) (t := 65) (a := (Operand.tmp 1)) (b := b_) (o := 0) (ty := 65) (dst := some 5) [Value.int .u8 v5.Kind, Value.string v5.Key, Value.string v5.End] (by kernel_rfl) (by kernel_rfl) (by kernel_rfl) (k := 3) (by kernel_rfl) (by kernel_rfl) hc ?_
   refine mreg_run [] 2 [(3, [], Value.agg #[Value.int .u8 v3.Kind, Value.string v3.Key, Value.string v3.End]), (5, [], Value.agg #[Value.int .u8 v5.Kind, Value.string v5.Key, Value.string v5.End])] (by kernel_rfl) (by kernel_rfl) ?_
   refine mreg_enter (op := (Op.call (Call.mk (Callee.value (Operand.func 28)) #[(Operand.tmp 3)] #[65]))) (ty := 32) (dst := some 4) 1 [0] [(2, fun w' => CellsAt w' b_ 0 [Value.int .u8 v5.Kind, Value.string v5.Key, Value.string v5.End])] 28 #[Value.agg #[Value.int .u8 v3.Kind, Value.string v3.Key, Value.string v3.End]] (by kernel_rfl) (by kernel_rfl) (by kernel_rfl) (by kernel_rfl) (by kernel_rfl) (fun ww => by kernel_rfl) (Calls.mono h ?_)
   rintro _ w3 ⟨v4, rfl, h⟩
   obtain ⟨hk0, h⟩ := h
   refine ⟨_, rfl, ⟨hk0, trivial⟩, ?_⟩
   refine mreg_run [] 3 [(4, [], Value.int .i64 v4), (5, [], Value.agg #[Value.int .u8 v5.Kind, Value.string v5.Key, Value.string v5.End])] (by kernel_rfl) (by kernel_rfl) ?_
   refine mreg_enter (op := (Op.call (Call.mk (Callee.value (Operand.func 29)) #[(Operand.tmp 5)] #[65]))) (ty := 32) (dst := some 6) 3 [1, 2, 0] [] 29 #[Value.agg #[Value.int .u8 v5.Kind, Value.string v5.Key, Value.string v5.End]] (by kernel_rfl) (by kernel_rfl) (by kernel_rfl) (by kernel_rfl) (by kernel_rfl) (fun ww => by kernel_rfl) (Calls.mono h ?_)
   rintro _ w4 ⟨v6, rfl, h⟩
   refine ⟨_, rfl, trivial, ?_⟩
   refine mreg_run P2 6 [(8, [], Value.bool (v4 == v6))] (by kernel_rfl) (by kernel_rfl) ?_
   refine mreg_split 8 (v4 == v6) (by kernel_rfl) (fun hb => ?_) (fun hb => ?_)
   · replace h := h.1 hb
     refine mreg_run [] 6 [(8, [], Value.bool true)] (by kernel_rfl) (by kernel_rfl) ?_
     refine mreg_run [] 6 [(8, [], Value.bool true)] (by kernel_rfl) (by kernel_rfl) ?_
     refine mreg_enter (op := (Op.call (Call.mk (Callee.value (Operand.func 30)) #[] #[]))) (ty := 4) (dst := some 9) 6 [5, 3, 4, 1, 2, 0] [] 30 #[] (by kernel_rfl) (by kernel_rfl) (by kernel_rfl) (by kernel_rfl) (by kernel_rfl) (fun ww => by kernel_rfl) (Calls.mono h ?_)
     rintro _ w5 ⟨v9, rfl, h⟩
     refine ⟨_, rfl, trivial, ?_⟩
     refine mreg_run P2 9 [(2, [], Value.bool v9)] (by kernel_rfl) (by kernel_rfl) ?_
     refine mreg_end [(2, Value.bool v9)] (by kernel_rfl) (by kernel_rfl) (by kernel_rfl) ?_
     change WpE _ _ c7_6 _ _ _
     refine wpE_ret (by kernel_rfl) ?_
     repeat (first | refine seqQ_ret ?_ | refine blockQ_ret ?_ | refine loopQ_ret ?_ | refine cutQ_ret ?_)
     exact retS (rs := [(ResultVar.tmp 2)]) (v := Value.bool v9) (by kernel_rfl) (⟨by kernel_rfl, trivial⟩) ⟨v9, rfl, h⟩
   · replace h := h.2 hb
     refine mreg_run [] 6 [(8, [], Value.bool false)] (by kernel_rfl) (by kernel_rfl) ?_
     refine mreg_run [.skip, .plain, .plain] 9 [(2, [], Value.bool false)] (by kernel_rfl) (by kernel_rfl) ?_
     refine mreg_end [(2, Value.bool false)] (by kernel_rfl) (by kernel_rfl) (by kernel_rfl) ?_
     change WpE _ _ c7_6 _ _ _
     refine wpE_ret (by kernel_rfl) ?_
     repeat (first | refine seqQ_ret ?_ | refine blockQ_ret ?_ | refine loopQ_ret ?_ | refine cutQ_ret ?_)
     exact retS (rs := [(ResultVar.tmp 2)]) (v := Value.bool false) (by kernel_rfl) (⟨by kernel_rfl, trivial⟩) ⟨false, rfl, h⟩
 · rintro e w' ⟨v, rfl, r0, rfl, h⟩; exact ⟨r0, rfl, h⟩
end
end Go.Proofs.Ytpedclhflmhakaa
