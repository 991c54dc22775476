/- WRITTEN BY PROGRAM (dec.py): for each Go function the clean formula F, the call's contract C, and the proof S that F gives C. -/
import Derived.Test.YtfmkemmgakdddaaRows
import Derived.Test.YtfmkemmgakdddaaGF
namespace Go.Proofs.Ytfmkemmgakdddaa
open Go
set_option linter.unusedVariables false

/-! ### towpath/record.Check$1 (function 62) -/
noncomputable def c_record_Check_1_0 : Code := (Try.f62.body).getD Code.skip
noncomputable def c_record_Check_1_1 : Code := Code.l c_record_Check_1_0
noncomputable def r_record_Check_1_1 : Array Oper := Code.ops c_record_Check_1_1
noncomputable def c_record_Check_1_3 : Code := Code.r c_record_Check_1_0
noncomputable def c_record_Check_1_4 : Code := Code.l c_record_Check_1_3
noncomputable def r_record_Check_1_4 : Array Oper := Code.ops c_record_Check_1_4
noncomputable def c_record_Check_1_6 : Code := Code.r c_record_Check_1_3

set_option maxRecDepth 100000 in
set_option maxHeartbeats 4000000 in
theorem S_record_Check_1 {w_ : T_api_Write} {w : World} {R : Bool → World → Prop} (h : F_record_Check_1 w_ R w) : C_record_Check_1 w_ w R := by
  unfold F_record_Check_1 at h
  unfold C_record_Check_1
  refine Calls.mono (calls_of_wpE (args := [Value.agg #[Value.string w_.Key, Value.string w_.Val, Value.bool w_.Drop]]) (R := fun v w' => ∃ (r0 : Bool), v = Value.bool r0 ∧ R r0 w') Try.func62 (c := c_record_Check_1_0) (by kernel_rfl) 27 (by kernel_rfl) (by kernel_rfl) [(0, Value.agg #[Value.string w_.Key, Value.string w_.Val, Value.bool w_.Drop])] (by kernel_rfl) ?_) ?_
  · refine wpE_seq (x := c_record_Check_1_1) (y := c_record_Check_1_3) (by kernel_rfl) ?_
    refine wpE_region (id := 0) (ops := r_record_Check_1_1) (by kernel_rfl) ?_
    refine reg_run [] 0 [(0, [], Value.agg #[Value.string w_.Key, Value.string w_.Val, Value.bool w_.Drop])] (by kernel_rfl) (by kernel_rfl) ?_
    refine reg_new (op := (Go.Op.box 61 (Go.Operand.tmp 0))) (ty := 0) (dst := some 1) (fun bb => Value.pointer (some ⟨bb, 0, none⟩)) (Obj.cells ([Value.string w_.Key, Value.string w_.Val, Value.bool w_.Drop]).toArray ty_api_Write (0, 0)) (by kernel_rfl) (by kernel_rfl) (fun b_ w1 hb hw => ?_)
    replace h := h b_ w1 hb hw
    clear hb hw
    refine reg_run [.plain] 2 [(1, [], Value.pointer (some ⟨b_, 0, none⟩))] (by kernel_rfl) (by kernel_rfl) ?_
    refine reg_end [(1, Value.pointer (some ⟨b_, 0, none⟩))] (by kernel_rfl) (by kernel_rfl) ?_
    change WpE _ _ c_record_Check_1_3 _ _ _
    refine wpE_seq (x := c_record_Check_1_4) (y := c_record_Check_1_6) (by kernel_rfl) ?_
    refine wpE_region (id := 1) (ops := r_record_Check_1_4) (by kernel_rfl) ?_
    refine reg_run [.plain] 1 [(1, [], Value.pointer (some ⟨b_, 0, none⟩)), (3, [], Value.pointer (some ⟨b_, 0, none⟩))] (by kernel_rfl) (by kernel_rfl) ?_
    obtain ⟨v4, hc, h⟩ := h
    refine reg_load1 (t := 9) (a := (Go.Operand.tmp 3)) (b := b_) (o := 0) (ty := 9) (dst := some 4) (by kernel_rfl) (by kernel_rfl) (by kernel_rfl) hc ?_
    refine reg_run [.plain, .plain, .plain] 5 [(1, [], Value.pointer (some ⟨b_, 0, none⟩)), (6, [], Value.bool (v4.toList == ByteArray.empty.toList)), (7, [(6, false)], Value.pointer (some ⟨b_, 0, none⟩))] (by kernel_rfl) (by kernel_rfl) ?_
    refine reg_split 6 (v4.toList == ByteArray.empty.toList) (by kernel_rfl) (fun hb => ?_) (fun hb => ?_)
    · replace h := h.1 hb
      refine reg_run [] 5 [(1, [], Value.pointer (some ⟨b_, 0, none⟩)), (6, [], Value.bool true), (7, [], undef)] (by kernel_rfl) (by kernel_rfl) ?_
      refine reg_run [.skip, .skip, .skip, .plain, .plain, .skip, .skip, .skip, .skip, .plain, .plain, .skip, .skip, .skip, .skip, .skip, .skip, .skip, .plain, .plain] 25 [(2, [], Value.bool true)] (by kernel_rfl) (by kernel_rfl) ?_
      refine reg_end [(2, Value.bool true)] (by kernel_rfl) (by kernel_rfl) ?_
      change WpE _ _ c_record_Check_1_6 _ _ _
      refine wpE_ret (by kernel_rfl) ?_
      repeat (first | refine seqQ_ret ?_ | refine blockQ_ret ?_ | refine loopQ_ret ?_ | refine cutQ_ret ?_)
      exact retS (rs := [(Go.ResultVar.tmp 2)]) (v := Value.bool true) (by kernel_rfl) (⟨by kernel_rfl, trivial⟩) ⟨true, rfl, h⟩
    · replace h := h.2 hb
      refine reg_run [] 5 [(1, [], Value.pointer (some ⟨b_, 0, none⟩)), (6, [], Value.bool false), (7, [], Value.pointer (some ⟨b_, 0, none⟩))] (by kernel_rfl) (by kernel_rfl) ?_
      refine reg_run [] 5 [(1, [], Value.pointer (some ⟨b_, 0, none⟩)), (6, [], Value.bool false), (7, [], Value.pointer (some ⟨b_, 0, none⟩))] (by kernel_rfl) (by kernel_rfl) ?_
      obtain ⟨v8, hc, h⟩ := h
      refine reg_load1 (t := 9) (a := (Go.Operand.tmp 7)) (b := b_) (o := 0) (ty := 9) (dst := some 8) (by kernel_rfl) (by kernel_rfl) (by kernel_rfl) hc ?_
      refine reg_run [.sure, .sure, .plain, .plain, .plain] 11 [(1, [], Value.pointer (some ⟨b_, 0, none⟩)), (12, [], Value.bool (decide (((v8.size : Nat) : Int) > 64))), (13, [(12, false)], Value.pointer (some ⟨b_, 1, none⟩))] (by kernel_rfl) (by kernel_rfl) ?_
      refine reg_split 12 (decide (((v8.size : Nat) : Int) > 64)) (by kernel_rfl) (fun hb => ?_) (fun hb => ?_)
      · replace h := h.1 hb
        refine reg_run [] 11 [(1, [], Value.pointer (some ⟨b_, 0, none⟩)), (12, [], Value.bool true), (13, [], undef)] (by kernel_rfl) (by kernel_rfl) ?_
        refine reg_run [.skip, .skip, .skip, .plain, .plain, .skip, .skip, .skip, .skip, .skip, .skip, .skip, .plain, .plain] 25 [(2, [], Value.bool true)] (by kernel_rfl) (by kernel_rfl) ?_
        refine reg_end [(2, Value.bool true)] (by kernel_rfl) (by kernel_rfl) ?_
        change WpE _ _ c_record_Check_1_6 _ _ _
        refine wpE_ret (by kernel_rfl) ?_
        repeat (first | refine seqQ_ret ?_ | refine blockQ_ret ?_ | refine loopQ_ret ?_ | refine cutQ_ret ?_)
        exact retS (rs := [(Go.ResultVar.tmp 2)]) (v := Value.bool true) (by kernel_rfl) (⟨by kernel_rfl, trivial⟩) ⟨true, rfl, h⟩
      · replace h := h.2 hb
        refine reg_run [] 11 [(1, [], Value.pointer (some ⟨b_, 0, none⟩)), (12, [], Value.bool false), (13, [], Value.pointer (some ⟨b_, 1, none⟩))] (by kernel_rfl) (by kernel_rfl) ?_
        refine reg_run [] 11 [(1, [], Value.pointer (some ⟨b_, 0, none⟩)), (12, [], Value.bool false), (13, [], Value.pointer (some ⟨b_, 1, none⟩))] (by kernel_rfl) (by kernel_rfl) ?_
        obtain ⟨v14, hc, h⟩ := h
        refine reg_load1 (t := 9) (a := (Go.Operand.tmp 13)) (b := b_) (o := 1) (ty := 9) (dst := some 14) (by kernel_rfl) (by kernel_rfl) (by kernel_rfl) hc ?_
        refine reg_run [.sure, .sure, .plain, .plain, .plain] 17 [(1, [], Value.pointer (some ⟨b_, 0, none⟩)), (18, [], Value.bool (decide (((v14.size : Nat) : Int) > 1024))), (19, [(18, false)], Value.pointer (some ⟨b_, 2, none⟩))] (by kernel_rfl) (by kernel_rfl) ?_
        refine reg_split 18 (decide (((v14.size : Nat) : Int) > 1024)) (by kernel_rfl) (fun hb => ?_) (fun hb => ?_)
        · replace h := h.1 hb
          refine reg_run [] 17 [(1, [], Value.pointer (some ⟨b_, 0, none⟩)), (18, [], Value.bool true), (19, [], undef)] (by kernel_rfl) (by kernel_rfl) ?_
          refine reg_run [.skip, .skip, .skip, .skip, .skip, .skip, .plain, .plain] 25 [(2, [], Value.bool true)] (by kernel_rfl) (by kernel_rfl) ?_
          refine reg_end [(2, Value.bool true)] (by kernel_rfl) (by kernel_rfl) ?_
          change WpE _ _ c_record_Check_1_6 _ _ _
          refine wpE_ret (by kernel_rfl) ?_
          repeat (first | refine seqQ_ret ?_ | refine blockQ_ret ?_ | refine loopQ_ret ?_ | refine cutQ_ret ?_)
          exact retS (rs := [(Go.ResultVar.tmp 2)]) (v := Value.bool true) (by kernel_rfl) (⟨by kernel_rfl, trivial⟩) ⟨true, rfl, h⟩
        · replace h := h.2 hb
          refine reg_run [] 17 [(1, [], Value.pointer (some ⟨b_, 0, none⟩)), (18, [], Value.bool false), (19, [], Value.pointer (some ⟨b_, 2, none⟩))] (by kernel_rfl) (by kernel_rfl) ?_
          refine reg_run [] 17 [(1, [], Value.pointer (some ⟨b_, 0, none⟩)), (18, [], Value.bool false), (19, [], Value.pointer (some ⟨b_, 2, none⟩))] (by kernel_rfl) (by kernel_rfl) ?_
          obtain ⟨v20, hc, h⟩ := h
          refine reg_load1 (t := 4) (a := (Go.Operand.tmp 19)) (b := b_) (o := 2) (ty := 4) (dst := some 20) (by kernel_rfl) (by kernel_rfl) (by kernel_rfl) hc ?_
          refine reg_run [.sure, .plain] 20 [(18, [], Value.bool false), (21, [], Value.bool v20), (22, [(21, true)], Value.pointer (some ⟨b_, 1, none⟩))] (by kernel_rfl) (by kernel_rfl) ?_
          refine reg_split 21 v20 (by kernel_rfl) (fun hb => ?_) (fun hb => ?_)
          · replace h := h.1 hb
            refine reg_run [] 20 [(18, [], Value.bool false), (21, [], Value.bool true), (22, [], Value.pointer (some ⟨b_, 1, none⟩))] (by kernel_rfl) (by kernel_rfl) ?_
            refine reg_run [] 20 [(18, [], Value.bool false), (21, [], Value.bool true), (22, [], Value.pointer (some ⟨b_, 1, none⟩))] (by kernel_rfl) (by kernel_rfl) ?_
            obtain ⟨v23, hc, h⟩ := h
            refine reg_load1 (t := 9) (a := (Go.Operand.tmp 22)) (b := b_) (o := 1) (ty := 9) (dst := some 23) (by kernel_rfl) (by kernel_rfl) (by kernel_rfl) hc ?_
            refine reg_run [.sure, .sure, .plain, .plain] 25 [(2, [], Value.bool (!(v23.toList == ByteArray.empty.toList)))] (by kernel_rfl) (by kernel_rfl) ?_
            refine reg_end [(2, Value.bool (!(v23.toList == ByteArray.empty.toList)))] (by kernel_rfl) (by kernel_rfl) ?_
            change WpE _ _ c_record_Check_1_6 _ _ _
            refine wpE_ret (by kernel_rfl) ?_
            repeat (first | refine seqQ_ret ?_ | refine blockQ_ret ?_ | refine loopQ_ret ?_ | refine cutQ_ret ?_)
            exact retS (rs := [(Go.ResultVar.tmp 2)]) (v := Value.bool (!(v23.toList == ByteArray.empty.toList))) (by kernel_rfl) (⟨by kernel_rfl, trivial⟩) ⟨(!(v23.toList == ByteArray.empty.toList)), rfl, h⟩
          · replace h := h.2 hb
            refine reg_run [] 20 [(18, [], Value.bool false), (21, [], Value.bool false), (22, [], undef)] (by kernel_rfl) (by kernel_rfl) ?_
            refine reg_run [.skip, .skip, .sure, .plain, .plain] 25 [(2, [], Value.bool false)] (by kernel_rfl) (by kernel_rfl) ?_
            refine reg_end [(2, Value.bool false)] (by kernel_rfl) (by kernel_rfl) ?_
            change WpE _ _ c_record_Check_1_6 _ _ _
            refine wpE_ret (by kernel_rfl) ?_
            repeat (first | refine seqQ_ret ?_ | refine blockQ_ret ?_ | refine loopQ_ret ?_ | refine cutQ_ret ?_)
            exact retS (rs := [(Go.ResultVar.tmp 2)]) (v := Value.bool false) (by kernel_rfl) (⟨by kernel_rfl, trivial⟩) ⟨false, rfl, h⟩
  · rintro e w' ⟨v, rfl, r0, rfl, h⟩; exact ⟨r0, rfl, h⟩
end Go.Proofs.Ytfmkemmgakdddaa
