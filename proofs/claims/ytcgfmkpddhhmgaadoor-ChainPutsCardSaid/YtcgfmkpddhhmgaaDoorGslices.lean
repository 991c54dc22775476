/- WRITTEN BY PROGRAM (dec.py): for each Go function the clean formula F, the call's contract C, and the proof S that F gives C. -/
import Derived.Test.YtcgfmkpddhhmgaaDoorRows
import Derived.Test.YtcgfmkpddhhmgaaDoorGF
namespace Go.Proofs.YtcgfmkpddhhmgaaDoor
open Go
set_option linter.unusedVariables false

/-! ### slices.Clone[[]towpath/api.Version,towpath/api.Version] (function 28) -/
noncomputable def c_slices_Clone_api_Version_api_Version_0 : Code := (Tryd.f28.body).getD Code.skip
noncomputable def c_slices_Clone_api_Version_api_Version_1 : Code := Code.l c_slices_Clone_api_Version_api_Version_0
noncomputable def r_slices_Clone_api_Version_api_Version_1 : Array Oper := Code.ops c_slices_Clone_api_Version_api_Version_1
noncomputable def c_slices_Clone_api_Version_api_Version_3 : Code := Code.r c_slices_Clone_api_Version_api_Version_0
noncomputable def c_slices_Clone_api_Version_api_Version_4 : Code := Code.l c_slices_Clone_api_Version_api_Version_3
noncomputable def c_slices_Clone_api_Version_api_Version_5 : Code := Code.l c_slices_Clone_api_Version_api_Version_4
noncomputable def r_slices_Clone_api_Version_api_Version_5 : Array Oper := Code.ops c_slices_Clone_api_Version_api_Version_5
noncomputable def c_slices_Clone_api_Version_api_Version_7 : Code := Code.r c_slices_Clone_api_Version_api_Version_4
noncomputable def c_slices_Clone_api_Version_api_Version_8 : Code := Code.l c_slices_Clone_api_Version_api_Version_7
noncomputable def c_slices_Clone_api_Version_api_Version_9 : Code := Code.l c_slices_Clone_api_Version_api_Version_8
noncomputable def r_slices_Clone_api_Version_api_Version_9 : Array Oper := Code.ops c_slices_Clone_api_Version_api_Version_9
noncomputable def c_slices_Clone_api_Version_api_Version_11 : Code := Code.r c_slices_Clone_api_Version_api_Version_8
noncomputable def c_slices_Clone_api_Version_api_Version_12 : Code := Code.r c_slices_Clone_api_Version_api_Version_7
noncomputable def c_slices_Clone_api_Version_api_Version_13 : Code := Code.r c_slices_Clone_api_Version_api_Version_3
noncomputable def c_slices_Clone_api_Version_api_Version_14 : Code := Code.l c_slices_Clone_api_Version_api_Version_13
noncomputable def r_slices_Clone_api_Version_api_Version_14 : Array Oper := Code.ops c_slices_Clone_api_Version_api_Version_14
noncomputable def c_slices_Clone_api_Version_api_Version_16 : Code := Code.r c_slices_Clone_api_Version_api_Version_13

set_option maxRecDepth 100000 in
set_option maxHeartbeats 4000000 in
theorem S_slices_Clone_api_Version_api_Version {s : Slc} {w : World} {R : Slc → World → Prop} (h : F_slices_Clone_api_Version_api_Version s R w) : C_slices_Clone_api_Version_api_Version s w R := by
  unfold F_slices_Clone_api_Version_api_Version at h
  unfold C_slices_Clone_api_Version_api_Version
  refine Calls.mono (calls_of_wpE (args := [Value.slice s.ptr s.len s.cap]) (R := fun v w' => ∃ (r0 : Slc), v = Value.slice r0.ptr r0.len r0.cap ∧ R r0 w') Tryd.func28 (c := c_slices_Clone_api_Version_api_Version_0) (by kernel_rfl) 8 (by kernel_rfl) (by kernel_rfl) [(0, Value.slice s.ptr s.len s.cap)] (by kernel_rfl) ?_) ?_
  · refine wpE_seq (x := c_slices_Clone_api_Version_api_Version_1) (y := c_slices_Clone_api_Version_api_Version_3) (by kernel_rfl) ?_
    refine wpE_region (id := 0) (ops := r_slices_Clone_api_Version_api_Version_1) (by kernel_rfl) ?_
    refine reg_run [.plain] 1 [(0, [], Value.slice s.ptr s.len s.cap)] (by kernel_rfl) (by kernel_rfl) ?_
    refine reg_end [(0, Value.slice s.ptr s.len s.cap)] (by kernel_rfl) (by kernel_rfl) ?_
    change WpE _ _ c_slices_Clone_api_Version_api_Version_3 _ _ _
    refine wpE_seq (x := c_slices_Clone_api_Version_api_Version_4) (y := c_slices_Clone_api_Version_api_Version_13) (by kernel_rfl) ?_
    refine wpE_seq (x := c_slices_Clone_api_Version_api_Version_5) (y := c_slices_Clone_api_Version_api_Version_7) (by kernel_rfl) ?_
    refine wpE_region (id := 1) (ops := r_slices_Clone_api_Version_api_Version_5) (by kernel_rfl) ?_
    refine reg_run [.plain] 1 [(0, [], Value.slice s.ptr s.len s.cap), (3, [], Value.slice s.ptr s.len s.cap)] (by kernel_rfl) (by kernel_rfl) ?_
    refine reg_val (op := (Go.Op.binOp Go.BinOp.eql 22 (Go.Operand.tmp 3) (Go.Operand.const (Go.Value.slice none 0 0)) 22)) (ty := 4) (dst := some 4) (Value.bool s.ptr.isNone) (by kernel_rfl) (fun ww => run_slice_eql_R (p := s.ptr) (l := s.len) (c := s.cap) (by kernel_rfl) (by kernel_rfl) (by kernel_rfl) ww) ?_
    refine reg_end [(0, Value.slice s.ptr s.len s.cap), (4, Value.bool s.ptr.isNone)] (by kernel_rfl) (by kernel_rfl) ?_
    change WpE _ _ c_slices_Clone_api_Version_api_Version_7 _ _ _
    refine wpE_cond (o := (Operand.tmp 4)) (b := s.ptr.isNone) (x := c_slices_Clone_api_Version_api_Version_8) (y := c_slices_Clone_api_Version_api_Version_12) (by kernel_rfl) (by kernel_rfl) (fun hb => ?_) (fun hb => ?_)
    · replace h := h.1 hb
      refine wpE_seq (x := c_slices_Clone_api_Version_api_Version_9) (y := c_slices_Clone_api_Version_api_Version_11) (by kernel_rfl) ?_
      refine wpE_region (id := 2) (ops := r_slices_Clone_api_Version_api_Version_9) (by kernel_rfl) ?_
      refine reg_run [.plain] 1 [(2, [], Value.slice none 0 0)] (by kernel_rfl) (by kernel_rfl) ?_
      refine reg_end [(2, Value.slice none 0 0)] (by kernel_rfl) (by kernel_rfl) ?_
      change WpE _ _ c_slices_Clone_api_Version_api_Version_11 _ _ _
      refine wpE_ret (by kernel_rfl) ?_
      repeat (first | refine seqQ_ret ?_ | refine blockQ_ret ?_ | refine loopQ_ret ?_ | refine cutQ_ret ?_)
      exact retS (rs := [(Go.ResultVar.tmp 2)]) (v := Value.slice none 0 0) (by kernel_rfl) (⟨by kernel_rfl, trivial⟩) ⟨(Slc.mk none 0 0), rfl, h⟩
    · replace h := h.2 hb
      refine wpE_skip (by kernel_rfl) ?_
      change WpE _ _ c_slices_Clone_api_Version_api_Version_13 _ _ _
      refine wpE_seq (x := c_slices_Clone_api_Version_api_Version_14) (y := c_slices_Clone_api_Version_api_Version_16) (by kernel_rfl) ?_
      refine wpE_region (id := 3) (ops := r_slices_Clone_api_Version_api_Version_14) (by kernel_rfl) ?_
      refine reg_run [] 0 [(0, [], Value.slice s.ptr s.len s.cap)] (by kernel_rfl) (by kernel_rfl) ?_
      refine reg_new (op := (Go.Op.buildSlice 22 0 #[])) (ty := 22) (dst := some 5) (fun bb => Value.slice (some ⟨bb, 0, none⟩) 0 0) (Obj.cells ([]).toArray ty_api_Version (0, 0)) (by kernel_rfl) (by kernel_rfl) (fun b_ w1 hb hw => ?_)
      replace h := h b_ w1 hb hw
      clear hb hw
      refine reg_run [.plain] 2 [(5, [], Value.slice (some ⟨b_, 0, none⟩) 0 0), (6, [], Value.slice s.ptr s.len s.cap)] (by kernel_rfl) (by kernel_rfl) ?_
      obtain ⟨src, hs, h⟩ := h
      refine reg_append (t := 22) (tx := 22) (e := 27) (a := (Go.Operand.tmp 5)) (xo := (Go.Operand.tmp 6)) (s := (Slc.mk (some ⟨b_, 0, none⟩) 0 0)) (x := s) (sz := 3) (by_ := 32) (zs := [Value.int .i64 0, Value.string ByteArray.empty, Value.bool false]) (ty := 22) (dst := some 7)  src (by kernel_rfl) (by kernel_rfl) (by kernel_rfl) (by kernel_rfl) (by kernel_rfl) (by kernel_rfl) (by kernel_rfl) (by kernel_rfl) (by kernel_rfl) hs (AppendW.mono h (fun v7 w2 h => ?_))
      refine reg_run [.plain] 4 [(2, [], Value.slice v7.ptr v7.len v7.cap)] (by kernel_rfl) (by kernel_rfl) ?_
      refine reg_end [(2, Value.slice v7.ptr v7.len v7.cap)] (by kernel_rfl) (by kernel_rfl) ?_
      change WpE _ _ c_slices_Clone_api_Version_api_Version_16 _ _ _
      refine wpE_ret (by kernel_rfl) ?_
      repeat (first | refine seqQ_ret ?_ | refine blockQ_ret ?_ | refine loopQ_ret ?_ | refine cutQ_ret ?_)
      exact retS (rs := [(Go.ResultVar.tmp 2)]) (v := Value.slice v7.ptr v7.len v7.cap) (by kernel_rfl) (⟨by kernel_rfl, trivial⟩) ⟨v7, rfl, h⟩
  · rintro e w' ⟨v, rfl, r0, rfl, h⟩; exact ⟨r0, rfl, h⟩

/-! ### slices.Insert[[]towpath/api.Version,towpath/api.Version] (function 65) -/
noncomputable def c_slices_Insert_api_Version_api_Version_0 : Code := (Tryd.f65.body).getD Code.skip
noncomputable def c_slices_Insert_api_Version_api_Version_1 : Code := Code.l c_slices_Insert_api_Version_api_Version_0
noncomputable def r_slices_Insert_api_Version_api_Version_1 : Array Oper := Code.ops c_slices_Insert_api_Version_api_Version_1
noncomputable def c_slices_Insert_api_Version_api_Version_3 : Code := Code.r c_slices_Insert_api_Version_api_Version_0
noncomputable def c_slices_Insert_api_Version_api_Version_4 : Code := Code.l c_slices_Insert_api_Version_api_Version_3
noncomputable def r_slices_Insert_api_Version_api_Version_4 : Array Oper := Code.ops c_slices_Insert_api_Version_api_Version_4
noncomputable def c_slices_Insert_api_Version_api_Version_6 : Code := Code.r c_slices_Insert_api_Version_api_Version_3
noncomputable def c_slices_Insert_api_Version_api_Version_7 : Code := Code.l c_slices_Insert_api_Version_api_Version_6
noncomputable def r_slices_Insert_api_Version_api_Version_7 : Array Oper := Code.ops c_slices_Insert_api_Version_api_Version_7
noncomputable def c_slices_Insert_api_Version_api_Version_9 : Code := Code.r c_slices_Insert_api_Version_api_Version_6
noncomputable def c_slices_Insert_api_Version_api_Version_10 : Code := Code.l c_slices_Insert_api_Version_api_Version_9
noncomputable def c_slices_Insert_api_Version_api_Version_11 : Code := Code.l c_slices_Insert_api_Version_api_Version_10
noncomputable def r_slices_Insert_api_Version_api_Version_11 : Array Oper := Code.ops c_slices_Insert_api_Version_api_Version_11
noncomputable def c_slices_Insert_api_Version_api_Version_13 : Code := Code.r c_slices_Insert_api_Version_api_Version_10
noncomputable def c_slices_Insert_api_Version_api_Version_14 : Code := Code.l c_slices_Insert_api_Version_api_Version_13
noncomputable def c_slices_Insert_api_Version_api_Version_15 : Code := Code.l c_slices_Insert_api_Version_api_Version_14
noncomputable def r_slices_Insert_api_Version_api_Version_15 : Array Oper := Code.ops c_slices_Insert_api_Version_api_Version_15
noncomputable def c_slices_Insert_api_Version_api_Version_17 : Code := Code.r c_slices_Insert_api_Version_api_Version_14
noncomputable def c_slices_Insert_api_Version_api_Version_18 : Code := Code.r c_slices_Insert_api_Version_api_Version_13
noncomputable def c_slices_Insert_api_Version_api_Version_19 : Code := Code.r c_slices_Insert_api_Version_api_Version_9
noncomputable def c_slices_Insert_api_Version_api_Version_20 : Code := Code.l c_slices_Insert_api_Version_api_Version_19
noncomputable def r_slices_Insert_api_Version_api_Version_20 : Array Oper := Code.ops c_slices_Insert_api_Version_api_Version_20
noncomputable def c_slices_Insert_api_Version_api_Version_22 : Code := Code.r c_slices_Insert_api_Version_api_Version_19
noncomputable def c_slices_Insert_api_Version_api_Version_23 : Code := Code.l c_slices_Insert_api_Version_api_Version_22
noncomputable def c_slices_Insert_api_Version_api_Version_24 : Code := Code.l c_slices_Insert_api_Version_api_Version_23
noncomputable def r_slices_Insert_api_Version_api_Version_24 : Array Oper := Code.ops c_slices_Insert_api_Version_api_Version_24
noncomputable def c_slices_Insert_api_Version_api_Version_26 : Code := Code.r c_slices_Insert_api_Version_api_Version_23
noncomputable def c_slices_Insert_api_Version_api_Version_27 : Code := Code.l c_slices_Insert_api_Version_api_Version_26
noncomputable def c_slices_Insert_api_Version_api_Version_28 : Code := Code.l c_slices_Insert_api_Version_api_Version_27
noncomputable def r_slices_Insert_api_Version_api_Version_28 : Array Oper := Code.ops c_slices_Insert_api_Version_api_Version_28
noncomputable def c_slices_Insert_api_Version_api_Version_30 : Code := Code.r c_slices_Insert_api_Version_api_Version_27
noncomputable def c_slices_Insert_api_Version_api_Version_31 : Code := Code.r c_slices_Insert_api_Version_api_Version_26
noncomputable def c_slices_Insert_api_Version_api_Version_32 : Code := Code.r c_slices_Insert_api_Version_api_Version_22
noncomputable def c_slices_Insert_api_Version_api_Version_33 : Code := Code.l c_slices_Insert_api_Version_api_Version_32
noncomputable def c_slices_Insert_api_Version_api_Version_34 : Code := Code.l c_slices_Insert_api_Version_api_Version_33
noncomputable def r_slices_Insert_api_Version_api_Version_34 : Array Oper := Code.ops c_slices_Insert_api_Version_api_Version_34
noncomputable def c_slices_Insert_api_Version_api_Version_36 : Code := Code.r c_slices_Insert_api_Version_api_Version_33
noncomputable def c_slices_Insert_api_Version_api_Version_37 : Code := Code.l c_slices_Insert_api_Version_api_Version_36
noncomputable def c_slices_Insert_api_Version_api_Version_38 : Code := Code.l c_slices_Insert_api_Version_api_Version_37
noncomputable def r_slices_Insert_api_Version_api_Version_38 : Array Oper := Code.ops c_slices_Insert_api_Version_api_Version_38
noncomputable def c_slices_Insert_api_Version_api_Version_40 : Code := Code.r c_slices_Insert_api_Version_api_Version_37
noncomputable def c_slices_Insert_api_Version_api_Version_41 : Code := Code.l c_slices_Insert_api_Version_api_Version_40
noncomputable def r_slices_Insert_api_Version_api_Version_41 : Array Oper := Code.ops c_slices_Insert_api_Version_api_Version_41
noncomputable def c_slices_Insert_api_Version_api_Version_43 : Code := Code.r c_slices_Insert_api_Version_api_Version_40
noncomputable def c_slices_Insert_api_Version_api_Version_44 : Code := Code.l c_slices_Insert_api_Version_api_Version_43
noncomputable def r_slices_Insert_api_Version_api_Version_44 : Array Oper := Code.ops c_slices_Insert_api_Version_api_Version_44
noncomputable def c_slices_Insert_api_Version_api_Version_46 : Code := Code.r c_slices_Insert_api_Version_api_Version_43
noncomputable def c_slices_Insert_api_Version_api_Version_47 : Code := Code.l c_slices_Insert_api_Version_api_Version_46
noncomputable def r_slices_Insert_api_Version_api_Version_47 : Array Oper := Code.ops c_slices_Insert_api_Version_api_Version_47
noncomputable def c_slices_Insert_api_Version_api_Version_49 : Code := Code.r c_slices_Insert_api_Version_api_Version_46
noncomputable def c_slices_Insert_api_Version_api_Version_50 : Code := Code.r c_slices_Insert_api_Version_api_Version_36
noncomputable def c_slices_Insert_api_Version_api_Version_51 : Code := Code.r c_slices_Insert_api_Version_api_Version_32
noncomputable def c_slices_Insert_api_Version_api_Version_52 : Code := Code.l c_slices_Insert_api_Version_api_Version_51
noncomputable def r_slices_Insert_api_Version_api_Version_52 : Array Oper := Code.ops c_slices_Insert_api_Version_api_Version_52
noncomputable def c_slices_Insert_api_Version_api_Version_54 : Code := Code.r c_slices_Insert_api_Version_api_Version_51
noncomputable def c_slices_Insert_api_Version_api_Version_55 : Code := Code.l c_slices_Insert_api_Version_api_Version_54
noncomputable def c_slices_Insert_api_Version_api_Version_56 : Code := Code.l c_slices_Insert_api_Version_api_Version_55
noncomputable def r_slices_Insert_api_Version_api_Version_56 : Array Oper := Code.ops c_slices_Insert_api_Version_api_Version_56
noncomputable def c_slices_Insert_api_Version_api_Version_58 : Code := Code.r c_slices_Insert_api_Version_api_Version_55
noncomputable def c_slices_Insert_api_Version_api_Version_59 : Code := Code.l c_slices_Insert_api_Version_api_Version_58
noncomputable def c_slices_Insert_api_Version_api_Version_60 : Code := Code.l c_slices_Insert_api_Version_api_Version_59
noncomputable def r_slices_Insert_api_Version_api_Version_60 : Array Oper := Code.ops c_slices_Insert_api_Version_api_Version_60
noncomputable def c_slices_Insert_api_Version_api_Version_62 : Code := Code.r c_slices_Insert_api_Version_api_Version_59
noncomputable def c_slices_Insert_api_Version_api_Version_63 : Code := Code.l c_slices_Insert_api_Version_api_Version_62
noncomputable def r_slices_Insert_api_Version_api_Version_63 : Array Oper := Code.ops c_slices_Insert_api_Version_api_Version_63
noncomputable def c_slices_Insert_api_Version_api_Version_65 : Code := Code.r c_slices_Insert_api_Version_api_Version_62
noncomputable def c_slices_Insert_api_Version_api_Version_66 : Code := Code.l c_slices_Insert_api_Version_api_Version_65
noncomputable def r_slices_Insert_api_Version_api_Version_66 : Array Oper := Code.ops c_slices_Insert_api_Version_api_Version_66
noncomputable def c_slices_Insert_api_Version_api_Version_68 : Code := Code.r c_slices_Insert_api_Version_api_Version_65
noncomputable def c_slices_Insert_api_Version_api_Version_69 : Code := Code.r c_slices_Insert_api_Version_api_Version_58
noncomputable def c_slices_Insert_api_Version_api_Version_70 : Code := Code.r c_slices_Insert_api_Version_api_Version_54
noncomputable def c_slices_Insert_api_Version_api_Version_71 : Code := Code.l c_slices_Insert_api_Version_api_Version_70
noncomputable def r_slices_Insert_api_Version_api_Version_71 : Array Oper := Code.ops c_slices_Insert_api_Version_api_Version_71
noncomputable def c_slices_Insert_api_Version_api_Version_73 : Code := Code.r c_slices_Insert_api_Version_api_Version_70
noncomputable def c_slices_Insert_api_Version_api_Version_74 : Code := Code.l c_slices_Insert_api_Version_api_Version_73
noncomputable def r_slices_Insert_api_Version_api_Version_74 : Array Oper := Code.ops c_slices_Insert_api_Version_api_Version_74
noncomputable def c_slices_Insert_api_Version_api_Version_76 : Code := Code.r c_slices_Insert_api_Version_api_Version_73
noncomputable def c_slices_Insert_api_Version_api_Version_77 : Code := Code.l c_slices_Insert_api_Version_api_Version_76
noncomputable def r_slices_Insert_api_Version_api_Version_77 : Array Oper := Code.ops c_slices_Insert_api_Version_api_Version_77
noncomputable def c_slices_Insert_api_Version_api_Version_79 : Code := Code.r c_slices_Insert_api_Version_api_Version_76

set_option maxRecDepth 100000 in
set_option maxHeartbeats 4000000 in
theorem S_slices_Insert_api_Version_api_Version {s : Slc} {i : Int} {v : Slc} {w : World} {R : Slc → World → Prop} (h : F_slices_Insert_api_Version_api_Version s i v R w) : C_slices_Insert_api_Version_api_Version s i v w R := by
  unfold F_slices_Insert_api_Version_api_Version at h
  unfold C_slices_Insert_api_Version_api_Version
  refine Calls.mono (calls_of_wpE (args := [Value.slice s.ptr s.len s.cap, Value.int .i64 i, Value.slice v.ptr v.len v.cap]) (R := fun v w' => ∃ (r0 : Slc), v = Value.slice r0.ptr r0.len r0.cap ∧ R r0 w') Tryd.func65 (c := c_slices_Insert_api_Version_api_Version_0) (by kernel_rfl) 95 (by kernel_rfl) (by kernel_rfl) [(0, Value.slice s.ptr s.len s.cap), (1, Value.int .i64 i), (2, Value.slice v.ptr v.len v.cap)] (by kernel_rfl) ?_) ?_
  · refine wpE_seq (x := c_slices_Insert_api_Version_api_Version_1) (y := c_slices_Insert_api_Version_api_Version_3) (by kernel_rfl) ?_
    refine wpE_region (id := 0) (ops := r_slices_Insert_api_Version_api_Version_1) (by kernel_rfl) ?_
    refine reg_run [.plain] 1 [(0, [], Value.slice s.ptr s.len s.cap), (1, [], Value.int .i64 i), (2, [], Value.slice v.ptr v.len v.cap)] (by kernel_rfl) (by kernel_rfl) ?_
    refine reg_end [(0, Value.slice s.ptr s.len s.cap), (1, Value.int .i64 i), (2, Value.slice v.ptr v.len v.cap)] (by kernel_rfl) (by kernel_rfl) ?_
    change WpE _ _ c_slices_Insert_api_Version_api_Version_3 _ _ _
    refine wpE_seq (x := c_slices_Insert_api_Version_api_Version_4) (y := c_slices_Insert_api_Version_api_Version_6) (by kernel_rfl) ?_
    refine wpE_region (id := 1) (ops := r_slices_Insert_api_Version_api_Version_4) (by kernel_rfl) ?_
    refine reg_run [.plain, .plain] 2 [(0, [], Value.slice s.ptr s.len s.cap), (1, [], Value.int .i64 i), (2, [], Value.slice v.ptr v.len v.cap), (10, [], Value.slice s.ptr s.len s.cap), (11, [], Value.int .i64 i)] (by kernel_rfl) (by kernel_rfl) ?_
    obtain ⟨hc, h⟩ := h
    refine reg_slice (t := 22) (e := 27) (x := (Go.Operand.tmp 10)) (lo := (Go.Operand.tmp 11)) (s := s) (sz := 3) (k := .i64) (a := i) (ty := 22) (dst := some 12) (by kernel_rfl) (by kernel_rfl) (by kernel_rfl) (by kernel_rfl) (by kernel_rfl) hc (fun s1 hs => ?_)
    replace h := h s1 hs
    clear hs
    refine reg_end [(0, Value.slice s.ptr s.len s.cap), (1, Value.int .i64 i), (2, Value.slice v.ptr v.len v.cap)] (by kernel_rfl) (by kernel_rfl) ?_
    change WpE _ _ c_slices_Insert_api_Version_api_Version_6 _ _ _
    refine wpE_seq (x := c_slices_Insert_api_Version_api_Version_7) (y := c_slices_Insert_api_Version_api_Version_9) (by kernel_rfl) ?_
    refine wpE_region (id := 2) (ops := r_slices_Insert_api_Version_api_Version_7) (by kernel_rfl) ?_
    refine reg_run [.plain, .plain, .plain] 3 [(0, [], Value.slice s.ptr s.len s.cap), (1, [], Value.int .i64 i), (2, [], Value.slice v.ptr v.len v.cap), (7, [], Value.int .i64 ((v.len : Nat) : Int))] (by kernel_rfl) (by kernel_rfl) ?_
    refine reg_end [(0, Value.slice s.ptr s.len s.cap), (1, Value.int .i64 i), (2, Value.slice v.ptr v.len v.cap), (7, Value.int .i64 ((v.len : Nat) : Int))] (by kernel_rfl) (by kernel_rfl) ?_
    change WpE _ _ c_slices_Insert_api_Version_api_Version_9 _ _ _
    refine wpE_seq (x := c_slices_Insert_api_Version_api_Version_10) (y := c_slices_Insert_api_Version_api_Version_19) (by kernel_rfl) ?_
    refine wpE_seq (x := c_slices_Insert_api_Version_api_Version_11) (y := c_slices_Insert_api_Version_api_Version_13) (by kernel_rfl) ?_
    refine wpE_region (id := 3) (ops := r_slices_Insert_api_Version_api_Version_11) (by kernel_rfl) ?_
    refine reg_run [.plain, .plain] 2 [(0, [], Value.slice s.ptr s.len s.cap), (1, [], Value.int .i64 i), (2, [], Value.slice v.ptr v.len v.cap), (7, [], Value.int .i64 ((v.len : Nat) : Int)), (16, [], Value.bool (((v.len : Nat) : Int) == 0))] (by kernel_rfl) (by kernel_rfl) ?_
    refine reg_end [(0, Value.slice s.ptr s.len s.cap), (1, Value.int .i64 i), (2, Value.slice v.ptr v.len v.cap), (7, Value.int .i64 ((v.len : Nat) : Int)), (16, Value.bool (((v.len : Nat) : Int) == 0))] (by kernel_rfl) (by kernel_rfl) ?_
    change WpE _ _ c_slices_Insert_api_Version_api_Version_13 _ _ _
    refine wpE_cond (o := (Operand.tmp 16)) (b := (((v.len : Nat) : Int) == 0)) (x := c_slices_Insert_api_Version_api_Version_14) (y := c_slices_Insert_api_Version_api_Version_18) (by kernel_rfl) (by kernel_rfl) (fun hb => ?_) (fun hb => ?_)
    · replace h := h.1 hb
      refine wpE_seq (x := c_slices_Insert_api_Version_api_Version_15) (y := c_slices_Insert_api_Version_api_Version_17) (by kernel_rfl) ?_
      refine wpE_region (id := 4) (ops := r_slices_Insert_api_Version_api_Version_15) (by kernel_rfl) ?_
      refine reg_run [.plain, .plain] 2 [(6, [], Value.slice s.ptr s.len s.cap)] (by kernel_rfl) (by kernel_rfl) ?_
      refine reg_end [(6, Value.slice s.ptr s.len s.cap)] (by kernel_rfl) (by kernel_rfl) ?_
      change WpE _ _ c_slices_Insert_api_Version_api_Version_17 _ _ _
      refine wpE_ret (by kernel_rfl) ?_
      repeat (first | refine seqQ_ret ?_ | refine blockQ_ret ?_ | refine loopQ_ret ?_ | refine cutQ_ret ?_)
      exact retS (rs := [(Go.ResultVar.tmp 6)]) (v := Value.slice s.ptr s.len s.cap) (by kernel_rfl) (⟨by kernel_rfl, trivial⟩) ⟨s, rfl, h⟩
    · replace h := h.2 hb
      refine wpE_skip (by kernel_rfl) ?_
      change WpE _ _ c_slices_Insert_api_Version_api_Version_19 _ _ _
      refine wpE_seq (x := c_slices_Insert_api_Version_api_Version_20) (y := c_slices_Insert_api_Version_api_Version_22) (by kernel_rfl) ?_
      refine wpE_region (id := 5) (ops := r_slices_Insert_api_Version_api_Version_20) (by kernel_rfl) ?_
      refine reg_run [.plain, .plain, .plain] 3 [(0, [], Value.slice s.ptr s.len s.cap), (1, [], Value.int .i64 i), (2, [], Value.slice v.ptr v.len v.cap), (7, [], Value.int .i64 ((v.len : Nat) : Int)), (8, [], Value.int .i64 ((s.len : Nat) : Int))] (by kernel_rfl) (by kernel_rfl) ?_
      refine reg_end [(0, Value.slice s.ptr s.len s.cap), (1, Value.int .i64 i), (2, Value.slice v.ptr v.len v.cap), (7, Value.int .i64 ((v.len : Nat) : Int)), (8, Value.int .i64 ((s.len : Nat) : Int))] (by kernel_rfl) (by kernel_rfl) ?_
      change WpE _ _ c_slices_Insert_api_Version_api_Version_22 _ _ _
      refine wpE_seq (x := c_slices_Insert_api_Version_api_Version_23) (y := c_slices_Insert_api_Version_api_Version_32) (by kernel_rfl) ?_
      refine wpE_seq (x := c_slices_Insert_api_Version_api_Version_24) (y := c_slices_Insert_api_Version_api_Version_26) (by kernel_rfl) ?_
      refine wpE_region (id := 6) (ops := r_slices_Insert_api_Version_api_Version_24) (by kernel_rfl) ?_
      refine reg_run [.plain, .plain, .plain] 3 [(0, [], Value.slice s.ptr s.len s.cap), (1, [], Value.int .i64 i), (2, [], Value.slice v.ptr v.len v.cap), (7, [], Value.int .i64 ((v.len : Nat) : Int)), (8, [], Value.int .i64 ((s.len : Nat) : Int)), (22, [], Value.bool (i == ((s.len : Nat) : Int)))] (by kernel_rfl) (by kernel_rfl) ?_
      refine reg_end [(0, Value.slice s.ptr s.len s.cap), (1, Value.int .i64 i), (2, Value.slice v.ptr v.len v.cap), (7, Value.int .i64 ((v.len : Nat) : Int)), (8, Value.int .i64 ((s.len : Nat) : Int)), (22, Value.bool (i == ((s.len : Nat) : Int)))] (by kernel_rfl) (by kernel_rfl) ?_
      change WpE _ _ c_slices_Insert_api_Version_api_Version_26 _ _ _
      refine wpE_cond (o := (Operand.tmp 22)) (b := (i == ((s.len : Nat) : Int))) (x := c_slices_Insert_api_Version_api_Version_27) (y := c_slices_Insert_api_Version_api_Version_31) (by kernel_rfl) (by kernel_rfl) (fun hb => ?_) (fun hb => ?_)
      · replace h := h.1 hb
        refine wpE_seq (x := c_slices_Insert_api_Version_api_Version_28) (y := c_slices_Insert_api_Version_api_Version_30) (by kernel_rfl) ?_
        refine wpE_region (id := 7) (ops := r_slices_Insert_api_Version_api_Version_28) (by kernel_rfl) ?_
        refine reg_run [.plain, .plain] 2 [(23, [], Value.slice s.ptr s.len s.cap), (24, [], Value.slice v.ptr v.len v.cap)] (by kernel_rfl) (by kernel_rfl) ?_
        obtain ⟨src, hs, h⟩ := h
        refine reg_append (t := 22) (tx := 22) (e := 27) (a := (Go.Operand.tmp 23)) (xo := (Go.Operand.tmp 24)) (s := s) (x := v) (sz := 3) (by_ := 32) (zs := [Value.int .i64 0, Value.string ByteArray.empty, Value.bool false]) (ty := 22) (dst := some 25)  src (by kernel_rfl) (by kernel_rfl) (by kernel_rfl) (by kernel_rfl) (by kernel_rfl) (by kernel_rfl) (by kernel_rfl) (by kernel_rfl) (by kernel_rfl) hs (AppendW.mono h (fun v25 w1 h => ?_))
        refine reg_run [.plain] 4 [(6, [], Value.slice v25.ptr v25.len v25.cap)] (by kernel_rfl) (by kernel_rfl) ?_
        refine reg_end [(6, Value.slice v25.ptr v25.len v25.cap)] (by kernel_rfl) (by kernel_rfl) ?_
        change WpE _ _ c_slices_Insert_api_Version_api_Version_30 _ _ _
        refine wpE_ret (by kernel_rfl) ?_
        repeat (first | refine seqQ_ret ?_ | refine blockQ_ret ?_ | refine loopQ_ret ?_ | refine cutQ_ret ?_)
        exact retS (rs := [(Go.ResultVar.tmp 6)]) (v := Value.slice v25.ptr v25.len v25.cap) (by kernel_rfl) (⟨by kernel_rfl, trivial⟩) ⟨v25, rfl, h⟩
      · replace h := h.2 hb
        refine wpE_skip (by kernel_rfl) ?_
        change WpE _ _ c_slices_Insert_api_Version_api_Version_32 _ _ _
        refine wpE_seq (x := c_slices_Insert_api_Version_api_Version_33) (y := c_slices_Insert_api_Version_api_Version_51) (by kernel_rfl) ?_
        refine wpE_seq (x := c_slices_Insert_api_Version_api_Version_34) (y := c_slices_Insert_api_Version_api_Version_36) (by kernel_rfl) ?_
        refine wpE_region (id := 8) (ops := r_slices_Insert_api_Version_api_Version_34) (by kernel_rfl) ?_
        refine reg_run [.plain, .plain, .plain, .plain, .plain, .plain] 6 [(0, [], Value.slice s.ptr s.len s.cap), (1, [], Value.int .i64 i), (2, [], Value.slice v.ptr v.len v.cap), (7, [], Value.int .i64 ((v.len : Nat) : Int)), (8, [], Value.int .i64 ((s.len : Nat) : Int)), (31, [], Value.bool (decide ((IntKind.i64.wrap (((s.len : Nat) : Int) + ((v.len : Nat) : Int))) > ((s.cap : Nat) : Int))))] (by kernel_rfl) (by kernel_rfl) ?_
        refine reg_end [(0, Value.slice s.ptr s.len s.cap), (1, Value.int .i64 i), (2, Value.slice v.ptr v.len v.cap), (7, Value.int .i64 ((v.len : Nat) : Int)), (8, Value.int .i64 ((s.len : Nat) : Int)), (31, Value.bool (decide ((IntKind.i64.wrap (((s.len : Nat) : Int) + ((v.len : Nat) : Int))) > ((s.cap : Nat) : Int))))] (by kernel_rfl) (by kernel_rfl) ?_
        change WpE _ _ c_slices_Insert_api_Version_api_Version_36 _ _ _
        refine wpE_cond (o := (Operand.tmp 31)) (b := (decide ((IntKind.i64.wrap (((s.len : Nat) : Int) + ((v.len : Nat) : Int))) > ((s.cap : Nat) : Int)))) (x := c_slices_Insert_api_Version_api_Version_37) (y := c_slices_Insert_api_Version_api_Version_50) (by kernel_rfl) (by kernel_rfl) (fun hb => ?_) (fun hb => ?_)
        · replace h := h.1 hb
          refine wpE_seq (x := c_slices_Insert_api_Version_api_Version_38) (y := c_slices_Insert_api_Version_api_Version_40) (by kernel_rfl) ?_
          refine wpE_region (id := 9) (ops := r_slices_Insert_api_Version_api_Version_38) (by kernel_rfl) ?_
          refine reg_run [.plain, .plain] 2 [(0, [], Value.slice s.ptr s.len s.cap), (1, [], Value.int .i64 i), (2, [], Value.slice v.ptr v.len v.cap), (7, [], Value.int .i64 ((v.len : Nat) : Int)), (8, [], Value.int .i64 ((s.len : Nat) : Int)), (32, [], Value.slice s.ptr s.len s.cap), (33, [], Value.int .i64 i)] (by kernel_rfl) (by kernel_rfl) ?_
          obtain ⟨h0, h1, h⟩ := h
          refine reg_sliceHi (t := 22) (e := 27) (x := (Go.Operand.tmp 32)) (hi := (Go.Operand.tmp 33)) (p := s.ptr) (l := s.len) (c := s.cap) (sz := 3) (k := .i64) (j := i) (ty := 22) (dst := some 34) (by kernel_rfl) (by kernel_rfl) (by kernel_rfl) (by kernel_rfl) (by kernel_rfl) h0 h1 ?_
          refine reg_run [.plain, .plain, .plain, .plain, .plain] 8 [(0, [], Value.slice s.ptr s.len s.cap), (1, [], Value.int .i64 i), (2, [], Value.slice v.ptr v.len v.cap), (7, [], Value.int .i64 ((v.len : Nat) : Int)), (34, [], Value.slice s.ptr i.toNat s.cap), (39, [], Value.int .i64 (IntKind.i64.wrap ((IntKind.i64.wrap (((s.len : Nat) : Int) + ((v.len : Nat) : Int))) - i)))] (by kernel_rfl) (by kernel_rfl) ?_
          obtain ⟨h0, h1, h⟩ := h
          refine reg_appendZ (t := 22) (tx := 3) (e := 27) (a := (Go.Operand.tmp 34)) (xo := (Go.Operand.tmp 39)) (s := (Slc.mk s.ptr i.toNat s.cap)) (l := (IntKind.i64.wrap ((IntKind.i64.wrap (((s.len : Nat) : Int) + ((v.len : Nat) : Int))) - i))) (sz := 3) (by_ := 32) (zs := [Value.int .i64 0, Value.string ByteArray.empty, Value.bool false]) (ty := 22) (dst := some 40)  (by kernel_rfl) (by kernel_rfl) (by kernel_rfl) (by kernel_rfl) (by kernel_rfl) (by kernel_rfl) (by kernel_rfl) (by kernel_rfl) (by kernel_rfl) (by kernel_rfl) h0 h1 (AppendW.mono h (fun s2 w2 h => ?_))
          refine reg_run [.plain] 10 [(0, [], Value.slice s.ptr s.len s.cap), (1, [], Value.int .i64 i), (2, [], Value.slice v.ptr v.len v.cap), (7, [], Value.int .i64 ((v.len : Nat) : Int)), (9, [], Value.slice s2.ptr s2.len s2.cap)] (by kernel_rfl) (by kernel_rfl) ?_
          refine reg_end [(0, Value.slice s.ptr s.len s.cap), (1, Value.int .i64 i), (2, Value.slice v.ptr v.len v.cap), (7, Value.int .i64 ((v.len : Nat) : Int)), (9, Value.slice s2.ptr s2.len s2.cap)] (by kernel_rfl) (by kernel_rfl) ?_
          change WpE _ _ c_slices_Insert_api_Version_api_Version_40 _ _ _
          refine wpE_seq (x := c_slices_Insert_api_Version_api_Version_41) (y := c_slices_Insert_api_Version_api_Version_43) (by kernel_rfl) ?_
          refine wpE_region (id := 10) (ops := r_slices_Insert_api_Version_api_Version_41) (by kernel_rfl) ?_
          refine reg_run [.plain, .plain] 2 [(0, [], Value.slice s.ptr s.len s.cap), (1, [], Value.int .i64 i), (2, [], Value.slice v.ptr v.len v.cap), (7, [], Value.int .i64 ((v.len : Nat) : Int)), (9, [], Value.slice s2.ptr s2.len s2.cap), (41, [], Value.slice s2.ptr s2.len s2.cap), (42, [], Value.int .i64 i)] (by kernel_rfl) (by kernel_rfl) ?_
          obtain ⟨hc, h⟩ := h
          refine reg_slice (t := 22) (e := 27) (x := (Go.Operand.tmp 41)) (lo := (Go.Operand.tmp 42)) (s := s2) (sz := 3) (k := .i64) (a := i) (ty := 22) (dst := some 43) (by kernel_rfl) (by kernel_rfl) (by kernel_rfl) (by kernel_rfl) (by kernel_rfl) hc (fun s3 hs => ?_)
          replace h := h s3 hs
          clear hs
          refine reg_run [.plain] 4 [(0, [], Value.slice s.ptr s.len s.cap), (1, [], Value.int .i64 i), (7, [], Value.int .i64 ((v.len : Nat) : Int)), (9, [], Value.slice s2.ptr s2.len s2.cap), (43, [], Value.slice s3.ptr s3.len s3.cap), (44, [], Value.slice v.ptr v.len v.cap)] (by kernel_rfl) (by kernel_rfl) ?_
          obtain ⟨src, hs, h⟩ := h
          refine reg_copy (t := 22) (tx := 22) (e := 27) (a := (Go.Operand.tmp 43)) (xo := (Go.Operand.tmp 44)) (d := s3) (x := v) (sz := 3) (ty := 3) (dst := some 45)  src (by kernel_rfl) (by kernel_rfl) (by kernel_rfl) (by kernel_rfl) (by kernel_rfl) hs (CopyW.mono h (fun w3 h => ?_))
          refine reg_end [(0, Value.slice s.ptr s.len s.cap), (1, Value.int .i64 i), (7, Value.int .i64 ((v.len : Nat) : Int)), (9, Value.slice s2.ptr s2.len s2.cap)] (by kernel_rfl) (by kernel_rfl) ?_
          change WpE _ _ c_slices_Insert_api_Version_api_Version_43 _ _ _
          refine wpE_seq (x := c_slices_Insert_api_Version_api_Version_44) (y := c_slices_Insert_api_Version_api_Version_46) (by kernel_rfl) ?_
          refine wpE_tailregion (id := 11) (ops := r_slices_Insert_api_Version_api_Version_44) (by kernel_rfl) 8 (by kernel_rfl) (by kernel_rfl) (fun w4 hw => ?_)
          replace h := h w4 hw
          clear hw
          refine qreg_run [.plain, .plain, .plain, .plain] 4 [(0, [], Value.slice s.ptr s.len s.cap), (1, [], Value.int .i64 i), (9, [], Value.slice s2.ptr s2.len s2.cap), (46, [], Value.slice s2.ptr s2.len s2.cap), (49, [], Value.int .i64 (IntKind.i64.wrap (i + ((v.len : Nat) : Int))))] (by kernel_rfl) (by kernel_rfl) ?_
          obtain ⟨hc, h⟩ := h
          refine qreg_slice (t := 22) (e := 27) (x := (Go.Operand.tmp 46)) (lo := (Go.Operand.tmp 49)) (s := s2) (sz := 3) (k := .i64) (a := (IntKind.i64.wrap (i + ((v.len : Nat) : Int)))) (ty := 22) (dst := some 50) (by kernel_rfl) (by kernel_rfl) (by kernel_rfl) (by kernel_rfl) (by kernel_rfl) hc (fun s4 hs => ?_)
          replace h := h s4 hs
          clear hs
          refine qreg_run [.plain, .plain] 7 [(9, [], Value.slice s2.ptr s2.len s2.cap), (50, [], Value.slice s4.ptr s4.len s4.cap), (51, [], Value.slice s.ptr s.len s.cap), (52, [], Value.int .i64 i)] (by kernel_rfl) (by kernel_rfl) ?_
          obtain ⟨hc, h⟩ := h
          refine qreg_slice (t := 22) (e := 27) (x := (Go.Operand.tmp 51)) (lo := (Go.Operand.tmp 52)) (s := s) (sz := 3) (k := .i64) (a := i) (ty := 22) (dst := some 53) (by kernel_rfl) (by kernel_rfl) (by kernel_rfl) (by kernel_rfl) (by kernel_rfl) hc (fun s5 hs => ?_)
          replace h := h s5 hs
          clear hs
          refine qreg_run [] 8 [(9, [], Value.slice s2.ptr s2.len s2.cap), (50, [], Value.slice s4.ptr s4.len s4.cap), (53, [], Value.slice s5.ptr s5.len s5.cap)] (by kernel_rfl) (by kernel_rfl) ?_
          refine qreg_tail (by kernel_rfl) ?_
          refine reg_run [] 8 [(9, [], Value.slice s2.ptr s2.len s2.cap), (50, [], Value.slice s4.ptr s4.len s4.cap), (53, [], Value.slice s5.ptr s5.len s5.cap)] (by kernel_rfl) (by kernel_rfl) ?_
          obtain ⟨src, hs, h⟩ := h
          refine reg_copy (t := 22) (tx := 22) (e := 27) (a := (Go.Operand.tmp 50)) (xo := (Go.Operand.tmp 53)) (d := s4) (x := s5) (sz := 3) (ty := 3) (dst := some 54)  src (by kernel_rfl) (by kernel_rfl) (by kernel_rfl) (by kernel_rfl) (by kernel_rfl) hs (CopyW.mono h (fun w5 h => ?_))
          refine reg_end [(9, Value.slice s2.ptr s2.len s2.cap)] (by kernel_rfl) (by kernel_rfl) ?_
          change WpE _ _ c_slices_Insert_api_Version_api_Version_46 _ _ _
          refine wpE_seq (x := c_slices_Insert_api_Version_api_Version_47) (y := c_slices_Insert_api_Version_api_Version_49) (by kernel_rfl) ?_
          refine wpE_region (id := 12) (ops := r_slices_Insert_api_Version_api_Version_47) (by kernel_rfl) ?_
          refine reg_run [.plain, .plain] 2 [(6, [], Value.slice s2.ptr s2.len s2.cap)] (by kernel_rfl) (by kernel_rfl) ?_
          refine reg_end [(6, Value.slice s2.ptr s2.len s2.cap)] (by kernel_rfl) (by kernel_rfl) ?_
          change WpE _ _ c_slices_Insert_api_Version_api_Version_49 _ _ _
          refine wpE_ret (by kernel_rfl) ?_
          repeat (first | refine seqQ_ret ?_ | refine blockQ_ret ?_ | refine loopQ_ret ?_ | refine cutQ_ret ?_)
          exact retS (rs := [(Go.ResultVar.tmp 6)]) (v := Value.slice s2.ptr s2.len s2.cap) (by kernel_rfl) (⟨by kernel_rfl, trivial⟩) ⟨s2, rfl, h⟩
        · replace h := h.2 hb
          refine wpE_skip (by kernel_rfl) ?_
          change WpE _ _ c_slices_Insert_api_Version_api_Version_51 _ _ _
          refine wpE_seq (x := c_slices_Insert_api_Version_api_Version_52) (y := c_slices_Insert_api_Version_api_Version_54) (by kernel_rfl) ?_
          refine wpE_region (id := 13) (ops := r_slices_Insert_api_Version_api_Version_52) (by kernel_rfl) ?_
          refine reg_run [.plain, .plain, .plain, .plain] 4 [(0, [], Value.slice s.ptr s.len s.cap), (1, [], Value.int .i64 i), (2, [], Value.slice v.ptr v.len v.cap), (7, [], Value.int .i64 ((v.len : Nat) : Int)), (8, [], Value.int .i64 ((s.len : Nat) : Int)), (56, [], Value.slice s.ptr s.len s.cap), (59, [], Value.int .i64 (IntKind.i64.wrap (((s.len : Nat) : Int) + ((v.len : Nat) : Int))))] (by kernel_rfl) (by kernel_rfl) ?_
          obtain ⟨h0, h1, h⟩ := h
          refine reg_sliceHi (t := 22) (e := 27) (x := (Go.Operand.tmp 56)) (hi := (Go.Operand.tmp 59)) (p := s.ptr) (l := s.len) (c := s.cap) (sz := 3) (k := .i64) (j := (IntKind.i64.wrap (((s.len : Nat) : Int) + ((v.len : Nat) : Int)))) (ty := 22) (dst := some 60) (by kernel_rfl) (by kernel_rfl) (by kernel_rfl) (by kernel_rfl) (by kernel_rfl) h0 h1 ?_
          refine reg_run [.plain] 6 [(0, [], Value.slice s.ptr ((IntKind.i64.wrap (((s.len : Nat) : Int) + ((v.len : Nat) : Int))).toNat) s.cap), (1, [], Value.int .i64 i), (2, [], Value.slice v.ptr v.len v.cap), (7, [], Value.int .i64 ((v.len : Nat) : Int)), (8, [], Value.int .i64 ((s.len : Nat) : Int))] (by kernel_rfl) (by kernel_rfl) ?_
          refine reg_end [(0, Value.slice s.ptr ((IntKind.i64.wrap (((s.len : Nat) : Int) + ((v.len : Nat) : Int))).toNat) s.cap), (1, Value.int .i64 i), (2, Value.slice v.ptr v.len v.cap), (7, Value.int .i64 ((v.len : Nat) : Int)), (8, Value.int .i64 ((s.len : Nat) : Int))] (by kernel_rfl) (by kernel_rfl) ?_
          change WpE _ _ c_slices_Insert_api_Version_api_Version_54 _ _ _
          refine wpE_seq (x := c_slices_Insert_api_Version_api_Version_55) (y := c_slices_Insert_api_Version_api_Version_70) (by kernel_rfl) ?_
          refine wpE_seq (x := c_slices_Insert_api_Version_api_Version_56) (y := c_slices_Insert_api_Version_api_Version_58) (by kernel_rfl) ?_
          refine wpE_region (id := 14) (ops := r_slices_Insert_api_Version_api_Version_56) (by kernel_rfl) ?_
          refine reg_run [.plain, .plain, .plain, .plain, .plain] 5 [(0, [], Value.slice s.ptr ((IntKind.i64.wrap (((s.len : Nat) : Int) + ((v.len : Nat) : Int))).toNat) s.cap), (1, [], Value.int .i64 i), (2, [], Value.slice v.ptr v.len v.cap), (7, [], Value.int .i64 ((v.len : Nat) : Int)), (8, [], Value.int .i64 ((s.len : Nat) : Int)), (61, [], Value.slice v.ptr v.len v.cap), (62, [], Value.slice s.ptr ((IntKind.i64.wrap (((s.len : Nat) : Int) + ((v.len : Nat) : Int))).toNat) s.cap), (65, [], Value.int .i64 (IntKind.i64.wrap (i + ((v.len : Nat) : Int))))] (by kernel_rfl) (by kernel_rfl) ?_
          obtain ⟨hc, h⟩ := h
          refine reg_slice (t := 22) (e := 27) (x := (Go.Operand.tmp 62)) (lo := (Go.Operand.tmp 65)) (s := (Slc.mk s.ptr ((IntKind.i64.wrap (((s.len : Nat) : Int) + ((v.len : Nat) : Int))).toNat) s.cap)) (sz := 3) (k := .i64) (a := (IntKind.i64.wrap (i + ((v.len : Nat) : Int)))) (ty := 22) (dst := some 66) (by kernel_rfl) (by kernel_rfl) (by kernel_rfl) (by kernel_rfl) (by kernel_rfl) hc (fun s6 hs => ?_)
          replace h := h s6 hs
          clear hs
          refine reg_run [] 6 [(0, [], Value.slice s.ptr ((IntKind.i64.wrap (((s.len : Nat) : Int) + ((v.len : Nat) : Int))).toNat) s.cap), (1, [], Value.int .i64 i), (2, [], Value.slice v.ptr v.len v.cap), (7, [], Value.int .i64 ((v.len : Nat) : Int)), (8, [], Value.int .i64 ((s.len : Nat) : Int)), (61, [], Value.slice v.ptr v.len v.cap), (66, [], Value.slice s6.ptr s6.len s6.cap)] (by kernel_rfl) (by kernel_rfl) ?_
          obtain ⟨hov, h⟩ := h
          refine reg_overlaps (fo := (Go.Operand.func 92)) (a := (Go.Operand.tmp 61)) (b := (Go.Operand.tmp 66)) (ts := #[22, 22]) 92 (x := v) (y := s6) (tS := 22) (tR := 4) (e := 27) (sz := 3) (ty := 4) (dst := some 67) (by kernel_rfl) (by kernel_rfl) (by kernel_rfl) (by kernel_rfl) Tryd.func92 (by kernel_rfl) (by kernel_rfl) (by kernel_rfl) (by kernel_rfl) (by kernel_rfl) (by kernel_rfl) hov ?_
          clear hov
          refine reg_run [.plain] 8 [(0, [], Value.slice s.ptr ((IntKind.i64.wrap (((s.len : Nat) : Int) + ((v.len : Nat) : Int))).toNat) s.cap), (1, [], Value.int .i64 i), (2, [], Value.slice v.ptr v.len v.cap), (7, [], Value.int .i64 ((v.len : Nat) : Int)), (8, [], Value.int .i64 ((s.len : Nat) : Int)), (68, [], Value.bool (!false))] (by kernel_rfl) (by kernel_rfl) ?_
          refine reg_end [(0, Value.slice s.ptr ((IntKind.i64.wrap (((s.len : Nat) : Int) + ((v.len : Nat) : Int))).toNat) s.cap), (1, Value.int .i64 i), (2, Value.slice v.ptr v.len v.cap), (7, Value.int .i64 ((v.len : Nat) : Int)), (8, Value.int .i64 ((s.len : Nat) : Int)), (68, Value.bool (!false))] (by kernel_rfl) (by kernel_rfl) ?_
          change WpE _ _ c_slices_Insert_api_Version_api_Version_58 _ _ _
          refine wpE_cond (o := (Operand.tmp 68)) (b := (!false)) (x := c_slices_Insert_api_Version_api_Version_59) (y := c_slices_Insert_api_Version_api_Version_69) (by kernel_rfl) (by kernel_rfl) (fun hb => ?_) (fun hb => ?_)
          · replace h := h.1 hb
            refine wpE_seq (x := c_slices_Insert_api_Version_api_Version_60) (y := c_slices_Insert_api_Version_api_Version_62) (by kernel_rfl) ?_
            refine wpE_tailregion (id := 15) (ops := r_slices_Insert_api_Version_api_Version_60) (by kernel_rfl) 8 (by kernel_rfl) (by kernel_rfl) (fun w6 hw => ?_)
            replace h := h w6 hw
            clear hw
            refine qreg_run [.plain, .plain, .plain, .plain] 4 [(0, [], Value.slice s.ptr ((IntKind.i64.wrap (((s.len : Nat) : Int) + ((v.len : Nat) : Int))).toNat) s.cap), (1, [], Value.int .i64 i), (2, [], Value.slice v.ptr v.len v.cap), (69, [], Value.slice s.ptr ((IntKind.i64.wrap (((s.len : Nat) : Int) + ((v.len : Nat) : Int))).toNat) s.cap), (72, [], Value.int .i64 (IntKind.i64.wrap (i + ((v.len : Nat) : Int))))] (by kernel_rfl) (by kernel_rfl) ?_
            obtain ⟨hc, h⟩ := h
            refine qreg_slice (t := 22) (e := 27) (x := (Go.Operand.tmp 69)) (lo := (Go.Operand.tmp 72)) (s := (Slc.mk s.ptr ((IntKind.i64.wrap (((s.len : Nat) : Int) + ((v.len : Nat) : Int))).toNat) s.cap)) (sz := 3) (k := .i64) (a := (IntKind.i64.wrap (i + ((v.len : Nat) : Int)))) (ty := 22) (dst := some 73) (by kernel_rfl) (by kernel_rfl) (by kernel_rfl) (by kernel_rfl) (by kernel_rfl) hc (fun s7 hs => ?_)
            replace h := h s7 hs
            clear hs
            refine qreg_run [.plain, .plain] 7 [(0, [], Value.slice s.ptr ((IntKind.i64.wrap (((s.len : Nat) : Int) + ((v.len : Nat) : Int))).toNat) s.cap), (1, [], Value.int .i64 i), (2, [], Value.slice v.ptr v.len v.cap), (73, [], Value.slice s7.ptr s7.len s7.cap), (74, [], Value.slice s.ptr ((IntKind.i64.wrap (((s.len : Nat) : Int) + ((v.len : Nat) : Int))).toNat) s.cap), (75, [], Value.int .i64 i)] (by kernel_rfl) (by kernel_rfl) ?_
            obtain ⟨hc, h⟩ := h
            refine qreg_slice (t := 22) (e := 27) (x := (Go.Operand.tmp 74)) (lo := (Go.Operand.tmp 75)) (s := (Slc.mk s.ptr ((IntKind.i64.wrap (((s.len : Nat) : Int) + ((v.len : Nat) : Int))).toNat) s.cap)) (sz := 3) (k := .i64) (a := i) (ty := 22) (dst := some 76) (by kernel_rfl) (by kernel_rfl) (by kernel_rfl) (by kernel_rfl) (by kernel_rfl) hc (fun s8 hs => ?_)
            replace h := h s8 hs
            clear hs
            refine qreg_run [] 8 [(0, [], Value.slice s.ptr ((IntKind.i64.wrap (((s.len : Nat) : Int) + ((v.len : Nat) : Int))).toNat) s.cap), (1, [], Value.int .i64 i), (2, [], Value.slice v.ptr v.len v.cap), (73, [], Value.slice s7.ptr s7.len s7.cap), (76, [], Value.slice s8.ptr s8.len s8.cap)] (by kernel_rfl) (by kernel_rfl) ?_
            refine qreg_tail (by kernel_rfl) ?_
            refine reg_run [] 8 [(0, [], Value.slice s.ptr ((IntKind.i64.wrap (((s.len : Nat) : Int) + ((v.len : Nat) : Int))).toNat) s.cap), (1, [], Value.int .i64 i), (2, [], Value.slice v.ptr v.len v.cap), (73, [], Value.slice s7.ptr s7.len s7.cap), (76, [], Value.slice s8.ptr s8.len s8.cap)] (by kernel_rfl) (by kernel_rfl) ?_
            obtain ⟨src, hs, h⟩ := h
            refine reg_copy (t := 22) (tx := 22) (e := 27) (a := (Go.Operand.tmp 73)) (xo := (Go.Operand.tmp 76)) (d := s7) (x := s8) (sz := 3) (ty := 3) (dst := some 77)  src (by kernel_rfl) (by kernel_rfl) (by kernel_rfl) (by kernel_rfl) (by kernel_rfl) hs (CopyW.mono h (fun w7 h => ?_))
            refine reg_end [(0, Value.slice s.ptr ((IntKind.i64.wrap (((s.len : Nat) : Int) + ((v.len : Nat) : Int))).toNat) s.cap), (1, Value.int .i64 i), (2, Value.slice v.ptr v.len v.cap)] (by kernel_rfl) (by kernel_rfl) ?_
            change WpE _ _ c_slices_Insert_api_Version_api_Version_62 _ _ _
            refine wpE_seq (x := c_slices_Insert_api_Version_api_Version_63) (y := c_slices_Insert_api_Version_api_Version_65) (by kernel_rfl) ?_
            refine wpE_region (id := 16) (ops := r_slices_Insert_api_Version_api_Version_63) (by kernel_rfl) ?_
            refine reg_run [.plain, .plain] 2 [(0, [], Value.slice s.ptr ((IntKind.i64.wrap (((s.len : Nat) : Int) + ((v.len : Nat) : Int))).toNat) s.cap), (2, [], Value.slice v.ptr v.len v.cap), (78, [], Value.slice s.ptr ((IntKind.i64.wrap (((s.len : Nat) : Int) + ((v.len : Nat) : Int))).toNat) s.cap), (79, [], Value.int .i64 i)] (by kernel_rfl) (by kernel_rfl) ?_
            obtain ⟨hc, h⟩ := h
            refine reg_slice (t := 22) (e := 27) (x := (Go.Operand.tmp 78)) (lo := (Go.Operand.tmp 79)) (s := (Slc.mk s.ptr ((IntKind.i64.wrap (((s.len : Nat) : Int) + ((v.len : Nat) : Int))).toNat) s.cap)) (sz := 3) (k := .i64) (a := i) (ty := 22) (dst := some 80) (by kernel_rfl) (by kernel_rfl) (by kernel_rfl) (by kernel_rfl) (by kernel_rfl) hc (fun s9 hs => ?_)
            replace h := h s9 hs
            clear hs
            refine reg_run [.plain] 4 [(0, [], Value.slice s.ptr ((IntKind.i64.wrap (((s.len : Nat) : Int) + ((v.len : Nat) : Int))).toNat) s.cap), (80, [], Value.slice s9.ptr s9.len s9.cap), (81, [], Value.slice v.ptr v.len v.cap)] (by kernel_rfl) (by kernel_rfl) ?_
            obtain ⟨src, hs, h⟩ := h
            refine reg_copy (t := 22) (tx := 22) (e := 27) (a := (Go.Operand.tmp 80)) (xo := (Go.Operand.tmp 81)) (d := s9) (x := v) (sz := 3) (ty := 3) (dst := some 82)  src (by kernel_rfl) (by kernel_rfl) (by kernel_rfl) (by kernel_rfl) (by kernel_rfl) hs (CopyW.mono h (fun w8 h => ?_))
            refine reg_end [(0, Value.slice s.ptr ((IntKind.i64.wrap (((s.len : Nat) : Int) + ((v.len : Nat) : Int))).toNat) s.cap)] (by kernel_rfl) (by kernel_rfl) ?_
            change WpE _ _ c_slices_Insert_api_Version_api_Version_65 _ _ _
            refine wpE_seq (x := c_slices_Insert_api_Version_api_Version_66) (y := c_slices_Insert_api_Version_api_Version_68) (by kernel_rfl) ?_
            refine wpE_region (id := 17) (ops := r_slices_Insert_api_Version_api_Version_66) (by kernel_rfl) ?_
            refine reg_run [.plain, .plain] 2 [(6, [], Value.slice s.ptr ((IntKind.i64.wrap (((s.len : Nat) : Int) + ((v.len : Nat) : Int))).toNat) s.cap)] (by kernel_rfl) (by kernel_rfl) ?_
            refine reg_end [(6, Value.slice s.ptr ((IntKind.i64.wrap (((s.len : Nat) : Int) + ((v.len : Nat) : Int))).toNat) s.cap)] (by kernel_rfl) (by kernel_rfl) ?_
            change WpE _ _ c_slices_Insert_api_Version_api_Version_68 _ _ _
            refine wpE_ret (by kernel_rfl) ?_
            repeat (first | refine seqQ_ret ?_ | refine blockQ_ret ?_ | refine loopQ_ret ?_ | refine cutQ_ret ?_)
            exact retS (rs := [(Go.ResultVar.tmp 6)]) (v := Value.slice s.ptr ((IntKind.i64.wrap (((s.len : Nat) : Int) + ((v.len : Nat) : Int))).toNat) s.cap) (by kernel_rfl) (⟨by kernel_rfl, trivial⟩) ⟨(Slc.mk s.ptr ((IntKind.i64.wrap (((s.len : Nat) : Int) + ((v.len : Nat) : Int))).toNat) s.cap), rfl, h⟩
          · replace h := h.2 hb
            refine wpE_skip (by kernel_rfl) ?_
            change WpE _ _ c_slices_Insert_api_Version_api_Version_70 _ _ _
            refine wpE_seq (x := c_slices_Insert_api_Version_api_Version_71) (y := c_slices_Insert_api_Version_api_Version_73) (by kernel_rfl) ?_
            refine wpE_region (id := 18) (ops := r_slices_Insert_api_Version_api_Version_71) (by kernel_rfl) ?_
            refine reg_run [.plain, .plain] 2 [(0, [], Value.slice s.ptr ((IntKind.i64.wrap (((s.len : Nat) : Int) + ((v.len : Nat) : Int))).toNat) s.cap), (1, [], Value.int .i64 i), (2, [], Value.slice v.ptr v.len v.cap), (7, [], Value.int .i64 ((v.len : Nat) : Int)), (84, [], Value.slice s.ptr ((IntKind.i64.wrap (((s.len : Nat) : Int) + ((v.len : Nat) : Int))).toNat) s.cap), (85, [], Value.int .i64 ((s.len : Nat) : Int))] (by kernel_rfl) (by kernel_rfl) ?_
            obtain ⟨hc, h⟩ := h
            refine reg_slice (t := 22) (e := 27) (x := (Go.Operand.tmp 84)) (lo := (Go.Operand.tmp 85)) (s := (Slc.mk s.ptr ((IntKind.i64.wrap (((s.len : Nat) : Int) + ((v.len : Nat) : Int))).toNat) s.cap)) (sz := 3) (k := .i64) (a := ((s.len : Nat) : Int)) (ty := 22) (dst := some 86) (by kernel_rfl) (by kernel_rfl) (by kernel_rfl) (by kernel_rfl) (by kernel_rfl) hc (fun s10 hs => ?_)
            replace h := h s10 hs
            clear hs
            refine reg_run [.plain] 4 [(0, [], Value.slice s.ptr ((IntKind.i64.wrap (((s.len : Nat) : Int) + ((v.len : Nat) : Int))).toNat) s.cap), (1, [], Value.int .i64 i), (7, [], Value.int .i64 ((v.len : Nat) : Int)), (86, [], Value.slice s10.ptr s10.len s10.cap), (87, [], Value.slice v.ptr v.len v.cap)] (by kernel_rfl) (by kernel_rfl) ?_
            obtain ⟨src, hs, h⟩ := h
            refine reg_copy (t := 22) (tx := 22) (e := 27) (a := (Go.Operand.tmp 86)) (xo := (Go.Operand.tmp 87)) (d := s10) (x := v) (sz := 3) (ty := 3) (dst := some 88)  src (by kernel_rfl) (by kernel_rfl) (by kernel_rfl) (by kernel_rfl) (by kernel_rfl) hs (CopyW.mono h (fun w9 h => ?_))
            refine reg_end [(0, Value.slice s.ptr ((IntKind.i64.wrap (((s.len : Nat) : Int) + ((v.len : Nat) : Int))).toNat) s.cap), (1, Value.int .i64 i), (7, Value.int .i64 ((v.len : Nat) : Int))] (by kernel_rfl) (by kernel_rfl) ?_
            change WpE _ _ c_slices_Insert_api_Version_api_Version_73 _ _ _
            refine wpE_seq (x := c_slices_Insert_api_Version_api_Version_74) (y := c_slices_Insert_api_Version_api_Version_76) (by kernel_rfl) ?_
            refine wpE_region (id := 19) (ops := r_slices_Insert_api_Version_api_Version_74) (by kernel_rfl) ?_
            refine reg_run [.plain, .plain] 2 [(0, [], Value.slice s.ptr ((IntKind.i64.wrap (((s.len : Nat) : Int) + ((v.len : Nat) : Int))).toNat) s.cap), (7, [], Value.int .i64 ((v.len : Nat) : Int)), (89, [], Value.slice s.ptr ((IntKind.i64.wrap (((s.len : Nat) : Int) + ((v.len : Nat) : Int))).toNat) s.cap), (90, [], Value.int .i64 i)] (by kernel_rfl) (by kernel_rfl) ?_
            obtain ⟨hc, h⟩ := h
            refine reg_slice (t := 22) (e := 27) (x := (Go.Operand.tmp 89)) (lo := (Go.Operand.tmp 90)) (s := (Slc.mk s.ptr ((IntKind.i64.wrap (((s.len : Nat) : Int) + ((v.len : Nat) : Int))).toNat) s.cap)) (sz := 3) (k := .i64) (a := i) (ty := 22) (dst := some 91) (by kernel_rfl) (by kernel_rfl) (by kernel_rfl) (by kernel_rfl) (by kernel_rfl) hc (fun s11 hs => ?_)
            replace h := h s11 hs
            clear hs
            refine reg_run [.plain] 4 [(0, [], Value.slice s.ptr ((IntKind.i64.wrap (((s.len : Nat) : Int) + ((v.len : Nat) : Int))).toNat) s.cap), (91, [], Value.slice s11.ptr s11.len s11.cap), (92, [], Value.int .i64 ((v.len : Nat) : Int))] (by kernel_rfl) (by kernel_rfl) ?_
            refine reg_enter (op := (Go.Op.call (Go.Call.mk (Go.Callee.value (Go.Operand.func 93)) #[(Go.Operand.tmp 91), (Go.Operand.tmp 92)] #[22, 3]))) (ty := 0) (dst := some 93) 93 #[Value.slice s11.ptr s11.len s11.cap, Value.int .i64 ((v.len : Nat) : Int)] (by kernel_rfl) (fun ww => by kernel_rfl) (Calls.mono h ?_)
            rintro _ w10 ⟨rfl, h⟩
            refine ⟨_, rfl, ?_⟩
            refine reg_end [(0, Value.slice s.ptr ((IntKind.i64.wrap (((s.len : Nat) : Int) + ((v.len : Nat) : Int))).toNat) s.cap)] (by kernel_rfl) (by kernel_rfl) ?_
            change WpE _ _ c_slices_Insert_api_Version_api_Version_76 _ _ _
            refine wpE_seq (x := c_slices_Insert_api_Version_api_Version_77) (y := c_slices_Insert_api_Version_api_Version_79) (by kernel_rfl) ?_
            refine wpE_region (id := 20) (ops := r_slices_Insert_api_Version_api_Version_77) (by kernel_rfl) ?_
            refine reg_run [.plain, .plain] 2 [(6, [], Value.slice s.ptr ((IntKind.i64.wrap (((s.len : Nat) : Int) + ((v.len : Nat) : Int))).toNat) s.cap)] (by kernel_rfl) (by kernel_rfl) ?_
            refine reg_end [(6, Value.slice s.ptr ((IntKind.i64.wrap (((s.len : Nat) : Int) + ((v.len : Nat) : Int))).toNat) s.cap)] (by kernel_rfl) (by kernel_rfl) ?_
            change WpE _ _ c_slices_Insert_api_Version_api_Version_79 _ _ _
            refine wpE_ret (by kernel_rfl) ?_
            repeat (first | refine seqQ_ret ?_ | refine blockQ_ret ?_ | refine loopQ_ret ?_ | refine cutQ_ret ?_)
            exact retS (rs := [(Go.ResultVar.tmp 6)]) (v := Value.slice s.ptr ((IntKind.i64.wrap (((s.len : Nat) : Int) + ((v.len : Nat) : Int))).toNat) s.cap) (by kernel_rfl) (⟨by kernel_rfl, trivial⟩) ⟨(Slc.mk s.ptr ((IntKind.i64.wrap (((s.len : Nat) : Int) + ((v.len : Nat) : Int))).toNat) s.cap), rfl, h⟩
  · rintro e w' ⟨v, rfl, r0, rfl, h⟩; exact ⟨r0, rfl, h⟩

/-! ### slices.rotateRight[towpath/api.Version] (function 93) -/
noncomputable def c_slices_rotateRight_api_Version_0 : Code := (Tryd.f93.body).getD Code.skip
noncomputable def r_slices_rotateRight_api_Version_0 : Array Oper := Code.ops c_slices_rotateRight_api_Version_0

set_option maxRecDepth 100000 in
set_option maxHeartbeats 4000000 in
theorem S_slices_rotateRight_api_Version {s : Slc} {r : Int} {w : World} {R : World → Prop} (h : F_slices_rotateRight_api_Version s r R w) : C_slices_rotateRight_api_Version s r w R := by
  unfold F_slices_rotateRight_api_Version at h
  unfold C_slices_rotateRight_api_Version
  refine Calls.mono (calls_of_wpE (args := [Value.slice s.ptr s.len s.cap, Value.int .i64 r]) (R := fun v w' => v = Value.tuple #[] ∧ R w') Tryd.func93 (c := c_slices_rotateRight_api_Version_0) (by kernel_rfl) 10 (by kernel_rfl) (by kernel_rfl) [(0, Value.slice s.ptr s.len s.cap), (1, Value.int .i64 r)] (by kernel_rfl) ?_) ?_
  · refine wpE_region (id := 0) (ops := r_slices_rotateRight_api_Version_0) (by kernel_rfl) ?_
    refine reg_run [.plain, .plain, .plain, .plain, .plain] 5 [(4, [], Value.slice s.ptr s.len s.cap), (8, [], Value.int .i64 (IntKind.i64.wrap (((s.len : Nat) : Int) - r)))] (by kernel_rfl) (by kernel_rfl) ?_
    refine reg_enter (op := (Go.Op.call (Go.Call.mk (Go.Callee.value (Go.Operand.func 95)) #[(Go.Operand.tmp 4), (Go.Operand.tmp 8)] #[22, 3]))) (ty := 0) (dst := some 9) 95 #[Value.slice s.ptr s.len s.cap, Value.int .i64 (IntKind.i64.wrap (((s.len : Nat) : Int) - r))] (by kernel_rfl) (fun ww => by kernel_rfl) (Calls.mono h ?_)
    rintro _ w1 ⟨rfl, h⟩
    refine ⟨_, rfl, ?_⟩
    refine reg_end [] (by kernel_rfl) (by kernel_rfl) ?_
    repeat (first | refine seqQ_exit ?_ | refine loopQ_exit ?_ | refine cutQ_exit ?_ | refine blockQ_hit ?_ | refine blockQ_miss (by kernel_rfl) ?_)
    refine retQ_normal ?_
    repeat (first | refine seqQ_ret ?_ | refine blockQ_ret ?_ | refine loopQ_ret ?_ | refine cutQ_ret ?_)
    exact retT (rs := []) (vs := []) (by kernel_rfl) (trivial) (by kernel_rfl) ⟨rfl, h⟩
  · rintro e w' ⟨v, rfl, rfl, h⟩; exact ⟨rfl, h⟩

/-! ### slices.rotateLeft[towpath/api.Version] (function 95) -/
noncomputable def c_slices_rotateLeft_api_Version_0 : Code := (Tryd.f95.body).getD Code.skip
noncomputable def c_slices_rotateLeft_api_Version_1 : Code := Code.l c_slices_rotateLeft_api_Version_0
noncomputable def r_slices_rotateLeft_api_Version_1 : Array Oper := Code.ops c_slices_rotateLeft_api_Version_1
noncomputable def c_slices_rotateLeft_api_Version_3 : Code := Code.r c_slices_rotateLeft_api_Version_0
noncomputable def c_slices_rotateLeft_api_Version_4 : Code := Code.l c_slices_rotateLeft_api_Version_3
noncomputable def r_slices_rotateLeft_api_Version_4 : Array Oper := Code.ops c_slices_rotateLeft_api_Version_4
noncomputable def c_slices_rotateLeft_api_Version_6 : Code := Code.r c_slices_rotateLeft_api_Version_3
noncomputable def r_slices_rotateLeft_api_Version_6 : Array Oper := Code.ops c_slices_rotateLeft_api_Version_6

set_option maxRecDepth 100000 in
set_option maxHeartbeats 4000000 in
theorem S_slices_rotateLeft_api_Version {s : Slc} {r : Int} {w : World} {R : World → Prop} (h : F_slices_rotateLeft_api_Version s r R w) : C_slices_rotateLeft_api_Version s r w R := by
  unfold F_slices_rotateLeft_api_Version at h
  unfold C_slices_rotateLeft_api_Version
  refine Calls.mono (calls_of_wpE (args := [Value.slice s.ptr s.len s.cap, Value.int .i64 r]) (R := fun v w' => v = Value.tuple #[] ∧ R w') Tryd.func95 (c := c_slices_rotateLeft_api_Version_0) (by kernel_rfl) 14 (by kernel_rfl) (by kernel_rfl) [(0, Value.slice s.ptr s.len s.cap), (1, Value.int .i64 r)] (by kernel_rfl) ?_) ?_
  · refine wpE_seq (x := c_slices_rotateLeft_api_Version_1) (y := c_slices_rotateLeft_api_Version_3) (by kernel_rfl) ?_
    refine wpE_region (id := 0) (ops := r_slices_rotateLeft_api_Version_1) (by kernel_rfl) ?_
    refine reg_run [.plain, .plain] 2 [(0, [], Value.slice s.ptr s.len s.cap), (1, [], Value.int .i64 r), (4, [], Value.slice s.ptr s.len s.cap), (5, [], Value.int .i64 r)] (by kernel_rfl) (by kernel_rfl) ?_
    obtain ⟨h0, h1, h⟩ := h
    refine reg_sliceHi (t := 22) (e := 27) (x := (Go.Operand.tmp 4)) (hi := (Go.Operand.tmp 5)) (p := s.ptr) (l := s.len) (c := s.cap) (sz := 3) (k := .i64) (j := r) (ty := 22) (dst := some 6) (by kernel_rfl) (by kernel_rfl) (by kernel_rfl) (by kernel_rfl) (by kernel_rfl) h0 h1 ?_
    refine reg_run [] 3 [(0, [], Value.slice s.ptr s.len s.cap), (1, [], Value.int .i64 r), (6, [], Value.slice s.ptr r.toNat s.cap)] (by kernel_rfl) (by kernel_rfl) ?_
    refine reg_enter (op := (Go.Op.call (Go.Call.mk (Go.Callee.value (Go.Operand.func 97)) #[(Go.Operand.tmp 6)] #[22]))) (ty := 0) (dst := some 7) 97 #[Value.slice s.ptr r.toNat s.cap] (by kernel_rfl) (fun ww => by kernel_rfl) (Calls.mono h ?_)
    rintro _ w1 ⟨rfl, h⟩
    refine ⟨_, rfl, ?_⟩
    refine reg_end [(0, Value.slice s.ptr s.len s.cap), (1, Value.int .i64 r)] (by kernel_rfl) (by kernel_rfl) ?_
    change WpE _ _ c_slices_rotateLeft_api_Version_3 _ _ _
    refine wpE_seq (x := c_slices_rotateLeft_api_Version_4) (y := c_slices_rotateLeft_api_Version_6) (by kernel_rfl) ?_
    refine wpE_region (id := 1) (ops := r_slices_rotateLeft_api_Version_4) (by kernel_rfl) ?_
    refine reg_run [.plain, .plain] 2 [(0, [], Value.slice s.ptr s.len s.cap), (8, [], Value.slice s.ptr s.len s.cap), (9, [], Value.int .i64 r)] (by kernel_rfl) (by kernel_rfl) ?_
    obtain ⟨hc, h⟩ := h
    refine reg_slice (t := 22) (e := 27) (x := (Go.Operand.tmp 8)) (lo := (Go.Operand.tmp 9)) (s := s) (sz := 3) (k := .i64) (a := r) (ty := 22) (dst := some 10) (by kernel_rfl) (by kernel_rfl) (by kernel_rfl) (by kernel_rfl) (by kernel_rfl) hc (fun s1 hs => ?_)
    replace h := h s1 hs
    clear hs
    refine reg_run [] 3 [(0, [], Value.slice s.ptr s.len s.cap), (10, [], Value.slice s1.ptr s1.len s1.cap)] (by kernel_rfl) (by kernel_rfl) ?_
    refine reg_enter (op := (Go.Op.call (Go.Call.mk (Go.Callee.value (Go.Operand.func 97)) #[(Go.Operand.tmp 10)] #[22]))) (ty := 0) (dst := some 11) 97 #[Value.slice s1.ptr s1.len s1.cap] (by kernel_rfl) (fun ww => by kernel_rfl) (Calls.mono h ?_)
    rintro _ w2 ⟨rfl, h⟩
    refine ⟨_, rfl, ?_⟩
    refine reg_end [(0, Value.slice s.ptr s.len s.cap)] (by kernel_rfl) (by kernel_rfl) ?_
    change WpE _ _ c_slices_rotateLeft_api_Version_6 _ _ _
    refine wpE_region (id := 2) (ops := r_slices_rotateLeft_api_Version_6) (by kernel_rfl) ?_
    refine reg_run [.plain] 1 [(12, [], Value.slice s.ptr s.len s.cap)] (by kernel_rfl) (by kernel_rfl) ?_
    refine reg_enter (op := (Go.Op.call (Go.Call.mk (Go.Callee.value (Go.Operand.func 97)) #[(Go.Operand.tmp 12)] #[22]))) (ty := 0) (dst := some 13) 97 #[Value.slice s.ptr s.len s.cap] (by kernel_rfl) (fun ww => by kernel_rfl) (Calls.mono h ?_)
    rintro _ w3 ⟨rfl, h⟩
    refine ⟨_, rfl, ?_⟩
    refine reg_end [] (by kernel_rfl) (by kernel_rfl) ?_
    repeat (first | refine seqQ_exit ?_ | refine loopQ_exit ?_ | refine cutQ_exit ?_ | refine blockQ_hit ?_ | refine blockQ_miss (by kernel_rfl) ?_)
    refine retQ_normal ?_
    repeat (first | refine seqQ_ret ?_ | refine blockQ_ret ?_ | refine loopQ_ret ?_ | refine cutQ_ret ?_)
    exact retT (rs := []) (vs := []) (by kernel_rfl) (trivial) (by kernel_rfl) ⟨rfl, h⟩
  · rintro e w' ⟨v, rfl, rfl, h⟩; exact ⟨rfl, h⟩

/-! ### slices.Reverse[[]towpath/api.Version,towpath/api.Version] (function 97) -/
noncomputable def c_slices_Reverse_api_Version_api_Version_0 : Code := (Tryd.f97.body).getD Code.skip
noncomputable def c_slices_Reverse_api_Version_api_Version_1 : Code := Code.l c_slices_Reverse_api_Version_api_Version_0
noncomputable def r_slices_Reverse_api_Version_api_Version_1 : Array Oper := Code.ops c_slices_Reverse_api_Version_api_Version_1
noncomputable def c_slices_Reverse_api_Version_api_Version_3 : Code := Code.r c_slices_Reverse_api_Version_api_Version_0
noncomputable def c_slices_Reverse_api_Version_api_Version_4 : Code := Code.l c_slices_Reverse_api_Version_api_Version_3
noncomputable def c_slices_Reverse_api_Version_api_Version_5 : Code := Code.l c_slices_Reverse_api_Version_api_Version_4
noncomputable def c_slices_Reverse_api_Version_api_Version_6 : Code := Code.l c_slices_Reverse_api_Version_api_Version_5
noncomputable def c_slices_Reverse_api_Version_api_Version_7 : Code := Code.l c_slices_Reverse_api_Version_api_Version_6
noncomputable def r_slices_Reverse_api_Version_api_Version_7 : Array Oper := Code.ops c_slices_Reverse_api_Version_api_Version_7
noncomputable def c_slices_Reverse_api_Version_api_Version_9 : Code := Code.r c_slices_Reverse_api_Version_api_Version_6
noncomputable def c_slices_Reverse_api_Version_api_Version_10 : Code := Code.l c_slices_Reverse_api_Version_api_Version_9
noncomputable def c_slices_Reverse_api_Version_api_Version_11 : Code := Code.r c_slices_Reverse_api_Version_api_Version_9
noncomputable def c_slices_Reverse_api_Version_api_Version_12 : Code := Code.r c_slices_Reverse_api_Version_api_Version_5
noncomputable def c_slices_Reverse_api_Version_api_Version_13 : Code := Code.l c_slices_Reverse_api_Version_api_Version_12
noncomputable def c_slices_Reverse_api_Version_api_Version_14 : Code := Code.l c_slices_Reverse_api_Version_api_Version_13
noncomputable def r_slices_Reverse_api_Version_api_Version_14 : Array Oper := Code.ops c_slices_Reverse_api_Version_api_Version_14
noncomputable def c_slices_Reverse_api_Version_api_Version_16 : Code := Code.r c_slices_Reverse_api_Version_api_Version_12
noncomputable def r_slices_Reverse_api_Version_api_Version_16 : Array Oper := Code.ops c_slices_Reverse_api_Version_api_Version_16
def o_slices_Reverse_api_Version_api_Version_14 : List Nat := [0, 1, 2, 3, 4, 5, 6, 7, 8, 9, 10, 11, 12, 13, 14, 15]

set_option maxRecDepth 100000 in
set_option maxHeartbeats 4000000 in
theorem S_slices_Reverse_api_Version_api_Version {s : Slc} {w : World} {R : World → Prop} (h : F_slices_Reverse_api_Version_api_Version s R w) : C_slices_Reverse_api_Version_api_Version s w R := by
  unfold F_slices_Reverse_api_Version_api_Version at h
  unfold C_slices_Reverse_api_Version_api_Version
  refine Calls.mono (calls_of_wpE (args := [Value.slice s.ptr s.len s.cap]) (R := fun v w' => v = Value.tuple #[] ∧ R w') Tryd.func97 (c := c_slices_Reverse_api_Version_api_Version_0) (by kernel_rfl) 28 (by kernel_rfl) (by kernel_rfl) [(0, Value.slice s.ptr s.len s.cap)] (by kernel_rfl) ?_) ?_
  · refine wpE_seq (x := c_slices_Reverse_api_Version_api_Version_1) (y := c_slices_Reverse_api_Version_api_Version_3) (by kernel_rfl) ?_
    refine wpE_region (id := 0) (ops := r_slices_Reverse_api_Version_api_Version_1) (by kernel_rfl) ?_
    refine reg_run [.plain, .plain, .plain, .plain, .plain] 5 [(0, [], Value.slice s.ptr s.len s.cap), (2, [], Value.int .i64 0), (3, [], Value.int .i64 (IntKind.i64.wrap (((s.len : Nat) : Int) - 1)))] (by kernel_rfl) (by kernel_rfl) ?_
    refine reg_end [(0, Value.slice s.ptr s.len s.cap), (2, Value.int .i64 0), (3, Value.int .i64 (IntKind.i64.wrap (((s.len : Nat) : Int) - 1)))] (by kernel_rfl) (by kernel_rfl) ?_
    change WpE _ _ c_slices_Reverse_api_Version_api_Version_3 _ _ _
    refine wpE_block (id := 0) (x := c_slices_Reverse_api_Version_api_Version_4) (by kernel_rfl) ?_
    obtain ⟨I, μ, h0, hr⟩ := h
    refine wpE_loop (x := c_slices_Reverse_api_Version_api_Version_5) (by kernel_rfl) (fun m l w => ∃ (i : Int) (j : Int), l = [(0, Value.slice s.ptr s.len s.cap), (2, Value.int .i64 i), (3, Value.int .i64 j)] ∧ I i j w ∧ μ i j w = m) (l' := [(0, Value.slice s.ptr s.len s.cap), (2, Value.int .i64 0), (3, Value.int .i64 (IntKind.i64.wrap (((s.len : Nat) : Int) - 1)))]) (Sub.mk (by kernel_rfl)) ⟨0, (IntKind.i64.wrap (((s.len : Nat) : Int) - 1)), rfl, h0, rfl⟩ ?_
    rintro _ _ w1 ⟨i, j, rfl, hI, rfl⟩
    obtain ⟨again_, again__h, h⟩ : ∃ again_ : Int → Int → World → Prop, (∀ i' j' w', again_ i' j' w' → I i' j' w' ∧ μ i' j' w' < μ i j w1) ∧ F_slices_Reverse_api_Version_api_Version_L0 s R again_ i j w1 := ⟨_, fun _ _ _ h => h, hr i j w1 hI⟩
    clear h0 hI
    unfold F_slices_Reverse_api_Version_api_Version_L0 at h
    refine wpE_seq (x := c_slices_Reverse_api_Version_api_Version_6) (y := c_slices_Reverse_api_Version_api_Version_12) (by kernel_rfl) ?_
    refine wpE_seq (x := c_slices_Reverse_api_Version_api_Version_7) (y := c_slices_Reverse_api_Version_api_Version_9) (by kernel_rfl) ?_
    refine wpE_region (id := 1) (ops := r_slices_Reverse_api_Version_api_Version_7) (by kernel_rfl) ?_
    refine reg_run [.plain, .plain, .plain] 3 [(0, [], Value.slice s.ptr s.len s.cap), (2, [], Value.int .i64 i), (3, [], Value.int .i64 j), (9, [], Value.bool (decide (i < j)))] (by kernel_rfl) (by kernel_rfl) ?_
    refine reg_end [(0, Value.slice s.ptr s.len s.cap), (2, Value.int .i64 i), (3, Value.int .i64 j), (9, Value.bool (decide (i < j)))] (by kernel_rfl) (by kernel_rfl) ?_
    change WpE _ _ c_slices_Reverse_api_Version_api_Version_9 _ _ _
    refine wpE_cond (o := (Operand.tmp 9)) (b := (decide (i < j))) (x := c_slices_Reverse_api_Version_api_Version_10) (y := c_slices_Reverse_api_Version_api_Version_11) (by kernel_rfl) (by kernel_rfl) (fun hb => ?_) (fun hb => ?_)
    · replace h := h.1 hb
      refine wpE_skip (by kernel_rfl) ?_
      change WpE _ _ c_slices_Reverse_api_Version_api_Version_12 _ _ _
      refine wpE_seq (x := c_slices_Reverse_api_Version_api_Version_13) (y := c_slices_Reverse_api_Version_api_Version_16) (by kernel_rfl) ?_
      refine wpE_block (id := 1) (x := c_slices_Reverse_api_Version_api_Version_14) (by kernel_rfl) ?_
      refine wpE_mixregion (id := 3) (ops := r_slices_Reverse_api_Version_api_Version_14) o_slices_Reverse_api_Version_api_Version_14 (by kernel_rfl) (by kernel_rfl) (by kernel_rfl) (by kernel_rfl) (fun w2 hw => ?_)
      replace h := h w2 hw
      clear hw
      refine mreg_run [.plain, .plain, .plain, .plain, .plain, .plain] 6 [(0, [], Value.slice s.ptr s.len s.cap), (2, [], Value.int .i64 i), (3, [], Value.int .i64 j), (14, [], Value.slice s.ptr s.len s.cap), (15, [], Value.int .i64 i), (16, [], Value.slice s.ptr s.len s.cap), (17, [], Value.int .i64 j), (18, [], Value.slice s.ptr s.len s.cap), (19, [], Value.int .i64 j)] (by kernel_rfl) (by kernel_rfl) ?_
      obtain ⟨hp_4, h⟩ := h
      refine mreg_conv [(0, [], Value.slice s.ptr s.len s.cap), (2, [], Value.int .i64 i), (3, [], Value.int .i64 j), (14, [], Value.slice s.ptr s.len s.cap), (15, [], Value.int .i64 i), (16, [], Value.slice s.ptr s.len s.cap), (17, [], Value.int .i64 j), (18, [], Value.slice (some ⟨(pblk s.ptr), (poff s.ptr), none⟩) s.len s.cap), (19, [], Value.int .i64 j)] (congrArg (fun pp => ([(0, [], Value.slice s.ptr s.len s.cap), (2, [], Value.int .i64 i), (3, [], Value.int .i64 j), (14, [], Value.slice s.ptr s.len s.cap), (15, [], Value.int .i64 i), (16, [], Value.slice s.ptr s.len s.cap), (17, [], Value.int .i64 j), (18, [], Value.slice pp s.len s.cap), (19, [], Value.int .i64 j)] : GEnv)) hp_4) ?_
      obtain ⟨h0, h1, h⟩ := h
      refine mreg_indexS (i := 6) (by kernel_rfl) (t := 22) (e := 27) (x := (Go.Operand.tmp 18)) (ix := (Go.Operand.tmp 19)) (b := (pblk s.ptr)) (o := (poff s.ptr)) (l := s.len) (c := s.cap) (k := .i64) (j := j) (ty := 0) (dst := some 20) (sz := 3) (by kernel_rfl) (by kernel_rfl) (by kernel_rfl) (by kernel_rfl) (by kernel_rfl) h0 h1 ?_
      refine mreg_run [] 7 [(0, [], Value.slice s.ptr s.len s.cap), (2, [], Value.int .i64 i), (3, [], Value.int .i64 j), (14, [], Value.slice s.ptr s.len s.cap), (15, [], Value.int .i64 i), (16, [], Value.slice s.ptr s.len s.cap), (17, [], Value.int .i64 j), (20, [], Value.pointer (some ⟨(pblk s.ptr), (poff s.ptr) + j.toNat * 3, none⟩))] (by kernel_rfl) (by kernel_rfl) ?_
      obtain ⟨v21, hc, h⟩ := h
      refine mreg_loadN (i := 7) (by kernel_rfl) (t := 27) (a := (Go.Operand.tmp 20)) (b := (pblk s.ptr)) (o := ((poff s.ptr) + j.toNat * 3)) (ty := 27) (dst := some 21) [Value.int .i64 v21.Number, Value.string v21.Val, Value.bool v21.Drop] (by kernel_rfl) (by kernel_rfl) (by kernel_rfl) (k := 3) (by kernel_rfl) (by kernel_rfl) hc ?_
      refine mreg_run [.plain, .plain] 10 [(0, [], Value.slice s.ptr s.len s.cap), (2, [], Value.int .i64 i), (3, [], Value.int .i64 j), (14, [], Value.slice s.ptr s.len s.cap), (15, [], Value.int .i64 i), (16, [], Value.slice s.ptr s.len s.cap), (17, [], Value.int .i64 j), (21, [], Value.agg #[Value.int .i64 v21.Number, Value.string v21.Val, Value.bool v21.Drop]), (22, [], Value.slice s.ptr s.len s.cap), (23, [], Value.int .i64 i)] (by kernel_rfl) (by kernel_rfl) ?_
      obtain ⟨hp_5, h⟩ := h
      refine mreg_conv [(0, [], Value.slice s.ptr s.len s.cap), (2, [], Value.int .i64 i), (3, [], Value.int .i64 j), (14, [], Value.slice s.ptr s.len s.cap), (15, [], Value.int .i64 i), (16, [], Value.slice s.ptr s.len s.cap), (17, [], Value.int .i64 j), (21, [], Value.agg #[Value.int .i64 v21.Number, Value.string v21.Val, Value.bool v21.Drop]), (22, [], Value.slice (some ⟨(pblk s.ptr), (poff s.ptr), none⟩) s.len s.cap), (23, [], Value.int .i64 i)] (congrArg (fun pp => ([(0, [], Value.slice s.ptr s.len s.cap), (2, [], Value.int .i64 i), (3, [], Value.int .i64 j), (14, [], Value.slice s.ptr s.len s.cap), (15, [], Value.int .i64 i), (16, [], Value.slice s.ptr s.len s.cap), (17, [], Value.int .i64 j), (21, [], Value.agg #[Value.int .i64 v21.Number, Value.string v21.Val, Value.bool v21.Drop]), (22, [], Value.slice pp s.len s.cap), (23, [], Value.int .i64 i)] : GEnv)) hp_5) ?_
      obtain ⟨h0, h1, h⟩ := h
      refine mreg_indexS (i := 10) (by kernel_rfl) (t := 22) (e := 27) (x := (Go.Operand.tmp 22)) (ix := (Go.Operand.tmp 23)) (b := (pblk s.ptr)) (o := (poff s.ptr)) (l := s.len) (c := s.cap) (k := .i64) (j := i) (ty := 0) (dst := some 24) (sz := 3) (by kernel_rfl) (by kernel_rfl) (by kernel_rfl) (by kernel_rfl) (by kernel_rfl) h0 h1 ?_
      refine mreg_run [] 11 [(0, [], Value.slice s.ptr s.len s.cap), (2, [], Value.int .i64 i), (3, [], Value.int .i64 j), (14, [], Value.slice s.ptr s.len s.cap), (15, [], Value.int .i64 i), (16, [], Value.slice s.ptr s.len s.cap), (17, [], Value.int .i64 j), (21, [], Value.agg #[Value.int .i64 v21.Number, Value.string v21.Val, Value.bool v21.Drop]), (24, [], Value.pointer (some ⟨(pblk s.ptr), (poff s.ptr) + i.toNat * 3, none⟩))] (by kernel_rfl) (by kernel_rfl) ?_
      obtain ⟨v25, hc, h⟩ := h
      refine mreg_loadN (i := 11) (by kernel_rfl) (t := 27) (a := (Go.Operand.tmp 24)) (b := (pblk s.ptr)) (o := ((poff s.ptr) + i.toNat * 3)) (ty := 27) (dst := some 25) [Value.int .i64 v25.Number, Value.string v25.Val, Value.bool v25.Drop] (by kernel_rfl) (by kernel_rfl) (by kernel_rfl) (k := 3) (by kernel_rfl) (by kernel_rfl) hc ?_
      refine mreg_run [] 12 [(0, [], Value.slice s.ptr s.len s.cap), (2, [], Value.int .i64 i), (3, [], Value.int .i64 j), (14, [], Value.slice s.ptr s.len s.cap), (15, [], Value.int .i64 i), (16, [], Value.slice s.ptr s.len s.cap), (17, [], Value.int .i64 j), (21, [], Value.agg #[Value.int .i64 v21.Number, Value.string v21.Val, Value.bool v21.Drop]), (25, [], Value.agg #[Value.int .i64 v25.Number, Value.string v25.Val, Value.bool v25.Drop])] (by kernel_rfl) (by kernel_rfl) ?_
      obtain ⟨hp_6, h⟩ := h
      refine mreg_conv [(0, [], Value.slice s.ptr s.len s.cap), (2, [], Value.int .i64 i), (3, [], Value.int .i64 j), (14, [], Value.slice (some ⟨(pblk s.ptr), (poff s.ptr), none⟩) s.len s.cap), (15, [], Value.int .i64 i), (16, [], Value.slice s.ptr s.len s.cap), (17, [], Value.int .i64 j), (21, [], Value.agg #[Value.int .i64 v21.Number, Value.string v21.Val, Value.bool v21.Drop]), (25, [], Value.agg #[Value.int .i64 v25.Number, Value.string v25.Val, Value.bool v25.Drop])] (congrArg (fun pp => ([(0, [], Value.slice s.ptr s.len s.cap), (2, [], Value.int .i64 i), (3, [], Value.int .i64 j), (14, [], Value.slice pp s.len s.cap), (15, [], Value.int .i64 i), (16, [], Value.slice s.ptr s.len s.cap), (17, [], Value.int .i64 j), (21, [], Value.agg #[Value.int .i64 v21.Number, Value.string v21.Val, Value.bool v21.Drop]), (25, [], Value.agg #[Value.int .i64 v25.Number, Value.string v25.Val, Value.bool v25.Drop])] : GEnv)) hp_6) ?_
      obtain ⟨h0, h1, h⟩ := h
      refine mreg_indexS (i := 12) (by kernel_rfl) (t := 22) (e := 27) (x := (Go.Operand.tmp 14)) (ix := (Go.Operand.tmp 15)) (b := (pblk s.ptr)) (o := (poff s.ptr)) (l := s.len) (c := s.cap) (k := .i64) (j := i) (ty := 0) (dst := some 26) (sz := 3) (by kernel_rfl) (by kernel_rfl) (by kernel_rfl) (by kernel_rfl) (by kernel_rfl) h0 h1 ?_
      refine mreg_run [] 13 [(0, [], Value.slice s.ptr s.len s.cap), (2, [], Value.int .i64 i), (3, [], Value.int .i64 j), (16, [], Value.slice s.ptr s.len s.cap), (17, [], Value.int .i64 j), (21, [], Value.agg #[Value.int .i64 v21.Number, Value.string v21.Val, Value.bool v21.Drop]), (25, [], Value.agg #[Value.int .i64 v25.Number, Value.string v25.Val, Value.bool v25.Drop]), (26, [], Value.pointer (some ⟨(pblk s.ptr), (poff s.ptr) + i.toNat * 3, none⟩))] (by kernel_rfl) (by kernel_rfl) ?_
      obtain ⟨hc, h⟩ := h
      refine mreg_store (t := 27) (a := (Go.Operand.tmp 26)) (x := (Go.Operand.tmp 21)) (b := (pblk s.ptr)) (o := ((poff s.ptr) + i.toNat * 3)) (k := 3) (ty := 0) (dst := none) 13 [0, 1, 4, 5, 6, 7, 11, 12, 10, 8, 9] [] [Value.int .i64 v21.Number, Value.string v21.Val, Value.bool v21.Drop] (by kernel_rfl) (by kernel_rfl) (by kernel_rfl) (by kernel_rfl) (by kernel_rfl) (by kernel_rfl) (by kernel_rfl) (by kernel_rfl) (by kernel_rfl) (by kernel_rfl) hc (fun w3 hw => ?_)
      replace h := h w3 hw
      clear hw
      refine ⟨trivial, ?_⟩
      refine mreg_run [] 14 [(0, [], Value.slice s.ptr s.len s.cap), (2, [], Value.int .i64 i), (3, [], Value.int .i64 j), (16, [], Value.slice s.ptr s.len s.cap), (17, [], Value.int .i64 j), (25, [], Value.agg #[Value.int .i64 v25.Number, Value.string v25.Val, Value.bool v25.Drop])] (by kernel_rfl) (by kernel_rfl) ?_
      obtain ⟨hp_7, h⟩ := h
      refine mreg_conv [(0, [], Value.slice s.ptr s.len s.cap), (2, [], Value.int .i64 i), (3, [], Value.int .i64 j), (16, [], Value.slice (some ⟨(pblk s.ptr), (poff s.ptr), none⟩) s.len s.cap), (17, [], Value.int .i64 j), (25, [], Value.agg #[Value.int .i64 v25.Number, Value.string v25.Val, Value.bool v25.Drop])] (congrArg (fun pp => ([(0, [], Value.slice s.ptr s.len s.cap), (2, [], Value.int .i64 i), (3, [], Value.int .i64 j), (16, [], Value.slice pp s.len s.cap), (17, [], Value.int .i64 j), (25, [], Value.agg #[Value.int .i64 v25.Number, Value.string v25.Val, Value.bool v25.Drop])] : GEnv)) hp_7) ?_
      obtain ⟨h0, h1, h⟩ := h
      refine mreg_indexS (i := 14) (by kernel_rfl) (t := 22) (e := 27) (x := (Go.Operand.tmp 16)) (ix := (Go.Operand.tmp 17)) (b := (pblk s.ptr)) (o := (poff s.ptr)) (l := s.len) (c := s.cap) (k := .i64) (j := j) (ty := 0) (dst := some 27) (sz := 3) (by kernel_rfl) (by kernel_rfl) (by kernel_rfl) (by kernel_rfl) (by kernel_rfl) h0 h1 ?_
      refine mreg_run [] 15 [(0, [], Value.slice s.ptr s.len s.cap), (2, [], Value.int .i64 i), (3, [], Value.int .i64 j), (25, [], Value.agg #[Value.int .i64 v25.Number, Value.string v25.Val, Value.bool v25.Drop]), (27, [], Value.pointer (some ⟨(pblk s.ptr), (poff s.ptr) + j.toNat * 3, none⟩))] (by kernel_rfl) (by kernel_rfl) ?_
      obtain ⟨hc, h⟩ := h
      refine mreg_store (t := 27) (a := (Go.Operand.tmp 27)) (x := (Go.Operand.tmp 25)) (b := (pblk s.ptr)) (o := ((poff s.ptr) + j.toNat * 3)) (k := 3) (ty := 0) (dst := none) 15 [0, 1, 2, 3, 4, 5, 6, 7, 8, 9, 10, 11, 12, 13, 14] [] [Value.int .i64 v25.Number, Value.string v25.Val, Value.bool v25.Drop] (by kernel_rfl) (by kernel_rfl) (by kernel_rfl) (by kernel_rfl) (by kernel_rfl) (by kernel_rfl) (by kernel_rfl) (by kernel_rfl) (by kernel_rfl) (by kernel_rfl) hc (fun w4 hw => ?_)
      replace h := h w4 hw
      clear hw
      refine ⟨trivial, ?_⟩
      refine mreg_end [(0, Value.slice s.ptr s.len s.cap), (2, Value.int .i64 i), (3, Value.int .i64 j)] (by kernel_rfl) (by kernel_rfl) (by kernel_rfl) ?_
      change WpE _ _ c_slices_Reverse_api_Version_api_Version_16 _ _ _
      refine wpE_region (id := 2) (ops := r_slices_Reverse_api_Version_api_Version_16) (by kernel_rfl) ?_
      refine reg_run [.plain, .plain, .plain, .plain, .plain, .plain] 6 [(0, [], Value.slice s.ptr s.len s.cap), (2, [], Value.int .i64 (IntKind.i64.wrap (i + 1))), (3, [], Value.int .i64 (IntKind.i64.wrap (j - 1)))] (by kernel_rfl) (by kernel_rfl) ?_
      refine reg_end [(0, Value.slice s.ptr s.len s.cap), (2, Value.int .i64 (IntKind.i64.wrap (i + 1))), (3, Value.int .i64 (IntKind.i64.wrap (j - 1)))] (by kernel_rfl) (by kernel_rfl) ?_
      have hb_ := again__h _ _ _ h
      exact ⟨_, hb_.2, [(0, Value.slice s.ptr s.len s.cap), (2, Value.int .i64 (IntKind.i64.wrap (i + 1))), (3, Value.int .i64 (IntKind.i64.wrap (j - 1)))], Sub.mk (by kernel_rfl), (IntKind.i64.wrap (i + 1)), (IntKind.i64.wrap (j - 1)), rfl, hb_.1, rfl⟩
    · replace h := h.2 hb
      refine wpE_exit (id := 0) (by kernel_rfl) ?_
      repeat (first | refine seqQ_exit ?_ | refine loopQ_exit ?_ | refine cutQ_exit ?_ | refine blockQ_hit ?_ | refine blockQ_miss (by kernel_rfl) ?_)
      refine retQ_normal ?_
      repeat (first | refine seqQ_ret ?_ | refine blockQ_ret ?_ | refine loopQ_ret ?_ | refine cutQ_ret ?_)
      exact retT (rs := []) (vs := []) (by kernel_rfl) (trivial) (by kernel_rfl) ⟨rfl, h⟩
  · rintro e w' ⟨v, rfl, rfl, h⟩; exact ⟨rfl, h⟩
end Go.Proofs.YtcgfmkpddhhmgaaDoor
