/- WRITTEN BY PROGRAM (dec.py): for each Go function the clean formula F, the call's contract C, and the proof S that F gives C. -/
import Derived.Test.YtpdegdnigcnjiaaGreatDoorRows
import Derived.Test.YtpdegdnigcnjiaaGreatDoorGF
namespace Go.Proofs.YtpdegdnigcnjiaaGreatDoor
open Go
set_option linter.unusedVariables false
set_option maxRecDepth 100000
set_option maxHeartbeats 4000000
noncomputable section

/-! ### slices.Clone[[]byte,byte] (function 167) -/
def c167_0 := cb_ Tryz.f167
def c167_3 := cr_ c167_0
def c167_4 := cl_ c167_3
def c167_5 := cl_ c167_4
def r167_5 := co_ c167_5
def c167_7 := cr_ c167_4
def c167_8 := cl_ c167_7
def c167_11 := cr_ c167_8
def c167_12 := cr_ c167_7
def c167_13 := cr_ c167_3
def c167_14 := cl_ c167_13
def r167_14 := co_ c167_14
def c167_16 := cr_ c167_13

theorem S_slices_Clone_byte_byte {s : Slc} {w : World} {R : Slc → World → Prop} (h : F_slices_Clone_byte_byte s R w) : C_slices_Clone_byte_byte s w R := by
 unfold F_slices_Clone_byte_byte at h
 unfold C_slices_Clone_byte_byte
 refine Calls.mono (calls_of_wpE (args := [sv_ s]) (R := fun v w' => ∃ (r0 : Slc), v = sv_ r0 ∧ R r0 w') Tryz.func167 (c := c167_0) (by kernel_rfl) 8 (by kernel_rfl) (by kernel_rfl) [(0, sv_ s)] (by kernel_rfl) ?_) ?_
 · refine Zp c167_3 P1 [(0, sv_ s)] ?_
   refine Zs c167_4 c167_13 ?_
   refine Zt r167_5 c167_7 ?_
   refine Zn P1 1 [(0, [], sv_ s), (3, [], sv_ s)] ?_
   refine reg_val (op := (Op.binOp BinOp.eql 79 (Operand.tmp 3) (Operand.const (Value.slice none 0 0)) 79)) (ty := 4) (dst := some 4) (Value.bool s.ptr.isNone) (by kernel_rfl) (fun ww => run_slice_eql_R (p := s.ptr) (l := s.len) (c := s.cap) (by kernel_rfl) (by kernel_rfl) (by kernel_rfl) ww) ?_
   refine Ze [(0, sv_ s), (4, .bool s.ptr.isNone)] ?_
   change WpE _ _ c167_7 _ _ _
   refine Zc 4 s.ptr.isNone c167_8 c167_12 (fun hb => ?_) (fun hb => ?_)
   · replace h := h.1 hb
     refine Zp c167_11 P1 [(2, .slice none 0 0)] ?_
     refine wpE_ret (by kernel_rfl) ?_
     repeat (first | refine seqQ_ret ?_ | refine blockQ_ret ?_ | refine loopQ_ret ?_ | refine cutQ_ret ?_)
     exact retS (rs := [(ResultVar.tmp 2)]) (v := Value.slice none 0 0) (by kernel_rfl) (⟨by kernel_rfl, trivial⟩) ⟨(Slc.mk none 0 0), rfl, h⟩
   · replace h := h.2 hb
     refine wpE_skip (by kernel_rfl) ?_
     change WpE _ _ c167_13 _ _ _
     refine Zt r167_14 c167_16 ?_
     refine Zn [] 0 [(0, [], sv_ s)] ?_
     refine Zw (some 5) (fun bb => .slice (some ⟨bb, 0, none⟩) 0 0) (Obj.cells ([]).toArray ty_uint8 (0, 0)) (fun b_ w1 hb hw => ?_)
     replace h := h b_ w1 hb hw
     clear hb hw
     refine Zn P1 2 [(5, [], .slice (some ⟨b_, 0, none⟩) 0 0), (6, [], sv_ s)] ?_
     obtain ⟨src, hs, h⟩ := h
     refine reg_append (t := 79) (tx := 79) (e := 5) (a := (Operand.tmp 5)) (xo := (Operand.tmp 6)) (s := (Slc.mk (some ⟨b_, 0, none⟩) 0 0)) (x := s) (sz := 1) (by_ := 1) (zs := [Value.int .u8 0]) (ty := 79) (dst := some 7)  src (by kernel_rfl) (by kernel_rfl) (by kernel_rfl) (by kernel_rfl) (by kernel_rfl) (by kernel_rfl) (by kernel_rfl) (by kernel_rfl) (by kernel_rfl) hs (AppendW.mono h (fun v7 w2 h => ?_))
     refine Zf P1 [(2, sv_ v7)] ?_
     change WpE _ _ c167_16 _ _ _
     refine wpE_ret (by kernel_rfl) ?_
     repeat (first | refine seqQ_ret ?_ | refine blockQ_ret ?_ | refine loopQ_ret ?_ | refine cutQ_ret ?_)
     exact retS (rs := [(ResultVar.tmp 2)]) (v := sv_ v7) (by kernel_rfl) (⟨by kernel_rfl, trivial⟩) ⟨v7, rfl, h⟩
 · rintro e w' ⟨v, rfl, r0, rfl, h⟩; exact ⟨r0, rfl, h⟩
end
end Go.Proofs.YtpdegdnigcnjiaaGreatDoor
