/- WRITTEN BY PROGRAM (dec.py): for each Go function the clean formula F, the call's contract C, and the proof S that F gives C. -/
import Derived.Test.YtpedclhflmhakaaRows
import Derived.Test.YtpedclhflmhakaaGF
namespace Go.Proofs.Ytpedclhflmhakaa
open Go
set_option linter.unusedVariables false
set_option maxRecDepth 100000
set_option maxHeartbeats 4000000
noncomputable section

/-! ### towpath/sum.Hash (function 116) -/
def c116_0 := cb_ Try.f116
def c116_3 := cr_ c116_0
def c116_6 := cr_ c116_3
def c116_7 := cl_ c116_6
def c116_10 := cr_ c116_7
def c116_11 := cl_ c116_10
def c116_12 := cl_ c116_11
def c116_15 := cr_ c116_12
def c116_16 := cl_ c116_15
def c116_17 := cl_ c116_16
def c116_18 := cr_ c116_16
def c116_19 := cr_ c116_15
def c116_20 := cl_ c116_19
def c116_21 := cl_ c116_20
def c116_24 := cr_ c116_21
def c116_25 := cl_ c116_24
def r116_25 := co_ c116_25
def c116_27 := cr_ c116_24
def r116_27 := co_ c116_27
def c116_29 := cr_ c116_19
def r116_29 := co_ c116_29
def c116_31 := cr_ c116_6
def c116_34 := cr_ c116_31

theorem S_sum_Hash {key : ByteArray} {w : World} {R : Int → World → Prop} (h : F_sum_Hash key R w) : C_sum_Hash key w R := by
 unfold F_sum_Hash at h
 unfold C_sum_Hash
 refine Calls.mono (calls_of_wpE (args := [Value.string key]) (R := fun v w' => ∃ (r0 : Int), v = Value.int .u32 r0 ∧ R r0 w') Try.func116 (c := c116_0) (by kernel_rfl) 20 (by kernel_rfl) (by kernel_rfl) [(0, Value.string key)] (by kernel_rfl) ?_) ?_
 · refine Zp c116_3 P1 [(0, .string key)] ?_
   refine Zp c116_6 P1 [(0, .string key), (3, .int .u32 2166136261)] ?_
   refine Zs c116_7 c116_31 ?_
   refine Zp c116_10 P3 [(0, .string key), (3, .int .u32 2166136261), (6, .int .i64 ((key.size : Nat) : Int)), (7, .int .i64 0)] ?_
   refine Zb 0 c116_11 ?_
   obtain ⟨I, μ, h0, hr⟩ := h
   refine wpE_loop (x := c116_12) (by kernel_rfl) (fun m l w => ∃ (h_ : Int) (t7 : Int), l = [(0, Value.string key), (3, Value.int .u32 h_), (6, Value.int .i64 ((key.size : Nat) : Int)), (7, Value.int .i64 t7)] ∧ I h_ t7 w ∧ μ h_ t7 w = m) (l' := [(0, Value.string key), (3, Value.int .u32 2166136261), (6, Value.int .i64 ((key.size : Nat) : Int)), (7, Value.int .i64 0)]) (Sub.mk (by kernel_rfl)) ⟨2166136261, 0, rfl, h0, rfl⟩ ?_
   rintro _ _ w1 ⟨h_, t7, rfl, hI, rfl⟩
   obtain ⟨again_, again__h, h⟩ : ∃ again_ : Int → Int → World → Prop, (∀ h_' t7' w', again_ h_' t7' w' → I h_' t7' w' ∧ μ h_' t7' w' < μ h_ t7 w1) ∧ F_sum_Hash_L0 key R again_ h_ t7 w1 := ⟨_, fun _ _ _ h => h, hr h_ t7 w1 hI⟩
   clear h0 hI
   unfold F_sum_Hash_L0 at h
   refine Zp c116_15 P1 [(0, .string key), (3, .int .u32 h_), (6, .int .i64 ((key.size : Nat) : Int)), (7, .int .i64 t7), (8, .bool (decide (t7 < ((key.size : Nat) : Int))))] ?_
   refine Zs c116_16 c116_19 ?_
   refine Zc 8 (decide (t7 < ((key.size : Nat) : Int))) c116_17 c116_18 (fun hb => ?_) (fun hb => ?_)
   · replace h := h.1 hb
     refine wpE_skip (by kernel_rfl) ?_
     change WpE _ _ c116_19 _ _ _
     refine Zs c116_20 c116_29 ?_
     refine Zb 1 c116_21 ?_
     refine Zp c116_24 P2 [(0, .string key), (3, .int .u32 h_), (4, .int .i64 t7), (6, .int .i64 ((key.size : Nat) : Int)), (7, .int .i64 t7)] ?_
     refine Zt r116_25 c116_27 ?_
     refine Zn P3 3 [(0, [], .string key), (3, [], .int .u32 h_), (6, [], .int .i64 ((key.size : Nat) : Int)), (7, [], .int .i64 t7), (10, [], .int .u32 h_), (11, [], .string key), (12, [], .int .i64 t7)] ?_
     obtain ⟨h0, h1, h⟩ := h
     refine reg_indexStr (t := 9) (x := (Operand.tmp 11)) (ix := (Operand.tmp 12)) (s := key) (k := .i64) (j := t7) (ty := 5) (dst := some 13) (by kernel_rfl) (by kernel_rfl) (by kernel_rfl) (by kernel_rfl) h0 h1 ?_
     refine Zf P3 [(0, .string key), (3, .int .u32 (bxor .u32 h_ (IntKind.u32.wrap (byteAt key t7)))), (6, .int .i64 ((key.size : Nat) : Int)), (7, .int .i64 t7)] ?_
     change WpE _ _ c116_27 _ _ _
     refine Zr r116_27 ?_
     refine Zf P3 [(0, .string key), (3, .int .u32 (IntKind.u32.wrap ((bxor .u32 h_ (IntKind.u32.wrap (byteAt key t7))) * 16777619))), (6, .int .i64 ((key.size : Nat) : Int)), (7, .int .i64 t7)] ?_
     change WpE _ _ c116_29 _ _ _
     refine Zr r116_29 ?_
     refine Zf P2 [(0, .string key), (3, .int .u32 (IntKind.u32.wrap ((bxor .u32 h_ (IntKind.u32.wrap (byteAt key t7))) * 16777619))), (6, .int .i64 ((key.size : Nat) : Int)), (7, .int .i64 (IntKind.i64.wrap (t7 + 1)))] ?_
     have hb_ := again__h _ _ _ h
     exact ⟨_, hb_.2, [(0, Value.string key), (3, Value.int .u32 (IntKind.u32.wrap ((bxor .u32 h_ (IntKind.u32.wrap (byteAt key t7))) * 16777619))), (6, Value.int .i64 ((key.size : Nat) : Int)), (7, Value.int .i64 (IntKind.i64.wrap (t7 + 1)))], Sub.mk (by kernel_rfl), (IntKind.u32.wrap ((bxor .u32 h_ (IntKind.u32.wrap (byteAt key t7))) * 16777619)), (IntKind.i64.wrap (t7 + 1)), rfl, hb_.1, rfl⟩
   · replace h := h.2 hb
     refine wpE_exit (id := 0) (by kernel_rfl) ?_
     change WpE _ _ c116_31 _ _ _
     refine Zp c116_34 P2 [(2, .int .u32 h_)] ?_
     refine wpE_ret (by kernel_rfl) ?_
     repeat (first | refine seqQ_ret ?_ | refine blockQ_ret ?_ | refine loopQ_ret ?_ | refine cutQ_ret ?_)
     exact retS (rs := [(ResultVar.tmp 2)]) (v := Value.int .u32 h_) (by kernel_rfl) (⟨by kernel_rfl, trivial⟩) ⟨h_, rfl, h⟩
 · rintro e w' ⟨v, rfl, r0, rfl, h⟩; exact ⟨r0, rfl, h⟩
end
end Go.Proofs.Ytpedclhflmhakaa
