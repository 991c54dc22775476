/- WRITTEN BY PROGRAM (dec.py): for each Go function the clean formula F, the call's contract C, and the proof S that F gives C. -/
import Derived.Test.YtpedclhflmhakaaRows
import Derived.Test.YtpedclhflmhakaaGF
namespace Go.Proofs.Ytpedclhflmhakaa
open Go
set_option linter.unusedVariables false
set_option maxRecDepth 100000
set_option maxHeartbeats 4000000
noncomputable section

/-! ### towpath/towpathlaw01.TwinEntries (function 100) -/
def c100_0 := cb_ Try.f100
def c100_3 := cr_ c100_0
def c100_4 := cl_ c100_3
def r100_4 := co_ c100_4
def c100_6 := cr_ c100_3
def c100_7 := cl_ c100_6
def c100_10 := cr_ c100_7
def c100_11 := cl_ c100_10
def c100_12 := cl_ c100_11
def c100_13 := cl_ c100_12
def c100_16 := cr_ c100_13
def c100_17 := cl_ c100_16
def c100_18 := cr_ c100_16
def c100_19 := cr_ c100_12
def c100_20 := cl_ c100_19
def c100_21 := cl_ c100_20
def r100_21 := co_ c100_21
def c100_23 := cr_ c100_19
def r100_23 := co_ c100_23
def c100_25 := cr_ c100_6
def c100_26 := cl_ c100_25
def r100_26 := co_ c100_26
def c100_28 := cr_ c100_25

theorem S_towpathlaw01_TwinEntries {l_ : Slc} {w : World} {R : Slc → World → Prop} (h : F_towpathlaw01_TwinEntries l_ R w) : C_towpathlaw01_TwinEntries l_ w R := by
 unfold F_towpathlaw01_TwinEntries at h
 unfold C_towpathlaw01_TwinEntries
 refine Calls.mono (calls_of_wpE (args := [sv_ l_]) (R := fun v w' => ∃ (r0 : Slc), v = sv_ r0 ∧ R r0 w') Try.func100 (c := c100_0) (by kernel_rfl) 29 (by kernel_rfl) (by kernel_rfl) [(0, sv_ l_)] (by kernel_rfl) ?_) ?_
 · refine Zp c100_3 P1 [(0, sv_ l_)] ?_
   refine Zt r100_4 c100_6 ?_
   refine Zn P3 3 [(0, [], sv_ l_), (7, [], .int .i64 (IntKind.i64.wrap (((l_.len : Nat) : Int) + 1)))] ?_
   obtain ⟨h0, h1, h2, h⟩ := h
   refine reg_makeSlice (t := 92) (e := 140) (lo := (Operand.const (Value.int Go.IntKind.i64 0))) (co := (Operand.tmp 7)) (l := 0) (c := (IntKind.i64.wrap (((l_.len : Nat) : Int) + 1))) (sz := 2) (by_ := 32) (zs := [Value.string ByteArray.empty, Value.string ByteArray.empty]) (ty := 92) (dst := some 8) (by kernel_rfl) (by kernel_rfl) (by kernel_rfl) (by kernel_rfl) (by kernel_rfl) (by kernel_rfl) (by kernel_rfl) (by kernel_rfl) (by kernel_rfl) h0 h1 h2 (fun b_ w1 hb hw => ?_)
   replace h := h b_ w1 hb hw
   clear hb hw
   refine Zf P1 [(0, sv_ l_), (3, .slice (some ⟨b_, 0, none⟩) 0 ((IntKind.i64.wrap (((l_.len : Nat) : Int) + 1)).toNat))] ?_
   change WpE _ _ c100_6 _ _ _
   refine Zs c100_7 c100_25 ?_
   refine Zp c100_10 P1 [(0, sv_ l_), (3, .slice (some ⟨b_, 0, none⟩) 0 ((IntKind.i64.wrap (((l_.len : Nat) : Int) + 1)).toNat)), (4, .int .i64 0)] ?_
   refine Zb 0 c100_11 ?_
   obtain ⟨I, μ, h0, hr⟩ := h
   refine wpE_loop (x := c100_12) (by kernel_rfl) (fun m l w => ∃ (t_ : Slc) (i : Int), l = [(0, sv_ l_), (3, sv_ t_), (4, Value.int .i64 i)] ∧ I t_ i w ∧ μ t_ i w = m) (l' := [(0, sv_ l_), (3, Value.slice (some ⟨b_, 0, none⟩) 0 ((IntKind.i64.wrap (((l_.len : Nat) : Int) + 1)).toNat)), (4, Value.int .i64 0)]) (Sub.mk (by kernel_rfl)) ⟨(Slc.mk (some ⟨b_, 0, none⟩) 0 ((IntKind.i64.wrap (((l_.len : Nat) : Int) + 1)).toNat)), 0, rfl, h0, rfl⟩ ?_
   rintro _ _ w2 ⟨t_, i, rfl, hI, rfl⟩
   obtain ⟨again_, again__h, h⟩ : ∃ again_ : Slc → Int → World → Prop, (∀ t_' i' w', again_ t_' i' w' → I t_' i' w' ∧ μ t_' i' w' < μ t_ i w2) ∧ F_towpathlaw01_TwinEntries_L0 l_ R again_ t_ i w2 := ⟨_, fun _ _ _ h => h, hr t_ i w2 hI⟩
   clear h0 hI
   unfold F_towpathlaw01_TwinEntries_L0 at h
   refine Zs c100_13 c100_19 ?_
   refine Zp c100_16 P4 [(0, sv_ l_), (3, sv_ t_), (4, .int .i64 i), (12, .bool (decide (i < ((l_.len : Nat) : Int))))] ?_
   refine Zc 12 (decide (i < ((l_.len : Nat) : Int))) c100_17 c100_18 (fun hb => ?_) (fun hb => ?_)
   · replace h := h.1 hb
     refine wpE_skip (by kernel_rfl) ?_
     change WpE _ _ c100_19 _ _ _
     refine Zs c100_20 c100_23 ?_
     refine Zb 1 c100_21 ?_
     refine Zr r100_21 ?_
     refine Zn P3 3 [(0, [], sv_ l_), (3, [], sv_ t_), (4, [], .int .i64 i), (15, [], sv_ t_), (16, [], sv_ l_), (17, [], .int .i64 i)] ?_
     obtain ⟨hp_3, h⟩ := h
     refine Zv (fun pp => [(0, [], sv_ l_), (3, [], sv_ t_), (4, [], .int .i64 i), (15, [], sv_ t_), (16, [], .slice pp l_.len l_.cap), (17, [], .int .i64 i)]) hp_3 ?_
     obtain ⟨h0, h1, h⟩ := h
     refine Zj 92 140 16 17 (pblk l_.ptr) (poff l_.ptr) l_.len l_.cap i 2 18 0 h0 h1 ?_
     refine Zn [] 4 [(0, [], sv_ l_), (3, [], sv_ t_), (4, [], .int .i64 i), (15, [], sv_ t_), (18, [], .pointer (some ⟨(pblk l_.ptr), (poff l_.ptr) + i.toNat * 2, none⟩))] ?_
     obtain ⟨v19, hc, h⟩ := h
     refine reg_loadN (t := 140) (a := (Operand.tmp 18)) (b := (pblk l_.ptr)) (o := ((poff l_.ptr) + i.toNat * 2)) (ty := 140) (dst := some 19) [Value.string v19.Key, Value.string v19.Val] (by kernel_rfl) (by kernel_rfl) (by kernel_rfl) (k := 2) (by kernel_rfl) (by kernel_rfl) hc ?_
     refine Zn [] 5 [(0, [], sv_ l_), (3, [], sv_ t_), (4, [], .int .i64 i), (15, [], sv_ t_), (19, [], .agg #[.string v19.Key, .string v19.Val])] ?_
     refine Zw (some 20) (fun bb => .slice (some ⟨bb, 0, none⟩) 1 1) (Obj.cells ([.string v19.Key, .string v19.Val]).toArray ty_api_Entry (0, 0)) (fun b_1 w3 hb hw => ?_)
     replace h := h b_1 w3 hb hw
     clear hb hw
     refine Zn [] 6 [(0, [], sv_ l_), (3, [], sv_ t_), (4, [], .int .i64 i), (15, [], sv_ t_), (20, [], .slice (some ⟨b_1, 0, none⟩) 1 1)] ?_
     obtain ⟨src, hs, h⟩ := h
     refine reg_append (t := 92) (tx := 92) (e := 140) (a := (Operand.tmp 15)) (xo := (Operand.tmp 20)) (s := t_) (x := (Slc.mk (some ⟨b_1, 0, none⟩) 1 1)) (sz := 2) (by_ := 32) (zs := [Value.string ByteArray.empty, Value.string ByteArray.empty]) (ty := 92) (dst := some 21)  src (by kernel_rfl) (by kernel_rfl) (by kernel_rfl) (by kernel_rfl) (by kernel_rfl) (by kernel_rfl) (by kernel_rfl) (by kernel_rfl) (by kernel_rfl) hs (AppendW.mono h (fun t_1 w4 h => ?_))
     refine Zf P1 [(0, sv_ l_), (3, sv_ t_1), (4, .int .i64 i)] ?_
     change WpE _ _ c100_23 _ _ _
     refine Zr r100_23 ?_
     refine Zf P3 [(0, sv_ l_), (3, sv_ t_1), (4, .int .i64 (IntKind.i64.wrap (i + 1)))] ?_
     have hb_ := again__h _ _ _ h
     exact ⟨_, hb_.2, [(0, sv_ l_), (3, sv_ t_1), (4, Value.int .i64 (IntKind.i64.wrap (i + 1)))], Sub.mk (by kernel_rfl), t_1, (IntKind.i64.wrap (i + 1)), rfl, hb_.1, rfl⟩
   · replace h := h.2 hb
     refine wpE_exit (id := 0) (by kernel_rfl) ?_
     change WpE _ _ c100_25 _ _ _
     refine Zt r100_26 c100_28 ?_
     refine Zn P2 2 [(0, [], sv_ l_), (22, [], sv_ t_), (23, [], .agg #[.string (ByteArray.mk #[115, 112, 97, 114, 101]), .string ByteArray.empty])] ?_
     refine Zw (some 24) (fun bb => .slice (some ⟨bb, 0, none⟩) 1 1) (Obj.cells ([.string (ByteArray.mk #[115, 112, 97, 114, 101]), .string ByteArray.empty]).toArray ty_api_Entry (0, 0)) (fun b_2 w5 hb hw => ?_)
     replace h := h b_2 w5 hb hw
     clear hb hw
     refine Zn [] 3 [(0, [], sv_ l_), (22, [], sv_ t_), (24, [], .slice (some ⟨b_2, 0, none⟩) 1 1)] ?_
     obtain ⟨src, hs, h⟩ := h
     refine reg_append (t := 92) (tx := 92) (e := 140) (a := (Operand.tmp 22)) (xo := (Operand.tmp 24)) (s := t_) (x := (Slc.mk (some ⟨b_2, 0, none⟩) 1 1)) (sz := 2) (by_ := 32) (zs := [Value.string ByteArray.empty, Value.string ByteArray.empty]) (ty := 92) (dst := some 25)  src (by kernel_rfl) (by kernel_rfl) (by kernel_rfl) (by kernel_rfl) (by kernel_rfl) (by kernel_rfl) (by kernel_rfl) (by kernel_rfl) (by kernel_rfl) hs (AppendW.mono h (fun v25 w6 h => ?_))
     refine Zn P2 6 [(25, [], sv_ v25), (27, [], .int .i64 ((l_.len : Nat) : Int))] ?_
     obtain ⟨h0, h1, h⟩ := h
     refine reg_sliceHi (t := 92) (e := 140) (x := (Operand.tmp 25)) (hi := (Operand.tmp 27)) (p := v25.ptr) (l := v25.len) (c := v25.cap) (sz := 2) (k := .i64) (j := ((l_.len : Nat) : Int)) (ty := 92) (dst := some 28) (by kernel_rfl) (by kernel_rfl) (by kernel_rfl) (by kernel_rfl) (by kernel_rfl) h0 h1 ?_
     refine Zf P1 [(2, .slice v25.ptr (((l_.len : Nat) : Int).toNat) v25.cap)] ?_
     change WpE _ _ c100_28 _ _ _
     refine wpE_ret (by kernel_rfl) ?_
     repeat (first | refine seqQ_ret ?_ | refine blockQ_ret ?_ | refine loopQ_ret ?_ | refine cutQ_ret ?_)
     exact retS (rs := [(ResultVar.tmp 2)]) (v := Value.slice v25.ptr (((l_.len : Nat) : Int).toNat) v25.cap) (by kernel_rfl) (⟨by kernel_rfl, trivial⟩) ⟨(Slc.mk v25.ptr (((l_.len : Nat) : Int).toNat) v25.cap), rfl, h⟩
 · rintro e w' ⟨v, rfl, r0, rfl, h⟩; exact ⟨r0, rfl, h⟩

/-! ### towpath/towpathlaw01.TwinHelds (function 101) -/
def c101_0 := cb_ Try.f101
def c101_3 := cr_ c101_0
def c101_4 := cl_ c101_3
def r101_4 := co_ c101_4
def c101_6 := cr_ c101_3
def c101_7 := cl_ c101_6
def c101_10 := cr_ c101_7
def c101_11 := cl_ c101_10
def c101_12 := cl_ c101_11
def c101_13 := cl_ c101_12
def c101_16 := cr_ c101_13
def c101_17 := cl_ c101_16
def c101_18 := cr_ c101_16
def c101_19 := cr_ c101_12
def c101_20 := cl_ c101_19
def c101_21 := cl_ c101_20
def r101_21 := co_ c101_21
def c101_23 := cr_ c101_19
def r101_23 := co_ c101_23
def c101_25 := cr_ c101_6
def c101_26 := cl_ c101_25
def r101_26 := co_ c101_26
def c101_28 := cr_ c101_25

theorem S_towpathlaw01_TwinHelds {l_ : Slc} {w : World} {R : Slc → World → Prop} (h : F_towpathlaw01_TwinHelds l_ R w) : C_towpathlaw01_TwinHelds l_ w R := by
 unfold F_towpathlaw01_TwinHelds at h
 unfold C_towpathlaw01_TwinHelds
 refine Calls.mono (calls_of_wpE (args := [sv_ l_]) (R := fun v w' => ∃ (r0 : Slc), v = sv_ r0 ∧ R r0 w') Try.func101 (c := c101_0) (by kernel_rfl) 30 (by kernel_rfl) (by kernel_rfl) [(0, sv_ l_)] (by kernel_rfl) ?_) ?_
 · refine Zp c101_3 P1 [(0, sv_ l_)] ?_
   refine Zt r101_4 c101_6 ?_
   refine Zn P3 3 [(0, [], sv_ l_), (7, [], .int .i64 (IntKind.i64.wrap (((l_.len : Nat) : Int) + 1)))] ?_
   obtain ⟨h0, h1, h2, h⟩ := h
   refine reg_makeSlice (t := 93) (e := 143) (lo := (Operand.const (Value.int Go.IntKind.i64 0))) (co := (Operand.tmp 7)) (l := 0) (c := (IntKind.i64.wrap (((l_.len : Nat) : Int) + 1))) (sz := 2) (by_ := 40) (zs := [Value.string ByteArray.empty, Value.slice none 0 0]) (ty := 93) (dst := some 8) (by kernel_rfl) (by kernel_rfl) (by kernel_rfl) (by kernel_rfl) (by kernel_rfl) (by kernel_rfl) (by kernel_rfl) (by kernel_rfl) (by kernel_rfl) h0 h1 h2 (fun b_ w1 hb hw => ?_)
   replace h := h b_ w1 hb hw
   clear hb hw
   refine Zf P1 [(0, sv_ l_), (3, .slice (some ⟨b_, 0, none⟩) 0 ((IntKind.i64.wrap (((l_.len : Nat) : Int) + 1)).toNat))] ?_
   change WpE _ _ c101_6 _ _ _
   refine Zs c101_7 c101_25 ?_
   refine Zp c101_10 P1 [(0, sv_ l_), (3, .slice (some ⟨b_, 0, none⟩) 0 ((IntKind.i64.wrap (((l_.len : Nat) : Int) + 1)).toNat)), (4, .int .i64 0)] ?_
   refine Zb 0 c101_11 ?_
   obtain ⟨I, μ, h0, hr⟩ := h
   refine wpE_loop (x := c101_12) (by kernel_rfl) (fun m l w => ∃ (t_ : Slc) (i : Int), l = [(0, sv_ l_), (3, sv_ t_), (4, Value.int .i64 i)] ∧ I t_ i w ∧ μ t_ i w = m) (l' := [(0, sv_ l_), (3, Value.slice (some ⟨b_, 0, none⟩) 0 ((IntKind.i64.wrap (((l_.len : Nat) : Int) + 1)).toNat)), (4, Value.int .i64 0)]) (Sub.mk (by kernel_rfl)) ⟨(Slc.mk (some ⟨b_, 0, none⟩) 0 ((IntKind.i64.wrap (((l_.len : Nat) : Int) + 1)).toNat)), 0, rfl, h0, rfl⟩ ?_
   rintro _ _ w2 ⟨t_, i, rfl, hI, rfl⟩
   obtain ⟨again_, again__h, h⟩ : ∃ again_ : Slc → Int → World → Prop, (∀ t_' i' w', again_ t_' i' w' → I t_' i' w' ∧ μ t_' i' w' < μ t_ i w2) ∧ F_towpathlaw01_TwinHelds_L0 l_ R again_ t_ i w2 := ⟨_, fun _ _ _ h => h, hr t_ i w2 hI⟩
   clear h0 hI
   unfold F_towpathlaw01_TwinHelds_L0 at h
   refine Zs c101_13 c101_19 ?_
   refine Zp c101_16 P4 [(0, sv_ l_), (3, sv_ t_), (4, .int .i64 i), (12, .bool (decide (i < ((l_.len : Nat) : Int))))] ?_
   refine Zc 12 (decide (i < ((l_.len : Nat) : Int))) c101_17 c101_18 (fun hb => ?_) (fun hb => ?_)
   · replace h := h.1 hb
     refine wpE_skip (by kernel_rfl) ?_
     change WpE _ _ c101_19 _ _ _
     refine Zs c101_20 c101_23 ?_
     refine Zb 1 c101_21 ?_
     refine Zr r101_21 ?_
     refine Zn P3 3 [(0, [], sv_ l_), (3, [], sv_ t_), (4, [], .int .i64 i), (15, [], sv_ t_), (16, [], sv_ l_), (17, [], .int .i64 i)] ?_
     obtain ⟨hp_3, h⟩ := h
     refine Zv (fun pp => [(0, [], sv_ l_), (3, [], sv_ t_), (4, [], .int .i64 i), (15, [], sv_ t_), (16, [], .slice pp l_.len l_.cap), (17, [], .int .i64 i)]) hp_3 ?_
     obtain ⟨h0, h1, h⟩ := h
     refine Zj 93 143 16 17 (pblk l_.ptr) (poff l_.ptr) l_.len l_.cap i 2 18 0 h0 h1 ?_
     refine Zn [] 4 [(0, [], sv_ l_), (3, [], sv_ t_), (4, [], .int .i64 i), (15, [], sv_ t_), (18, [], .pointer (some ⟨(pblk l_.ptr), (poff l_.ptr) + i.toNat * 2, none⟩))] ?_
     obtain ⟨v19, hc, h⟩ := h
     refine reg_loadN (t := 143) (a := (Operand.tmp 18)) (b := (pblk l_.ptr)) (o := ((poff l_.ptr) + i.toNat * 2)) (ty := 143) (dst := some 19) [Value.string v19.Key, sv_ v19.Versions] (by kernel_rfl) (by kernel_rfl) (by kernel_rfl) (k := 2) (by kernel_rfl) (by kernel_rfl) hc ?_
     refine Zn [] 5 [(0, [], sv_ l_), (3, [], sv_ t_), (4, [], .int .i64 i), (15, [], sv_ t_), (19, [], .agg #[.string v19.Key, sv_ v19.Versions])] ?_
     refine Zm 119 #[.agg #[.string v19.Key, sv_ v19.Versions]] (some 20) (Calls.mono h ?_)
     rintro _ w3 ⟨v20, rfl, h⟩
     refine ⟨_, rfl, ?_⟩
     refine Zn [] 6 [(0, [], sv_ l_), (3, [], sv_ t_), (4, [], .int .i64 i), (15, [], sv_ t_), (20, [], .agg #[.string v20.Key, sv_ v20.Versions])] ?_
     refine Zw (some 21) (fun bb => .slice (some ⟨bb, 0, none⟩) 1 1) (Obj.cells ([.string v20.Key, sv_ v20.Versions]).toArray ty_api_Held (0, 0)) (fun b_1 w4 hb hw => ?_)
     replace h := h b_1 w4 hb hw
     clear hb hw
     refine Zn [] 7 [(0, [], sv_ l_), (3, [], sv_ t_), (4, [], .int .i64 i), (15, [], sv_ t_), (21, [], .slice (some ⟨b_1, 0, none⟩) 1 1)] ?_
     obtain ⟨src, hs, h⟩ := h
     refine reg_append (t := 93) (tx := 93) (e := 143) (a := (Operand.tmp 15)) (xo := (Operand.tmp 21)) (s := t_) (x := (Slc.mk (some ⟨b_1, 0, none⟩) 1 1)) (sz := 2) (by_ := 40) (zs := [Value.string ByteArray.empty, Value.slice none 0 0]) (ty := 93) (dst := some 22)  src (by kernel_rfl) (by kernel_rfl) (by kernel_rfl) (by kernel_rfl) (by kernel_rfl) (by kernel_rfl) (by kernel_rfl) (by kernel_rfl) (by kernel_rfl) hs (AppendW.mono h (fun t_1 w5 h => ?_))
     refine Zf P1 [(0, sv_ l_), (3, sv_ t_1), (4, .int .i64 i)] ?_
     change WpE _ _ c101_23 _ _ _
     refine Zr r101_23 ?_
     refine Zf P3 [(0, sv_ l_), (3, sv_ t_1), (4, .int .i64 (IntKind.i64.wrap (i + 1)))] ?_
     have hb_ := again__h _ _ _ h
     exact ⟨_, hb_.2, [(0, sv_ l_), (3, sv_ t_1), (4, Value.int .i64 (IntKind.i64.wrap (i + 1)))], Sub.mk (by kernel_rfl), t_1, (IntKind.i64.wrap (i + 1)), rfl, hb_.1, rfl⟩
   · replace h := h.2 hb
     refine wpE_exit (id := 0) (by kernel_rfl) ?_
     change WpE _ _ c101_25 _ _ _
     refine Zt r101_26 c101_28 ?_
     refine Zn P2 2 [(0, [], sv_ l_), (23, [], sv_ t_), (24, [], .agg #[.string (ByteArray.mk #[115, 112, 97, 114, 101]), .slice none 0 0])] ?_
     refine Zw (some 25) (fun bb => .slice (some ⟨bb, 0, none⟩) 1 1) (Obj.cells ([.string (ByteArray.mk #[115, 112, 97, 114, 101]), .slice none 0 0]).toArray ty_api_Held (0, 0)) (fun b_2 w6 hb hw => ?_)
     replace h := h b_2 w6 hb hw
     clear hb hw
     refine Zn [] 3 [(0, [], sv_ l_), (23, [], sv_ t_), (25, [], .slice (some ⟨b_2, 0, none⟩) 1 1)] ?_
     obtain ⟨src, hs, h⟩ := h
     refine reg_append (t := 93) (tx := 93) (e := 143) (a := (Operand.tmp 23)) (xo := (Operand.tmp 25)) (s := t_) (x := (Slc.mk (some ⟨b_2, 0, none⟩) 1 1)) (sz := 2) (by_ := 40) (zs := [Value.string ByteArray.empty, Value.slice none 0 0]) (ty := 93) (dst := some 26)  src (by kernel_rfl) (by kernel_rfl) (by kernel_rfl) (by kernel_rfl) (by kernel_rfl) (by kernel_rfl) (by kernel_rfl) (by kernel_rfl) (by kernel_rfl) hs (AppendW.mono h (fun v26 w7 h => ?_))
     refine Zn P2 6 [(26, [], sv_ v26), (28, [], .int .i64 ((l_.len : Nat) : Int))] ?_
     obtain ⟨h0, h1, h⟩ := h
     refine reg_sliceHi (t := 93) (e := 143) (x := (Operand.tmp 26)) (hi := (Operand.tmp 28)) (p := v26.ptr) (l := v26.len) (c := v26.cap) (sz := 2) (k := .i64) (j := ((l_.len : Nat) : Int)) (ty := 93) (dst := some 29) (by kernel_rfl) (by kernel_rfl) (by kernel_rfl) (by kernel_rfl) (by kernel_rfl) h0 h1 ?_
     refine Zf P1 [(2, .slice v26.ptr (((l_.len : Nat) : Int).toNat) v26.cap)] ?_
     change WpE _ _ c101_28 _ _ _
     refine wpE_ret (by kernel_rfl) ?_
     repeat (first | refine seqQ_ret ?_ | refine blockQ_ret ?_ | refine loopQ_ret ?_ | refine cutQ_ret ?_)
     exact retS (rs := [(ResultVar.tmp 2)]) (v := Value.slice v26.ptr (((l_.len : Nat) : Int).toNat) v26.cap) (by kernel_rfl) (⟨by kernel_rfl, trivial⟩) ⟨(Slc.mk v26.ptr (((l_.len : Nat) : Int).toNat) v26.cap), rfl, h⟩
 · rintro e w' ⟨v, rfl, r0, rfl, h⟩; exact ⟨r0, rfl, h⟩

/-! ### towpath/towpathlaw01.LeftEntries (function 102) -/
def c102_0 := cb_ Try.f102
def c102_3 := cr_ c102_0
def c102_4 := cl_ c102_3
def c102_7 := cr_ c102_4
def c102_8 := cl_ c102_7
def c102_11 := cr_ c102_8
def c102_12 := cr_ c102_7
def c102_13 := cr_ c102_3
def c102_14 := cl_ c102_13
def c102_17 := cr_ c102_14
def c102_18 := cl_ c102_17
def c102_19 := cl_ c102_18
def c102_20 := cl_ c102_19
def c102_23 := cr_ c102_20
def c102_24 := cl_ c102_23
def c102_25 := cr_ c102_23
def c102_26 := cr_ c102_19
def c102_27 := cl_ c102_26
def c102_28 := cl_ c102_27
def c102_29 := cl_ c102_28
def r102_29 := co_ c102_29
def c102_31 := cr_ c102_28
def c102_32 := cl_ c102_31
def c102_35 := cr_ c102_32
def c102_36 := cr_ c102_31
def c102_37 := cr_ c102_26
def r102_37 := co_ c102_37
def c102_39 := cr_ c102_13
def c102_40 := cl_ c102_39
def r102_40 := co_ c102_40
def c102_42 := cr_ c102_39
def c102_43 := cl_ c102_42
def r102_43 := co_ c102_43
def c102_45 := cr_ c102_42

theorem S_towpathlaw01_LeftEntries {t_ : Slc} {l_ : Slc} {w : World} {R : Bool → World → Prop} (h : F_towpathlaw01_LeftEntries t_ l_ R w) : C_towpathlaw01_LeftEntries t_ l_ w R := by
 unfold F_towpathlaw01_LeftEntries at h
 unfold C_towpathlaw01_LeftEntries
 refine Calls.mono (calls_of_wpE (args := [sv_ t_, sv_ l_]) (R := fun v w' => ∃ (r0 : Bool), v = Value.bool r0 ∧ R r0 w') Try.func102 (c := c102_0) (by kernel_rfl) 46 (by kernel_rfl) (by kernel_rfl) [(0, sv_ t_), (1, sv_ l_)] (by kernel_rfl) ?_) ?_
 · refine Zp c102_3 P1 [(0, sv_ t_), (1, sv_ l_)] ?_
   refine Zs c102_4 c102_13 ?_
   refine Zp c102_7 [.plain, .plain, .plain, .plain, .plain, .plain, .plain, .plain, .plain, .plain, .plain, .pick] [(0, sv_ t_), (1, sv_ l_), (18, .bool ((((t_.len : Nat) : Int) != ((l_.len : Nat) : Int)) || (decide (((t_.cap : Nat) : Int) ≤ ((l_.len : Nat) : Int)))))] ?_
   refine Zc 18 ((((t_.len : Nat) : Int) != ((l_.len : Nat) : Int)) || (decide (((t_.cap : Nat) : Int) ≤ ((l_.len : Nat) : Int)))) c102_8 c102_12 (fun hb => ?_) (fun hb => ?_)
   · replace h := h.1 hb
     refine Zp c102_11 P1 [(4, .bool false)] ?_
     refine wpE_ret (by kernel_rfl) ?_
     repeat (first | refine seqQ_ret ?_ | refine blockQ_ret ?_ | refine loopQ_ret ?_ | refine cutQ_ret ?_)
     exact retS (rs := [(ResultVar.tmp 4)]) (v := Value.bool false) (by kernel_rfl) (⟨by kernel_rfl, trivial⟩) ⟨false, rfl, h⟩
   · replace h := h.2 hb
     refine wpE_skip (by kernel_rfl) ?_
     change WpE _ _ c102_13 _ _ _
     refine Zs c102_14 c102_39 ?_
     refine Zp c102_17 P1 [(0, sv_ t_), (1, sv_ l_), (5, .int .i64 0)] ?_
     refine Zb 0 c102_18 ?_
     obtain ⟨I, μ, h0, hr⟩ := h
     refine wpE_loop (x := c102_19) (by kernel_rfl) (fun m l w => ∃ (i : Int), l = [(0, sv_ t_), (1, sv_ l_), (5, Value.int .i64 i)] ∧ I i w ∧ μ i w = m) (l' := [(0, sv_ t_), (1, sv_ l_), (5, Value.int .i64 0)]) (Sub.mk (by kernel_rfl)) ⟨0, rfl, h0, rfl⟩ ?_
     rintro _ _ w1 ⟨i, rfl, hI, rfl⟩
     obtain ⟨again_, again__h, h⟩ : ∃ again_ : Int → World → Prop, (∀ i' w', again_ i' w' → I i' w' ∧ μ i' w' < μ i w1) ∧ F_towpathlaw01_LeftEntries_L0 t_ l_ R again_ i w1 := ⟨_, fun _ _ h => h, hr i w1 hI⟩
     clear h0 hI
     unfold F_towpathlaw01_LeftEntries_L0 at h
     refine Zs c102_20 c102_26 ?_
     refine Zp c102_23 P4 [(0, sv_ t_), (1, sv_ l_), (5, .int .i64 i), (22, .bool (decide (i < ((l_.len : Nat) : Int))))] ?_
     refine Zc 22 (decide (i < ((l_.len : Nat) : Int))) c102_24 c102_25 (fun hb => ?_) (fun hb => ?_)
     · replace h := h.1 hb
       refine wpE_skip (by kernel_rfl) ?_
       change WpE _ _ c102_26 _ _ _
       refine Zs c102_27 c102_37 ?_
       refine Zb 1 c102_28 ?_
       refine Zs c102_29 c102_31 ?_
       refine wpE_drawregion (id := 6) (ops := r102_29) (by kernel_rfl) (by kernel_rfl) (by kernel_rfl) ?_
       refine qreg_run P2 2 [(0, [], sv_ t_), (1, [], sv_ l_), (5, [], Value.int .i64 i), (25, [], sv_ t_), (26, [], Value.int .i64 i)] (by kernel_rfl) (by kernel_rfl) ?_
       obtain ⟨hp_14, h⟩ := h
       refine qreg_conv [(0, [], sv_ t_), (1, [], sv_ l_), (5, [], Value.int .i64 i), (25, [], Value.slice (some ⟨(pblk t_.ptr), (poff t_.ptr), none⟩) t_.len t_.cap), (26, [], Value.int .i64 i)] (congrArg (fun pp => ([(0, [], sv_ t_), (1, [], sv_ l_), (5, [], Value.int .i64 i), (25, [], Value.slice pp t_.len t_.cap), (26, [], Value.int .i64 i)] : GEnv)) hp_14) ?_
       obtain ⟨h0, h1, h⟩ := h
       refine qreg_indexS (t := 92) (e := 140) (x := (Operand.tmp 25)) (ix := (Operand.tmp 26)) (b := (pblk t_.ptr)) (o := (poff t_.ptr)) (l := t_.len) (c := t_.cap) (k := .i64) (j := i) (ty := 0) (dst := some 27) (sz := 2) (by kernel_rfl) (by kernel_rfl) (by kernel_rfl) (by kernel_rfl) (by kernel_rfl) h0 h1 ?_
       refine qreg_run [] 3 [(0, [], sv_ t_), (1, [], sv_ l_), (5, [], Value.int .i64 i), (27, [], Value.pointer (some ⟨(pblk t_.ptr), (poff t_.ptr) + i.toNat * 2, none⟩))] (by kernel_rfl) (by kernel_rfl) ?_
       obtain ⟨v28, hc, h⟩ := h
       refine qreg_loadN (t := 140) (a := (Operand.tmp 27)) (b := (pblk t_.ptr)) (o := ((poff t_.ptr) + i.toNat * 2)) (ty := 140) (dst := some 28) [Value.string v28.Key, Value.string v28.Val] (by kernel_rfl) (by kernel_rfl) (by kernel_rfl) (k := 2) (by kernel_rfl) (by kernel_rfl) hc ?_
       refine qreg_run P2 6 [(0, [], sv_ t_), (1, [], sv_ l_), (5, [], Value.int .i64 i), (28, [], Value.agg #[Value.string v28.Key, Value.string v28.Val]), (29, [], sv_ l_), (30, [], Value.int .i64 i)] (by kernel_rfl) (by kernel_rfl) ?_
       obtain ⟨hp_15, h⟩ := h
       refine qreg_conv [(0, [], sv_ t_), (1, [], sv_ l_), (5, [], Value.int .i64 i), (28, [], Value.agg #[Value.string v28.Key, Value.string v28.Val]), (29, [], Value.slice (some ⟨(pblk l_.ptr), (poff l_.ptr), none⟩) l_.len l_.cap), (30, [], Value.int .i64 i)] (congrArg (fun pp => ([(0, [], sv_ t_), (1, [], sv_ l_), (5, [], Value.int .i64 i), (28, [], Value.agg #[Value.string v28.Key, Value.string v28.Val]), (29, [], Value.slice pp l_.len l_.cap), (30, [], Value.int .i64 i)] : GEnv)) hp_15) ?_
       obtain ⟨h0, h1, h⟩ := h
       refine qreg_indexS (t := 92) (e := 140) (x := (Operand.tmp 29)) (ix := (Operand.tmp 30)) (b := (pblk l_.ptr)) (o := (poff l_.ptr)) (l := l_.len) (c := l_.cap) (k := .i64) (j := i) (ty := 0) (dst := some 31) (sz := 2) (by kernel_rfl) (by kernel_rfl) (by kernel_rfl) (by kernel_rfl) (by kernel_rfl) h0 h1 ?_
       refine qreg_run [] 7 [(0, [], sv_ t_), (1, [], sv_ l_), (5, [], Value.int .i64 i), (28, [], Value.agg #[Value.string v28.Key, Value.string v28.Val]), (31, [], Value.pointer (some ⟨(pblk l_.ptr), (poff l_.ptr) + i.toNat * 2, none⟩))] (by kernel_rfl) (by kernel_rfl) ?_
       obtain ⟨v32, hc, h⟩ := h
       refine qreg_loadN (t := 140) (a := (Operand.tmp 31)) (b := (pblk l_.ptr)) (o := ((poff l_.ptr) + i.toNat * 2)) (ty := 140) (dst := some 32) [Value.string v32.Key, Value.string v32.Val] (by kernel_rfl) (by kernel_rfl) (by kernel_rfl) (k := 2) (by kernel_rfl) (by kernel_rfl) hc ?_
       refine qreg_run [] 8 [(0, [], sv_ t_), (1, [], sv_ l_), (5, [], Value.int .i64 i), (28, [], Value.agg #[Value.string v28.Key, Value.string v28.Val]), (32, [], Value.agg #[Value.string v32.Key, Value.string v32.Val])] (by kernel_rfl) (by kernel_rfl) ?_
       refine qreg_val (op := (Op.binOp BinOp.neq 140 (Operand.tmp 28) (Operand.tmp 32) 140)) (ty := 4) (dst := some 33) (Value.bool (!((v28.Key == v32.Key) && (v28.Val == v32.Val)))) (by kernel_rfl) (fun ww => run_struct_neq (xs := [Value.string v28.Key, Value.string v28.Val]) (ys := [Value.string v32.Key, Value.string v32.Val]) (by kernel_rfl) (by kernel_rfl) (by kernel_rfl) (by kernel_rfl) (by kernel_rfl) ww) ?_
       refine qreg_end [(0, sv_ t_), (1, sv_ l_), (5, Value.int .i64 i), (33, Value.bool (!((v28.Key == v32.Key) && (v28.Val == v32.Val))))] (by kernel_rfl) (by kernel_rfl) (fun w2 hw => ?_)
       replace h := h w2 hw
       clear hw
       change WpE _ _ c102_31 _ _ _
       refine Zc 33 (!((v28.Key == v32.Key) && (v28.Val == v32.Val))) c102_32 c102_36 (fun hb => ?_) (fun hb => ?_)
       · replace h := h.1 hb
         refine Zp c102_35 P1 [(4, .bool false)] ?_
         refine wpE_ret (by kernel_rfl) ?_
         repeat (first | refine seqQ_ret ?_ | refine blockQ_ret ?_ | refine loopQ_ret ?_ | refine cutQ_ret ?_)
         exact retS (rs := [(ResultVar.tmp 4)]) (v := Value.bool false) (by kernel_rfl) (⟨by kernel_rfl, trivial⟩) ⟨false, rfl, h⟩
       · replace h := h.2 hb
         refine wpE_skip (by kernel_rfl) ?_
         change WpE _ _ c102_37 _ _ _
         refine Zr r102_37 ?_
         refine Zf P3 [(0, sv_ t_), (1, sv_ l_), (5, .int .i64 (IntKind.i64.wrap (i + 1)))] ?_
         have hb_ := again__h _ _ h
         exact ⟨_, hb_.2, [(0, sv_ t_), (1, sv_ l_), (5, Value.int .i64 (IntKind.i64.wrap (i + 1)))], Sub.mk (by kernel_rfl), (IntKind.i64.wrap (i + 1)), rfl, hb_.1, rfl⟩
     · replace h := h.2 hb
       refine wpE_exit (id := 0) (by kernel_rfl) ?_
       change WpE _ _ c102_39 _ _ _
       refine Zt r102_40 c102_42 ?_
       refine Zn P4 4 [(1, [], sv_ l_), (34, [], sv_ t_), (37, [], .int .i64 (IntKind.i64.wrap (((l_.len : Nat) : Int) + 1)))] ?_
       obtain ⟨h0, h1, h⟩ := h
       refine reg_sliceHi (t := 92) (e := 140) (x := (Operand.tmp 34)) (hi := (Operand.tmp 37)) (p := t_.ptr) (l := t_.len) (c := t_.cap) (sz := 2) (k := .i64) (j := (IntKind.i64.wrap (((l_.len : Nat) : Int) + 1))) (ty := 92) (dst := some 38) (by kernel_rfl) (by kernel_rfl) (by kernel_rfl) (by kernel_rfl) (by kernel_rfl) h0 h1 ?_
       refine Zn P2 7 [(38, [], .slice t_.ptr ((IntKind.i64.wrap (((l_.len : Nat) : Int) + 1)).toNat) t_.cap), (40, [], .int .i64 ((l_.len : Nat) : Int))] ?_
       obtain ⟨hp_17, h⟩ := h
       refine Zv (fun pp => [(38, [], .slice pp ((IntKind.i64.wrap (((l_.len : Nat) : Int) + 1)).toNat) t_.cap), (40, [], .int .i64 ((l_.len : Nat) : Int))]) hp_17 ?_
       obtain ⟨h0, h1, h⟩ := h
       refine Zj 92 140 38 40 (pblk t_.ptr) (poff t_.ptr) ((IntKind.i64.wrap (((l_.len : Nat) : Int) + 1)).toNat) t_.cap ((l_.len : Nat) : Int) 2 41 0 h0 h1 ?_
       refine Zn [] 8 [(41, [], .pointer (some ⟨(pblk t_.ptr), (poff t_.ptr) + ((l_.len : Nat) : Int).toNat * 2, none⟩))] ?_
       obtain ⟨v42, hc, h⟩ := h
       refine reg_loadN (t := 140) (a := (Operand.tmp 41)) (b := (pblk t_.ptr)) (o := ((poff t_.ptr) + ((l_.len : Nat) : Int).toNat * 2)) (ty := 140) (dst := some 42) [Value.string v42.Key, Value.string v42.Val] (by kernel_rfl) (by kernel_rfl) (by kernel_rfl) (k := 2) (by kernel_rfl) (by kernel_rfl) hc ?_
       refine Zn [] 9 [(42, [], .agg #[.string v42.Key, .string v42.Val])] ?_
       refine Zw (some 6) (fun bb => pv_ bb) (Obj.cells ([.string ByteArray.empty, .string ByteArray.empty]).toArray ty_api_Entry (0, 0)) (fun b_ w3 hb hw => ?_)
       replace h := h b_ w3 hb hw
       clear hb hw
       refine Zn [] 10 [(6, [], pv_ b_), (42, [], .agg #[.string v42.Key, .string v42.Val])] ?_
       obtain ⟨hc, h⟩ := h
       refine Zo 140 6 42 b_ 0 2 [.string v42.Key, .string v42.Val] hc (fun w4 hw => ?_)
       replace h := h w4 hw
       clear hw
       refine Ze [(6, pv_ b_)] ?_
       change WpE _ _ c102_42 _ _ _
       refine Zt r102_43 c102_45 ?_
       refine Zn [] 0 [(6, [], pv_ b_)] ?_
       obtain ⟨v43, hc, h⟩ := h
       refine reg_loadN (t := 140) (a := (Operand.tmp 6)) (b := b_) (o := 0) (ty := 140) (dst := some 43) [Value.string v43.Key, Value.string v43.Val] (by kernel_rfl) (by kernel_rfl) (by kernel_rfl) (k := 2) (by kernel_rfl) (by kernel_rfl) hc ?_
       refine Zn P1 2 [(43, [], .agg #[.string v43.Key, .string v43.Val]), (44, [], .agg #[.string (ByteArray.mk #[115, 112, 97, 114, 101]), .string ByteArray.empty])] ?_
       refine reg_val (op := (Op.binOp BinOp.eql 140 (Operand.tmp 43) (Operand.tmp 44) 140)) (ty := 4) (dst := some 45) (Value.bool ((v43.Key == (ByteArray.mk #[115, 112, 97, 114, 101])) && (v43.Val == ByteArray.empty))) (by kernel_rfl) (fun ww => run_struct_eql (xs := [Value.string v43.Key, Value.string v43.Val]) (ys := [Value.string (ByteArray.mk #[115, 112, 97, 114, 101]), Value.string ByteArray.empty]) (by kernel_rfl) (by kernel_rfl) (by kernel_rfl) (by kernel_rfl) (by kernel_rfl) ww) ?_
       refine Zf P1 [(4, .bool ((v43.Key == (ByteArray.mk #[115, 112, 97, 114, 101])) && (v43.Val == ByteArray.empty)))] ?_
       change WpE _ _ c102_45 _ _ _
       refine wpE_ret (by kernel_rfl) ?_
       repeat (first | refine seqQ_ret ?_ | refine blockQ_ret ?_ | refine loopQ_ret ?_ | refine cutQ_ret ?_)
       exact retS (rs := [(ResultVar.tmp 4)]) (v := Value.bool ((v43.Key == (ByteArray.mk #[115, 112, 97, 114, 101])) && (v43.Val == ByteArray.empty))) (by kernel_rfl) (⟨by kernel_rfl, trivial⟩) ⟨((v43.Key == (ByteArray.mk #[115, 112, 97, 114, 101])) && (v43.Val == ByteArray.empty)), rfl, h⟩
 · rintro e w' ⟨v, rfl, r0, rfl, h⟩; exact ⟨r0, rfl, h⟩

/-! ### towpath/towpathlaw01.LeftHelds (function 103) -/
def c103_0 := cb_ Try.f103
def c103_3 := cr_ c103_0
def c103_4 := cl_ c103_3
def c103_7 := cr_ c103_4
def c103_8 := cl_ c103_7
def c103_11 := cr_ c103_8
def c103_12 := cr_ c103_7
def c103_13 := cr_ c103_3
def c103_14 := cl_ c103_13
def c103_17 := cr_ c103_14
def c103_18 := cl_ c103_17
def c103_19 := cl_ c103_18
def c103_20 := cl_ c103_19
def c103_23 := cr_ c103_20
def c103_24 := cl_ c103_23
def c103_25 := cr_ c103_23
def c103_26 := cr_ c103_19
def c103_27 := cl_ c103_26
def c103_28 := cl_ c103_27
def c103_29 := cl_ c103_28
def r103_29 := co_ c103_29
def c103_31 := cr_ c103_28
def c103_32 := cl_ c103_31
def c103_35 := cr_ c103_32
def c103_36 := cr_ c103_31
def c103_37 := cr_ c103_26
def r103_37 := co_ c103_37
def c103_39 := cr_ c103_13
def c103_40 := cl_ c103_39
def r103_40 := co_ c103_40
def c103_42 := cr_ c103_39
def c103_43 := cl_ c103_42
def r103_43 := co_ c103_43
def c103_45 := cr_ c103_42

theorem S_towpathlaw01_LeftHelds {t_ : Slc} {l_ : Slc} {w : World} {R : Bool → World → Prop} (h : F_towpathlaw01_LeftHelds t_ l_ R w) : C_towpathlaw01_LeftHelds t_ l_ w R := by
 unfold F_towpathlaw01_LeftHelds at h
 unfold C_towpathlaw01_LeftHelds
 refine Calls.mono (calls_of_wpE (args := [sv_ t_, sv_ l_]) (R := fun v w' => ∃ (r0 : Bool), v = Value.bool r0 ∧ R r0 w') Try.func103 (c := c103_0) (by kernel_rfl) 47 (by kernel_rfl) (by kernel_rfl) [(0, sv_ t_), (1, sv_ l_)] (by kernel_rfl) ?_) ?_
 · refine Zp c103_3 P1 [(0, sv_ t_), (1, sv_ l_)] ?_
   refine Zs c103_4 c103_13 ?_
   refine Zp c103_7 [.plain, .plain, .plain, .plain, .plain, .plain, .plain, .plain, .plain, .plain, .plain, .pick] [(0, sv_ t_), (1, sv_ l_), (18, .bool ((((t_.len : Nat) : Int) != ((l_.len : Nat) : Int)) || (decide (((t_.cap : Nat) : Int) ≤ ((l_.len : Nat) : Int)))))] ?_
   refine Zc 18 ((((t_.len : Nat) : Int) != ((l_.len : Nat) : Int)) || (decide (((t_.cap : Nat) : Int) ≤ ((l_.len : Nat) : Int)))) c103_8 c103_12 (fun hb => ?_) (fun hb => ?_)
   · replace h := h.1 hb
     refine Zp c103_11 P1 [(4, .bool false)] ?_
     refine wpE_ret (by kernel_rfl) ?_
     repeat (first | refine seqQ_ret ?_ | refine blockQ_ret ?_ | refine loopQ_ret ?_ | refine cutQ_ret ?_)
     exact retS (rs := [(ResultVar.tmp 4)]) (v := Value.bool false) (by kernel_rfl) (⟨by kernel_rfl, trivial⟩) ⟨false, rfl, h⟩
   · replace h := h.2 hb
     refine wpE_skip (by kernel_rfl) ?_
     change WpE _ _ c103_13 _ _ _
     refine Zs c103_14 c103_39 ?_
     refine Zp c103_17 P1 [(0, sv_ t_), (1, sv_ l_), (5, .int .i64 0)] ?_
     refine Zb 0 c103_18 ?_
     obtain ⟨I, μ, h0, hr⟩ := h
     refine wpE_loop (x := c103_19) (by kernel_rfl) (fun m l w => ∃ (i : Int), l = [(0, sv_ t_), (1, sv_ l_), (5, Value.int .i64 i)] ∧ I i w ∧ μ i w = m) (l' := [(0, sv_ t_), (1, sv_ l_), (5, Value.int .i64 0)]) (Sub.mk (by kernel_rfl)) ⟨0, rfl, h0, rfl⟩ ?_
     rintro _ _ w1 ⟨i, rfl, hI, rfl⟩
     obtain ⟨again_, again__h, h⟩ : ∃ again_ : Int → World → Prop, (∀ i' w', again_ i' w' → I i' w' ∧ μ i' w' < μ i w1) ∧ F_towpathlaw01_LeftHelds_L0 t_ l_ R again_ i w1 := ⟨_, fun _ _ h => h, hr i w1 hI⟩
     clear h0 hI
     unfold F_towpathlaw01_LeftHelds_L0 at h
     refine Zs c103_20 c103_26 ?_
     refine Zp c103_23 P4 [(0, sv_ t_), (1, sv_ l_), (5, .int .i64 i), (22, .bool (decide (i < ((l_.len : Nat) : Int))))] ?_
     refine Zc 22 (decide (i < ((l_.len : Nat) : Int))) c103_24 c103_25 (fun hb => ?_) (fun hb => ?_)
     · replace h := h.1 hb
       refine wpE_skip (by kernel_rfl) ?_
       change WpE _ _ c103_26 _ _ _
       refine Zs c103_27 c103_37 ?_
       refine Zb 1 c103_28 ?_
       refine Zs c103_29 c103_31 ?_
       refine wpE_drawregion (id := 6) (ops := r103_29) (by kernel_rfl) (by kernel_rfl) (by kernel_rfl) ?_
       refine qreg_run P2 2 [(0, [], sv_ t_), (1, [], sv_ l_), (5, [], Value.int .i64 i), (25, [], sv_ t_), (26, [], Value.int .i64 i)] (by kernel_rfl) (by kernel_rfl) ?_
       obtain ⟨hp_14, h⟩ := h
       refine qreg_conv [(0, [], sv_ t_), (1, [], sv_ l_), (5, [], Value.int .i64 i), (25, [], Value.slice (some ⟨(pblk t_.ptr), (poff t_.ptr), none⟩) t_.len t_.cap), (26, [], Value.int .i64 i)] (congrArg (fun pp => ([(0, [], sv_ t_), (1, [], sv_ l_), (5, [], Value.int .i64 i), (25, [], Value.slice pp t_.len t_.cap), (26, [], Value.int .i64 i)] : GEnv)) hp_14) ?_
       obtain ⟨h0, h1, h⟩ := h
       refine qreg_indexS (t := 93) (e := 143) (x := (Operand.tmp 25)) (ix := (Operand.tmp 26)) (b := (pblk t_.ptr)) (o := (poff t_.ptr)) (l := t_.len) (c := t_.cap) (k := .i64) (j := i) (ty := 0) (dst := some 27) (sz := 2) (by kernel_rfl) (by kernel_rfl) (by kernel_rfl) (by kernel_rfl) (by kernel_rfl) h0 h1 ?_
       refine qreg_run [] 3 [(0, [], sv_ t_), (1, [], sv_ l_), (5, [], Value.int .i64 i), (27, [], Value.pointer (some ⟨(pblk t_.ptr), (poff t_.ptr) + i.toNat * 2, none⟩))] (by kernel_rfl) (by kernel_rfl) ?_
       obtain ⟨v28, hc, h⟩ := h
       refine qreg_loadN (t := 143) (a := (Operand.tmp 27)) (b := (pblk t_.ptr)) (o := ((poff t_.ptr) + i.toNat * 2)) (ty := 143) (dst := some 28) [Value.string v28.Key, sv_ v28.Versions] (by kernel_rfl) (by kernel_rfl) (by kernel_rfl) (k := 2) (by kernel_rfl) (by kernel_rfl) hc ?_
       refine qreg_run P2 6 [(0, [], sv_ t_), (1, [], sv_ l_), (5, [], Value.int .i64 i), (28, [], Value.agg #[Value.string v28.Key, sv_ v28.Versions]), (29, [], sv_ l_), (30, [], Value.int .i64 i)] (by kernel_rfl) (by kernel_rfl) ?_
       obtain ⟨hp_15, h⟩ := h
       refine qreg_conv [(0, [], sv_ t_), (1, [], sv_ l_), (5, [], Value.int .i64 i), (28, [], Value.agg #[Value.string v28.Key, sv_ v28.Versions]), (29, [], Value.slice (some ⟨(pblk l_.ptr), (poff l_.ptr), none⟩) l_.len l_.cap), (30, [], Value.int .i64 i)] (congrArg (fun pp => ([(0, [], sv_ t_), (1, [], sv_ l_), (5, [], Value.int .i64 i), (28, [], Value.agg #[Value.string v28.Key, sv_ v28.Versions]), (29, [], Value.slice pp l_.len l_.cap), (30, [], Value.int .i64 i)] : GEnv)) hp_15) ?_
       obtain ⟨h0, h1, h⟩ := h
       refine qreg_indexS (t := 93) (e := 143) (x := (Operand.tmp 29)) (ix := (Operand.tmp 30)) (b := (pblk l_.ptr)) (o := (poff l_.ptr)) (l := l_.len) (c := l_.cap) (k := .i64) (j := i) (ty := 0) (dst := some 31) (sz := 2) (by kernel_rfl) (by kernel_rfl) (by kernel_rfl) (by kernel_rfl) (by kernel_rfl) h0 h1 ?_
       refine qreg_run [] 7 [(0, [], sv_ t_), (1, [], sv_ l_), (5, [], Value.int .i64 i), (28, [], Value.agg #[Value.string v28.Key, sv_ v28.Versions]), (31, [], Value.pointer (some ⟨(pblk l_.ptr), (poff l_.ptr) + i.toNat * 2, none⟩))] (by kernel_rfl) (by kernel_rfl) ?_
       obtain ⟨v32, hc, h⟩ := h
       refine qreg_loadN (t := 143) (a := (Operand.tmp 31)) (b := (pblk l_.ptr)) (o := ((poff l_.ptr) + i.toNat * 2)) (ty := 143) (dst := some 32) [Value.string v32.Key, sv_ v32.Versions] (by kernel_rfl) (by kernel_rfl) (by kernel_rfl) (k := 2) (by kernel_rfl) (by kernel_rfl) hc ?_
       refine qreg_run [] 8 [(0, [], sv_ t_), (1, [], sv_ l_), (5, [], Value.int .i64 i), (28, [], Value.agg #[Value.string v28.Key, sv_ v28.Versions]), (32, [], Value.agg #[Value.string v32.Key, sv_ v32.Versions])] (by kernel_rfl) (by kernel_rfl) ?_
       obtain ⟨v33, hq, h⟩ := h
       refine qreg_enter (op := (Op.call (Call.mk (Callee.value (Operand.func 120)) #[(Operand.tmp 28), (Operand.tmp 32)] #[143, 143]))) (ty := 4) (dst := some 33) 120 #[Value.agg #[Value.string v28.Key, sv_ v28.Versions], Value.agg #[Value.string v32.Key, sv_ v32.Versions]] (Value.bool v33) (by kernel_rfl) (fun ww => by kernel_rfl) (fun w' he => Calls.mono (hq w' he) (by rintro _ w'' ⟨_, rfl, rfl, hE⟩; exact ⟨rfl, hE⟩)) ?_
       clear hq
       refine qreg_run P1 10 [(0, [], sv_ t_), (1, [], sv_ l_), (5, [], Value.int .i64 i), (34, [], Value.bool (!v33))] (by kernel_rfl) (by kernel_rfl) ?_
       refine qreg_end [(0, sv_ t_), (1, sv_ l_), (5, Value.int .i64 i), (34, Value.bool (!v33))] (by kernel_rfl) (by kernel_rfl) (fun w3 hw => ?_)
       replace h := h w3 hw
       clear hw
       change WpE _ _ c103_31 _ _ _
       refine Zc 34 (!v33) c103_32 c103_36 (fun hb => ?_) (fun hb => ?_)
       · replace h := h.1 hb
         refine Zp c103_35 P1 [(4, .bool false)] ?_
         refine wpE_ret (by kernel_rfl) ?_
         repeat (first | refine seqQ_ret ?_ | refine blockQ_ret ?_ | refine loopQ_ret ?_ | refine cutQ_ret ?_)
         exact retS (rs := [(ResultVar.tmp 4)]) (v := Value.bool false) (by kernel_rfl) (⟨by kernel_rfl, trivial⟩) ⟨false, rfl, h⟩
       · replace h := h.2 hb
         refine wpE_skip (by kernel_rfl) ?_
         change WpE _ _ c103_37 _ _ _
         refine Zr r103_37 ?_
         refine Zf P3 [(0, sv_ t_), (1, sv_ l_), (5, .int .i64 (IntKind.i64.wrap (i + 1)))] ?_
         have hb_ := again__h _ _ h
         exact ⟨_, hb_.2, [(0, sv_ t_), (1, sv_ l_), (5, Value.int .i64 (IntKind.i64.wrap (i + 1)))], Sub.mk (by kernel_rfl), (IntKind.i64.wrap (i + 1)), rfl, hb_.1, rfl⟩
     · replace h := h.2 hb
       refine wpE_exit (id := 0) (by kernel_rfl) ?_
       change WpE _ _ c103_39 _ _ _
       refine Zt r103_40 c103_42 ?_
       refine Zn P4 4 [(1, [], sv_ l_), (35, [], sv_ t_), (38, [], .int .i64 (IntKind.i64.wrap (((l_.len : Nat) : Int) + 1)))] ?_
       obtain ⟨h0, h1, h⟩ := h
       refine reg_sliceHi (t := 93) (e := 143) (x := (Operand.tmp 35)) (hi := (Operand.tmp 38)) (p := t_.ptr) (l := t_.len) (c := t_.cap) (sz := 2) (k := .i64) (j := (IntKind.i64.wrap (((l_.len : Nat) : Int) + 1))) (ty := 93) (dst := some 39) (by kernel_rfl) (by kernel_rfl) (by kernel_rfl) (by kernel_rfl) (by kernel_rfl) h0 h1 ?_
       refine Zn P2 7 [(39, [], .slice t_.ptr ((IntKind.i64.wrap (((l_.len : Nat) : Int) + 1)).toNat) t_.cap), (41, [], .int .i64 ((l_.len : Nat) : Int))] ?_
       obtain ⟨hp_17, h⟩ := h
       refine Zv (fun pp => [(39, [], .slice pp ((IntKind.i64.wrap (((l_.len : Nat) : Int) + 1)).toNat) t_.cap), (41, [], .int .i64 ((l_.len : Nat) : Int))]) hp_17 ?_
       obtain ⟨h0, h1, h⟩ := h
       refine Zj 93 143 39 41 (pblk t_.ptr) (poff t_.ptr) ((IntKind.i64.wrap (((l_.len : Nat) : Int) + 1)).toNat) t_.cap ((l_.len : Nat) : Int) 2 42 0 h0 h1 ?_
       refine Zn [] 8 [(42, [], .pointer (some ⟨(pblk t_.ptr), (poff t_.ptr) + ((l_.len : Nat) : Int).toNat * 2, none⟩))] ?_
       obtain ⟨v43, hc, h⟩ := h
       refine reg_loadN (t := 143) (a := (Operand.tmp 42)) (b := (pblk t_.ptr)) (o := ((poff t_.ptr) + ((l_.len : Nat) : Int).toNat * 2)) (ty := 143) (dst := some 43) [Value.string v43.Key, sv_ v43.Versions] (by kernel_rfl) (by kernel_rfl) (by kernel_rfl) (k := 2) (by kernel_rfl) (by kernel_rfl) hc ?_
       refine Zn [] 9 [(43, [], .agg #[.string v43.Key, sv_ v43.Versions])] ?_
       refine Zw (some 6) (fun bb => pv_ bb) (Obj.cells ([.string ByteArray.empty, .slice none 0 0]).toArray ty_api_Held (0, 0)) (fun b_ w4 hb hw => ?_)
       replace h := h b_ w4 hb hw
       clear hb hw
       refine Zn [] 10 [(6, [], pv_ b_), (43, [], .agg #[.string v43.Key, sv_ v43.Versions])] ?_
       obtain ⟨hc, h⟩ := h
       refine Zo 143 6 43 b_ 0 2 [.string v43.Key, sv_ v43.Versions] hc (fun w5 hw => ?_)
       replace h := h w5 hw
       clear hw
       refine Ze [(6, pv_ b_)] ?_
       change WpE _ _ c103_42 _ _ _
       refine Zt r103_43 c103_45 ?_
       refine Zn P1 1 [(44, [], pv_ b_)] ?_
       obtain ⟨v45, hc, h⟩ := h
       refine Zl 9 44 b_ 0 9 45 hc ?_
       refine Zf P2 [(4, .bool (v45.toList == (ByteArray.mk #[115, 112, 97, 114, 101]).toList))] ?_
       change WpE _ _ c103_45 _ _ _
       refine wpE_ret (by kernel_rfl) ?_
       repeat (first | refine seqQ_ret ?_ | refine blockQ_ret ?_ | refine loopQ_ret ?_ | refine cutQ_ret ?_)
       exact retS (rs := [(ResultVar.tmp 4)]) (v := Value.bool (v45.toList == (ByteArray.mk #[115, 112, 97, 114, 101]).toList)) (by kernel_rfl) (⟨by kernel_rfl, trivial⟩) ⟨(v45.toList == (ByteArray.mk #[115, 112, 97, 114, 101]).toList), rfl, h⟩
 · rintro e w' ⟨v, rfl, r0, rfl, h⟩; exact ⟨r0, rfl, h⟩

/-! ### towpath/towpathlaw01.SameEntries (function 106) -/
def c106_0 := cb_ Try.f106
def c106_3 := cr_ c106_0
def c106_4 := cl_ c106_3
def c106_7 := cr_ c106_4
def c106_8 := cl_ c106_7
def c106_11 := cr_ c106_8
def c106_12 := cr_ c106_7
def c106_13 := cr_ c106_3
def c106_14 := cl_ c106_13
def c106_17 := cr_ c106_14
def c106_18 := cl_ c106_17
def c106_19 := cl_ c106_18
def c106_20 := cl_ c106_19
def c106_23 := cr_ c106_20
def c106_24 := cl_ c106_23
def c106_25 := cr_ c106_23
def c106_26 := cr_ c106_19
def c106_27 := cl_ c106_26
def c106_28 := cl_ c106_27
def c106_29 := cl_ c106_28
def r106_29 := co_ c106_29
def c106_31 := cr_ c106_28
def c106_32 := cl_ c106_31
def c106_35 := cr_ c106_32
def c106_36 := cr_ c106_31
def c106_37 := cr_ c106_26
def r106_37 := co_ c106_37
def c106_39 := cr_ c106_13
def c106_42 := cr_ c106_39

theorem S_towpathlaw01_SameEntries {a_ : Slc} {b_ : Slc} {w : World} {R : Bool → World → Prop} (h : F_towpathlaw01_SameEntries a_ b_ R w) : C_towpathlaw01_SameEntries a_ b_ w R := by
 unfold F_towpathlaw01_SameEntries at h
 unfold C_towpathlaw01_SameEntries
 refine Calls.mono (calls_of_wpE (args := [sv_ a_, sv_ b_]) (R := fun v w' => ∃ (r0 : Bool), v = Value.bool r0 ∧ R r0 w') Try.func106 (c := c106_0) (by kernel_rfl) 26 (by kernel_rfl) (by kernel_rfl) [(0, sv_ a_), (1, sv_ b_)] (by kernel_rfl) ?_) ?_
 · refine Zp c106_3 P1 [(0, sv_ a_), (1, sv_ b_)] ?_
   refine Zs c106_4 c106_13 ?_
   refine Zp c106_7 (Pl 5) [(0, sv_ a_), (1, sv_ b_), (10, .bool (((a_.len : Nat) : Int) != ((b_.len : Nat) : Int)))] ?_
   refine Zc 10 (((a_.len : Nat) : Int) != ((b_.len : Nat) : Int)) c106_8 c106_12 (fun hb => ?_) (fun hb => ?_)
   · replace h := h.1 hb
     refine Zp c106_11 P1 [(4, .bool false)] ?_
     refine wpE_ret (by kernel_rfl) ?_
     repeat (first | refine seqQ_ret ?_ | refine blockQ_ret ?_ | refine loopQ_ret ?_ | refine cutQ_ret ?_)
     exact retS (rs := [(ResultVar.tmp 4)]) (v := Value.bool false) (by kernel_rfl) (⟨by kernel_rfl, trivial⟩) ⟨false, rfl, h⟩
   · replace h := h.2 hb
     refine wpE_skip (by kernel_rfl) ?_
     change WpE _ _ c106_13 _ _ _
     refine Zs c106_14 c106_39 ?_
     refine Zp c106_17 P1 [(0, sv_ a_), (1, sv_ b_), (5, .int .i64 0)] ?_
     refine Zb 0 c106_18 ?_
     obtain ⟨I, μ, h0, hr⟩ := h
     refine wpE_loop (x := c106_19) (by kernel_rfl) (fun m l w => ∃ (i : Int), l = [(0, sv_ a_), (1, sv_ b_), (5, Value.int .i64 i)] ∧ I i w ∧ μ i w = m) (l' := [(0, sv_ a_), (1, sv_ b_), (5, Value.int .i64 0)]) (Sub.mk (by kernel_rfl)) ⟨0, rfl, h0, rfl⟩ ?_
     rintro _ _ w1 ⟨i, rfl, hI, rfl⟩
     obtain ⟨again_, again__h, h⟩ : ∃ again_ : Int → World → Prop, (∀ i' w', again_ i' w' → I i' w' ∧ μ i' w' < μ i w1) ∧ F_towpathlaw01_SameEntries_L0 a_ b_ R again_ i w1 := ⟨_, fun _ _ h => h, hr i w1 hI⟩
     clear h0 hI
     unfold F_towpathlaw01_SameEntries_L0 at h
     refine Zs c106_20 c106_26 ?_
     refine Zp c106_23 P4 [(0, sv_ a_), (1, sv_ b_), (5, .int .i64 i), (14, .bool (decide (i < ((a_.len : Nat) : Int))))] ?_
     refine Zc 14 (decide (i < ((a_.len : Nat) : Int))) c106_24 c106_25 (fun hb => ?_) (fun hb => ?_)
     · replace h := h.1 hb
       refine wpE_skip (by kernel_rfl) ?_
       change WpE _ _ c106_26 _ _ _
       refine Zs c106_27 c106_37 ?_
       refine Zb 1 c106_28 ?_
       refine Zs c106_29 c106_31 ?_
       refine wpE_drawregion (id := 6) (ops := r106_29) (by kernel_rfl) (by kernel_rfl) (by kernel_rfl) ?_
       refine qreg_run P2 2 [(0, [], sv_ a_), (1, [], sv_ b_), (5, [], Value.int .i64 i), (17, [], sv_ a_), (18, [], Value.int .i64 i)] (by kernel_rfl) (by kernel_rfl) ?_
       obtain ⟨hp_14, h⟩ := h
       refine qreg_conv [(0, [], sv_ a_), (1, [], sv_ b_), (5, [], Value.int .i64 i), (17, [], Value.slice (some ⟨(pblk a_.ptr), (poff a_.ptr), none⟩) a_.len a_.cap), (18, [], Value.int .i64 i)] (congrArg (fun pp => ([(0, [], sv_ a_), (1, [], sv_ b_), (5, [], Value.int .i64 i), (17, [], Value.slice pp a_.len a_.cap), (18, [], Value.int .i64 i)] : GEnv)) hp_14) ?_
       obtain ⟨h0, h1, h⟩ := h
       refine qreg_indexS (t := 92) (e := 140) (x := (Operand.tmp 17)) (ix := (Operand.tmp 18)) (b := (pblk a_.ptr)) (o := (poff a_.ptr)) (l := a_.len) (c := a_.cap) (k := .i64) (j := i) (ty := 0) (dst := some 19) (sz := 2) (by kernel_rfl) (by kernel_rfl) (by kernel_rfl) (by kernel_rfl) (by kernel_rfl) h0 h1 ?_
       refine qreg_run [] 3 [(0, [], sv_ a_), (1, [], sv_ b_), (5, [], Value.int .i64 i), (19, [], Value.pointer (some ⟨(pblk a_.ptr), (poff a_.ptr) + i.toNat * 2, none⟩))] (by kernel_rfl) (by kernel_rfl) ?_
       obtain ⟨v20, hc, h⟩ := h
       refine qreg_loadN (t := 140) (a := (Operand.tmp 19)) (b := (pblk a_.ptr)) (o := ((poff a_.ptr) + i.toNat * 2)) (ty := 140) (dst := some 20) [Value.string v20.Key, Value.string v20.Val] (by kernel_rfl) (by kernel_rfl) (by kernel_rfl) (k := 2) (by kernel_rfl) (by kernel_rfl) hc ?_
       refine qreg_run P2 6 [(0, [], sv_ a_), (1, [], sv_ b_), (5, [], Value.int .i64 i), (20, [], Value.agg #[Value.string v20.Key, Value.string v20.Val]), (21, [], sv_ b_), (22, [], Value.int .i64 i)] (by kernel_rfl) (by kernel_rfl) ?_
       obtain ⟨hp_15, h⟩ := h
       refine qreg_conv [(0, [], sv_ a_), (1, [], sv_ b_), (5, [], Value.int .i64 i), (20, [], Value.agg #[Value.string v20.Key, Value.string v20.Val]), (21, [], Value.slice (some ⟨(pblk b_.ptr), (poff b_.ptr), none⟩) b_.len b_.cap), (22, [], Value.int .i64 i)] (congrArg (fun pp => ([(0, [], sv_ a_), (1, [], sv_ b_), (5, [], Value.int .i64 i), (20, [], Value.agg #[Value.string v20.Key, Value.string v20.Val]), (21, [], Value.slice pp b_.len b_.cap), (22, [], Value.int .i64 i)] : GEnv)) hp_15) ?_
       obtain ⟨h0, h1, h⟩ := h
       refine qreg_indexS (t := 92) (e := 140) (x := (Operand.tmp 21)) (ix := (Operand.tmp 22)) (b := (pblk b_.ptr)) (o := (poff b_.ptr)) (l := b_.len) (c := b_.cap) (k := .i64) (j := i) (ty := 0) (dst := some 23) (sz := 2) (by kernel_rfl) (by kernel_rfl) (by kernel_rfl) (by kernel_rfl) (by kernel_rfl) h0 h1 ?_
       refine qreg_run [] 7 [(0, [], sv_ a_), (1, [], sv_ b_), (5, [], Value.int .i64 i), (20, [], Value.agg #[Value.string v20.Key, Value.string v20.Val]), (23, [], Value.pointer (some ⟨(pblk b_.ptr), (poff b_.ptr) + i.toNat * 2, none⟩))] (by kernel_rfl) (by kernel_rfl) ?_
       obtain ⟨v24, hc, h⟩ := h
       refine qreg_loadN (t := 140) (a := (Operand.tmp 23)) (b := (pblk b_.ptr)) (o := ((poff b_.ptr) + i.toNat * 2)) (ty := 140) (dst := some 24) [Value.string v24.Key, Value.string v24.Val] (by kernel_rfl) (by kernel_rfl) (by kernel_rfl) (k := 2) (by kernel_rfl) (by kernel_rfl) hc ?_
       refine qreg_run [] 8 [(0, [], sv_ a_), (1, [], sv_ b_), (5, [], Value.int .i64 i), (20, [], Value.agg #[Value.string v20.Key, Value.string v20.Val]), (24, [], Value.agg #[Value.string v24.Key, Value.string v24.Val])] (by kernel_rfl) (by kernel_rfl) ?_
       refine qreg_val (op := (Op.binOp BinOp.neq 140 (Operand.tmp 20) (Operand.tmp 24) 140)) (ty := 4) (dst := some 25) (Value.bool (!((v20.Key == v24.Key) && (v20.Val == v24.Val)))) (by kernel_rfl) (fun ww => run_struct_neq (xs := [Value.string v20.Key, Value.string v20.Val]) (ys := [Value.string v24.Key, Value.string v24.Val]) (by kernel_rfl) (by kernel_rfl) (by kernel_rfl) (by kernel_rfl) (by kernel_rfl) ww) ?_
       refine qreg_end [(0, sv_ a_), (1, sv_ b_), (5, Value.int .i64 i), (25, Value.bool (!((v20.Key == v24.Key) && (v20.Val == v24.Val))))] (by kernel_rfl) (by kernel_rfl) (fun w2 hw => ?_)
       replace h := h w2 hw
       clear hw
       change WpE _ _ c106_31 _ _ _
       refine Zc 25 (!((v20.Key == v24.Key) && (v20.Val == v24.Val))) c106_32 c106_36 (fun hb => ?_) (fun hb => ?_)
       · replace h := h.1 hb
         refine Zp c106_35 P1 [(4, .bool false)] ?_
         refine wpE_ret (by kernel_rfl) ?_
         repeat (first | refine seqQ_ret ?_ | refine blockQ_ret ?_ | refine loopQ_ret ?_ | refine cutQ_ret ?_)
         exact retS (rs := [(ResultVar.tmp 4)]) (v := Value.bool false) (by kernel_rfl) (⟨by kernel_rfl, trivial⟩) ⟨false, rfl, h⟩
       · replace h := h.2 hb
         refine wpE_skip (by kernel_rfl) ?_
         change WpE _ _ c106_37 _ _ _
         refine Zr r106_37 ?_
         refine Zf P3 [(0, sv_ a_), (1, sv_ b_), (5, .int .i64 (IntKind.i64.wrap (i + 1)))] ?_
         have hb_ := again__h _ _ h
         exact ⟨_, hb_.2, [(0, sv_ a_), (1, sv_ b_), (5, Value.int .i64 (IntKind.i64.wrap (i + 1)))], Sub.mk (by kernel_rfl), (IntKind.i64.wrap (i + 1)), rfl, hb_.1, rfl⟩
     · replace h := h.2 hb
       refine wpE_exit (id := 0) (by kernel_rfl) ?_
       change WpE _ _ c106_39 _ _ _
       refine Zp c106_42 P1 [(4, .bool true)] ?_
       refine wpE_ret (by kernel_rfl) ?_
       repeat (first | refine seqQ_ret ?_ | refine blockQ_ret ?_ | refine loopQ_ret ?_ | refine cutQ_ret ?_)
       exact retS (rs := [(ResultVar.tmp 4)]) (v := Value.bool true) (by kernel_rfl) (⟨by kernel_rfl, trivial⟩) ⟨true, rfl, h⟩
 · rintro e w' ⟨v, rfl, r0, rfl, h⟩; exact ⟨r0, rfl, h⟩

/-! ### towpath/towpathlaw01.TwinHeld (function 119) -/
def c119_0 := cb_ Try.f119
def c119_1 := cl_ c119_0
def r119_1 := co_ c119_1
def c119_3 := cr_ c119_0
def c119_4 := cl_ c119_3
def r119_4 := co_ c119_4
def c119_6 := cr_ c119_3
def o_towpathlaw01_TwinHeld_4 : List Nat := [0, 1, 2, 3, 4, 5, 6]

theorem S_towpathlaw01_TwinHeld {x : T_api_Held} {w : World} {R : T_api_Held → World → Prop} (h : F_towpathlaw01_TwinHeld x R w) : C_towpathlaw01_TwinHeld x w R := by
 unfold F_towpathlaw01_TwinHeld at h
 unfold C_towpathlaw01_TwinHeld
 refine Calls.mono (calls_of_wpE (args := [Value.agg #[Value.string x.Key, sv_ x.Versions]]) (R := fun v w' => ∃ (r0 : T_api_Held), v = Value.agg #[Value.string r0.Key, sv_ r0.Versions] ∧ R r0 w') Try.func119 (c := c119_0) (by kernel_rfl) 9 (by kernel_rfl) (by kernel_rfl) [(0, Value.agg #[Value.string x.Key, sv_ x.Versions])] (by kernel_rfl) ?_) ?_
 · refine Zt r119_1 c119_3 ?_
   refine Zn [] 0 [(0, [], .agg #[.string x.Key, sv_ x.Versions])] ?_
   refine Zw (some 1) (fun bb => pv_ bb) (Obj.cells ([.string x.Key, sv_ x.Versions]).toArray ty_api_Held (0, 0)) (fun b_ w1 hb hw => ?_)
   replace h := h b_ w1 hb hw
   clear hb hw
   refine Zn [] 1 [(1, [], pv_ b_)] ?_
   refine Zw (some 2) (fun bb => pv_ bb) (Obj.cells ([.string ByteArray.empty, .slice none 0 0]).toArray ty_api_Held (0, 0)) (fun b_1 w2 hb hw => ?_)
   replace h := h b_1 w2 hb hw
   clear hb hw
   refine Ze [(1, pv_ b_), (2, pv_ b_1)] ?_
   change WpE _ _ c119_3 _ _ _
   refine Zs c119_4 c119_6 ?_
   refine wpE_mixregion (id := 1) (ops := r119_4) o_towpathlaw01_TwinHeld_4 (by kernel_rfl) (by kernel_rfl) (by kernel_rfl) (by kernel_rfl) (fun w3 hw => ?_)
   replace h := h w3 hw
   clear hw
   refine mreg_run P1 1 [(1, [], pv_ b_), (2, [], pv_ b_1), (3, [], pv_ b_)] (by kernel_rfl) (by kernel_rfl) ?_
   obtain ⟨v4, hc, h⟩ := h
   refine mreg_load1 (i := 1) (by kernel_rfl) (t := 9) (a := (Operand.tmp 3)) (b := b_) (o := 0) (ty := 9) (dst := some 4) (by kernel_rfl) (by kernel_rfl) (by kernel_rfl) hc ?_
   refine mreg_run P1 3 [(2, [], pv_ b_1), (4, [], Value.string v4), (5, [], Value.pointer (some ⟨b_, 1, none⟩))] (by kernel_rfl) (by kernel_rfl) ?_
   obtain ⟨v6, hc, h⟩ := h
   refine mreg_load1 (i := 3) (by kernel_rfl) (t := 141) (a := (Operand.tmp 5)) (b := b_) (o := 1) (ty := 141) (dst := some 6) (by kernel_rfl) (by kernel_rfl) (by kernel_rfl) hc ?_
   refine mreg_run [] 4 [(2, [], pv_ b_1), (4, [], Value.string v4), (6, [], sv_ v6)] (by kernel_rfl) (by kernel_rfl) ?_
   refine mreg_enter (op := (Op.call (Call.mk (Callee.value (Operand.func 131)) #[(Operand.tmp 6)] #[141]))) (ty := 141) (dst := some 7) 4 [3, 2] [(1, fun w' => w'.cell? ⟨b_, 0, none⟩ = some (Value.string v4))] 131 #[sv_ v6] (by kernel_rfl) (by kernel_rfl) (by kernel_rfl) (by kernel_rfl) (by kernel_rfl) (fun ww => by kernel_rfl) (Calls.mono h ?_)
   rintro _ w4 ⟨v7, rfl, h⟩
   obtain ⟨hk0, h⟩ := h
   refine ⟨_, rfl, ⟨hk0, trivial⟩, ?_⟩
   refine mreg_run P1 6 [(2, [], pv_ b_1), (8, [], Value.agg #[Value.string v4, sv_ v7])] (by kernel_rfl) (by kernel_rfl) ?_
   obtain ⟨hc, h⟩ := h
   refine mreg_store (t := 143) (a := (Operand.tmp 2)) (x := (Operand.tmp 8)) (b := b_1) (o := 0) (k := 2) (ty := 0) (dst := none) 6 [0, 1, 2, 3, 4, 5] [] [Value.string v4, sv_ v7] (by kernel_rfl) (by kernel_rfl) (by kernel_rfl) (by kernel_rfl) (by kernel_rfl) (by kernel_rfl) (by kernel_rfl) (by kernel_rfl) (by kernel_rfl) (by kernel_rfl) hc (fun w5 hw => ?_)
   replace h := h w5 hw
   clear hw
   refine ⟨trivial, ?_⟩
   refine mreg_end [(2, pv_ b_1)] (by kernel_rfl) (by kernel_rfl) (by kernel_rfl) ?_
   change WpE _ _ c119_6 _ _ _
   refine wpE_ret (by kernel_rfl) ?_
   obtain ⟨res, hc_res, h⟩ := h
   repeat (first | refine seqQ_ret ?_ | refine blockQ_ret ?_ | refine loopQ_ret ?_ | refine cutQ_ret ?_)
   exact retS (rs := [(ResultVar.cell 2 143)]) (v := Value.agg #[Value.string res.Key, sv_ res.Versions]) (by kernel_rfl) (⟨b_1, 0, [Value.string res.Key, sv_ res.Versions], by kernel_rfl, hc_res, (sizeP_of (k := 2) (by kernel_rfl) (by kernel_rfl)), .inl ⟨by kernel_rfl, rfl⟩, trivial⟩) ⟨res, rfl, h⟩
 · rintro e w' ⟨v, rfl, r0, rfl, h⟩; exact ⟨r0, rfl, h⟩

/-! ### towpath/towpathlaw01.LeftHeld (function 120) -/
def c120_0 := cb_ Try.f120
def c120_1 := cl_ c120_0
def r120_1 := co_ c120_1
def c120_3 := cr_ c120_0
def c120_4 := cl_ c120_3
def r120_4 := co_ c120_4
def c120_6 := cr_ c120_3

theorem S_towpathlaw01_LeftHeld {t_ : T_api_Held} {x : T_api_Held} {w : World} {R : Bool → World → Prop} (h : F_towpathlaw01_LeftHeld t_ x R w) : C_towpathlaw01_LeftHeld t_ x w R := by
 unfold F_towpathlaw01_LeftHeld at h
 unfold C_towpathlaw01_LeftHeld
 refine Calls.mono (calls_of_wpE (args := [Value.agg #[Value.string t_.Key, sv_ t_.Versions], Value.agg #[Value.string x.Key, sv_ x.Versions]]) (R := fun v w' => ∃ (r0 : Bool), v = Value.bool r0 ∧ R r0 w') Try.func120 (c := c120_0) (by kernel_rfl) 17 (by kernel_rfl) (by kernel_rfl) [(0, Value.agg #[Value.string t_.Key, sv_ t_.Versions]), (1, Value.agg #[Value.string x.Key, sv_ x.Versions])] (by kernel_rfl) ?_) ?_
 · refine Zt r120_1 c120_3 ?_
   refine Zn [] 0 [(0, [], .agg #[.string t_.Key, sv_ t_.Versions]), (1, [], .agg #[.string x.Key, sv_ x.Versions])] ?_
   refine Zw (some 2) (fun bb => pv_ bb) (Obj.cells ([.string t_.Key, sv_ t_.Versions]).toArray ty_api_Held (0, 0)) (fun b_ w1 hb hw => ?_)
   replace h := h b_ w1 hb hw
   clear hb hw
   refine Zn [] 1 [(1, [], .agg #[.string x.Key, sv_ x.Versions]), (2, [], pv_ b_)] ?_
   refine Zw (some 3) (fun bb => pv_ bb) (Obj.cells ([.string x.Key, sv_ x.Versions]).toArray ty_api_Held (0, 0)) (fun b_1 w2 hb hw => ?_)
   replace h := h b_1 w2 hb hw
   clear hb hw
   refine Zf P1 [(2, pv_ b_), (3, pv_ b_1)] ?_
   change WpE _ _ c120_3 _ _ _
   refine Zt r120_4 c120_6 ?_
   refine Zn P1 1 [(2, [], pv_ b_), (3, [], pv_ b_1), (5, [], pv_ b_)] ?_
   obtain ⟨v6, hc, h⟩ := h
   refine Zl 9 5 b_ 0 9 6 hc ?_
   refine Zn P1 3 [(2, [], pv_ b_), (3, [], pv_ b_1), (6, [], .string v6), (7, [], pv_ b_1)] ?_
   obtain ⟨v8, hc, h⟩ := h
   refine Zl 9 7 b_1 0 9 8 hc ?_
   refine Zn P3 7 [(3, [], pv_ b_1), (10, [], .bool (v6.toList == v8.toList)), (11, [(10, true)], .pointer (some ⟨b_, 1, none⟩))] ?_
   refine reg_split 10 (v6.toList == v8.toList) (by kernel_rfl) (fun hb => ?_) (fun hb => ?_)
   · replace h := h.1 hb
     refine Zn [] 7 [(3, [], pv_ b_1), (10, [], .bool true), (11, [], .pointer (some ⟨b_, 1, none⟩))] ?_
     refine Zn [] 7 [(3, [], pv_ b_1), (10, [], .bool true), (11, [], .pointer (some ⟨b_, 1, none⟩))] ?_
     obtain ⟨v12, hc, h⟩ := h
     refine Zl 141 11 b_ 1 141 12 hc ?_
     refine Zn [.sure] 9 [(10, [], .bool true), (12, [], sv_ v12), (13, [], .pointer (some ⟨b_1, 1, none⟩))] ?_
     obtain ⟨v14, hc, h⟩ := h
     refine Zl 141 13 b_1 1 141 14 hc ?_
     refine Zn [] 10 [(10, [], .bool true), (12, [], sv_ v12), (14, [], sv_ v14)] ?_
     refine Zm 132 #[sv_ v12, sv_ v14] (some 15) (Calls.mono h ?_)
     rintro _ w3 ⟨v15, rfl, h⟩
     refine ⟨_, rfl, ?_⟩
     refine Zf P2 [(4, .bool v15)] ?_
     change WpE _ _ c120_6 _ _ _
     refine wpE_ret (by kernel_rfl) ?_
     repeat (first | refine seqQ_ret ?_ | refine blockQ_ret ?_ | refine loopQ_ret ?_ | refine cutQ_ret ?_)
     exact retS (rs := [(ResultVar.tmp 4)]) (v := Value.bool v15) (by kernel_rfl) (⟨by kernel_rfl, trivial⟩) ⟨v15, rfl, h⟩
   · replace h := h.2 hb
     refine Zn [] 7 [(3, [], pv_ b_1), (10, [], .bool false), (11, [], undef)] ?_
     refine Zf [.skip, .skip, .skip, .skip, .plain, .plain] [(4, .bool false)] ?_
     change WpE _ _ c120_6 _ _ _
     refine wpE_ret (by kernel_rfl) ?_
     repeat (first | refine seqQ_ret ?_ | refine blockQ_ret ?_ | refine loopQ_ret ?_ | refine cutQ_ret ?_)
     exact retS (rs := [(ResultVar.tmp 4)]) (v := Value.bool false) (by kernel_rfl) (⟨by kernel_rfl, trivial⟩) ⟨false, rfl, h⟩
 · rintro e w' ⟨v, rfl, r0, rfl, h⟩; exact ⟨r0, rfl, h⟩

end
end Go.Proofs.Ytpedclhflmhakaa
