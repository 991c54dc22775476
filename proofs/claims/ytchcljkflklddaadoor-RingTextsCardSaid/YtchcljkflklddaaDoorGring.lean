/- WRITTEN BY PROGRAM (dec.py): for each Go function the clean formula F, the call's contract C, and the proof S that F gives C. -/
import Derived.Test.YtchcljkflklddaaDoorRows
import Derived.Test.YtchcljkflklddaaDoorGF
namespace Go.Proofs.YtchcljkflklddaaDoor
open Go
set_option linter.unusedVariables false
set_option maxRecDepth 100000
set_option maxHeartbeats 4000000
noncomputable section

/-! ### towpath/ring.New[string] (function 20) -/
def c20_0 := cb_ Tryd.f20
def c20_3 := cr_ c20_0
def c20_4 := cl_ c20_3
def c20_7 := cr_ c20_4
def c20_8 := cl_ c20_7
def c20_11 := cr_ c20_8
def c20_12 := cr_ c20_7
def c20_13 := cr_ c20_3
def c20_14 := cl_ c20_13
def r20_14 := co_ c20_14
def c20_16 := cr_ c20_13

theorem S_ring_New_string {capacity : Int} {w : World} {R : Option Addr → Int → World → Prop} (h : F_ring_New_string capacity R w) : C_ring_New_string capacity w R := by
 unfold F_ring_New_string at h
 unfold C_ring_New_string
 refine Calls.mono (calls_of_wpE (args := [Value.int .i64 capacity]) (R := fun v w' => ∃ (r0 : Option Addr) (r1 : Int), v = Value.tuple #[Value.pointer r0, Value.int .i64 r1] ∧ R r0 r1 w') Tryd.func20 (c := c20_0) (by kernel_rfl) 14 (by kernel_rfl) (by kernel_rfl) [(0, Value.int .i64 capacity)] (by kernel_rfl) ?_) ?_
 · refine Zp c20_3 P2 [(0, .int .i64 capacity)] ?_
   refine Zs c20_4 c20_13 ?_
   refine Zp c20_7 [.plain, .plain, .plain, .plain, .plain, .pick] [(0, .int .i64 capacity), (9, .bool ((decide (capacity < 1)) || (decide (capacity > 65536))))] ?_
   refine Zc 9 ((decide (capacity < 1)) || (decide (capacity > 65536))) c20_8 c20_12 (fun hb => ?_) (fun hb => ?_)
   · replace h := h.1 hb
     refine Zp c20_11 P2 [(2, .pointer none), (3, .int .i64 1)] ?_
     refine wpE_ret (by kernel_rfl) ?_
     repeat (first | refine seqQ_ret ?_ | refine blockQ_ret ?_ | refine loopQ_ret ?_ | refine cutQ_ret ?_)
     exact retT (rs := [(ResultVar.tmp 2), (ResultVar.tmp 3)]) (vs := [Value.pointer none, Value.int .i64 1]) (by kernel_rfl) (⟨by kernel_rfl, ⟨by kernel_rfl, trivial⟩⟩) (by kernel_rfl) ⟨none, 1, rfl, h⟩
   · replace h := h.2 hb
     refine wpE_skip (by kernel_rfl) ?_
     change WpE _ _ c20_13 _ _ _
     refine Zt r20_14 c20_16 ?_
     refine Zn P1 1 [(10, [], .int .i64 capacity)] ?_
     obtain ⟨h0, h1, h2, h⟩ := h
     refine reg_makeSlice (t := 82) (e := 9) (lo := (Operand.tmp 10)) (co := (Operand.tmp 10)) (l := capacity) (c := capacity) (sz := 1) (by_ := 16) (zs := [Value.string ByteArray.empty]) (ty := 82) (dst := some 11) (by kernel_rfl) (by kernel_rfl) (by kernel_rfl) (by kernel_rfl) (by kernel_rfl) (by kernel_rfl) (by kernel_rfl) (by kernel_rfl) (by kernel_rfl) h0 h1 h2 (fun b_ w1 hb hw => ?_)
     replace h := h b_ w1 hb hw
     clear hb hw
     refine Zn P1 3 [(12, [], .agg #[.slice (some ⟨b_, 0, none⟩) capacity.toNat capacity.toNat, .int .i64 0, .int .i64 0, .bool false])] ?_
     refine Zw (some 13) (fun bb => pv_ bb) (Obj.cells ([.slice (some ⟨b_, 0, none⟩) capacity.toNat capacity.toNat, .int .i64 0, .int .i64 0, .bool false]).toArray ty_ring_Ring_string (0, 0)) (fun b_1 w2 hb hw => ?_)
     replace h := h b_1 w2 hb hw
     clear hb hw
     refine Zf P2 [(2, pv_ b_1), (3, .int .i64 0)] ?_
     change WpE _ _ c20_16 _ _ _
     refine wpE_ret (by kernel_rfl) ?_
     repeat (first | refine seqQ_ret ?_ | refine blockQ_ret ?_ | refine loopQ_ret ?_ | refine cutQ_ret ?_)
     exact retT (rs := [(ResultVar.tmp 2), (ResultVar.tmp 3)]) (vs := [pv_ b_1, Value.int .i64 0]) (by kernel_rfl) (⟨by kernel_rfl, ⟨by kernel_rfl, trivial⟩⟩) (by kernel_rfl) ⟨(some ⟨b_1, 0, none⟩), 0, rfl, h⟩
 · rintro e w' ⟨v, rfl, r0, r1, rfl, h⟩; exact ⟨r0, r1, rfl, h⟩

/-! ### (*towpath/ring.Ring[string]).Take (function 22) -/
def c22_0 := cb_ Tryd.f22
def c22_3 := cr_ c22_0
def c22_4 := cl_ c22_3
def c22_5 := cl_ c22_4
def r22_5 := co_ c22_5
def c22_7 := cr_ c22_4
def c22_10 := cr_ c22_7
def c22_11 := cl_ c22_10
def c22_14 := cr_ c22_11
def c22_15 := cl_ c22_14
def r22_15 := co_ c22_15
def c22_17 := cr_ c22_14
def c22_18 := cl_ c22_17
def r22_18 := co_ c22_18
def c22_20 := cr_ c22_17
def r22_20 := co_ c22_20
def c22_22 := cr_ c22_10
def c22_23 := cr_ c22_3
def c22_26 := cr_ c22_23

theorem S_ring_Ring_string_Take {r : Option Addr} {w : World} {R : ByteArray → Bool → World → Prop} (h : F_ring_Ring_string_Take r R w) : C_ring_Ring_string_Take r w R := by
 unfold F_ring_Ring_string_Take at h
 unfold C_ring_Ring_string_Take
 refine Calls.mono (calls_of_wpE (args := [Value.pointer r]) (R := fun v w' => ∃ (r0 : ByteArray) (r1 : Bool), v = Value.tuple #[Value.string r0, Value.bool r1] ∧ R r0 r1 w') Tryd.func22 (c := c22_0) (by kernel_rfl) 44 (by kernel_rfl) (by kernel_rfl) [(0, Value.pointer r)] (by kernel_rfl) ?_) ?_
 · refine Zp c22_3 P2 [(0, .pointer r)] ?_
   refine wpE_seq_cut (x := c22_4) (y := c22_23) (by kernel_rfl) (fun l w => ∃ (x : ByteArray) (ok : Bool), l = [(2, Value.string x), (3, Value.bool ok)] ∧ F_ring_Ring_string_Take_k0 R x ok w) ?_ ?_
   · refine Zt r22_5 c22_7 ?_
     refine Zn P1 1 [(0, [], .pointer r), (6, [], .pointer r)] ?_
     refine Zm 68 #[.pointer r] (some 7) (Calls.mono h ?_)
     rintro _ w2 ⟨x1, ok1, rfl, h⟩
     refine ⟨_, rfl, ?_⟩
     refine Zf (Pl 5) [(0, .pointer r), (2, .string x1), (3, .bool ok1)] ?_
     change WpE _ _ c22_7 _ _ _
     refine Zp c22_10 P1 [(0, .pointer r), (2, .string x1), (3, .bool ok1), (10, .bool ok1)] ?_
     refine Zc 10 ok1 c22_11 c22_22 (fun hb => ?_) (fun hb => ?_)
     · replace h := h.1 hb
       refine Zp c22_14 P1 [(0, .pointer r), (2, .string x1), (3, .bool ok1), (4, .string ByteArray.empty)] ?_
       refine Zs c22_15 c22_17 ?_
       refine wpE_tailregion (id := 4) (ops := r22_15) (by kernel_rfl) 10 (by kernel_rfl) (by kernel_rfl) (fun w3 hw => ?_)
       replace h := h w3 hw
       clear hw
       refine qreg_run P1 1 [(0, [], Value.pointer r), (2, [], Value.string x1), (3, [], Value.bool ok1), (4, [], Value.string ByteArray.empty), (11, [], Value.pointer r)] (by kernel_rfl) (by kernel_rfl) ?_
       obtain ⟨hp_16, h⟩ := h
       refine qreg_conv [(0, [], Value.pointer r), (2, [], Value.string x1), (3, [], Value.bool ok1), (4, [], Value.string ByteArray.empty), (11, [], Value.pointer (some ⟨(pblk r), (poff r), none⟩))] (congrArg (fun pp => ([(0, [], Value.pointer r), (2, [], Value.string x1), (3, [], Value.bool ok1), (4, [], Value.string ByteArray.empty), (11, [], Value.pointer pp)] : GEnv)) hp_16) ?_
       refine qreg_run P1 2 [(0, [], Value.pointer r), (2, [], Value.string x1), (3, [], Value.bool ok1), (4, [], Value.string ByteArray.empty), (11, [], Value.pointer (some ⟨(pblk r), (poff r), none⟩)), (12, [], Value.pointer (some ⟨(pblk r), (poff r), none⟩))] (by kernel_rfl) (by kernel_rfl) ?_
       refine qreg_run P1 3 [(0, [], Value.pointer r), (2, [], Value.string x1), (3, [], Value.bool ok1), (4, [], Value.string ByteArray.empty), (13, [], Value.pointer (some ⟨(pblk r), (poff r), none⟩))] (by kernel_rfl) (by kernel_rfl) ?_
       obtain ⟨v14, hc, h⟩ := h
       refine qreg_load1 (t := 82) (a := (Operand.tmp 13)) (b := (pblk r)) (o := (poff r)) (ty := 82) (dst := some 14) (by kernel_rfl) (by kernel_rfl) (by kernel_rfl) hc ?_
       refine qreg_run P1 5 [(0, [], Value.pointer r), (2, [], Value.string x1), (3, [], Value.bool ok1), (4, [], Value.string ByteArray.empty), (14, [], sv_ v14), (15, [], Value.pointer r)] (by kernel_rfl) (by kernel_rfl) ?_
       obtain ⟨hp_17, h⟩ := h
       refine qreg_conv [(0, [], Value.pointer r), (2, [], Value.string x1), (3, [], Value.bool ok1), (4, [], Value.string ByteArray.empty), (14, [], sv_ v14), (15, [], Value.pointer (some ⟨(pblk r), (poff r), none⟩))] (congrArg (fun pp => ([(0, [], Value.pointer r), (2, [], Value.string x1), (3, [], Value.bool ok1), (4, [], Value.string ByteArray.empty), (14, [], sv_ v14), (15, [], Value.pointer pp)] : GEnv)) hp_17) ?_
       refine qreg_run P1 6 [(0, [], Value.pointer r), (2, [], Value.string x1), (3, [], Value.bool ok1), (4, [], Value.string ByteArray.empty), (14, [], sv_ v14), (15, [], Value.pointer (some ⟨(pblk r), (poff r), none⟩)), (16, [], Value.pointer (some ⟨(pblk r), (poff r), none⟩))] (by kernel_rfl) (by kernel_rfl) ?_
       refine qreg_run P1 7 [(0, [], Value.pointer r), (2, [], Value.string x1), (3, [], Value.bool ok1), (4, [], Value.string ByteArray.empty), (14, [], sv_ v14), (17, [], Value.pointer (some ⟨(pblk r), (poff r) + 1, none⟩))] (by kernel_rfl) (by kernel_rfl) ?_
       obtain ⟨v18, hc, h⟩ := h
       refine qreg_load1 (t := 3) (a := (Operand.tmp 17)) (b := (pblk r)) (o := ((poff r) + 1)) (ty := 3) (dst := some 18) (by kernel_rfl) (by kernel_rfl) (by kernel_rfl) hc ?_
       refine qreg_run P1 9 [(0, [], Value.pointer r), (2, [], Value.string x1), (3, [], Value.bool ok1), (14, [], sv_ v14), (18, [], Value.int .i64 v18), (19, [], Value.string ByteArray.empty)] (by kernel_rfl) (by kernel_rfl) ?_
       obtain ⟨hp_18, h⟩ := h
       refine qreg_conv [(0, [], Value.pointer r), (2, [], Value.string x1), (3, [], Value.bool ok1), (14, [], Value.slice (some ⟨(pblk v14.ptr), (poff v14.ptr), none⟩) v14.len v14.cap), (18, [], Value.int .i64 v18), (19, [], Value.string ByteArray.empty)] (congrArg (fun pp => ([(0, [], Value.pointer r), (2, [], Value.string x1), (3, [], Value.bool ok1), (14, [], Value.slice pp v14.len v14.cap), (18, [], Value.int .i64 v18), (19, [], Value.string ByteArray.empty)] : GEnv)) hp_18) ?_
       obtain ⟨h0, h1, h⟩ := h
       refine qreg_indexS1 (t := 82) (e := 9) (x := (Operand.tmp 14)) (ix := (Operand.tmp 18)) (b := (pblk v14.ptr)) (o := (poff v14.ptr)) (l := v14.len) (c := v14.cap) (k := .i64) (j := v18) (ty := 0) (dst := some 20) (by kernel_rfl) (by kernel_rfl) (by kernel_rfl) (by kernel_rfl) (by kernel_rfl) h0 h1 ?_
       refine qreg_run [] 10 [(0, [], Value.pointer r), (2, [], Value.string x1), (3, [], Value.bool ok1), (19, [], Value.string ByteArray.empty), (20, [], Value.pointer (some ⟨(pblk v14.ptr), (poff v14.ptr) + v18.toNat, none⟩))] (by kernel_rfl) (by kernel_rfl) ?_
       refine qreg_tail (by kernel_rfl) ?_
       refine Zn [] 10 [(0, [], .pointer r), (2, [], .string x1), (3, [], .bool ok1), (19, [], .string ByteArray.empty), (20, [], .pointer (some ⟨(pblk v14.ptr), (poff v14.ptr) + v18.toNat, none⟩))] ?_
       obtain ⟨hc, h⟩ := h
       refine Zo 9 20 19 (pblk v14.ptr) ((poff v14.ptr) + v18.toNat) 1 [.string ByteArray.empty] hc (fun w4 hw => ?_)
       replace h := h w4 hw
       clear hw
       refine Ze [(0, .pointer r), (2, .string x1), (3, .bool ok1)] ?_
       change WpE _ _ c22_17 _ _ _
       refine Zs c22_18 c22_20 ?_
       refine wpE_tailregion (id := 5) (ops := r22_18) (by kernel_rfl) 14 (by kernel_rfl) (by kernel_rfl) (fun w5 hw => ?_)
       replace h := h w5 hw
       clear hw
       refine qreg_run P2 2 [(0, [], Value.pointer r), (2, [], Value.string x1), (3, [], Value.bool ok1), (21, [], Value.pointer r), (22, [], Value.pointer r)] (by kernel_rfl) (by kernel_rfl) ?_
       obtain ⟨hp_22, h⟩ := h
       refine qreg_conv [(0, [], Value.pointer r), (2, [], Value.string x1), (3, [], Value.bool ok1), (21, [], Value.pointer r), (22, [], Value.pointer (some ⟨(pblk r), (poff r), none⟩))] (congrArg (fun pp => ([(0, [], Value.pointer r), (2, [], Value.string x1), (3, [], Value.bool ok1), (21, [], Value.pointer r), (22, [], Value.pointer pp)] : GEnv)) hp_22) ?_
       refine qreg_run P1 3 [(0, [], Value.pointer r), (2, [], Value.string x1), (3, [], Value.bool ok1), (21, [], Value.pointer r), (22, [], Value.pointer (some ⟨(pblk r), (poff r), none⟩)), (23, [], Value.pointer (some ⟨(pblk r), (poff r), none⟩))] (by kernel_rfl) (by kernel_rfl) ?_
       refine qreg_run P1 4 [(0, [], Value.pointer r), (2, [], Value.string x1), (3, [], Value.bool ok1), (21, [], Value.pointer r), (24, [], Value.pointer (some ⟨(pblk r), (poff r) + 1, none⟩))] (by kernel_rfl) (by kernel_rfl) ?_
       obtain ⟨v25, hc, h⟩ := h
       refine qreg_load1 (t := 3) (a := (Operand.tmp 24)) (b := (pblk r)) (o := ((poff r) + 1)) (ty := 3) (dst := some 25) (by kernel_rfl) (by kernel_rfl) (by kernel_rfl) hc ?_
       refine qreg_run P2 7 [(0, [], Value.pointer r), (2, [], Value.string x1), (3, [], Value.bool ok1), (21, [], Value.pointer r), (26, [], Value.int .i64 (IntKind.i64.wrap (v25 + 1))), (27, [], Value.pointer r)] (by kernel_rfl) (by kernel_rfl) ?_
       obtain ⟨hp_23, h⟩ := h
       refine qreg_conv [(0, [], Value.pointer r), (2, [], Value.string x1), (3, [], Value.bool ok1), (21, [], Value.pointer r), (26, [], Value.int .i64 (IntKind.i64.wrap (v25 + 1))), (27, [], Value.pointer (some ⟨(pblk r), (poff r), none⟩))] (congrArg (fun pp => ([(0, [], Value.pointer r), (2, [], Value.string x1), (3, [], Value.bool ok1), (21, [], Value.pointer r), (26, [], Value.int .i64 (IntKind.i64.wrap (v25 + 1))), (27, [], Value.pointer pp)] : GEnv)) hp_23) ?_
       refine qreg_run P1 8 [(0, [], Value.pointer r), (2, [], Value.string x1), (3, [], Value.bool ok1), (21, [], Value.pointer r), (26, [], Value.int .i64 (IntKind.i64.wrap (v25 + 1))), (27, [], Value.pointer (some ⟨(pblk r), (poff r), none⟩)), (28, [], Value.pointer (some ⟨(pblk r), (poff r), none⟩))] (by kernel_rfl) (by kernel_rfl) ?_
       refine qreg_run P1 9 [(0, [], Value.pointer r), (2, [], Value.string x1), (3, [], Value.bool ok1), (21, [], Value.pointer r), (26, [], Value.int .i64 (IntKind.i64.wrap (v25 + 1))), (29, [], Value.pointer (some ⟨(pblk r), (poff r), none⟩))] (by kernel_rfl) (by kernel_rfl) ?_
       obtain ⟨v30, hc, h⟩ := h
       refine qreg_load1 (t := 82) (a := (Operand.tmp 29)) (b := (pblk r)) (o := (poff r)) (ty := 82) (dst := some 30) (by kernel_rfl) (by kernel_rfl) (by kernel_rfl) hc ?_
       refine qreg_run P1 11 [(0, [], Value.pointer r), (2, [], Value.string x1), (3, [], Value.bool ok1), (21, [], Value.pointer r), (26, [], Value.int .i64 (IntKind.i64.wrap (v25 + 1))), (31, [], Value.int .i64 ((v30.len : Nat) : Int))] (by kernel_rfl) (by kernel_rfl) ?_
       obtain ⟨h0, h⟩ := h
       refine qreg_val (op := (Op.binOp BinOp.rem 3 (Operand.tmp 26) (Operand.tmp 31) 3)) (ty := 3) (dst := some 32) (Value.int .i64 (Int.tmod (IntKind.i64.wrap (v25 + 1)) ((v30.len : Nat) : Int))) (by kernel_rfl) (fun ww => run_rem (by kernel_rfl) (by kernel_rfl) h0 ww) ?_
       refine qreg_run [] 12 [(0, [], Value.pointer r), (2, [], Value.string x1), (3, [], Value.bool ok1), (21, [], Value.pointer r), (32, [], Value.int .i64 (Int.tmod (IntKind.i64.wrap (v25 + 1)) ((v30.len : Nat) : Int)))] (by kernel_rfl) (by kernel_rfl) ?_
       obtain ⟨hp_24, h⟩ := h
       refine qreg_conv [(0, [], Value.pointer r), (2, [], Value.string x1), (3, [], Value.bool ok1), (21, [], Value.pointer (some ⟨(pblk r), (poff r), none⟩)), (32, [], Value.int .i64 (Int.tmod (IntKind.i64.wrap (v25 + 1)) ((v30.len : Nat) : Int)))] (congrArg (fun pp => ([(0, [], Value.pointer r), (2, [], Value.string x1), (3, [], Value.bool ok1), (21, [], Value.pointer pp), (32, [], Value.int .i64 (Int.tmod (IntKind.i64.wrap (v25 + 1)) ((v30.len : Nat) : Int)))] : GEnv)) hp_24) ?_
       refine qreg_run P1 13 [(0, [], Value.pointer r), (2, [], Value.string x1), (3, [], Value.bool ok1), (21, [], Value.pointer (some ⟨(pblk r), (poff r), none⟩)), (32, [], Value.int .i64 (Int.tmod (IntKind.i64.wrap (v25 + 1)) ((v30.len : Nat) : Int))), (33, [], Value.pointer (some ⟨(pblk r), (poff r), none⟩))] (by kernel_rfl) (by kernel_rfl) ?_
       refine qreg_run P1 14 [(0, [], Value.pointer r), (2, [], Value.string x1), (3, [], Value.bool ok1), (32, [], Value.int .i64 (Int.tmod (IntKind.i64.wrap (v25 + 1)) ((v30.len : Nat) : Int))), (34, [], Value.pointer (some ⟨(pblk r), (poff r) + 1, none⟩))] (by kernel_rfl) (by kernel_rfl) ?_
       refine qreg_tail (by kernel_rfl) ?_
       refine Zn [] 14 [(0, [], .pointer r), (2, [], .string x1), (3, [], .bool ok1), (32, [], .int .i64 (Int.tmod (IntKind.i64.wrap (v25 + 1)) ((v30.len : Nat) : Int))), (34, [], .pointer (some ⟨(pblk r), (poff r) + 1, none⟩))] ?_
       obtain ⟨hc, h⟩ := h
       refine Zo 3 34 32 (pblk r) ((poff r) + 1) 1 [.int .i64 (Int.tmod (IntKind.i64.wrap (v25 + 1)) ((v30.len : Nat) : Int))] hc (fun w6 hw => ?_)
       replace h := h w6 hw
       clear hw
       refine Ze [(0, .pointer r), (2, .string x1), (3, .bool ok1)] ?_
       change WpE _ _ c22_20 _ _ _
       refine Zr r22_20 ?_
       refine Zn P1 1 [(2, [], .string x1), (3, [], .bool ok1), (35, [], .pointer r)] ?_
       obtain ⟨hp_25, h⟩ := h
       refine Zv (fun pp => [(2, [], .string x1), (3, [], .bool ok1), (35, [], .pointer pp)]) hp_25 ?_
       refine Zn P1 2 [(2, [], .string x1), (3, [], .bool ok1), (35, [], .pointer (some ⟨(pblk r), (poff r), none⟩)), (36, [], .pointer (some ⟨(pblk r), (poff r), none⟩))] ?_
       refine Zn P1 3 [(2, [], .string x1), (3, [], .bool ok1), (35, [], .pointer (some ⟨(pblk r), (poff r), none⟩)), (37, [], .pointer (some ⟨(pblk r), (poff r) + 2, none⟩))] ?_
       obtain ⟨v38, hc, h⟩ := h
       refine Zl 3 37 (pblk r) ((poff r) + 2) 3 38 hc ?_
       refine Zn P3 7 [(2, [], .string x1), (3, [], .bool ok1), (39, [], .int .i64 (IntKind.i64.wrap (v38 - 1))), (41, [], .pointer (some ⟨(pblk r), (poff r) + 2, none⟩))] ?_
       obtain ⟨hc, h⟩ := h
       refine Zo 3 41 39 (pblk r) ((poff r) + 2) 1 [.int .i64 (IntKind.i64.wrap (v38 - 1))] hc (fun w7 hw => ?_)
       replace h := h w7 hw
       clear hw
       refine Ze [(2, .string x1), (3, .bool ok1)] ?_
       exact ⟨[(2, Value.string x1), (3, Value.bool ok1)], Sub.mk (by kernel_rfl), x1, ok1, rfl, h⟩
     · replace h := h.2 hb
       refine wpE_skip (by kernel_rfl) ?_
       exact ⟨[(2, Value.string x1), (3, Value.bool ok1)], Sub.mk (by kernel_rfl), x1, ok1, rfl, h⟩
   · rintro _ w1 ⟨x, ok, rfl, h⟩
     unfold F_ring_Ring_string_Take_k0 at h
     refine Zp c22_26 P4 [(2, .string x), (3, .bool ok)] ?_
     refine wpE_ret (by kernel_rfl) ?_
     repeat (first | refine seqQ_ret ?_ | refine blockQ_ret ?_ | refine loopQ_ret ?_ | refine cutQ_ret ?_)
     exact retT (rs := [(ResultVar.tmp 2), (ResultVar.tmp 3)]) (vs := [Value.string x, Value.bool ok]) (by kernel_rfl) (⟨by kernel_rfl, ⟨by kernel_rfl, trivial⟩⟩) (by kernel_rfl) ⟨x, ok, rfl, h⟩
 · rintro e w' ⟨v, rfl, r0, r1, rfl, h⟩; exact ⟨r0, r1, rfl, h⟩

/-! ### (*towpath/ring.Ring[string]).Put (function 25) -/
def c25_0 := cb_ Tryd.f25
def c25_3 := cr_ c25_0
def c25_4 := cl_ c25_3
def c25_5 := cl_ c25_4
def r25_5 := co_ c25_5
def c25_7 := cr_ c25_4
def c25_8 := cl_ c25_7
def c25_11 := cr_ c25_8
def c25_12 := cr_ c25_7
def c25_13 := cr_ c25_3
def c25_14 := cl_ c25_13
def r25_14 := co_ c25_14
def c25_16 := cr_ c25_13
def c25_17 := cl_ c25_16
def r25_17 := co_ c25_17
def c25_19 := cr_ c25_16
def c25_22 := cr_ c25_19

theorem S_ring_Ring_string_Put {r : Option Addr} {x : ByteArray} {w : World} {R : Bool → World → Prop} (h : F_ring_Ring_string_Put r x R w) : C_ring_Ring_string_Put r x w R := by
 unfold F_ring_Ring_string_Put at h
 unfold C_ring_Ring_string_Put
 refine Calls.mono (calls_of_wpE (args := [Value.pointer r, Value.string x]) (R := fun v w' => ∃ (r0 : Bool), v = Value.bool r0 ∧ R r0 w') Tryd.func25 (c := c25_0) (by kernel_rfl) 36 (by kernel_rfl) (by kernel_rfl) [(0, Value.pointer r), (1, Value.string x)] (by kernel_rfl) ?_) ?_
 · refine Zp c25_3 P1 [(0, .pointer r), (1, .string x)] ?_
   refine Zs c25_4 c25_13 ?_
   refine Zt r25_5 c25_7 ?_
   refine Zn P1 1 [(0, [], .pointer r), (1, [], .string x), (5, [], .pointer r)] ?_
   refine Zm 71 #[.pointer r] (some 6) (Calls.mono h ?_)
   rintro _ w1 ⟨v6, rfl, h⟩
   refine ⟨_, rfl, ?_⟩
   refine Zf P1 [(0, .pointer r), (1, .string x), (7, .bool (v6 == 0))] ?_
   change WpE _ _ c25_7 _ _ _
   refine Zc 7 (v6 == 0) c25_8 c25_12 (fun hb => ?_) (fun hb => ?_)
   · replace h := h.1 hb
     refine Zp c25_11 P1 [(4, .bool false)] ?_
     refine wpE_ret (by kernel_rfl) ?_
     repeat (first | refine seqQ_ret ?_ | refine blockQ_ret ?_ | refine loopQ_ret ?_ | refine cutQ_ret ?_)
     exact retS (rs := [(ResultVar.tmp 4)]) (v := Value.bool false) (by kernel_rfl) (⟨by kernel_rfl, trivial⟩) ⟨false, rfl, h⟩
   · replace h := h.2 hb
     refine wpE_skip (by kernel_rfl) ?_
     change WpE _ _ c25_13 _ _ _
     refine Zs c25_14 c25_16 ?_
     refine wpE_tailregion (id := 3) (ops := r25_14) (by kernel_rfl) 21 (by kernel_rfl) (by kernel_rfl) (fun w2 hw => ?_)
     replace h := h w2 hw
     clear hw
     refine qreg_run P1 1 [(0, [], Value.pointer r), (1, [], Value.string x), (8, [], Value.pointer r)] (by kernel_rfl) (by kernel_rfl) ?_
     obtain ⟨hp_5, h⟩ := h
     refine qreg_conv [(0, [], Value.pointer r), (1, [], Value.string x), (8, [], Value.pointer (some ⟨(pblk r), (poff r), none⟩))] (congrArg (fun pp => ([(0, [], Value.pointer r), (1, [], Value.string x), (8, [], Value.pointer pp)] : GEnv)) hp_5) ?_
     refine qreg_run P1 2 [(0, [], Value.pointer r), (1, [], Value.string x), (8, [], Value.pointer (some ⟨(pblk r), (poff r), none⟩)), (9, [], Value.pointer (some ⟨(pblk r), (poff r), none⟩))] (by kernel_rfl) (by kernel_rfl) ?_
     refine qreg_run P1 3 [(0, [], Value.pointer r), (1, [], Value.string x), (10, [], Value.pointer (some ⟨(pblk r), (poff r), none⟩))] (by kernel_rfl) (by kernel_rfl) ?_
     obtain ⟨v11, hc, h⟩ := h
     refine qreg_load1 (t := 82) (a := (Operand.tmp 10)) (b := (pblk r)) (o := (poff r)) (ty := 82) (dst := some 11) (by kernel_rfl) (by kernel_rfl) (by kernel_rfl) hc ?_
     refine qreg_run P1 5 [(0, [], Value.pointer r), (1, [], Value.string x), (11, [], sv_ v11), (12, [], Value.pointer r)] (by kernel_rfl) (by kernel_rfl) ?_
     obtain ⟨hp_6, h⟩ := h
     refine qreg_conv [(0, [], Value.pointer r), (1, [], Value.string x), (11, [], sv_ v11), (12, [], Value.pointer (some ⟨(pblk r), (poff r), none⟩))] (congrArg (fun pp => ([(0, [], Value.pointer r), (1, [], Value.string x), (11, [], sv_ v11), (12, [], Value.pointer pp)] : GEnv)) hp_6) ?_
     refine qreg_run P1 6 [(0, [], Value.pointer r), (1, [], Value.string x), (11, [], sv_ v11), (12, [], Value.pointer (some ⟨(pblk r), (poff r), none⟩)), (13, [], Value.pointer (some ⟨(pblk r), (poff r), none⟩))] (by kernel_rfl) (by kernel_rfl) ?_
     refine qreg_run P1 7 [(0, [], Value.pointer r), (1, [], Value.string x), (11, [], sv_ v11), (14, [], Value.pointer (some ⟨(pblk r), (poff r) + 1, none⟩))] (by kernel_rfl) (by kernel_rfl) ?_
     obtain ⟨v15, hc, h⟩ := h
     refine qreg_load1 (t := 3) (a := (Operand.tmp 14)) (b := (pblk r)) (o := ((poff r) + 1)) (ty := 3) (dst := some 15) (by kernel_rfl) (by kernel_rfl) (by kernel_rfl) hc ?_
     refine qreg_run P1 9 [(0, [], Value.pointer r), (1, [], Value.string x), (11, [], sv_ v11), (15, [], Value.int .i64 v15), (16, [], Value.pointer r)] (by kernel_rfl) (by kernel_rfl) ?_
     obtain ⟨hp_7, h⟩ := h
     refine qreg_conv [(0, [], Value.pointer r), (1, [], Value.string x), (11, [], sv_ v11), (15, [], Value.int .i64 v15), (16, [], Value.pointer (some ⟨(pblk r), (poff r), none⟩))] (congrArg (fun pp => ([(0, [], Value.pointer r), (1, [], Value.string x), (11, [], sv_ v11), (15, [], Value.int .i64 v15), (16, [], Value.pointer pp)] : GEnv)) hp_7) ?_
     refine qreg_run P1 10 [(0, [], Value.pointer r), (1, [], Value.string x), (11, [], sv_ v11), (15, [], Value.int .i64 v15), (16, [], Value.pointer (some ⟨(pblk r), (poff r), none⟩)), (17, [], Value.pointer (some ⟨(pblk r), (poff r), none⟩))] (by kernel_rfl) (by kernel_rfl) ?_
     refine qreg_run P1 11 [(0, [], Value.pointer r), (1, [], Value.string x), (11, [], sv_ v11), (15, [], Value.int .i64 v15), (18, [], Value.pointer (some ⟨(pblk r), (poff r) + 2, none⟩))] (by kernel_rfl) (by kernel_rfl) ?_
     obtain ⟨v19, hc, h⟩ := h
     refine qreg_load1 (t := 3) (a := (Operand.tmp 18)) (b := (pblk r)) (o := ((poff r) + 2)) (ty := 3) (dst := some 19) (by kernel_rfl) (by kernel_rfl) (by kernel_rfl) hc ?_
     refine qreg_run P2 14 [(0, [], Value.pointer r), (1, [], Value.string x), (11, [], sv_ v11), (20, [], Value.int .i64 (IntKind.i64.wrap (v15 + v19))), (21, [], Value.pointer r)] (by kernel_rfl) (by kernel_rfl) ?_
     obtain ⟨hp_8, h⟩ := h
     refine qreg_conv [(0, [], Value.pointer r), (1, [], Value.string x), (11, [], sv_ v11), (20, [], Value.int .i64 (IntKind.i64.wrap (v15 + v19))), (21, [], Value.pointer (some ⟨(pblk r), (poff r), none⟩))] (congrArg (fun pp => ([(0, [], Value.pointer r), (1, [], Value.string x), (11, [], sv_ v11), (20, [], Value.int .i64 (IntKind.i64.wrap (v15 + v19))), (21, [], Value.pointer pp)] : GEnv)) hp_8) ?_
     refine qreg_run P1 15 [(0, [], Value.pointer r), (1, [], Value.string x), (11, [], sv_ v11), (20, [], Value.int .i64 (IntKind.i64.wrap (v15 + v19))), (21, [], Value.pointer (some ⟨(pblk r), (poff r), none⟩)), (22, [], Value.pointer (some ⟨(pblk r), (poff r), none⟩))] (by kernel_rfl) (by kernel_rfl) ?_
     refine qreg_run P1 16 [(0, [], Value.pointer r), (1, [], Value.string x), (11, [], sv_ v11), (20, [], Value.int .i64 (IntKind.i64.wrap (v15 + v19))), (23, [], Value.pointer (some ⟨(pblk r), (poff r), none⟩))] (by kernel_rfl) (by kernel_rfl) ?_
     obtain ⟨v24, hc, h⟩ := h
     refine qreg_load1 (t := 82) (a := (Operand.tmp 23)) (b := (pblk r)) (o := (poff r)) (ty := 82) (dst := some 24) (by kernel_rfl) (by kernel_rfl) (by kernel_rfl) hc ?_
     refine qreg_run P1 18 [(0, [], Value.pointer r), (1, [], Value.string x), (11, [], sv_ v11), (20, [], Value.int .i64 (IntKind.i64.wrap (v15 + v19))), (25, [], Value.int .i64 ((v24.len : Nat) : Int))] (by kernel_rfl) (by kernel_rfl) ?_
     obtain ⟨h0, h⟩ := h
     refine qreg_val (op := (Op.binOp BinOp.rem 3 (Operand.tmp 20) (Operand.tmp 25) 3)) (ty := 3) (dst := some 26) (Value.int .i64 (Int.tmod (IntKind.i64.wrap (v15 + v19)) ((v24.len : Nat) : Int))) (by kernel_rfl) (fun ww => run_rem (by kernel_rfl) (by kernel_rfl) h0 ww) ?_
     refine qreg_run P1 20 [(0, [], Value.pointer r), (11, [], sv_ v11), (26, [], Value.int .i64 (Int.tmod (IntKind.i64.wrap (v15 + v19)) ((v24.len : Nat) : Int))), (27, [], Value.string x)] (by kernel_rfl) (by kernel_rfl) ?_
     obtain ⟨hp_9, h⟩ := h
     refine qreg_conv [(0, [], Value.pointer r), (11, [], Value.slice (some ⟨(pblk v11.ptr), (poff v11.ptr), none⟩) v11.len v11.cap), (26, [], Value.int .i64 (Int.tmod (IntKind.i64.wrap (v15 + v19)) ((v24.len : Nat) : Int))), (27, [], Value.string x)] (congrArg (fun pp => ([(0, [], Value.pointer r), (11, [], Value.slice pp v11.len v11.cap), (26, [], Value.int .i64 (Int.tmod (IntKind.i64.wrap (v15 + v19)) ((v24.len : Nat) : Int))), (27, [], Value.string x)] : GEnv)) hp_9) ?_
     obtain ⟨h0, h1, h⟩ := h
     refine qreg_indexS1 (t := 82) (e := 9) (x := (Operand.tmp 11)) (ix := (Operand.tmp 26)) (b := (pblk v11.ptr)) (o := (poff v11.ptr)) (l := v11.len) (c := v11.cap) (k := .i64) (j := (Int.tmod (IntKind.i64.wrap (v15 + v19)) ((v24.len : Nat) : Int))) (ty := 0) (dst := some 28) (by kernel_rfl) (by kernel_rfl) (by kernel_rfl) (by kernel_rfl) (by kernel_rfl) h0 h1 ?_
     refine qreg_run [] 21 [(0, [], Value.pointer r), (27, [], Value.string x), (28, [], Value.pointer (some ⟨(pblk v11.ptr), (poff v11.ptr) + (Int.tmod (IntKind.i64.wrap (v15 + v19)) ((v24.len : Nat) : Int)).toNat, none⟩))] (by kernel_rfl) (by kernel_rfl) ?_
     refine qreg_tail (by kernel_rfl) ?_
     refine Zn [] 21 [(0, [], .pointer r), (27, [], .string x), (28, [], .pointer (some ⟨(pblk v11.ptr), (poff v11.ptr) + (Int.tmod (IntKind.i64.wrap (v15 + v19)) ((v24.len : Nat) : Int)).toNat, none⟩))] ?_
     obtain ⟨hc, h⟩ := h
     refine Zo 9 28 27 (pblk v11.ptr) ((poff v11.ptr) + (Int.tmod (IntKind.i64.wrap (v15 + v19)) ((v24.len : Nat) : Int)).toNat) 1 [.string x] hc (fun w3 hw => ?_)
     replace h := h w3 hw
     clear hw
     refine Ze [(0, .pointer r)] ?_
     change WpE _ _ c25_16 _ _ _
     refine Zt r25_17 c25_19 ?_
     refine Zn P1 1 [(29, [], .pointer r)] ?_
     obtain ⟨hp_11, h⟩ := h
     refine Zv (fun pp => [(29, [], .pointer pp)]) hp_11 ?_
     refine Zn P1 2 [(29, [], .pointer (some ⟨(pblk r), (poff r), none⟩)), (30, [], .pointer (some ⟨(pblk r), (poff r), none⟩))] ?_
     refine Zn P1 3 [(29, [], .pointer (some ⟨(pblk r), (poff r), none⟩)), (31, [], .pointer (some ⟨(pblk r), (poff r) + 2, none⟩))] ?_
     obtain ⟨v32, hc, h⟩ := h
     refine Zl 3 31 (pblk r) ((poff r) + 2) 3 32 hc ?_
     refine Zn P3 7 [(33, [], .int .i64 (IntKind.i64.wrap (v32 + 1))), (35, [], .pointer (some ⟨(pblk r), (poff r) + 2, none⟩))] ?_
     obtain ⟨hc, h⟩ := h
     refine Zo 3 35 33 (pblk r) ((poff r) + 2) 1 [.int .i64 (IntKind.i64.wrap (v32 + 1))] hc (fun w4 hw => ?_)
     replace h := h w4 hw
     clear hw
     refine Ze [] ?_
     change WpE _ _ c25_19 _ _ _
     refine Zp c25_22 P1 [(4, .bool true)] ?_
     refine wpE_ret (by kernel_rfl) ?_
     repeat (first | refine seqQ_ret ?_ | refine blockQ_ret ?_ | refine loopQ_ret ?_ | refine cutQ_ret ?_)
     exact retS (rs := [(ResultVar.tmp 4)]) (v := Value.bool true) (by kernel_rfl) (⟨by kernel_rfl, trivial⟩) ⟨true, rfl, h⟩
 · rintro e w' ⟨v, rfl, r0, rfl, h⟩; exact ⟨r0, rfl, h⟩

/-! ### (*towpath/ring.Ring[string]).All (function 28) -/
def c28_0 := cb_ Tryd.f28
def c28_1 := cl_ c28_0
def r28_1 := co_ c28_1
def c28_3 := cr_ c28_0
def c28_6 := cr_ c28_3

theorem S_ring_Ring_string_All {r : Option Addr} {w : World} {R : Value → World → Prop} (h : F_ring_Ring_string_All r R w) : C_ring_Ring_string_All r w R := by
 unfold F_ring_Ring_string_All at h
 unfold C_ring_Ring_string_All
 refine Calls.mono (calls_of_wpE (args := [Value.pointer r]) (R := fun v w' => ∃ (r0 : Value), v = r0 ∧ R r0 w') Tryd.func28 (c := c28_0) (by kernel_rfl) 4 (by kernel_rfl) (by kernel_rfl) [(0, Value.pointer r)] (by kernel_rfl) ?_) ?_
 · refine Zt r28_1 c28_3 ?_
   refine Zn [] 0 [(0, [], .pointer r)] ?_
   refine Zw (some 1) (fun bb => pv_ bb) (Obj.cells ([.pointer r]).toArray ty_ptr_ring_Ring_string (0, 0)) (fun b_ w1 hb hw => ?_)
   replace h := h b_ w1 hb hw
   clear hb hw
   refine Zf P1 [(1, pv_ b_)] ?_
   change WpE _ _ c28_3 _ _ _
   refine Zp c28_6 P2 [(2, .func (.func 72) #[] #[pv_ b_])] ?_
   refine wpE_ret (by kernel_rfl) ?_
   repeat (first | refine seqQ_ret ?_ | refine blockQ_ret ?_ | refine loopQ_ret ?_ | refine cutQ_ret ?_)
   exact retS (rs := [(ResultVar.tmp 2)]) (v := Value.func (.func 72) #[] #[pv_ b_]) (by kernel_rfl) (⟨by kernel_rfl, trivial⟩) ⟨(Value.func (.func 72) #[] #[pv_ b_]), rfl, h⟩
 · rintro e w' ⟨v, rfl, r0, rfl, h⟩; exact ⟨_, rfl, h⟩

/-! ### (*towpath/ring.Ring[string]).First (function 68) -/
def c68_0 := cb_ Tryd.f68
def c68_3 := cr_ c68_0
def c68_4 := cl_ c68_3
def c68_5 := cl_ c68_4
def r68_5 := co_ c68_5
def c68_7 := cr_ c68_4
def c68_8 := cl_ c68_7
def c68_11 := cr_ c68_8
def c68_12 := cr_ c68_7
def c68_13 := cr_ c68_3
def c68_14 := cl_ c68_13
def r68_14 := co_ c68_14
def c68_16 := cr_ c68_13

theorem S_ring_Ring_string_First {r : Option Addr} {w : World} {R : ByteArray → Bool → World → Prop} (h : F_ring_Ring_string_First r R w) : C_ring_Ring_string_First r w R := by
 unfold F_ring_Ring_string_First at h
 unfold C_ring_Ring_string_First
 refine Calls.mono (calls_of_wpE (args := [Value.pointer r]) (R := fun v w' => ∃ (r0 : ByteArray) (r1 : Bool), v = Value.tuple #[Value.string r0, Value.bool r1] ∧ R r0 r1 w') Tryd.func68 (c := c68_0) (by kernel_rfl) 18 (by kernel_rfl) (by kernel_rfl) [(0, Value.pointer r)] (by kernel_rfl) ?_) ?_
 · refine Zp c68_3 P2 [(0, .pointer r), (2, .string ByteArray.empty)] ?_
   refine Zs c68_4 c68_13 ?_
   refine Zt r68_5 c68_7 ?_
   refine Zn P1 1 [(0, [], .pointer r), (2, [], .string ByteArray.empty), (4, [], .pointer r)] ?_
   refine Zm 96 #[.pointer r] (some 5) (Calls.mono h ?_)
   rintro _ w1 ⟨v5, rfl, h⟩
   refine ⟨_, rfl, ?_⟩
   refine Zf P1 [(0, .pointer r), (2, .string ByteArray.empty), (6, .bool (v5 == 0))] ?_
   change WpE _ _ c68_7 _ _ _
   refine Zc 6 (v5 == 0) c68_8 c68_12 (fun hb => ?_) (fun hb => ?_)
   · replace h := h.1 hb
     refine Zp c68_11 P3 [(2, .string ByteArray.empty), (3, .bool false)] ?_
     refine wpE_ret (by kernel_rfl) ?_
     repeat (first | refine seqQ_ret ?_ | refine blockQ_ret ?_ | refine loopQ_ret ?_ | refine cutQ_ret ?_)
     exact retT (rs := [(ResultVar.tmp 2), (ResultVar.tmp 3)]) (vs := [Value.string ByteArray.empty, Value.bool false]) (by kernel_rfl) (⟨by kernel_rfl, ⟨by kernel_rfl, trivial⟩⟩) (by kernel_rfl) ⟨ByteArray.empty, false, rfl, h⟩
   · replace h := h.2 hb
     refine wpE_skip (by kernel_rfl) ?_
     change WpE _ _ c68_13 _ _ _
     refine Zs c68_14 c68_16 ?_
     refine wpE_drawregion (id := 3) (ops := r68_14) (by kernel_rfl) (by kernel_rfl) (by kernel_rfl) ?_
     refine qreg_run P1 1 [(0, [], Value.pointer r), (2, [], Value.string ByteArray.empty), (8, [], Value.pointer r)] (by kernel_rfl) (by kernel_rfl) ?_
     obtain ⟨hp_0, h⟩ := h
     refine qreg_conv [(0, [], Value.pointer r), (2, [], Value.string ByteArray.empty), (8, [], Value.pointer (some ⟨(pblk r), (poff r), none⟩))] (congrArg (fun pp => ([(0, [], Value.pointer r), (2, [], Value.string ByteArray.empty), (8, [], Value.pointer pp)] : GEnv)) hp_0) ?_
     refine qreg_run P1 2 [(0, [], Value.pointer r), (2, [], Value.string ByteArray.empty), (8, [], Value.pointer (some ⟨(pblk r), (poff r), none⟩)), (9, [], Value.pointer (some ⟨(pblk r), (poff r), none⟩))] (by kernel_rfl) (by kernel_rfl) ?_
     refine qreg_run P1 3 [(0, [], Value.pointer r), (2, [], Value.string ByteArray.empty), (10, [], Value.pointer (some ⟨(pblk r), (poff r), none⟩))] (by kernel_rfl) (by kernel_rfl) ?_
     obtain ⟨v11, hc, h⟩ := h
     refine qreg_load1 (t := 82) (a := (Operand.tmp 10)) (b := (pblk r)) (o := (poff r)) (ty := 82) (dst := some 11) (by kernel_rfl) (by kernel_rfl) (by kernel_rfl) hc ?_
     refine qreg_run P1 5 [(2, [], Value.string ByteArray.empty), (11, [], sv_ v11), (12, [], Value.pointer r)] (by kernel_rfl) (by kernel_rfl) ?_
     obtain ⟨hp_1, h⟩ := h
     refine qreg_conv [(2, [], Value.string ByteArray.empty), (11, [], sv_ v11), (12, [], Value.pointer (some ⟨(pblk r), (poff r), none⟩))] (congrArg (fun pp => ([(2, [], Value.string ByteArray.empty), (11, [], sv_ v11), (12, [], Value.pointer pp)] : GEnv)) hp_1) ?_
     refine qreg_run P1 6 [(2, [], Value.string ByteArray.empty), (11, [], sv_ v11), (12, [], Value.pointer (some ⟨(pblk r), (poff r), none⟩)), (13, [], Value.pointer (some ⟨(pblk r), (poff r), none⟩))] (by kernel_rfl) (by kernel_rfl) ?_
     refine qreg_run P1 7 [(2, [], Value.string ByteArray.empty), (11, [], sv_ v11), (14, [], Value.pointer (some ⟨(pblk r), (poff r) + 1, none⟩))] (by kernel_rfl) (by kernel_rfl) ?_
     obtain ⟨v15, hc, h⟩ := h
     refine qreg_load1 (t := 3) (a := (Operand.tmp 14)) (b := (pblk r)) (o := ((poff r) + 1)) (ty := 3) (dst := some 15) (by kernel_rfl) (by kernel_rfl) (by kernel_rfl) hc ?_
     refine qreg_run [] 8 [(2, [], Value.string ByteArray.empty), (11, [], sv_ v11), (15, [], Value.int .i64 v15)] (by kernel_rfl) (by kernel_rfl) ?_
     obtain ⟨hp_2, h⟩ := h
     refine qreg_conv [(2, [], Value.string ByteArray.empty), (11, [], Value.slice (some ⟨(pblk v11.ptr), (poff v11.ptr), none⟩) v11.len v11.cap), (15, [], Value.int .i64 v15)] (congrArg (fun pp => ([(2, [], Value.string ByteArray.empty), (11, [], Value.slice pp v11.len v11.cap), (15, [], Value.int .i64 v15)] : GEnv)) hp_2) ?_
     obtain ⟨h0, h1, h⟩ := h
     refine qreg_indexS1 (t := 82) (e := 9) (x := (Operand.tmp 11)) (ix := (Operand.tmp 15)) (b := (pblk v11.ptr)) (o := (poff v11.ptr)) (l := v11.len) (c := v11.cap) (k := .i64) (j := v15) (ty := 0) (dst := some 16) (by kernel_rfl) (by kernel_rfl) (by kernel_rfl) (by kernel_rfl) (by kernel_rfl) h0 h1 ?_
     refine qreg_run [] 9 [(2, [], Value.string ByteArray.empty), (16, [], Value.pointer (some ⟨(pblk v11.ptr), (poff v11.ptr) + v15.toNat, none⟩))] (by kernel_rfl) (by kernel_rfl) ?_
     obtain ⟨x, hc, h⟩ := h
     refine qreg_load1 (t := 9) (a := (Operand.tmp 16)) (b := (pblk v11.ptr)) (o := ((poff v11.ptr) + v15.toNat)) (ty := 9) (dst := some 17) (by kernel_rfl) (by kernel_rfl) (by kernel_rfl) hc ?_
     refine qreg_run P2 12 [(2, [], Value.string x), (3, [], Value.bool true)] (by kernel_rfl) (by kernel_rfl) ?_
     refine qreg_end [(2, Value.string x), (3, Value.bool true)] (by kernel_rfl) (by kernel_rfl) (fun w2 hw => ?_)
     replace h := h w2 hw
     clear hw
     change WpE _ _ c68_16 _ _ _
     refine wpE_ret (by kernel_rfl) ?_
     repeat (first | refine seqQ_ret ?_ | refine blockQ_ret ?_ | refine loopQ_ret ?_ | refine cutQ_ret ?_)
     exact retT (rs := [(ResultVar.tmp 2), (ResultVar.tmp 3)]) (vs := [Value.string x, Value.bool true]) (by kernel_rfl) (⟨by kernel_rfl, ⟨by kernel_rfl, trivial⟩⟩) (by kernel_rfl) ⟨x, true, rfl, h⟩
 · rintro e w' ⟨v, rfl, r0, r1, rfl, h⟩; exact ⟨r0, r1, rfl, h⟩

/-! ### (*towpath/ring.Ring[string]).Room (function 71) -/
def c71_0 := cb_ Tryd.f71
def c71_3 := cr_ c71_0
def c71_4 := cl_ c71_3
def c71_5 := cl_ c71_4
def r71_5 := co_ c71_5
def c71_7 := cr_ c71_4
def c71_8 := cl_ c71_7
def c71_11 := cr_ c71_8
def c71_12 := cr_ c71_7
def c71_13 := cr_ c71_3
def c71_14 := cl_ c71_13
def r71_14 := co_ c71_14
def c71_16 := cr_ c71_13

theorem S_ring_Ring_string_Room {r : Option Addr} {w : World} {R : Int → World → Prop} (h : F_ring_Ring_string_Room r R w) : C_ring_Ring_string_Room r w R := by
 unfold F_ring_Ring_string_Room at h
 unfold C_ring_Ring_string_Room
 refine Calls.mono (calls_of_wpE (args := [Value.pointer r]) (R := fun v w' => ∃ (r0 : Int), v = Value.int .i64 r0 ∧ R r0 w') Tryd.func71 (c := c71_0) (by kernel_rfl) 21 (by kernel_rfl) (by kernel_rfl) [(0, Value.pointer r)] (by kernel_rfl) ?_) ?_
 · refine Zp c71_3 P1 [(0, .pointer r)] ?_
   refine Zs c71_4 c71_13 ?_
   refine wpE_seq_cut (x := c71_5) (y := c71_7) (by kernel_rfl) (fun l w => ∃ (t10 : Bool), l = [(0, Value.pointer r), (10, Value.bool t10)] ∧ F_ring_Ring_string_Room_k0 r R t10 w) ?_ ?_
   · refine Zr r71_5 ?_
     refine Zn P1 1 [(0, [], .pointer r), (3, [], .pointer r)] ?_
     refine Zm 98 #[.pointer r] (some 4) (Calls.mono h ?_)
     rintro _ w3 ⟨v4, rfl, h⟩
     refine ⟨_, rfl, ?_⟩
     refine Zn P2 4 [(0, [], .pointer r), (5, [], .bool v4), (6, [(5, false)], .pointer r)] ?_
     refine reg_split 5 v4 (by kernel_rfl) (fun hb => ?_) (fun hb => ?_)
     · replace h := h.1 hb
       refine Zn [] 4 [(0, [], .pointer r), (5, [], .bool true), (6, [], undef)] ?_
       refine Zf [.skip, .skip, .skip, .plain] [(0, .pointer r), (10, .bool true)] ?_
       exact ⟨[(0, Value.pointer r), (10, Value.bool true)], Sub.mk (by kernel_rfl), true, rfl, h⟩
     · replace h := h.2 hb
       refine Zn [] 4 [(0, [], .pointer r), (5, [], .bool false), (6, [], .pointer r)] ?_
       refine Zn [] 4 [(0, [], .pointer r), (5, [], .bool false), (6, [], .pointer r)] ?_
       obtain ⟨hp_5, h⟩ := h
       refine Zv (fun pp => [(0, [], .pointer r), (5, [], .bool false), (6, [], .pointer pp)]) hp_5 ?_
       refine Zn [.sure] 5 [(0, [], .pointer r), (5, [], .bool false), (6, [], .pointer (some ⟨(pblk r), (poff r), none⟩)), (7, [], .pointer (some ⟨(pblk r), (poff r), none⟩))] ?_
       refine Zn [.sure] 6 [(0, [], .pointer r), (5, [], .bool false), (8, [], .pointer (some ⟨(pblk r), (poff r) + 3, none⟩))] ?_
       obtain ⟨v9, hc, h⟩ := h
       refine Zl 4 8 (pblk r) ((poff r) + 3) 4 9 hc ?_
       refine Zf P1 [(0, .pointer r), (10, .bool v9)] ?_
       exact ⟨[(0, Value.pointer r), (10, Value.bool v9)], Sub.mk (by kernel_rfl), v9, rfl, h⟩
   · rintro _ w1 ⟨t10, rfl, h⟩
     unfold F_ring_Ring_string_Room_k0 at h
     refine Zc 10 t10 c71_8 c71_12 (fun hb => ?_) (fun hb => ?_)
     · replace h := h.1 hb
       refine Zp c71_11 P1 [(2, .int .i64 0)] ?_
       refine wpE_ret (by kernel_rfl) ?_
       repeat (first | refine seqQ_ret ?_ | refine blockQ_ret ?_ | refine loopQ_ret ?_ | refine cutQ_ret ?_)
       exact retS (rs := [(ResultVar.tmp 2)]) (v := Value.int .i64 0) (by kernel_rfl) (⟨by kernel_rfl, trivial⟩) ⟨0, rfl, h⟩
     · replace h := h.2 hb
       refine wpE_skip (by kernel_rfl) ?_
       change WpE _ _ c71_13 _ _ _
       refine Zs c71_14 c71_16 ?_
       refine wpE_drawregion (id := 3) (ops := r71_14) (by kernel_rfl) (by kernel_rfl) (by kernel_rfl) ?_
       refine qreg_run P1 1 [(0, [], Value.pointer r), (11, [], Value.pointer r)] (by kernel_rfl) (by kernel_rfl) ?_
       obtain ⟨hp_3, h⟩ := h
       refine qreg_conv [(0, [], Value.pointer r), (11, [], Value.pointer (some ⟨(pblk r), (poff r), none⟩))] (congrArg (fun pp => ([(0, [], Value.pointer r), (11, [], Value.pointer pp)] : GEnv)) hp_3) ?_
       refine qreg_run P1 2 [(0, [], Value.pointer r), (11, [], Value.pointer (some ⟨(pblk r), (poff r), none⟩)), (12, [], Value.pointer (some ⟨(pblk r), (poff r), none⟩))] (by kernel_rfl) (by kernel_rfl) ?_
       refine qreg_run P1 3 [(0, [], Value.pointer r), (13, [], Value.pointer (some ⟨(pblk r), (poff r), none⟩))] (by kernel_rfl) (by kernel_rfl) ?_
       obtain ⟨v14, hc, h⟩ := h
       refine qreg_load1 (t := 82) (a := (Operand.tmp 13)) (b := (pblk r)) (o := (poff r)) (ty := 82) (dst := some 14) (by kernel_rfl) (by kernel_rfl) (by kernel_rfl) hc ?_
       refine qreg_run P2 6 [(15, [], Value.int .i64 ((v14.len : Nat) : Int)), (16, [], Value.pointer r)] (by kernel_rfl) (by kernel_rfl) ?_
       obtain ⟨hp_4, h⟩ := h
       refine qreg_conv [(15, [], Value.int .i64 ((v14.len : Nat) : Int)), (16, [], Value.pointer (some ⟨(pblk r), (poff r), none⟩))] (congrArg (fun pp => ([(15, [], Value.int .i64 ((v14.len : Nat) : Int)), (16, [], Value.pointer pp)] : GEnv)) hp_4) ?_
       refine qreg_run P1 7 [(15, [], Value.int .i64 ((v14.len : Nat) : Int)), (16, [], Value.pointer (some ⟨(pblk r), (poff r), none⟩)), (17, [], Value.pointer (some ⟨(pblk r), (poff r), none⟩))] (by kernel_rfl) (by kernel_rfl) ?_
       refine qreg_run P1 8 [(15, [], Value.int .i64 ((v14.len : Nat) : Int)), (18, [], Value.pointer (some ⟨(pblk r), (poff r) + 2, none⟩))] (by kernel_rfl) (by kernel_rfl) ?_
       obtain ⟨v19, hc, h⟩ := h
       refine qreg_load1 (t := 3) (a := (Operand.tmp 18)) (b := (pblk r)) (o := ((poff r) + 2)) (ty := 3) (dst := some 19) (by kernel_rfl) (by kernel_rfl) (by kernel_rfl) hc ?_
       refine qreg_run P2 11 [(2, [], Value.int .i64 (IntKind.i64.wrap (((v14.len : Nat) : Int) - v19)))] (by kernel_rfl) (by kernel_rfl) ?_
       refine qreg_end [(2, Value.int .i64 (IntKind.i64.wrap (((v14.len : Nat) : Int) - v19)))] (by kernel_rfl) (by kernel_rfl) (fun w2 hw => ?_)
       replace h := h w2 hw
       clear hw
       change WpE _ _ c71_16 _ _ _
       refine wpE_ret (by kernel_rfl) ?_
       repeat (first | refine seqQ_ret ?_ | refine blockQ_ret ?_ | refine loopQ_ret ?_ | refine cutQ_ret ?_)
       exact retS (rs := [(ResultVar.tmp 2)]) (v := Value.int .i64 (IntKind.i64.wrap (((v14.len : Nat) : Int) - v19))) (by kernel_rfl) (⟨by kernel_rfl, trivial⟩) ⟨(IntKind.i64.wrap (((v14.len : Nat) : Int) - v19)), rfl, h⟩
 · rintro e w' ⟨v, rfl, r0, rfl, h⟩; exact ⟨r0, rfl, h⟩

/-! ### (*towpath/ring.Ring[string]).All$1 (function 72) -/
def c72_0 := cb_ Tryd.f72
def c72_1 := cl_ c72_0
def r72_1 := co_ c72_1
def c72_3 := cr_ c72_0
def c72_4 := cl_ c72_3
def c72_5 := cl_ c72_4
def c72_8 := cr_ c72_5
def c72_9 := cl_ c72_8
def c72_10 := cl_ c72_9
def c72_11 := cr_ c72_9
def c72_12 := cr_ c72_8
def c72_13 := cl_ c72_12
def c72_14 := cl_ c72_13
def c72_15 := cl_ c72_14
def r72_15 := co_ c72_15
def c72_17 := cr_ c72_14
def c72_18 := cl_ c72_17
def r72_18 := co_ c72_18
def c72_20 := cr_ c72_17
def c72_21 := cl_ c72_20
def c72_22 := cr_ c72_20
def c72_23 := cr_ c72_12
def r72_23 := co_ c72_23

theorem S_ring_Ring_string_All_1 {yield : Value} {t1 : Option Addr} {w : World} {R : World → Prop} (h : F_ring_Ring_string_All_1 yield t1 R w) : C_ring_Ring_string_All_1 yield t1 w R := by
 unfold F_ring_Ring_string_All_1 at h
 unfold C_ring_Ring_string_All_1
 refine Calls.mono (calls_of_wpY (args := [yield, Value.pointer t1]) (R := fun v w' => v = Value.tuple #[] ∧ R w') Tryd.func72 (c := c72_0) (by kernel_rfl) 17 (by kernel_rfl) (by kernel_rfl) [(0, yield), (1, Value.pointer t1)] (by kernel_rfl) ?_) ?_
 · letI : Rnd := rndY Tryd.prog Tryd.f72 (fun v w' => v = Value.tuple #[] ∧ R w')
   refine Zt r72_1 c72_3 ?_
   refine Zn [] 0 [(0, [], yield), (1, [], .pointer t1)] ?_
   obtain ⟨hp_1, h⟩ := h
   refine Zv (fun pp => [(0, [], yield), (1, [], .pointer pp)]) hp_1 ?_
   obtain ⟨v5, hc, h⟩ := h
   refine Zl 59 1 (pblk t1) (poff t1) 59 5 hc ?_
   refine Zn [] 1 [(0, [], yield), (5, [], .pointer v5)] ?_
   refine Zm 73 #[.pointer v5] (some 6) (Calls.mono h ?_)
   rintro _ w1 ⟨v6, rfl, h⟩
   refine ⟨_, rfl, ?_⟩
   refine Zf P2 [(0, yield), (6, sv_ v6), (7, .int .i64 ((v6.len : Nat) : Int)), (8, .int .i64 0)] ?_
   change WpE _ _ c72_3 _ _ _
   refine Zb 0 c72_4 ?_
   obtain ⟨I, μ, h0, hr⟩ := h
   refine wpE_loop (x := c72_5) (by kernel_rfl) (fun m l w => ∃ (t8 : Int), l = [(0, yield), (6, sv_ v6), (7, Value.int .i64 ((v6.len : Nat) : Int)), (8, Value.int .i64 t8)] ∧ I t8 w ∧ μ t8 w = m) (l' := [(0, yield), (6, sv_ v6), (7, Value.int .i64 ((v6.len : Nat) : Int)), (8, Value.int .i64 0)]) (Sub.mk (by kernel_rfl)) ⟨0, rfl, h0, rfl⟩ ?_
   rintro _ _ w2 ⟨t8, rfl, hI, rfl⟩
   obtain ⟨again_, again__h, h⟩ : ∃ again_ : Int → World → Prop, (∀ t8' w', again_ t8' w' → I t8' w' ∧ μ t8' w' < μ t8 w2) ∧ F_ring_Ring_string_All_1_L0 yield R v6 again_ t8 w2 := ⟨_, fun _ _ h => h, hr t8 w2 hI⟩
   clear h0 hI
   unfold F_ring_Ring_string_All_1_L0 at h
   refine Zp c72_8 P1 [(0, yield), (6, sv_ v6), (7, .int .i64 ((v6.len : Nat) : Int)), (8, .int .i64 t8), (9, .bool (decide (t8 < ((v6.len : Nat) : Int))))] ?_
   refine Zs c72_9 c72_12 ?_
   refine Zc 9 (decide (t8 < ((v6.len : Nat) : Int))) c72_10 c72_11 (fun hb => ?_) (fun hb => ?_)
   · replace h := h.1 hb
     refine wpE_skip (by kernel_rfl) ?_
     change WpE _ _ c72_12 _ _ _
     refine Zs c72_13 c72_23 ?_
     refine Zb 1 c72_14 ?_
     refine Zt r72_15 c72_17 ?_
     refine Zn [] 0 [(0, [], yield), (6, [], sv_ v6), (7, [], .int .i64 ((v6.len : Nat) : Int)), (8, [], .int .i64 t8)] ?_
     obtain ⟨hp_5, h⟩ := h
     refine Zv (fun pp => [(0, [], yield), (6, [], .slice pp v6.len v6.cap), (7, [], .int .i64 ((v6.len : Nat) : Int)), (8, [], .int .i64 t8)]) hp_5 ?_
     obtain ⟨h0, h1, h⟩ := h
     refine Zi 82 9 6 8 (pblk v6.ptr) (poff v6.ptr) v6.len v6.cap t8 10 0 h0 h1 ?_
     refine Zn [] 1 [(0, [], yield), (6, [], .slice (some ⟨(pblk v6.ptr), (poff v6.ptr), none⟩) v6.len v6.cap), (7, [], .int .i64 ((v6.len : Nat) : Int)), (8, [], .int .i64 t8), (10, [], .pointer (some ⟨(pblk v6.ptr), (poff v6.ptr) + t8.toNat, none⟩))] ?_
     obtain ⟨x, hc, h⟩ := h
     refine Zl 9 10 (pblk v6.ptr) ((poff v6.ptr) + t8.toNat) 9 11 hc ?_
     refine Zn P1 3 [(0, [], yield), (4, [], .string x), (6, [], .slice (some ⟨(pblk v6.ptr), (poff v6.ptr), none⟩) v6.len v6.cap), (7, [], .int .i64 ((v6.len : Nat) : Int)), (8, [], .int .i64 t8)] ?_
     refine Zv (fun pp => [(0, [], yield), (4, [], .string x), (6, [], .slice pp v6.len v6.cap), (7, [], .int .i64 ((v6.len : Nat) : Int)), (8, [], .int .i64 t8)]) hp_5.symm ?_
     refine Ze [(0, yield), (4, .string x), (6, sv_ v6), (7, .int .i64 ((v6.len : Nat) : Int)), (8, .int .i64 t8)] ?_
     change WpE _ _ c72_17 _ _ _
     refine Zt r72_18 c72_20 ?_
     refine Zn P2 2 [(0, [], yield), (6, [], sv_ v6), (7, [], .int .i64 ((v6.len : Nat) : Int)), (8, [], .int .i64 t8), (12, [], yield), (13, [], .string x)] ?_
     refine reg_enterY rfl (fo := (Operand.tmp 12)) (aa := #[(Operand.tmp 13)]) (ts := #[9]) (fv := yield) (ty := 4) (dst := some 14) #[Value.string x] (by kernel_rfl) (by kernel_rfl) (by kernel_rfl) (CallsY.mono h ?_)
     rintro _ w3 ⟨v14, rfl, h⟩
     refine ⟨_, rfl, ?_⟩
     refine Zf P1 [(0, yield), (6, sv_ v6), (7, .int .i64 ((v6.len : Nat) : Int)), (8, .int .i64 t8), (15, .bool (!v14))] ?_
     change WpE _ _ c72_20 _ _ _
     refine Zc 15 (!v14) c72_21 c72_22 (fun hb => ?_) (fun hb => ?_)
     · replace h := h.1 hb
       refine wpE_ret (by kernel_rfl) ?_
       repeat (first | refine seqQ_ret ?_ | refine blockQ_ret ?_ | refine loopQ_ret ?_ | refine cutQ_ret ?_)
       exact retT (rs := []) (vs := []) (by kernel_rfl) (trivial) (by kernel_rfl) ⟨rfl, h⟩
     · replace h := h.2 hb
       refine wpE_skip (by kernel_rfl) ?_
       change WpE _ _ c72_23 _ _ _
       refine Zr r72_23 ?_
       refine Zf P2 [(0, yield), (6, sv_ v6), (7, .int .i64 ((v6.len : Nat) : Int)), (8, .int .i64 (IntKind.i64.wrap (t8 + 1)))] ?_
       have hb_ := again__h _ _ h
       exact ⟨_, hb_.2, [(0, yield), (6, sv_ v6), (7, Value.int .i64 ((v6.len : Nat) : Int)), (8, Value.int .i64 (IntKind.i64.wrap (t8 + 1)))], Sub.mk (by kernel_rfl), (IntKind.i64.wrap (t8 + 1)), rfl, hb_.1, rfl⟩
   · replace h := h.2 hb
     refine wpE_exit (id := 0) (by kernel_rfl) ?_
     repeat (first | refine seqQ_exit ?_ | refine loopQ_exit ?_ | refine cutQ_exit ?_ | refine blockQ_hit ?_ | refine blockQ_miss (by kernel_rfl) ?_)
     refine retQ_normal ?_
     repeat (first | refine seqQ_ret ?_ | refine blockQ_ret ?_ | refine loopQ_ret ?_ | refine cutQ_ret ?_)
     exact retT (rs := []) (vs := []) (by kernel_rfl) (trivial) (by kernel_rfl) ⟨rfl, h⟩
 · rintro e w' ⟨v, rfl, rfl, h⟩; exact ⟨rfl, h⟩

/-! ### (*towpath/ring.Ring[string]).things (function 73) -/
def c73_0 := cb_ Tryd.f73
def c73_3 := cr_ c73_0
def c73_4 := cl_ c73_3
def c73_5 := cl_ c73_4
def r73_5 := co_ c73_5
def c73_7 := cr_ c73_4
def c73_8 := cl_ c73_7
def c73_11 := cr_ c73_8
def c73_12 := cr_ c73_7
def c73_13 := cr_ c73_3
def c73_14 := cl_ c73_13
def r73_14 := co_ c73_14
def c73_16 := cr_ c73_13
def o_ring_Ring_string_things_14 : List Nat := [0, 1, 2, 3, 4, 5, 6, 7, 8, 9, 10, 11, 12, 13, 14, 15, 16, 17, 20, 21, 22, 23, 18, 19, 24, 25]

theorem S_ring_Ring_string_things {r : Option Addr} {w : World} {R : Slc → World → Prop} (h : F_ring_Ring_string_things r R w) : C_ring_Ring_string_things r w R := by
 unfold F_ring_Ring_string_things at h
 unfold C_ring_Ring_string_things
 refine Calls.mono (calls_of_wpE (args := [Value.pointer r]) (R := fun v w' => ∃ (r0 : Slc), v = sv_ r0 ∧ R r0 w') Tryd.func73 (c := c73_0) (by kernel_rfl) 30 (by kernel_rfl) (by kernel_rfl) [(0, Value.pointer r)] (by kernel_rfl) ?_) ?_
 · refine Zp c73_3 P1 [(0, .pointer r)] ?_
   refine Zs c73_4 c73_13 ?_
   refine Zt r73_5 c73_7 ?_
   refine Zn P1 1 [(0, [], .pointer r), (3, [], .pointer r)] ?_
   refine Zm 98 #[.pointer r] (some 4) (Calls.mono h ?_)
   rintro _ w1 ⟨v4, rfl, h⟩
   refine ⟨_, rfl, ?_⟩
   refine Ze [(0, .pointer r), (4, .bool v4)] ?_
   change WpE _ _ c73_7 _ _ _
   refine Zc 4 v4 c73_8 c73_12 (fun hb => ?_) (fun hb => ?_)
   · replace h := h.1 hb
     refine Zp c73_11 P1 [(2, .slice none 0 0)] ?_
     refine wpE_ret (by kernel_rfl) ?_
     repeat (first | refine seqQ_ret ?_ | refine blockQ_ret ?_ | refine loopQ_ret ?_ | refine cutQ_ret ?_)
     exact retS (rs := [(ResultVar.tmp 2)]) (v := Value.slice none 0 0) (by kernel_rfl) (⟨by kernel_rfl, trivial⟩) ⟨(Slc.mk none 0 0), rfl, h⟩
   · replace h := h.2 hb
     refine wpE_skip (by kernel_rfl) ?_
     change WpE _ _ c73_13 _ _ _
     refine Zs c73_14 c73_16 ?_
     refine wpE_mixregion (id := 3) (ops := r73_14) o_ring_Ring_string_things_14 (by kernel_rfl) (by kernel_rfl) (by kernel_rfl) (by kernel_rfl) (fun w2 hw => ?_)
     replace h := h w2 hw
     clear hw
     refine mreg_run P1 1 [(0, [], Value.pointer r), (5, [], Value.pointer r)] (by kernel_rfl) (by kernel_rfl) ?_
     obtain ⟨hp_0, h⟩ := h
     refine mreg_conv [(0, [], Value.pointer r), (5, [], Value.pointer (some ⟨(pblk r), (poff r), none⟩))] (congrArg (fun pp => ([(0, [], Value.pointer r), (5, [], Value.pointer pp)] : GEnv)) hp_0) ?_
     refine mreg_run P1 2 [(0, [], Value.pointer r), (5, [], Value.pointer (some ⟨(pblk r), (poff r), none⟩)), (6, [], Value.pointer (some ⟨(pblk r), (poff r), none⟩))] (by kernel_rfl) (by kernel_rfl) ?_
     refine mreg_run P1 3 [(0, [], Value.pointer r), (7, [], Value.pointer (some ⟨(pblk r), (poff r), none⟩))] (by kernel_rfl) (by kernel_rfl) ?_
     obtain ⟨v8, hc, h⟩ := h
     refine mreg_load1 (i := 3) (by kernel_rfl) (t := 82) (a := (Operand.tmp 7)) (b := (pblk r)) (o := (poff r)) (ty := 82) (dst := some 8) (by kernel_rfl) (by kernel_rfl) (by kernel_rfl) hc ?_
     refine mreg_run P1 5 [(0, [], Value.pointer r), (8, [], sv_ v8), (9, [], Value.pointer r)] (by kernel_rfl) (by kernel_rfl) ?_
     obtain ⟨hp_1, h⟩ := h
     refine mreg_conv [(0, [], Value.pointer r), (8, [], sv_ v8), (9, [], Value.pointer (some ⟨(pblk r), (poff r), none⟩))] (congrArg (fun pp => ([(0, [], Value.pointer r), (8, [], sv_ v8), (9, [], Value.pointer pp)] : GEnv)) hp_1) ?_
     refine mreg_run P1 6 [(0, [], Value.pointer r), (8, [], sv_ v8), (9, [], Value.pointer (some ⟨(pblk r), (poff r), none⟩)), (10, [], Value.pointer (some ⟨(pblk r), (poff r), none⟩))] (by kernel_rfl) (by kernel_rfl) ?_
     refine mreg_run P1 7 [(0, [], Value.pointer r), (8, [], sv_ v8), (11, [], Value.pointer (some ⟨(pblk r), (poff r) + 1, none⟩))] (by kernel_rfl) (by kernel_rfl) ?_
     obtain ⟨v12, hc, h⟩ := h
     refine mreg_load1 (i := 7) (by kernel_rfl) (t := 3) (a := (Operand.tmp 11)) (b := (pblk r)) (o := ((poff r) + 1)) (ty := 3) (dst := some 12) (by kernel_rfl) (by kernel_rfl) (by kernel_rfl) hc ?_
     refine mreg_run [] 8 [(0, [], Value.pointer r), (8, [], sv_ v8), (12, [], Value.int .i64 v12)] (by kernel_rfl) (by kernel_rfl) ?_
     obtain ⟨hc, h⟩ := h
     refine mreg_slice (i := 8) (by kernel_rfl) (t := 82) (e := 9) (x := (Operand.tmp 8)) (lo := (Operand.tmp 12)) (s := v8) (sz := 1) (k := .i64) (a := v12) (ty := 82) (dst := some 13) (by kernel_rfl) (by kernel_rfl) (by kernel_rfl) (by kernel_rfl) (by kernel_rfl) hc (fun s hs => ?_)
     replace h := h s hs
     clear hs
     refine mreg_run P1 10 [(0, [], Value.pointer r), (13, [], sv_ s), (14, [], Value.pointer r)] (by kernel_rfl) (by kernel_rfl) ?_
     obtain ⟨hp_2, h⟩ := h
     refine mreg_conv [(0, [], Value.pointer r), (13, [], sv_ s), (14, [], Value.pointer (some ⟨(pblk r), (poff r), none⟩))] (congrArg (fun pp => ([(0, [], Value.pointer r), (13, [], sv_ s), (14, [], Value.pointer pp)] : GEnv)) hp_2) ?_
     refine mreg_run P1 11 [(0, [], Value.pointer r), (13, [], sv_ s), (14, [], Value.pointer (some ⟨(pblk r), (poff r), none⟩)), (15, [], Value.pointer (some ⟨(pblk r), (poff r), none⟩))] (by kernel_rfl) (by kernel_rfl) ?_
     refine mreg_run P1 12 [(0, [], Value.pointer r), (13, [], sv_ s), (16, [], Value.pointer (some ⟨(pblk r), (poff r), none⟩))] (by kernel_rfl) (by kernel_rfl) ?_
     obtain ⟨v17, hc, h⟩ := h
     refine mreg_load1 (i := 12) (by kernel_rfl) (t := 82) (a := (Operand.tmp 16)) (b := (pblk r)) (o := (poff r)) (ty := 82) (dst := some 17) (by kernel_rfl) (by kernel_rfl) (by kernel_rfl) hc ?_
     refine mreg_run P1 14 [(0, [], Value.pointer r), (13, [], sv_ s), (17, [], sv_ v17), (18, [], Value.pointer r)] (by kernel_rfl) (by kernel_rfl) ?_
     obtain ⟨hp_3, h⟩ := h
     refine mreg_conv [(0, [], Value.pointer r), (13, [], sv_ s), (17, [], sv_ v17), (18, [], Value.pointer (some ⟨(pblk r), (poff r), none⟩))] (congrArg (fun pp => ([(0, [], Value.pointer r), (13, [], sv_ s), (17, [], sv_ v17), (18, [], Value.pointer pp)] : GEnv)) hp_3) ?_
     refine mreg_run P1 15 [(0, [], Value.pointer r), (13, [], sv_ s), (17, [], sv_ v17), (18, [], Value.pointer (some ⟨(pblk r), (poff r), none⟩)), (19, [], Value.pointer (some ⟨(pblk r), (poff r), none⟩))] (by kernel_rfl) (by kernel_rfl) ?_
     refine mreg_run P1 16 [(0, [], Value.pointer r), (13, [], sv_ s), (17, [], sv_ v17), (20, [], Value.pointer (some ⟨(pblk r), (poff r) + 1, none⟩))] (by kernel_rfl) (by kernel_rfl) ?_
     obtain ⟨v21, hc, h⟩ := h
     refine mreg_load1 (i := 16) (by kernel_rfl) (t := 3) (a := (Operand.tmp 20)) (b := (pblk r)) (o := ((poff r) + 1)) (ty := 3) (dst := some 21) (by kernel_rfl) (by kernel_rfl) (by kernel_rfl) hc ?_
     refine mreg_run [] 17 [(0, [], Value.pointer r), (13, [], sv_ s), (17, [], sv_ v17), (21, [], Value.int .i64 v21)] (by kernel_rfl) (by kernel_rfl) ?_
     obtain ⟨h0, h1, h⟩ := h
     refine mreg_sliceHi (i := 17) (by kernel_rfl) (t := 82) (e := 9) (x := (Operand.tmp 17)) (hi := (Operand.tmp 21)) (p := v17.ptr) (l := v17.len) (c := v17.cap) (sz := 1) (k := .i64) (j := v21) (ty := 82) (dst := some 22) (by kernel_rfl) (by kernel_rfl) (by kernel_rfl) (by kernel_rfl) (by kernel_rfl) h0 h1 ?_
     refine mreg_run P1 19 [(13, [], sv_ s), (22, [], Value.slice v17.ptr v21.toNat v17.cap), (25, [], Value.pointer r)] (by kernel_rfl) (by kernel_rfl) ?_
     obtain ⟨hp_4, h⟩ := h
     refine mreg_conv [(13, [], sv_ s), (22, [], Value.slice v17.ptr v21.toNat v17.cap), (25, [], Value.pointer (some ⟨(pblk r), (poff r), none⟩))] (congrArg (fun pp => ([(13, [], sv_ s), (22, [], Value.slice v17.ptr v21.toNat v17.cap), (25, [], Value.pointer pp)] : GEnv)) hp_4) ?_
     refine mreg_run P1 20 [(13, [], sv_ s), (22, [], Value.slice v17.ptr v21.toNat v17.cap), (25, [], Value.pointer (some ⟨(pblk r), (poff r), none⟩)), (26, [], Value.pointer (some ⟨(pblk r), (poff r), none⟩))] (by kernel_rfl) (by kernel_rfl) ?_
     refine mreg_run P1 21 [(13, [], sv_ s), (22, [], Value.slice v17.ptr v21.toNat v17.cap), (27, [], Value.pointer (some ⟨(pblk r), (poff r) + 2, none⟩))] (by kernel_rfl) (by kernel_rfl) ?_
     obtain ⟨v28, hc, h⟩ := h
     refine mreg_load1 (i := 23) (by kernel_rfl) (t := 3) (a := (Operand.tmp 27)) (b := (pblk r)) (o := ((poff r) + 2)) (ty := 3) (dst := some 28) (by kernel_rfl) (by kernel_rfl) (by kernel_rfl) hc ?_
     refine mreg_run [] 22 [(13, [], sv_ s), (22, [], Value.slice v17.ptr v21.toNat v17.cap), (28, [], Value.int .i64 v28)] (by kernel_rfl) (by kernel_rfl) ?_
     refine mreg_new (op := (Op.buildSlice 162 2 #[(0, (Operand.tmp 13)), (1, (Operand.tmp 22))])) (ty := 162) (dst := some 23) 18 [8, 17, 3, 7, 12, 16, 2, 6, 11, 15, 1, 5, 10, 14, 0, 4, 9, 13] [(23, fun w' => w'.cell? ⟨(pblk r), (poff r) + 2, none⟩ = some (Value.int .i64 v28))] (fun bb => Value.slice (some ⟨bb, 0, none⟩) 2 2) (Obj.cells ([sv_ s, Value.slice v17.ptr v21.toNat v17.cap]).toArray ty_sl_string (0, 0)) (by kernel_rfl) (by kernel_rfl) (by kernel_rfl) (by kernel_rfl) (by kernel_rfl) (by kernel_rfl) (fun b_ w3 hb hw => ?_)
     replace h := h b_ w3 hb hw
     clear hb hw
     obtain ⟨hk0, h⟩ := h
     refine ⟨⟨hk0, trivial⟩, ?_⟩
     refine mreg_run [] 23 [(23, [], Value.slice (some ⟨b_, 0, none⟩) 2 2), (28, [], Value.int .i64 v28)] (by kernel_rfl) (by kernel_rfl) ?_
     refine mreg_enter (op := (Op.call (Call.mk (Callee.value (Operand.func 99)) #[(Operand.tmp 23)] #[162]))) (ty := 82) (dst := some 24) 19 [18, 8, 17, 3, 7, 12, 16, 2, 6, 11, 15, 1, 5, 10, 14, 0, 4, 9, 13] [(23, fun w' => w'.cell? ⟨(pblk r), (poff r) + 2, none⟩ = some (Value.int .i64 v28))] 99 #[Value.slice (some ⟨b_, 0, none⟩) 2 2] (by kernel_rfl) (by kernel_rfl) (by kernel_rfl) (by kernel_rfl) (by kernel_rfl) (fun ww => by kernel_rfl) (Calls.mono h ?_)
     rintro _ w4 ⟨v24, rfl, h⟩
     obtain ⟨hk0, h⟩ := h
     refine ⟨_, rfl, ⟨hk0, trivial⟩, ?_⟩
     refine mreg_run [] 24 [(24, [], sv_ v24), (28, [], Value.int .i64 v28)] (by kernel_rfl) (by kernel_rfl) ?_
     obtain ⟨h0, h1, h⟩ := h
     refine mreg_sliceHi (i := 24) (by kernel_rfl) (t := 82) (e := 9) (x := (Operand.tmp 24)) (hi := (Operand.tmp 28)) (p := v24.ptr) (l := v24.len) (c := v24.cap) (sz := 1) (k := .i64) (j := v28) (ty := 82) (dst := some 29) (by kernel_rfl) (by kernel_rfl) (by kernel_rfl) (by kernel_rfl) (by kernel_rfl) h0 h1 ?_
     refine mreg_run P1 26 [(2, [], Value.slice v24.ptr v28.toNat v24.cap)] (by kernel_rfl) (by kernel_rfl) ?_
     refine mreg_end [(2, Value.slice v24.ptr v28.toNat v24.cap)] (by kernel_rfl) (by kernel_rfl) (by kernel_rfl) ?_
     change WpE _ _ c73_16 _ _ _
     refine wpE_ret (by kernel_rfl) ?_
     repeat (first | refine seqQ_ret ?_ | refine blockQ_ret ?_ | refine loopQ_ret ?_ | refine cutQ_ret ?_)
     exact retS (rs := [(ResultVar.tmp 2)]) (v := Value.slice v24.ptr v28.toNat v24.cap) (by kernel_rfl) (⟨by kernel_rfl, trivial⟩) ⟨(Slc.mk v24.ptr v28.toNat v24.cap), rfl, h⟩
 · rintro e w' ⟨v, rfl, r0, rfl, h⟩; exact ⟨r0, rfl, h⟩

/-! ### (*towpath/ring.Ring[string]).Len (function 96) -/
def c96_0 := cb_ Tryd.f96
def c96_3 := cr_ c96_0
def c96_4 := cl_ c96_3
def c96_5 := cl_ c96_4
def r96_5 := co_ c96_5
def c96_7 := cr_ c96_4
def c96_8 := cl_ c96_7
def c96_11 := cr_ c96_8
def c96_12 := cr_ c96_7
def c96_13 := cr_ c96_3
def c96_14 := cl_ c96_13
def r96_14 := co_ c96_14
def c96_16 := cr_ c96_13

theorem S_ring_Ring_string_Len {r : Option Addr} {w : World} {R : Int → World → Prop} (h : F_ring_Ring_string_Len r R w) : C_ring_Ring_string_Len r w R := by
 unfold F_ring_Ring_string_Len at h
 unfold C_ring_Ring_string_Len
 refine Calls.mono (calls_of_wpE (args := [Value.pointer r]) (R := fun v w' => ∃ (r0 : Int), v = Value.int .i64 r0 ∧ R r0 w') Tryd.func96 (c := c96_0) (by kernel_rfl) 9 (by kernel_rfl) (by kernel_rfl) [(0, Value.pointer r)] (by kernel_rfl) ?_) ?_
 · refine Zp c96_3 P1 [(0, .pointer r)] ?_
   refine Zs c96_4 c96_13 ?_
   refine Zt r96_5 c96_7 ?_
   refine Zn P1 1 [(0, [], .pointer r), (3, [], .pointer r)] ?_
   refine Zm 98 #[.pointer r] (some 4) (Calls.mono h ?_)
   rintro _ w1 ⟨v4, rfl, h⟩
   refine ⟨_, rfl, ?_⟩
   refine Ze [(0, .pointer r), (4, .bool v4)] ?_
   change WpE _ _ c96_7 _ _ _
   refine Zc 4 v4 c96_8 c96_12 (fun hb => ?_) (fun hb => ?_)
   · replace h := h.1 hb
     refine Zp c96_11 P1 [(2, .int .i64 0)] ?_
     refine wpE_ret (by kernel_rfl) ?_
     repeat (first | refine seqQ_ret ?_ | refine blockQ_ret ?_ | refine loopQ_ret ?_ | refine cutQ_ret ?_)
     exact retS (rs := [(ResultVar.tmp 2)]) (v := Value.int .i64 0) (by kernel_rfl) (⟨by kernel_rfl, trivial⟩) ⟨0, rfl, h⟩
   · replace h := h.2 hb
     refine wpE_skip (by kernel_rfl) ?_
     change WpE _ _ c96_13 _ _ _
     refine Zt r96_14 c96_16 ?_
     refine Zn P1 1 [(5, [], .pointer r)] ?_
     obtain ⟨hp_0, h⟩ := h
     refine Zv (fun pp => [(5, [], .pointer pp)]) hp_0 ?_
     refine Zn P1 2 [(5, [], .pointer (some ⟨(pblk r), (poff r), none⟩)), (6, [], .pointer (some ⟨(pblk r), (poff r), none⟩))] ?_
     refine Zn P1 3 [(7, [], .pointer (some ⟨(pblk r), (poff r) + 2, none⟩))] ?_
     obtain ⟨v8, hc, h⟩ := h
     refine Zl 3 7 (pblk r) ((poff r) + 2) 3 8 hc ?_
     refine Zf P1 [(2, .int .i64 v8)] ?_
     change WpE _ _ c96_16 _ _ _
     refine wpE_ret (by kernel_rfl) ?_
     repeat (first | refine seqQ_ret ?_ | refine blockQ_ret ?_ | refine loopQ_ret ?_ | refine cutQ_ret ?_)
     exact retS (rs := [(ResultVar.tmp 2)]) (v := Value.int .i64 v8) (by kernel_rfl) (⟨by kernel_rfl, trivial⟩) ⟨v8, rfl, h⟩
 · rintro e w' ⟨v, rfl, r0, rfl, h⟩; exact ⟨r0, rfl, h⟩

/-! ### (*towpath/ring.Ring[string]).gone (function 98) -/
def c98_0 := cb_ Tryd.f98
def c98_3 := cr_ c98_0
def c98_4 := cl_ c98_3
def r98_4 := co_ c98_4
def c98_6 := cr_ c98_3

theorem S_ring_Ring_string_gone {r : Option Addr} {w : World} {R : Bool → World → Prop} (h : F_ring_Ring_string_gone r R w) : C_ring_Ring_string_gone r w R := by
 unfold F_ring_Ring_string_gone at h
 unfold C_ring_Ring_string_gone
 refine Calls.mono (calls_of_wpE (args := [Value.pointer r]) (R := fun v w' => ∃ (r0 : Bool), v = Value.bool r0 ∧ R r0 w') Tryd.func98 (c := c98_0) (by kernel_rfl) 12 (by kernel_rfl) (by kernel_rfl) [(0, Value.pointer r)] (by kernel_rfl) ?_) ?_
 · refine Zp c98_3 P1 [(0, .pointer r)] ?_
   refine Zt r98_4 c98_6 ?_
   refine Zn P1 1 [(0, [], .pointer r), (3, [], .pointer r)] ?_
   refine reg_val (op := (Op.binOp BinOp.eql 59 (Operand.tmp 3) (Operand.const (Value.pointer none)) 59)) (ty := 4) (dst := some 4) (Value.bool r.isNone) (by kernel_rfl) (fun ww => run_ptr_eql_R (p := r) (by kernel_rfl) (by kernel_rfl) (by kernel_rfl) ww) ?_
   refine Zn P2 4 [(5, [], .bool r.isNone), (6, [(5, false)], .pointer r)] ?_
   refine reg_split 5 r.isNone (by kernel_rfl) (fun hb => ?_) (fun hb => ?_)
   · replace h := h.1 hb
     refine Zn [] 4 [(5, [], .bool true), (6, [], undef)] ?_
     refine Zf [.skip, .skip, .skip, .skip, .plain, .plain] [(2, .bool true)] ?_
     change WpE _ _ c98_6 _ _ _
     refine wpE_ret (by kernel_rfl) ?_
     repeat (first | refine seqQ_ret ?_ | refine blockQ_ret ?_ | refine loopQ_ret ?_ | refine cutQ_ret ?_)
     exact retS (rs := [(ResultVar.tmp 2)]) (v := Value.bool true) (by kernel_rfl) (⟨by kernel_rfl, trivial⟩) ⟨true, rfl, h⟩
   · replace h := h.2 hb
     refine Zn [] 4 [(5, [], .bool false), (6, [], .pointer r)] ?_
     refine Zn [] 4 [(5, [], .bool false), (6, [], .pointer r)] ?_
     obtain ⟨hp_0, h⟩ := h
     refine Zv (fun pp => [(5, [], .bool false), (6, [], .pointer pp)]) hp_0 ?_
     refine Zn [.sure] 5 [(5, [], .bool false), (6, [], .pointer (some ⟨(pblk r), (poff r), none⟩)), (7, [], .pointer (some ⟨(pblk r), (poff r), none⟩))] ?_
     refine Zn [.sure] 6 [(5, [], .bool false), (8, [], .pointer (some ⟨(pblk r), (poff r), none⟩))] ?_
     obtain ⟨v9, hc, h⟩ := h
     refine Zl 82 8 (pblk r) (poff r) 82 9 hc ?_
     refine Zn [] 7 [(5, [], .bool false), (9, [], sv_ v9)] ?_
     refine reg_val (op := (Op.binOp BinOp.eql 82 (Operand.tmp 9) (Operand.const (Value.slice none 0 0)) 82)) (ty := 4) (dst := some 10) (Value.bool v9.ptr.isNone) (by kernel_rfl) (fun ww => run_slice_eql_R (p := v9.ptr) (l := v9.len) (c := v9.cap) (by kernel_rfl) (by kernel_rfl) (by kernel_rfl) ww) ?_
     refine Zf P2 [(2, .bool v9.ptr.isNone)] ?_
     change WpE _ _ c98_6 _ _ _
     refine wpE_ret (by kernel_rfl) ?_
     repeat (first | refine seqQ_ret ?_ | refine blockQ_ret ?_ | refine loopQ_ret ?_ | refine cutQ_ret ?_)
     exact retS (rs := [(ResultVar.tmp 2)]) (v := Value.bool v9.ptr.isNone) (by kernel_rfl) (⟨by kernel_rfl, trivial⟩) ⟨v9.ptr.isNone, rfl, h⟩
 · rintro e w' ⟨v, rfl, r0, rfl, h⟩; exact ⟨r0, rfl, h⟩
end
end Go.Proofs.YtchcljkflklddaaDoor
