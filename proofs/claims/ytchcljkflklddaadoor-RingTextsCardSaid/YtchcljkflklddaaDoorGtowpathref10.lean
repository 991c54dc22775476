/- WRITTEN BY PROGRAM (dec.py): for each Go function the clean formula F, the call's contract C, and the proof S that F gives C. -/
import Derived.Test.YtchcljkflklddaaDoorRows
import Derived.Test.YtchcljkflklddaaDoorGF
namespace Go.Proofs.YtchcljkflklddaaDoor
open Go
set_option linter.unusedVariables false
set_option maxRecDepth 100000
set_option maxHeartbeats 4000000
noncomputable section

/-! ### towpath/towpathref10.New (function 21) -/
def c21_0 := cb_ Tryd.f21
def c21_3 := cr_ c21_0
def c21_4 := cl_ c21_3
def c21_7 := cr_ c21_4
def c21_8 := cl_ c21_7
def c21_11 := cr_ c21_8
def c21_12 := cr_ c21_7
def c21_13 := cr_ c21_3
def c21_14 := cl_ c21_13
def r21_14 := co_ c21_14
def c21_16 := cr_ c21_13

theorem S_towpathref10_New {capacity : Int} {w : World} {R : Option Addr → Int → World → Prop} (h : F_towpathref10_New capacity R w) : C_towpathref10_New capacity w R := by
 unfold F_towpathref10_New at h
 unfold C_towpathref10_New
 refine Calls.mono (calls_of_wpE (args := [Value.int .i64 capacity]) (R := fun v w' => ∃ (r0 : Option Addr) (r1 : Int), v = Value.tuple #[Value.pointer r0, Value.int .i64 r1] ∧ R r0 r1 w') Tryd.func21 (c := c21_0) (by kernel_rfl) 13 (by kernel_rfl) (by kernel_rfl) [(0, Value.int .i64 capacity)] (by kernel_rfl) ?_) ?_
 · refine Zp c21_3 P2 [(0, .int .i64 capacity)] ?_
   refine Zs c21_4 c21_13 ?_
   refine Zp c21_7 [.plain, .plain, .plain, .plain, .plain, .pick] [(0, .int .i64 capacity), (9, .bool ((decide (capacity < 1)) || (decide (capacity > 65536))))] ?_
   refine Zc 9 ((decide (capacity < 1)) || (decide (capacity > 65536))) c21_8 c21_12 (fun hb => ?_) (fun hb => ?_)
   · replace h := h.1 hb
     refine Zp c21_11 P2 [(2, .pointer none), (3, .int .i64 1)] ?_
     refine wpE_ret (by kernel_rfl) ?_
     repeat (first | refine seqQ_ret ?_ | refine blockQ_ret ?_ | refine loopQ_ret ?_ | refine cutQ_ret ?_)
     exact retT (rs := [(ResultVar.tmp 2), (ResultVar.tmp 3)]) (vs := [Value.pointer none, Value.int .i64 1]) (by kernel_rfl) (⟨by kernel_rfl, ⟨by kernel_rfl, trivial⟩⟩) (by kernel_rfl) ⟨none, 1, rfl, h⟩
   · replace h := h.2 hb
     refine wpE_skip (by kernel_rfl) ?_
     change WpE _ _ c21_13 _ _ _
     refine Zt r21_14 c21_16 ?_
     refine Zn P2 2 [(11, [], .agg #[.slice none 0 0, .int .i64 capacity, .bool false])] ?_
     refine Zw (some 12) (fun bb => pv_ bb) (Obj.cells ([.slice none 0 0, .int .i64 capacity, .bool false]).toArray ty_towpathref10_Ring (0, 0)) (fun b_ w1 hb hw => ?_)
     replace h := h b_ w1 hb hw
     clear hb hw
     refine Zf P2 [(2, pv_ b_), (3, .int .i64 0)] ?_
     change WpE _ _ c21_16 _ _ _
     refine wpE_ret (by kernel_rfl) ?_
     repeat (first | refine seqQ_ret ?_ | refine blockQ_ret ?_ | refine loopQ_ret ?_ | refine cutQ_ret ?_)
     exact retT (rs := [(ResultVar.tmp 2), (ResultVar.tmp 3)]) (vs := [pv_ b_, Value.int .i64 0]) (by kernel_rfl) (⟨by kernel_rfl, ⟨by kernel_rfl, trivial⟩⟩) (by kernel_rfl) ⟨(some ⟨b_, 0, none⟩), 0, rfl, h⟩
 · rintro e w' ⟨v, rfl, r0, r1, rfl, h⟩; exact ⟨r0, r1, rfl, h⟩

/-! ### (*towpath/towpathref10.Ring).Take (function 23) -/
def c23_0 := cb_ Tryd.f23
def c23_3 := cr_ c23_0
def c23_4 := cl_ c23_3
def r23_4 := co_ c23_4
def c23_6 := cr_ c23_3
def c23_7 := cl_ c23_6
def c23_10 := cr_ c23_7
def c23_11 := cl_ c23_10
def r23_11 := co_ c23_11
def c23_13 := cr_ c23_10
def c23_14 := cr_ c23_6
def c23_17 := cr_ c23_14

theorem S_towpathref10_Ring_Take {r : Option Addr} {w : World} {R : Int → Bool → World → Prop} (h : F_towpathref10_Ring_Take r R w) : C_towpathref10_Ring_Take r w R := by
 unfold F_towpathref10_Ring_Take at h
 unfold C_towpathref10_Ring_Take
 refine Calls.mono (calls_of_wpE (args := [Value.pointer r]) (R := fun v w' => ∃ (r0 : Int) (r1 : Bool), v = Value.tuple #[Value.int .i64 r0, Value.bool r1] ∧ R r0 r1 w') Tryd.func23 (c := c23_0) (by kernel_rfl) 22 (by kernel_rfl) (by kernel_rfl) [(0, Value.pointer r)] (by kernel_rfl) ?_) ?_
 · refine Zp c23_3 P2 [(0, .pointer r)] ?_
   refine Zt r23_4 c23_6 ?_
   refine Zn P1 1 [(0, [], .pointer r), (7, [], .pointer r)] ?_
   refine Zm 69 #[.pointer r] (some 8) (Calls.mono h ?_)
   rintro _ w1 ⟨x, ok, rfl, h⟩
   refine ⟨_, rfl, ?_⟩
   refine Zf (Pl 5) [(0, .pointer r), (4, .int .i64 x), (5, .bool ok)] ?_
   change WpE _ _ c23_6 _ _ _
   refine wpE_seq_cut (x := c23_7) (y := c23_14) (by kernel_rfl) (fun l w => l = [(4, Value.int .i64 x), (5, Value.bool ok)] ∧ F_towpathref10_Ring_Take_k0 R x ok w) ?_ ?_
   · refine Zp c23_10 P1 [(0, .pointer r), (4, .int .i64 x), (5, .bool ok), (11, .bool ok)] ?_
     refine Zc 11 ok c23_11 c23_13 (fun hb => ?_) (fun hb => ?_)
     · replace h := h.1 hb
       refine Zr r23_11 ?_
       refine Zn P2 2 [(4, [], .int .i64 x), (5, [], .bool ok), (12, [], .pointer r), (13, [], .pointer r)] ?_
       obtain ⟨hp_2, h⟩ := h
       refine Zv (fun pp => [(4, [], .int .i64 x), (5, [], .bool ok), (12, [], .pointer r), (13, [], .pointer pp)]) hp_2 ?_
       refine Zn P1 3 [(4, [], .int .i64 x), (5, [], .bool ok), (12, [], .pointer r), (13, [], .pointer (some ⟨(pblk r), (poff r), none⟩)), (14, [], .pointer (some ⟨(pblk r), (poff r), none⟩))] ?_
       refine Zn P1 4 [(4, [], .int .i64 x), (5, [], .bool ok), (12, [], .pointer r), (15, [], .pointer (some ⟨(pblk r), (poff r), none⟩))] ?_
       obtain ⟨v16, hc, h⟩ := h
       refine Zl 22 15 (pblk r) (poff r) 22 16 hc ?_
       refine Zn [] 5 [(4, [], .int .i64 x), (5, [], .bool ok), (12, [], .pointer r), (16, [], sv_ v16)] ?_
       obtain ⟨hc, h⟩ := h
       refine reg_slice (t := 22) (e := 3) (x := (Operand.tmp 16)) (lo := (Operand.const (Value.int Go.IntKind.i64 1))) (s := v16) (sz := 1) (k := .i64) (a := 1) (ty := 22) (dst := some 17) (by kernel_rfl) (by kernel_rfl) (by kernel_rfl) (by kernel_rfl) (by kernel_rfl) hc (fun s hs => ?_)
       replace h := h s hs
       clear hs
       refine Zn [] 6 [(4, [], .int .i64 x), (5, [], .bool ok), (12, [], .pointer r), (17, [], sv_ s)] ?_
       obtain ⟨hp_3, h⟩ := h
       refine Zv (fun pp => [(4, [], .int .i64 x), (5, [], .bool ok), (12, [], .pointer pp), (17, [], sv_ s)]) hp_3 ?_
       refine Zn P1 7 [(4, [], .int .i64 x), (5, [], .bool ok), (12, [], .pointer (some ⟨(pblk r), (poff r), none⟩)), (17, [], sv_ s), (18, [], .pointer (some ⟨(pblk r), (poff r), none⟩))] ?_
       refine Zn P1 8 [(4, [], .int .i64 x), (5, [], .bool ok), (17, [], sv_ s), (19, [], .pointer (some ⟨(pblk r), (poff r), none⟩))] ?_
       obtain ⟨hc, h⟩ := h
       refine Zo 22 19 17 (pblk r) (poff r) 1 [sv_ s] hc (fun w3 hw => ?_)
       replace h := h w3 hw
       clear hw
       refine Ze [(4, .int .i64 x), (5, .bool ok)] ?_
       exact ⟨[(4, Value.int .i64 x), (5, Value.bool ok)], Sub.mk (by kernel_rfl), rfl, h⟩
     · replace h := h.2 hb
       refine wpE_skip (by kernel_rfl) ?_
       exact ⟨[(4, Value.int .i64 x), (5, Value.bool ok)], Sub.mk (by kernel_rfl), rfl, h⟩
   · rintro _ w2 ⟨rfl, h⟩
     unfold F_towpathref10_Ring_Take_k0 at h
     refine Zp c23_17 P4 [(2, .int .i64 x), (3, .bool ok)] ?_
     refine wpE_ret (by kernel_rfl) ?_
     repeat (first | refine seqQ_ret ?_ | refine blockQ_ret ?_ | refine loopQ_ret ?_ | refine cutQ_ret ?_)
     exact retT (rs := [(ResultVar.tmp 2), (ResultVar.tmp 3)]) (vs := [Value.int .i64 x, Value.bool ok]) (by kernel_rfl) (⟨by kernel_rfl, ⟨by kernel_rfl, trivial⟩⟩) (by kernel_rfl) ⟨x, ok, rfl, h⟩
 · rintro e w' ⟨v, rfl, r0, r1, rfl, h⟩; exact ⟨r0, r1, rfl, h⟩

/-! ### (*towpath/towpathref10.Ring).Put (function 26) -/
def c26_0 := cb_ Tryd.f26
def c26_3 := cr_ c26_0
def c26_4 := cl_ c26_3
def c26_5 := cl_ c26_4
def r26_5 := co_ c26_5
def c26_7 := cr_ c26_4
def c26_8 := cl_ c26_7
def c26_11 := cr_ c26_8
def c26_12 := cr_ c26_7
def c26_13 := cr_ c26_3
def c26_14 := cl_ c26_13
def r26_14 := co_ c26_14
def c26_16 := cr_ c26_13
def c26_19 := cr_ c26_16

theorem S_towpathref10_Ring_Put {r : Option Addr} {x : Int} {w : World} {R : Bool → World → Prop} (h : F_towpathref10_Ring_Put r x R w) : C_towpathref10_Ring_Put r x w R := by
 unfold F_towpathref10_Ring_Put at h
 unfold C_towpathref10_Ring_Put
 refine Calls.mono (calls_of_wpE (args := [Value.pointer r, Value.int .i64 x]) (R := fun v w' => ∃ (r0 : Bool), v = Value.bool r0 ∧ R r0 w') Tryd.func26 (c := c26_0) (by kernel_rfl) 35 (by kernel_rfl) (by kernel_rfl) [(0, Value.pointer r), (1, Value.int .i64 x)] (by kernel_rfl) ?_) ?_
 · refine Zp c26_3 P1 [(0, .pointer r), (1, .int .i64 x)] ?_
   refine Zs c26_4 c26_13 ?_
   refine wpE_seq_cut (x := c26_5) (y := c26_7) (by kernel_rfl) (fun l w => ∃ (t24 : Bool), l = [(0, Value.pointer r), (1, Value.int .i64 x), (24, Value.bool t24)] ∧ F_towpathref10_Ring_Put_k0 r x R t24 w) ?_ ?_
   · refine wpE_drawregion (id := 1) (ops := r26_5) (by kernel_rfl) (by kernel_rfl) (by kernel_rfl) ?_
     refine qreg_run P1 1 [(0, [], Value.pointer r), (1, [], Value.int .i64 x), (5, [], Value.pointer r)] (by kernel_rfl) (by kernel_rfl) ?_
     refine qreg_val (op := (Op.binOp BinOp.eql 62 (Operand.tmp 5) (Operand.const (Value.pointer none)) 62)) (ty := 4) (dst := some 6) (Value.bool r.isNone) (by kernel_rfl) (fun ww => run_ptr_eql_R (p := r) (by kernel_rfl) (by kernel_rfl) (by kernel_rfl) ww) ?_
     refine qreg_run P2 4 [(0, [], Value.pointer r), (1, [], Value.int .i64 x), (7, [], Value.bool r.isNone), (8, [(7, false)], Value.pointer r)] (by kernel_rfl) (by kernel_rfl) ?_
     refine qreg_split 7 r.isNone (by kernel_rfl) (fun hb => ?_) (fun hb => ?_)
     · replace h := h.1 hb
       refine qreg_run [] 4 [(0, [], Value.pointer r), (1, [], Value.int .i64 x), (7, [], Value.bool true), (8, [], undef)] (by kernel_rfl) (by kernel_rfl) ?_
       refine qreg_run [.skip, .skip, .skip, .plain, .plain, .skip, .skip, .skip, .skip, .skip, .skip, .skip, .skip, .skip, .skip, .plain] 20 [(0, [], Value.pointer r), (1, [], Value.int .i64 x), (24, [], Value.bool true)] (by kernel_rfl) (by kernel_rfl) ?_
       refine qreg_end [(0, Value.pointer r), (1, Value.int .i64 x), (24, Value.bool true)] (by kernel_rfl) (by kernel_rfl) (fun w5 hw => ?_)
       replace h := h w5 hw
       clear hw
       exact ⟨[(0, Value.pointer r), (1, Value.int .i64 x), (24, Value.bool true)], Sub.mk (by kernel_rfl), true, rfl, h⟩
     · replace h := h.2 hb
       refine qreg_run [] 4 [(0, [], Value.pointer r), (1, [], Value.int .i64 x), (7, [], Value.bool false), (8, [], Value.pointer r)] (by kernel_rfl) (by kernel_rfl) ?_
       refine qreg_run [] 4 [(0, [], Value.pointer r), (1, [], Value.int .i64 x), (7, [], Value.bool false), (8, [], Value.pointer r)] (by kernel_rfl) (by kernel_rfl) ?_
       obtain ⟨hp_13, h⟩ := h
       refine qreg_conv [(0, [], Value.pointer r), (1, [], Value.int .i64 x), (7, [], Value.bool false), (8, [], Value.pointer (some ⟨(pblk r), (poff r), none⟩))] (congrArg (fun pp => ([(0, [], Value.pointer r), (1, [], Value.int .i64 x), (7, [], Value.bool false), (8, [], Value.pointer pp)] : GEnv)) hp_13) ?_
       refine qreg_run [.sure] 5 [(0, [], Value.pointer r), (1, [], Value.int .i64 x), (7, [], Value.bool false), (8, [], Value.pointer (some ⟨(pblk r), (poff r), none⟩)), (9, [], Value.pointer (some ⟨(pblk r), (poff r), none⟩))] (by kernel_rfl) (by kernel_rfl) ?_
       refine qreg_run [.sure] 6 [(0, [], Value.pointer r), (1, [], Value.int .i64 x), (7, [], Value.bool false), (10, [], Value.pointer (some ⟨(pblk r), (poff r) + 2, none⟩))] (by kernel_rfl) (by kernel_rfl) ?_
       obtain ⟨v11, hc, h⟩ := h
       refine qreg_load1 (t := 4) (a := (Operand.tmp 10)) (b := (pblk r)) (o := ((poff r) + 2)) (ty := 4) (dst := some 11) (by kernel_rfl) (by kernel_rfl) (by kernel_rfl) hc ?_
       refine qreg_run P3 10 [(0, [], Value.pointer r), (1, [], Value.int .i64 x), (13, [], Value.bool v11), (14, [(13, false)], Value.pointer r)] (by kernel_rfl) (by kernel_rfl) ?_
       refine qreg_split 13 v11 (by kernel_rfl) (fun hb => ?_) (fun hb => ?_)
       · replace h := h.1 hb
         refine qreg_run [] 10 [(0, [], Value.pointer r), (1, [], Value.int .i64 x), (13, [], Value.bool true), (14, [], undef)] (by kernel_rfl) (by kernel_rfl) ?_
         refine qreg_run [.skip, .skip, .skip, .skip, .skip, .skip, .skip, .skip, .skip, .plain] 20 [(0, [], Value.pointer r), (1, [], Value.int .i64 x), (24, [], Value.bool true)] (by kernel_rfl) (by kernel_rfl) ?_
         refine qreg_end [(0, Value.pointer r), (1, Value.int .i64 x), (24, Value.bool true)] (by kernel_rfl) (by kernel_rfl) (fun w6 hw => ?_)
         replace h := h w6 hw
         clear hw
         exact ⟨[(0, Value.pointer r), (1, Value.int .i64 x), (24, Value.bool true)], Sub.mk (by kernel_rfl), true, rfl, h⟩
       · replace h := h.2 hb
         refine qreg_run [] 10 [(0, [], Value.pointer r), (1, [], Value.int .i64 x), (13, [], Value.bool false), (14, [], Value.pointer r)] (by kernel_rfl) (by kernel_rfl) ?_
         refine qreg_run [] 10 [(0, [], Value.pointer r), (1, [], Value.int .i64 x), (13, [], Value.bool false), (14, [], Value.pointer r)] (by kernel_rfl) (by kernel_rfl) ?_
         obtain ⟨hp_14, h⟩ := h
         refine qreg_conv [(0, [], Value.pointer r), (1, [], Value.int .i64 x), (13, [], Value.bool false), (14, [], Value.pointer (some ⟨(pblk r), (poff r), none⟩))] (congrArg (fun pp => ([(0, [], Value.pointer r), (1, [], Value.int .i64 x), (13, [], Value.bool false), (14, [], Value.pointer pp)] : GEnv)) hp_14) ?_
         refine qreg_run [.sure] 11 [(0, [], Value.pointer r), (1, [], Value.int .i64 x), (13, [], Value.bool false), (14, [], Value.pointer (some ⟨(pblk r), (poff r), none⟩)), (15, [], Value.pointer (some ⟨(pblk r), (poff r), none⟩))] (by kernel_rfl) (by kernel_rfl) ?_
         refine qreg_run [.sure] 12 [(0, [], Value.pointer r), (1, [], Value.int .i64 x), (13, [], Value.bool false), (16, [], Value.pointer (some ⟨(pblk r), (poff r), none⟩))] (by kernel_rfl) (by kernel_rfl) ?_
         obtain ⟨v17, hc, h⟩ := h
         refine qreg_load1 (t := 22) (a := (Operand.tmp 16)) (b := (pblk r)) (o := (poff r)) (ty := 22) (dst := some 17) (by kernel_rfl) (by kernel_rfl) (by kernel_rfl) hc ?_
         refine qreg_run [.sure, .sure] 15 [(0, [], Value.pointer r), (1, [], Value.int .i64 x), (13, [], Value.bool false), (18, [], Value.int .i64 ((v17.len : Nat) : Int)), (19, [], Value.pointer r)] (by kernel_rfl) (by kernel_rfl) ?_
         obtain ⟨hp_15, h⟩ := h
         refine qreg_conv [(0, [], Value.pointer r), (1, [], Value.int .i64 x), (13, [], Value.bool false), (18, [], Value.int .i64 ((v17.len : Nat) : Int)), (19, [], Value.pointer (some ⟨(pblk r), (poff r), none⟩))] (congrArg (fun pp => ([(0, [], Value.pointer r), (1, [], Value.int .i64 x), (13, [], Value.bool false), (18, [], Value.int .i64 ((v17.len : Nat) : Int)), (19, [], Value.pointer pp)] : GEnv)) hp_15) ?_
         refine qreg_run [.sure] 16 [(0, [], Value.pointer r), (1, [], Value.int .i64 x), (13, [], Value.bool false), (18, [], Value.int .i64 ((v17.len : Nat) : Int)), (19, [], Value.pointer (some ⟨(pblk r), (poff r), none⟩)), (20, [], Value.pointer (some ⟨(pblk r), (poff r), none⟩))] (by kernel_rfl) (by kernel_rfl) ?_
         refine qreg_run [.sure] 17 [(0, [], Value.pointer r), (1, [], Value.int .i64 x), (13, [], Value.bool false), (18, [], Value.int .i64 ((v17.len : Nat) : Int)), (21, [], Value.pointer (some ⟨(pblk r), (poff r) + 1, none⟩))] (by kernel_rfl) (by kernel_rfl) ?_
         obtain ⟨v22, hc, h⟩ := h
         refine qreg_load1 (t := 3) (a := (Operand.tmp 21)) (b := (pblk r)) (o := ((poff r) + 1)) (ty := 3) (dst := some 22) (by kernel_rfl) (by kernel_rfl) (by kernel_rfl) hc ?_
         refine qreg_run [.sure, .plain] 20 [(0, [], Value.pointer r), (1, [], Value.int .i64 x), (24, [], Value.bool (decide (((v17.len : Nat) : Int) ≥ v22)))] (by kernel_rfl) (by kernel_rfl) ?_
         refine qreg_end [(0, Value.pointer r), (1, Value.int .i64 x), (24, Value.bool (decide (((v17.len : Nat) : Int) ≥ v22)))] (by kernel_rfl) (by kernel_rfl) (fun w7 hw => ?_)
         replace h := h w7 hw
         clear hw
         exact ⟨[(0, Value.pointer r), (1, Value.int .i64 x), (24, Value.bool (decide (((v17.len : Nat) : Int) ≥ v22)))], Sub.mk (by kernel_rfl), (decide (((v17.len : Nat) : Int) ≥ v22)), rfl, h⟩
   · rintro _ w1 ⟨t24, rfl, h⟩
     unfold F_towpathref10_Ring_Put_k0 at h
     refine Zc 24 t24 c26_8 c26_12 (fun hb => ?_) (fun hb => ?_)
     · replace h := h.1 hb
       refine Zp c26_11 P1 [(4, .bool false)] ?_
       refine wpE_ret (by kernel_rfl) ?_
       repeat (first | refine seqQ_ret ?_ | refine blockQ_ret ?_ | refine loopQ_ret ?_ | refine cutQ_ret ?_)
       exact retS (rs := [(ResultVar.tmp 4)]) (v := Value.bool false) (by kernel_rfl) (⟨by kernel_rfl, trivial⟩) ⟨false, rfl, h⟩
     · replace h := h.2 hb
       refine wpE_skip (by kernel_rfl) ?_
       change WpE _ _ c26_13 _ _ _
       refine Zt r26_14 c26_16 ?_
       refine Zn P2 2 [(1, [], .int .i64 x), (25, [], .pointer r), (26, [], .pointer r)] ?_
       obtain ⟨hp_11, h⟩ := h
       refine Zv (fun pp => [(1, [], .int .i64 x), (25, [], .pointer r), (26, [], .pointer pp)]) hp_11 ?_
       refine Zn P1 3 [(1, [], .int .i64 x), (25, [], .pointer r), (26, [], .pointer (some ⟨(pblk r), (poff r), none⟩)), (27, [], .pointer (some ⟨(pblk r), (poff r), none⟩))] ?_
       refine Zn P1 4 [(1, [], .int .i64 x), (25, [], .pointer r), (28, [], .pointer (some ⟨(pblk r), (poff r), none⟩))] ?_
       obtain ⟨v29, hc, h⟩ := h
       refine Zl 22 28 (pblk r) (poff r) 22 29 hc ?_
       refine Zn P1 6 [(25, [], .pointer r), (29, [], sv_ v29), (30, [], .int .i64 x)] ?_
       refine Zw (some 31) (fun bb => .slice (some ⟨bb, 0, none⟩) 1 1) (Obj.cells ([.int .i64 x]).toArray ty_int (0, 0)) (fun b_ w2 hb hw => ?_)
       replace h := h b_ w2 hb hw
       clear hb hw
       refine Zn [] 7 [(25, [], .pointer r), (29, [], sv_ v29), (31, [], .slice (some ⟨b_, 0, none⟩) 1 1)] ?_
       obtain ⟨src, hs, h⟩ := h
       refine reg_append (t := 22) (tx := 22) (e := 3) (a := (Operand.tmp 29)) (xo := (Operand.tmp 31)) (s := v29) (x := (Slc.mk (some ⟨b_, 0, none⟩) 1 1)) (sz := 1) (by_ := 8) (zs := [Value.int .i64 0]) (ty := 22) (dst := some 32)  src (by kernel_rfl) (by kernel_rfl) (by kernel_rfl) (by kernel_rfl) (by kernel_rfl) (by kernel_rfl) (by kernel_rfl) (by kernel_rfl) (by kernel_rfl) hs (AppendW.mono h (fun v32 w3 h => ?_))
       refine Zn [] 8 [(25, [], .pointer r), (32, [], sv_ v32)] ?_
       obtain ⟨hp_12, h⟩ := h
       refine Zv (fun pp => [(25, [], .pointer pp), (32, [], sv_ v32)]) hp_12 ?_
       refine Zn P1 9 [(25, [], .pointer (some ⟨(pblk r), (poff r), none⟩)), (32, [], sv_ v32), (33, [], .pointer (some ⟨(pblk r), (poff r), none⟩))] ?_
       refine Zn P1 10 [(32, [], sv_ v32), (34, [], .pointer (some ⟨(pblk r), (poff r), none⟩))] ?_
       obtain ⟨hc, h⟩ := h
       refine Zo 22 34 32 (pblk r) (poff r) 1 [sv_ v32] hc (fun w4 hw => ?_)
       replace h := h w4 hw
       clear hw
       refine Ze [] ?_
       change WpE _ _ c26_16 _ _ _
       refine Zp c26_19 P1 [(4, .bool true)] ?_
       refine wpE_ret (by kernel_rfl) ?_
       repeat (first | refine seqQ_ret ?_ | refine blockQ_ret ?_ | refine loopQ_ret ?_ | refine cutQ_ret ?_)
       exact retS (rs := [(ResultVar.tmp 4)]) (v := Value.bool true) (by kernel_rfl) (⟨by kernel_rfl, trivial⟩) ⟨true, rfl, h⟩
 · rintro e w' ⟨v, rfl, r0, rfl, h⟩; exact ⟨r0, rfl, h⟩

/-! ### (*towpath/towpathref10.Ring).All (function 27) -/
def c27_0 := cb_ Tryd.f27
def c27_3 := cr_ c27_0
def c27_4 := cl_ c27_3
def c27_5 := cl_ c27_4
def r27_5 := co_ c27_5
def c27_7 := cr_ c27_4
def c27_8 := cl_ c27_7
def c27_11 := cr_ c27_8
def c27_12 := cr_ c27_7
def c27_13 := cr_ c27_3
def c27_14 := cl_ c27_13
def r27_14 := co_ c27_14
def c27_16 := cr_ c27_13

theorem S_towpathref10_Ring_All {r : Option Addr} {w : World} {R : Slc → World → Prop} (h : F_towpathref10_Ring_All r R w) : C_towpathref10_Ring_All r w R := by
 unfold F_towpathref10_Ring_All at h
 unfold C_towpathref10_Ring_All
 refine Calls.mono (calls_of_wpE (args := [Value.pointer r]) (R := fun v w' => ∃ (r0 : Slc), v = sv_ r0 ∧ R r0 w') Tryd.func27 (c := c27_0) (by kernel_rfl) 9 (by kernel_rfl) (by kernel_rfl) [(0, Value.pointer r)] (by kernel_rfl) ?_) ?_
 · refine Zp c27_3 P1 [(0, .pointer r)] ?_
   refine Zs c27_4 c27_13 ?_
   refine Zt r27_5 c27_7 ?_
   refine Zn P1 1 [(0, [], .pointer r), (3, [], .pointer r)] ?_
   refine reg_val (op := (Op.binOp BinOp.eql 62 (Operand.tmp 3) (Operand.const (Value.pointer none)) 62)) (ty := 4) (dst := some 4) (Value.bool r.isNone) (by kernel_rfl) (fun ww => run_ptr_eql_R (p := r) (by kernel_rfl) (by kernel_rfl) (by kernel_rfl) ww) ?_
   refine Ze [(0, .pointer r), (4, .bool r.isNone)] ?_
   change WpE _ _ c27_7 _ _ _
   refine Zc 4 r.isNone c27_8 c27_12 (fun hb => ?_) (fun hb => ?_)
   · replace h := h.1 hb
     refine Zp c27_11 P1 [(2, .slice none 0 0)] ?_
     refine wpE_ret (by kernel_rfl) ?_
     repeat (first | refine seqQ_ret ?_ | refine blockQ_ret ?_ | refine loopQ_ret ?_ | refine cutQ_ret ?_)
     exact retS (rs := [(ResultVar.tmp 2)]) (v := Value.slice none 0 0) (by kernel_rfl) (⟨by kernel_rfl, trivial⟩) ⟨(Slc.mk none 0 0), rfl, h⟩
   · replace h := h.2 hb
     refine wpE_skip (by kernel_rfl) ?_
     change WpE _ _ c27_13 _ _ _
     refine Zt r27_14 c27_16 ?_
     refine Zn P1 1 [(5, [], .pointer r)] ?_
     obtain ⟨hp_0, h⟩ := h
     refine Zv (fun pp => [(5, [], .pointer pp)]) hp_0 ?_
     refine Zn P1 2 [(5, [], .pointer (some ⟨(pblk r), (poff r), none⟩)), (6, [], .pointer (some ⟨(pblk r), (poff r), none⟩))] ?_
     refine Zn P1 3 [(7, [], .pointer (some ⟨(pblk r), (poff r), none⟩))] ?_
     obtain ⟨v8, hc, h⟩ := h
     refine Zl 22 7 (pblk r) (poff r) 22 8 hc ?_
     refine Zf P1 [(2, sv_ v8)] ?_
     change WpE _ _ c27_16 _ _ _
     refine wpE_ret (by kernel_rfl) ?_
     repeat (first | refine seqQ_ret ?_ | refine blockQ_ret ?_ | refine loopQ_ret ?_ | refine cutQ_ret ?_)
     exact retS (rs := [(ResultVar.tmp 2)]) (v := sv_ v8) (by kernel_rfl) (⟨by kernel_rfl, trivial⟩) ⟨v8, rfl, h⟩
 · rintro e w' ⟨v, rfl, r0, rfl, h⟩; exact ⟨r0, rfl, h⟩

/-! ### (*towpath/towpathref10.Ring).First (function 69) -/
def c69_0 := cb_ Tryd.f69
def c69_3 := cr_ c69_0
def c69_4 := cl_ c69_3
def c69_5 := cl_ c69_4
def r69_5 := co_ c69_5
def c69_7 := cr_ c69_4
def c69_8 := cl_ c69_7
def c69_11 := cr_ c69_8
def c69_12 := cr_ c69_7
def c69_13 := cr_ c69_3
def c69_14 := cl_ c69_13
def r69_14 := co_ c69_14
def c69_16 := cr_ c69_13

theorem S_towpathref10_Ring_First {r : Option Addr} {w : World} {R : Int → Bool → World → Prop} (h : F_towpathref10_Ring_First r R w) : C_towpathref10_Ring_First r w R := by
 unfold F_towpathref10_Ring_First at h
 unfold C_towpathref10_Ring_First
 refine Calls.mono (calls_of_wpE (args := [Value.pointer r]) (R := fun v w' => ∃ (r0 : Int) (r1 : Bool), v = Value.tuple #[Value.int .i64 r0, Value.bool r1] ∧ R r0 r1 w') Tryd.func69 (c := c69_0) (by kernel_rfl) 20 (by kernel_rfl) (by kernel_rfl) [(0, Value.pointer r)] (by kernel_rfl) ?_) ?_
 · refine Zp c69_3 P2 [(0, .pointer r)] ?_
   refine Zs c69_4 c69_13 ?_
   refine wpE_seq_cut (x := c69_5) (y := c69_7) (by kernel_rfl) (fun l w => ∃ (t13 : Bool), l = [(0, Value.pointer r), (13, Value.bool t13)] ∧ F_towpathref10_Ring_First_k0 r R t13 w) ?_ ?_
   · refine Zr r69_5 ?_
     refine Zn P1 1 [(0, [], .pointer r), (4, [], .pointer r)] ?_
     refine reg_val (op := (Op.binOp BinOp.eql 62 (Operand.tmp 4) (Operand.const (Value.pointer none)) 62)) (ty := 4) (dst := some 5) (Value.bool r.isNone) (by kernel_rfl) (fun ww => run_ptr_eql_R (p := r) (by kernel_rfl) (by kernel_rfl) (by kernel_rfl) ww) ?_
     refine Zn P2 4 [(0, [], .pointer r), (6, [], .bool r.isNone), (7, [(6, false)], .pointer r)] ?_
     refine reg_split 6 r.isNone (by kernel_rfl) (fun hb => ?_) (fun hb => ?_)
     · replace h := h.1 hb
       refine Zn [] 4 [(0, [], .pointer r), (6, [], .bool true), (7, [], undef)] ?_
       refine Zf [.skip, .skip, .skip, .skip, .skip, .plain] [(0, .pointer r), (13, .bool true)] ?_
       exact ⟨[(0, Value.pointer r), (13, Value.bool true)], Sub.mk (by kernel_rfl), true, rfl, h⟩
     · replace h := h.2 hb
       refine Zn [] 4 [(0, [], .pointer r), (6, [], .bool false), (7, [], .pointer r)] ?_
       refine Zn [] 4 [(0, [], .pointer r), (6, [], .bool false), (7, [], .pointer r)] ?_
       obtain ⟨hp_5, h⟩ := h
       refine Zv (fun pp => [(0, [], .pointer r), (6, [], .bool false), (7, [], .pointer pp)]) hp_5 ?_
       refine Zn [.sure] 5 [(0, [], .pointer r), (6, [], .bool false), (7, [], .pointer (some ⟨(pblk r), (poff r), none⟩)), (8, [], .pointer (some ⟨(pblk r), (poff r), none⟩))] ?_
       refine Zn [.sure] 6 [(0, [], .pointer r), (6, [], .bool false), (9, [], .pointer (some ⟨(pblk r), (poff r), none⟩))] ?_
       obtain ⟨v10, hc, h⟩ := h
       refine Zl 22 9 (pblk r) (poff r) 22 10 hc ?_
       refine Zf [.sure, .sure, .plain] [(0, .pointer r), (13, .bool (((v10.len : Nat) : Int) == 0))] ?_
       exact ⟨[(0, Value.pointer r), (13, Value.bool (((v10.len : Nat) : Int) == 0))], Sub.mk (by kernel_rfl), (((v10.len : Nat) : Int) == 0), rfl, h⟩
   · rintro _ w1 ⟨t13, rfl, h⟩
     unfold F_towpathref10_Ring_First_k0 at h
     refine Zc 13 t13 c69_8 c69_12 (fun hb => ?_) (fun hb => ?_)
     · replace h := h.1 hb
       refine Zp c69_11 P2 [(2, .int .i64 0), (3, .bool false)] ?_
       refine wpE_ret (by kernel_rfl) ?_
       repeat (first | refine seqQ_ret ?_ | refine blockQ_ret ?_ | refine loopQ_ret ?_ | refine cutQ_ret ?_)
       exact retT (rs := [(ResultVar.tmp 2), (ResultVar.tmp 3)]) (vs := [Value.int .i64 0, Value.bool false]) (by kernel_rfl) (⟨by kernel_rfl, ⟨by kernel_rfl, trivial⟩⟩) (by kernel_rfl) ⟨0, false, rfl, h⟩
     · replace h := h.2 hb
       refine wpE_skip (by kernel_rfl) ?_
       change WpE _ _ c69_13 _ _ _
       refine Zt r69_14 c69_16 ?_
       refine Zn P1 1 [(14, [], .pointer r)] ?_
       obtain ⟨hp_3, h⟩ := h
       refine Zv (fun pp => [(14, [], .pointer pp)]) hp_3 ?_
       refine Zn P1 2 [(14, [], .pointer (some ⟨(pblk r), (poff r), none⟩)), (15, [], .pointer (some ⟨(pblk r), (poff r), none⟩))] ?_
       refine Zn P1 3 [(16, [], .pointer (some ⟨(pblk r), (poff r), none⟩))] ?_
       obtain ⟨v17, hc, h⟩ := h
       refine Zl 22 16 (pblk r) (poff r) 22 17 hc ?_
       refine Zn [] 4 [(17, [], sv_ v17)] ?_
       obtain ⟨hp_4, h⟩ := h
       refine Zv (fun pp => [(17, [], .slice pp v17.len v17.cap)]) hp_4 ?_
       obtain ⟨h0, h1, h⟩ := h
       refine reg_indexS1 (t := 22) (e := 3) (x := (Operand.tmp 17)) (ix := (Operand.const (Value.int Go.IntKind.i64 0))) (b := (pblk v17.ptr)) (o := (poff v17.ptr)) (l := v17.len) (c := v17.cap) (k := .i64) (j := 0) (ty := 0) (dst := some 18) (by kernel_rfl) (by kernel_rfl) (by kernel_rfl) (by kernel_rfl) (by kernel_rfl) h0 h1 ?_
       refine Zn [] 5 [(18, [], .pointer (some ⟨(pblk v17.ptr), (poff v17.ptr), none⟩))] ?_
       obtain ⟨v19, hc, h⟩ := h
       refine Zl 3 18 (pblk v17.ptr) (poff v17.ptr) 3 19 hc ?_
       refine Zf P2 [(2, .int .i64 v19), (3, .bool true)] ?_
       change WpE _ _ c69_16 _ _ _
       refine wpE_ret (by kernel_rfl) ?_
       repeat (first | refine seqQ_ret ?_ | refine blockQ_ret ?_ | refine loopQ_ret ?_ | refine cutQ_ret ?_)
       exact retT (rs := [(ResultVar.tmp 2), (ResultVar.tmp 3)]) (vs := [Value.int .i64 v19, Value.bool true]) (by kernel_rfl) (⟨by kernel_rfl, ⟨by kernel_rfl, trivial⟩⟩) (by kernel_rfl) ⟨v19, true, rfl, h⟩
 · rintro e w' ⟨v, rfl, r0, r1, rfl, h⟩; exact ⟨r0, r1, rfl, h⟩
end
end Go.Proofs.YtchcljkflklddaaDoor
