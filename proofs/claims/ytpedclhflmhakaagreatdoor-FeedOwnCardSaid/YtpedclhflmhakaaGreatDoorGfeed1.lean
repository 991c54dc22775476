/- WRITTEN BY PROGRAM (dec.py): for each Go function the clean formula F, the call's contract C, and the proof S that F gives C. -/
import Derived.Test.YtpedclhflmhakaaGreatDoorRows
import Derived.Test.YtpedclhflmhakaaGreatDoorGF
namespace Go.Proofs.YtpedclhflmhakaaGreatDoor
open Go
set_option linter.unusedVariables false
set_option maxRecDepth 100000
set_option maxHeartbeats 4000000
noncomputable section

/-! ### (*towpath/feed.Feed).skips (function 32) -/
def c32_0 := cb_ Tryz.f32
def c32_3 := cr_ c32_0
def c32_4 := cl_ c32_3
def r32_4 := co_ c32_4
def c32_6 := cr_ c32_3
def c32_9 := cr_ c32_6
def o_feed_Feed_skips_4 : List Nat := [0, 1, 2, 3, 4, 5, 6, 7, 8, 9, 10, 11, 12, 13, 14, 15, 16, 17]

theorem S_feed_Feed_skips {f : Option Addr} {w : World} {R : Bool → World → Prop} (h : F_feed_Feed_skips f R w) : C_feed_Feed_skips f w R := by
 unfold F_feed_Feed_skips at h
 unfold C_feed_Feed_skips
 refine Calls.mono (calls_of_wpE (args := [Value.pointer f]) (R := fun v w' => ∃ (r0 : Bool), v = Value.bool r0 ∧ R r0 w') Tryz.func32 (c := c32_0) (by kernel_rfl) 21 (by kernel_rfl) (by kernel_rfl) [(0, Value.pointer f)] (by kernel_rfl) ?_) ?_
 · refine Zp c32_3 P1 [(0, .pointer f)] ?_
   refine Zs c32_4 c32_6 ?_
   refine wpE_mixregion (id := 1) (ops := r32_4) o_feed_Feed_skips_4 (by kernel_rfl) (by kernel_rfl) (by kernel_rfl) (by kernel_rfl) (fun w1 hw => ?_)
   replace h := h w1 hw
   clear hw
   refine mreg_run P1 1 [(0, [], Value.pointer f), (6, [], Value.pointer f)] (by kernel_rfl) (by kernel_rfl) ?_
   obtain ⟨hp_3, h⟩ := h
   refine mreg_conv [(0, [], Value.pointer f), (6, [], Value.pointer (some ⟨(pblk f), (poff f), none⟩))] (congrArg (fun pp => ([(0, [], Value.pointer f), (6, [], Value.pointer pp)] : GEnv)) hp_3) ?_
   refine mreg_run P1 2 [(0, [], Value.pointer f), (6, [], Value.pointer (some ⟨(pblk f), (poff f), none⟩)), (7, [], Value.pointer (some ⟨(pblk f), (poff f), none⟩))] (by kernel_rfl) (by kernel_rfl) ?_
   refine mreg_run P1 3 [(0, [], Value.pointer f), (8, [], Value.pointer (some ⟨(pblk f), (poff f) + 4, none⟩))] (by kernel_rfl) (by kernel_rfl) ?_
   obtain ⟨v9, hc, h⟩ := h
   refine mreg_load1 (i := 3) (by kernel_rfl) (t := 97) (a := (Operand.tmp 8)) (b := (pblk f)) (o := ((poff f) + 4)) (ty := 97) (dst := some 9) (by kernel_rfl) (by kernel_rfl) (by kernel_rfl) hc ?_
   refine mreg_run P1 5 [(9, [], Value.map v9), (10, [], Value.pointer f)] (by kernel_rfl) (by kernel_rfl) ?_
   obtain ⟨hp_4, h⟩ := h
   refine mreg_conv [(9, [], Value.map v9), (10, [], Value.pointer (some ⟨(pblk f), (poff f), none⟩))] (congrArg (fun pp => ([(9, [], Value.map v9), (10, [], Value.pointer pp)] : GEnv)) hp_4) ?_
   refine mreg_run P1 6 [(9, [], Value.map v9), (10, [], Value.pointer (some ⟨(pblk f), (poff f), none⟩)), (11, [], Value.pointer (some ⟨(pblk f), (poff f), none⟩))] (by kernel_rfl) (by kernel_rfl) ?_
   refine mreg_run P1 7 [(9, [], Value.map v9), (12, [], Value.pointer (some ⟨(pblk f), (poff f) + 5, none⟩))] (by kernel_rfl) (by kernel_rfl) ?_
   obtain ⟨v13, hc, h⟩ := h
   refine mreg_load1 (i := 7) (by kernel_rfl) (t := 100) (a := (Operand.tmp 12)) (b := (pblk f)) (o := ((poff f) + 5)) (ty := 100) (dst := some 13) (by kernel_rfl) (by kernel_rfl) (by kernel_rfl) hc ?_
   refine mreg_run [] 8 [(9, [], Value.map v9), (13, [], Value.pointer v13)] (by kernel_rfl) (by kernel_rfl) ?_
   obtain ⟨hp_5, h⟩ := h
   refine mreg_conv [(9, [], Value.map v9), (13, [], Value.pointer (some ⟨(pblk v13), (poff v13), none⟩))] (congrArg (fun pp => ([(9, [], Value.map v9), (13, [], Value.pointer pp)] : GEnv)) hp_5) ?_
   refine mreg_run P1 9 [(9, [], Value.map v9), (13, [], Value.pointer (some ⟨(pblk v13), (poff v13), none⟩)), (14, [], Value.pointer (some ⟨(pblk v13), (poff v13), none⟩))] (by kernel_rfl) (by kernel_rfl) ?_
   refine mreg_run P1 10 [(9, [], Value.map v9), (15, [], Value.pointer (some ⟨(pblk v13), (poff v13), none⟩))] (by kernel_rfl) (by kernel_rfl) ?_
   obtain ⟨v16, hc, h⟩ := h
   refine mreg_load1 (i := 10) (by kernel_rfl) (t := 3) (a := (Operand.tmp 15)) (b := (pblk v13)) (o := (poff v13)) (ty := 3) (dst := some 16) (by kernel_rfl) (by kernel_rfl) (by kernel_rfl) hc ?_
   refine mreg_run [] 11 [(9, [], Value.map v9), (16, [], Value.int .i64 v16)] (by kernel_rfl) (by kernel_rfl) ?_
   obtain ⟨es, hm_, hi_, h⟩ := h
   refine mreg_lookupI (i := 11) (by kernel_rfl) (t := 97) (kt := 3) (et := 98) (x := (Operand.tmp 9)) (k := (Operand.tmp 16)) (m := v9) (es := es) (j := v16) (ty := 143) (dst := some 17) (by kernel_rfl) (by kernel_rfl) (by kernel_rfl) (by kernel_rfl) (by kernel_rfl) (fun w_ => by kernel_rfl) hm_ hi_ ?_
   refine mreg_run P3 15 [(18, [], Value.agg #[]), (19, [], Value.bool (mapHas es v16))] (by kernel_rfl) (by kernel_rfl) ?_
   refine mreg_new (op := (Op.alloc 98)) (ty := 0) (dst := some 3) 15 [] [(11, fun w' => MapAt w' v9 es), (10, fun w' => w'.cell? ⟨(pblk v13), (poff v13), none⟩ = some (Value.int .i64 v16)), (7, fun w' => w'.cell? ⟨(pblk f), (poff f) + 5, none⟩ = some (Value.pointer v13)), (3, fun w' => w'.cell? ⟨(pblk f), (poff f) + 4, none⟩ = some (Value.map v9))] (fun bb => pv_ bb) (Obj.cells ([]).toArray ty_struct (0, 0)) (by kernel_rfl) (by kernel_rfl) (by kernel_rfl) (by kernel_rfl) (by kernel_rfl) (by kernel_rfl) (fun b_ w2 hb hw => ?_)
   replace h := h b_ w2 hb hw
   clear hb hw
   obtain ⟨hk0, hk1, hk2, hk3, h⟩ := h
   refine ⟨⟨hk0, hk1, hk2, hk3, trivial⟩, ?_⟩
   refine mreg_run [] 16 [(3, [], pv_ b_), (18, [], Value.agg #[]), (19, [], Value.bool (mapHas es v16))] (by kernel_rfl) (by kernel_rfl) ?_
   obtain ⟨hc, h⟩ := h
   refine mreg_store (t := 98) (a := (Operand.tmp 3)) (x := (Operand.tmp 18)) (b := b_) (o := 0) (k := 0) (ty := 0) (dst := none) 16 [0, 1, 2, 3, 4, 5, 6, 7, 8, 9, 10, 11, 12, 13, 15] [] [] (by kernel_rfl) (by kernel_rfl) (by kernel_rfl) (by kernel_rfl) (by kernel_rfl) (by kernel_rfl) (by kernel_rfl) (by kernel_rfl) (by kernel_rfl) (by kernel_rfl) hc (fun w3 hw => ?_)
   replace h := h w3 hw
   clear hw
   refine ⟨trivial, ?_⟩
   refine mreg_run P1 18 [(4, [], Value.bool (mapHas es v16))] (by kernel_rfl) (by kernel_rfl) ?_
   refine mreg_end [(4, Value.bool (mapHas es v16))] (by kernel_rfl) (by kernel_rfl) (by kernel_rfl) ?_
   change WpE _ _ c32_6 _ _ _
   refine Zp c32_9 P2 [(2, .bool (mapHas es v16))] ?_
   refine wpE_ret (by kernel_rfl) ?_
   repeat (first | refine seqQ_ret ?_ | refine blockQ_ret ?_ | refine loopQ_ret ?_ | refine cutQ_ret ?_)
   exact retS (rs := [(ResultVar.tmp 2)]) (v := Value.bool (mapHas es v16)) (by kernel_rfl) (⟨by kernel_rfl, trivial⟩) ⟨(mapHas es v16), rfl, h⟩
 · rintro e w' ⟨v, rfl, r0, rfl, h⟩; exact ⟨r0, rfl, h⟩

/-! ### (*towpath/feed.Feed).near (function 33) -/
def c33_0 := cb_ Tryz.f33
def c33_3 := cr_ c33_0
def c33_4 := cl_ c33_3
def r33_4 := co_ c33_4
def c33_6 := cr_ c33_3

theorem S_feed_Feed_near {f : Option Addr} {mark : Int} {w : World} {R : Bool → World → Prop} (h : F_feed_Feed_near f mark R w) : C_feed_Feed_near f mark w R := by
 unfold F_feed_Feed_near at h
 unfold C_feed_Feed_near
 refine Calls.mono (calls_of_wpE (args := [Value.pointer f, Value.int .i64 mark]) (R := fun v w' => ∃ (r0 : Bool), v = Value.bool r0 ∧ R r0 w') Tryz.func33 (c := c33_0) (by kernel_rfl) 19 (by kernel_rfl) (by kernel_rfl) [(0, Value.pointer f), (1, Value.int .i64 mark)] (by kernel_rfl) ?_) ?_
 · refine Zp c33_3 P1 [(0, .pointer f), (1, .int .i64 mark)] ?_
   refine Zs c33_4 c33_6 ?_
   refine wpE_drawregion (id := 1) (ops := r33_4) (by kernel_rfl) (by kernel_rfl) (by kernel_rfl) ?_
   refine qreg_run P1 1 [(0, [], Value.pointer f), (1, [], Value.int .i64 mark), (5, [], Value.pointer f)] (by kernel_rfl) (by kernel_rfl) ?_
   obtain ⟨hp_0, h⟩ := h
   refine qreg_conv [(0, [], Value.pointer f), (1, [], Value.int .i64 mark), (5, [], Value.pointer (some ⟨(pblk f), (poff f), none⟩))] (congrArg (fun pp => ([(0, [], Value.pointer f), (1, [], Value.int .i64 mark), (5, [], Value.pointer pp)] : GEnv)) hp_0) ?_
   refine qreg_run P1 2 [(0, [], Value.pointer f), (1, [], Value.int .i64 mark), (5, [], Value.pointer (some ⟨(pblk f), (poff f), none⟩)), (6, [], Value.pointer (some ⟨(pblk f), (poff f), none⟩))] (by kernel_rfl) (by kernel_rfl) ?_
   refine qreg_run P1 3 [(0, [], Value.pointer f), (1, [], Value.int .i64 mark), (7, [], Value.pointer (some ⟨(pblk f), (poff f) + 5, none⟩))] (by kernel_rfl) (by kernel_rfl) ?_
   obtain ⟨v8, hc, h⟩ := h
   refine qreg_load1 (t := 100) (a := (Operand.tmp 7)) (b := (pblk f)) (o := ((poff f) + 5)) (ty := 100) (dst := some 8) (by kernel_rfl) (by kernel_rfl) (by kernel_rfl) hc ?_
   refine qreg_run [] 4 [(0, [], Value.pointer f), (1, [], Value.int .i64 mark), (8, [], Value.pointer v8)] (by kernel_rfl) (by kernel_rfl) ?_
   obtain ⟨hp_1, h⟩ := h
   refine qreg_conv [(0, [], Value.pointer f), (1, [], Value.int .i64 mark), (8, [], Value.pointer (some ⟨(pblk v8), (poff v8), none⟩))] (congrArg (fun pp => ([(0, [], Value.pointer f), (1, [], Value.int .i64 mark), (8, [], Value.pointer pp)] : GEnv)) hp_1) ?_
   refine qreg_run P1 5 [(0, [], Value.pointer f), (1, [], Value.int .i64 mark), (8, [], Value.pointer (some ⟨(pblk v8), (poff v8), none⟩)), (9, [], Value.pointer (some ⟨(pblk v8), (poff v8), none⟩))] (by kernel_rfl) (by kernel_rfl) ?_
   refine qreg_run P1 6 [(0, [], Value.pointer f), (1, [], Value.int .i64 mark), (10, [], Value.pointer (some ⟨(pblk v8), (poff v8), none⟩))] (by kernel_rfl) (by kernel_rfl) ?_
   obtain ⟨v11, hc, h⟩ := h
   refine qreg_load1 (t := 3) (a := (Operand.tmp 10)) (b := (pblk v8)) (o := (poff v8)) (ty := 3) (dst := some 11) (by kernel_rfl) (by kernel_rfl) (by kernel_rfl) hc ?_
   refine qreg_run P1 8 [(1, [], Value.int .i64 mark), (11, [], Value.int .i64 v11), (12, [], Value.pointer f)] (by kernel_rfl) (by kernel_rfl) ?_
   obtain ⟨hp_2, h⟩ := h
   refine qreg_conv [(1, [], Value.int .i64 mark), (11, [], Value.int .i64 v11), (12, [], Value.pointer (some ⟨(pblk f), (poff f), none⟩))] (congrArg (fun pp => ([(1, [], Value.int .i64 mark), (11, [], Value.int .i64 v11), (12, [], Value.pointer pp)] : GEnv)) hp_2) ?_
   refine qreg_run P1 9 [(1, [], Value.int .i64 mark), (11, [], Value.int .i64 v11), (12, [], Value.pointer (some ⟨(pblk f), (poff f), none⟩)), (13, [], Value.pointer (some ⟨(pblk f), (poff f), none⟩))] (by kernel_rfl) (by kernel_rfl) ?_
   refine qreg_run P1 10 [(1, [], Value.int .i64 mark), (11, [], Value.int .i64 v11), (14, [], Value.pointer (some ⟨(pblk f), (poff f) + 3, none⟩))] (by kernel_rfl) (by kernel_rfl) ?_
   obtain ⟨v15, hc, h⟩ := h
   refine qreg_load1 (t := 3) (a := (Operand.tmp 14)) (b := (pblk f)) (o := ((poff f) + 3)) (ty := 3) (dst := some 15) (by kernel_rfl) (by kernel_rfl) (by kernel_rfl) hc ?_
   refine qreg_run P4 15 [(4, [], Value.bool (decide ((IntKind.i64.wrap (v11 - v15)) ≤ mark)))] (by kernel_rfl) (by kernel_rfl) ?_
   refine qreg_end [(4, Value.bool (decide ((IntKind.i64.wrap (v11 - v15)) ≤ mark)))] (by kernel_rfl) (by kernel_rfl) (fun w1 hw => ?_)
   replace h := h w1 hw
   clear hw
   change WpE _ _ c33_6 _ _ _
   refine wpE_ret (by kernel_rfl) ?_
   repeat (first | refine seqQ_ret ?_ | refine blockQ_ret ?_ | refine loopQ_ret ?_ | refine cutQ_ret ?_)
   exact retS (rs := [(ResultVar.tmp 4)]) (v := Value.bool (decide ((IntKind.i64.wrap (v11 - v15)) ≤ mark))) (by kernel_rfl) (⟨by kernel_rfl, trivial⟩) ⟨(decide ((IntKind.i64.wrap (v11 - v15)) ≤ mark)), rfl, h⟩
 · rintro e w' ⟨v, rfl, r0, rfl, h⟩; exact ⟨r0, rfl, h⟩
end
end Go.Proofs.YtpedclhflmhakaaGreatDoor
