/- WRITTEN BY PROGRAM (dec.py): for each Go function the clean formula F, the call's contract C, and the proof S that F gives C. -/
import Derived.Test.YtpedclhflmhakaaRows
import Derived.Test.YtpedclhflmhakaaGF
namespace Go.Proofs.Ytpedclhflmhakaa
open Go
set_option linter.unusedVariables false
set_option maxRecDepth 100000
set_option maxHeartbeats 4000000
noncomputable section

/-! ### towpath/towpathlaw17.CallNone (function 10) -/
def c10_0 := cb_ Try.f10
def c10_3 := cr_ c10_0
def c10_4 := cl_ c10_3
def r10_4 := co_ c10_4
def c10_6 := cr_ c10_3
def c10_7 := cl_ c10_6
def c10_10 := cr_ c10_7
def c10_11 := cl_ c10_10
def c10_12 := cl_ c10_11
def c10_13 := cl_ c10_12
def c10_16 := cr_ c10_13
def c10_17 := cl_ c10_16
def c10_18 := cr_ c10_16
def c10_19 := cr_ c10_12
def c10_20 := cl_ c10_19
def c10_21 := cl_ c10_20
def c10_22 := cl_ c10_21
def r10_22 := co_ c10_22
def c10_24 := cr_ c10_21
def c10_25 := cl_ c10_24
def c10_28 := cr_ c10_25
def c10_29 := cr_ c10_24
def c10_30 := cr_ c10_19
def r10_30 := co_ c10_30
def c10_32 := cr_ c10_6
def c10_33 := cl_ c10_32
def r10_33 := co_ c10_33
def c10_35 := cr_ c10_32

theorem S_towpathlaw17_CallNone {q : Slc} {w : World} {R : Bool → World → Prop} (h : F_towpathlaw17_CallNone q R w) : C_towpathlaw17_CallNone q w R := by
 unfold F_towpathlaw17_CallNone at h
 unfold C_towpathlaw17_CallNone
 refine Calls.mono (calls_of_wpE (args := [sv_ q]) (R := fun v w' => ∃ (r0 : Bool), v = Value.bool r0 ∧ R r0 w') Try.func10 (c := c10_0) (by kernel_rfl) 41 (by kernel_rfl) (by kernel_rfl) [(0, sv_ q)] (by kernel_rfl) ?_) ?_
 · refine Zp c10_3 P1 [(0, sv_ q)] ?_
   refine Zt r10_4 c10_6 ?_
   refine Zn P1 1 [(0, [], sv_ q), (5, [], .agg #[.int .i64 0, .int .i64 0, .int .i64 0, .int .i64 0, .int .i64 0, .int .u8 0, .string ByteArray.empty, .string ByteArray.empty, .bool false, .int .i64 0, .slice none 0 0, .int .i64 0, .slice none 0 0])] ?_
   refine Zw (some 6) (fun bb => pv_ bb) (Obj.cells ([.int .i64 0, .int .i64 0, .int .i64 0, .int .i64 0, .int .i64 0, .int .u8 0, .string ByteArray.empty, .string ByteArray.empty, .bool false, .int .i64 0, .slice none 0 0, .int .i64 0, .slice none 0 0]).toArray ty_call_Task (0, 0)) (fun b_ w1 hb hw => ?_)
   replace h := h b_ w1 hb hw
   clear hb hw
   refine Zf P1 [(0, sv_ q), (3, pv_ b_)] ?_
   change WpE _ _ c10_6 _ _ _
   refine Zs c10_7 c10_32 ?_
   refine Zp c10_10 P1 [(0, sv_ q), (3, pv_ b_), (4, .int .i64 0)] ?_
   refine Zb 0 c10_11 ?_
   obtain ⟨I, μ, h0, hr⟩ := h
   refine wpE_loop (x := c10_12) (by kernel_rfl) (fun m l w => ∃ (i : Int), l = [(0, sv_ q), (3, pv_ b_), (4, Value.int .i64 i)] ∧ I i w ∧ μ i w = m) (l' := [(0, sv_ q), (3, pv_ b_), (4, Value.int .i64 0)]) (Sub.mk (by kernel_rfl)) ⟨0, rfl, h0, rfl⟩ ?_
   rintro _ _ w2 ⟨i, rfl, hI, rfl⟩
   obtain ⟨again_, again__h, h⟩ : ∃ again_ : Int → World → Prop, (∀ i' w', again_ i' w' → I i' w' ∧ μ i' w' < μ i w2) ∧ F_towpathlaw17_CallNone_L0 q R b_ again_ i w2 := ⟨_, fun _ _ h => h, hr i w2 hI⟩
   clear h0 hI
   unfold F_towpathlaw17_CallNone_L0 at h
   refine Zs c10_13 c10_19 ?_
   refine Zp c10_16 [.plain, .plain, .plain, .plain, .plain, .plain, .plain, .pick] [(0, sv_ q), (3, pv_ b_), (4, .int .i64 i), (14, .bool ((decide (i < ((q.len : Nat) : Int))) && (decide (i < 50))))] ?_
   refine Zc 14 ((decide (i < ((q.len : Nat) : Int))) && (decide (i < 50))) c10_17 c10_18 (fun hb => ?_) (fun hb => ?_)
   · replace h := h.1 hb
     refine wpE_skip (by kernel_rfl) ?_
     change WpE _ _ c10_19 _ _ _
     refine Zs c10_20 c10_30 ?_
     refine Zb 1 c10_21 ?_
     refine wpE_seq_cut (x := c10_22) (y := c10_24) (by kernel_rfl) (fun l w => ∃ (t36 : Bool), l = [(0, sv_ q), (3, pv_ b_), (4, Value.int .i64 i), (36, Value.bool t36)] ∧ F_towpathlaw17_CallNone_k1 R i again_ t36 w) ?_ ?_
     · refine Zr r10_22 ?_
       refine Zn P2 2 [(0, [], sv_ q), (3, [], pv_ b_), (4, [], .int .i64 i), (17, [], sv_ q), (18, [], .int .i64 i)] ?_
       obtain ⟨hp_14, h⟩ := h
       refine Zv (fun pp => [(0, [], sv_ q), (3, [], pv_ b_), (4, [], .int .i64 i), (17, [], .slice pp q.len q.cap), (18, [], .int .i64 i)]) hp_14 ?_
       obtain ⟨h0, h1, h⟩ := h
       refine Zj 86 97 17 18 (pblk q.ptr) (poff q.ptr) q.len q.cap i 9 19 0 h0 h1 ?_
       refine Zn [] 3 [(0, [], sv_ q), (3, [], pv_ b_), (4, [], .int .i64 i), (19, [], .pointer (some ⟨(pblk q.ptr), (poff q.ptr) + i.toNat * 9, none⟩))] ?_
       obtain ⟨v20, hc, h⟩ := h
       refine reg_loadN (t := 97) (a := (Operand.tmp 19)) (b := (pblk q.ptr)) (o := ((poff q.ptr) + i.toNat * 9)) (ty := 97) (dst := some 20) [Value.int .u8 v20.Kind, Value.int .i64 v20.Mark, Value.int .i64 v20.Least, sv_ v20.Beyond, Value.int .i64 v20.Resp.To, Value.bool v20.Resp.OK, sv_ v20.Resp.Entries, sv_ v20.Resp.Held, Value.int .i64 v20.Resp.Count] (by kernel_rfl) (by kernel_rfl) (by kernel_rfl) (k := 9) (by kernel_rfl) (by kernel_rfl) hc ?_
       refine Zn [] 4 [(0, [], sv_ q), (3, [], pv_ b_), (4, [], .int .i64 i), (20, [], .agg #[.int .u8 v20.Kind, .int .i64 v20.Mark, .int .i64 v20.Least, sv_ v20.Beyond, .int .i64 v20.Resp.To, .bool v20.Resp.OK, sv_ v20.Resp.Entries, sv_ v20.Resp.Held, .int .i64 v20.Resp.Count])] ?_
       refine Zm 38 #[.pointer none, .pointer none, .agg #[.int .u8 v20.Kind, .int .i64 v20.Mark, .int .i64 v20.Least, sv_ v20.Beyond, .int .i64 v20.Resp.To, .bool v20.Resp.OK, sv_ v20.Resp.Entries, sv_ v20.Resp.Held, .int .i64 v20.Resp.Count]] (some 21) (Calls.mono h ?_)
       rintro _ w4 ⟨v21, rfl, h⟩
       refine ⟨_, rfl, ?_⟩
       refine Zn (Pl 5) 10 [(0, [], sv_ q), (3, [], pv_ b_), (4, [], .int .i64 i), (23, [], .bool (!v21)), (24, [(23, false)], pv_ b_), (25, [(23, false)], sv_ q), (26, [(23, false)], .int .i64 i)] ?_
       refine reg_split 23 (!v21) (by kernel_rfl) (fun hb => ?_) (fun hb => ?_)
       · replace h := h.1 hb
         refine Zn [] 10 [(0, [], sv_ q), (3, [], pv_ b_), (4, [], .int .i64 i), (23, [], .bool true), (24, [], undef), (25, [], undef), (26, [], undef)] ?_
         refine Zf [.skip, .skip, .skip, .skip, .plain, .plain, .skip, .skip, .skip, .plain] [(0, sv_ q), (3, pv_ b_), (4, .int .i64 i), (36, .bool true)] ?_
         exact ⟨[(0, sv_ q), (3, pv_ b_), (4, Value.int .i64 i), (36, Value.bool true)], Sub.mk (by kernel_rfl), true, rfl, h⟩
       · replace h := h.2 hb
         refine Zn [] 10 [(0, [], sv_ q), (3, [], pv_ b_), (4, [], .int .i64 i), (23, [], .bool false), (24, [], pv_ b_), (25, [], sv_ q), (26, [], .int .i64 i)] ?_
         refine Zn [] 10 [(0, [], sv_ q), (3, [], pv_ b_), (4, [], .int .i64 i), (23, [], .bool false), (24, [], pv_ b_), (25, [], sv_ q), (26, [], .int .i64 i)] ?_
         obtain ⟨hp_15, h⟩ := h
         refine Zv (fun pp => [(0, [], sv_ q), (3, [], pv_ b_), (4, [], .int .i64 i), (23, [], .bool false), (24, [], pv_ b_), (25, [], .slice pp q.len q.cap), (26, [], .int .i64 i)]) hp_15 ?_
         obtain ⟨h0, h1, h⟩ := h
         refine Zj 86 97 25 26 (pblk q.ptr) (poff q.ptr) q.len q.cap i 9 27 0 h0 h1 ?_
         refine Zn [] 11 [(0, [], sv_ q), (3, [], pv_ b_), (4, [], .int .i64 i), (23, [], .bool false), (24, [], pv_ b_), (27, [], .pointer (some ⟨(pblk q.ptr), (poff q.ptr) + i.toNat * 9, none⟩))] ?_
         obtain ⟨v28, hc, h⟩ := h
         refine reg_loadN (t := 97) (a := (Operand.tmp 27)) (b := (pblk q.ptr)) (o := ((poff q.ptr) + i.toNat * 9)) (ty := 97) (dst := some 28) [Value.int .u8 v28.Kind, Value.int .i64 v28.Mark, Value.int .i64 v28.Least, sv_ v28.Beyond, Value.int .i64 v28.Resp.To, Value.bool v28.Resp.OK, sv_ v28.Resp.Entries, sv_ v28.Resp.Held, Value.int .i64 v28.Resp.Count] (by kernel_rfl) (by kernel_rfl) (by kernel_rfl) (k := 9) (by kernel_rfl) (by kernel_rfl) hc ?_
         refine Zn [] 12 [(0, [], sv_ q), (3, [], pv_ b_), (4, [], .int .i64 i), (23, [], .bool false), (24, [], pv_ b_), (28, [], .agg #[.int .u8 v28.Kind, .int .i64 v28.Mark, .int .i64 v28.Least, sv_ v28.Beyond, .int .i64 v28.Resp.To, .bool v28.Resp.OK, sv_ v28.Resp.Entries, sv_ v28.Resp.Held, .int .i64 v28.Resp.Count])] ?_
         refine Zm 38 #[pv_ b_, .pointer none, .agg #[.int .u8 v28.Kind, .int .i64 v28.Mark, .int .i64 v28.Least, sv_ v28.Beyond, .int .i64 v28.Resp.To, .bool v28.Resp.OK, sv_ v28.Resp.Entries, sv_ v28.Resp.Held, .int .i64 v28.Resp.Count]] (some 29) (Calls.mono h ?_)
         rintro _ w5 ⟨v29, rfl, h⟩
         refine ⟨_, rfl, ?_⟩
         refine Zn [.sure, .plain, .plain, .plain] 17 [(0, [], sv_ q), (3, [], pv_ b_), (4, [], .int .i64 i), (32, [], .bool (!v29)), (33, [(32, false)], pv_ b_)] ?_
         refine reg_split 32 (!v29) (by kernel_rfl) (fun hb => ?_) (fun hb => ?_)
         · replace h := h.1 hb
           refine Zn [] 17 [(0, [], sv_ q), (3, [], pv_ b_), (4, [], .int .i64 i), (32, [], .bool true), (33, [], undef)] ?_
           refine Zf [.skip, .skip, .plain] [(0, sv_ q), (3, pv_ b_), (4, .int .i64 i), (36, .bool true)] ?_
           exact ⟨[(0, sv_ q), (3, pv_ b_), (4, Value.int .i64 i), (36, Value.bool true)], Sub.mk (by kernel_rfl), true, rfl, h⟩
         · replace h := h.2 hb
           refine Zn [] 17 [(0, [], sv_ q), (3, [], pv_ b_), (4, [], .int .i64 i), (32, [], .bool false), (33, [], pv_ b_)] ?_
           refine Zn [] 17 [(0, [], sv_ q), (3, [], pv_ b_), (4, [], .int .i64 i), (32, [], .bool false), (33, [], pv_ b_)] ?_
           refine Zm 39 #[pv_ b_, .pointer none] (some 34) (Calls.mono h ?_)
           rintro _ w6 ⟨v34, rfl, h⟩
           refine ⟨_, rfl, ?_⟩
           refine Zf [.sure, .plain] [(0, sv_ q), (3, pv_ b_), (4, .int .i64 i), (36, .bool (!v34))] ?_
           exact ⟨[(0, sv_ q), (3, pv_ b_), (4, Value.int .i64 i), (36, Value.bool (!v34))], Sub.mk (by kernel_rfl), (!v34), rfl, h⟩
     · rintro _ w3 ⟨t36, rfl, h⟩
       unfold F_towpathlaw17_CallNone_k1 at h
       refine Zc 36 t36 c10_25 c10_29 (fun hb => ?_) (fun hb => ?_)
       · replace h := h.1 hb
         refine Zp c10_28 P1 [(2, .bool false)] ?_
         refine wpE_ret (by kernel_rfl) ?_
         repeat (first | refine seqQ_ret ?_ | refine blockQ_ret ?_ | refine loopQ_ret ?_ | refine cutQ_ret ?_)
         exact retS (rs := [(ResultVar.tmp 2)]) (v := Value.bool false) (by kernel_rfl) (⟨by kernel_rfl, trivial⟩) ⟨false, rfl, h⟩
       · replace h := h.2 hb
         refine wpE_skip (by kernel_rfl) ?_
         change WpE _ _ c10_30 _ _ _
         refine Zr r10_30 ?_
         refine Zf P3 [(0, sv_ q), (3, pv_ b_), (4, .int .i64 (IntKind.i64.wrap (i + 1)))] ?_
         have hb_ := again__h _ _ h
         exact ⟨_, hb_.2, [(0, sv_ q), (3, pv_ b_), (4, Value.int .i64 (IntKind.i64.wrap (i + 1)))], Sub.mk (by kernel_rfl), (IntKind.i64.wrap (i + 1)), rfl, hb_.1, rfl⟩
   · replace h := h.2 hb
     refine wpE_exit (id := 0) (by kernel_rfl) ?_
     change WpE _ _ c10_32 _ _ _
     refine Zt r10_33 c10_35 ?_
     refine Zn [] 0 [] ?_
     refine Zm 39 #[.pointer none, .pointer none] (some 37) (Calls.mono h ?_)
     rintro _ w7 ⟨v37, rfl, h⟩
     refine ⟨_, rfl, ?_⟩
     refine Zn P1 2 [(38, [], .bool v37)] ?_
     refine reg_split 38 v37 (by kernel_rfl) (fun hb => ?_) (fun hb => ?_)
     · replace h := h.1 hb
       refine Zn [] 2 [(38, [], .bool true)] ?_
       refine Zn [] 2 [(38, [], .bool true)] ?_
       refine Zm 30 #[] (some 39) (Calls.mono h ?_)
       rintro _ w8 ⟨v39, rfl, h⟩
       refine ⟨_, rfl, ?_⟩
       refine Zf P2 [(2, .bool v39)] ?_
       change WpE _ _ c10_35 _ _ _
       refine wpE_ret (by kernel_rfl) ?_
       repeat (first | refine seqQ_ret ?_ | refine blockQ_ret ?_ | refine loopQ_ret ?_ | refine cutQ_ret ?_)
       exact retS (rs := [(ResultVar.tmp 2)]) (v := Value.bool v39) (by kernel_rfl) (⟨by kernel_rfl, trivial⟩) ⟨v39, rfl, h⟩
     · replace h := h.2 hb
       refine Zn [] 2 [(38, [], .bool false)] ?_
       refine Zf [.skip, .plain, .plain] [(2, .bool false)] ?_
       change WpE _ _ c10_35 _ _ _
       refine wpE_ret (by kernel_rfl) ?_
       repeat (first | refine seqQ_ret ?_ | refine blockQ_ret ?_ | refine loopQ_ret ?_ | refine cutQ_ret ?_)
       exact retS (rs := [(ResultVar.tmp 2)]) (v := Value.bool false) (by kernel_rfl) (⟨by kernel_rfl, trivial⟩) ⟨false, rfl, h⟩
 · rintro e w' ⟨v, rfl, r0, rfl, h⟩; exact ⟨r0, rfl, h⟩
end
end Go.Proofs.Ytpedclhflmhakaa
