/- WRITTEN BY PROGRAM (dec.py): for each Go function the clean formula F, the call's contract C, and the proof S that F gives C. -/
import Derived.Test.YtpdegdnigcnjiaaGreatDoorRows
import Derived.Test.YtpdegdnigcnjiaaGreatDoorGF
namespace Go.Proofs.YtpdegdnigcnjiaaGreatDoor
open Go
set_option linter.unusedVariables false
set_option maxRecDepth 100000
set_option maxHeartbeats 4000000
noncomputable section

/-! ### towpath/codec.NewReader (function 173) -/
def c173_0 := cb_ Tryz.f173
def c173_3 := cr_ c173_0
def c173_4 := cl_ c173_3
def r173_4 := co_ c173_4
def c173_6 := cr_ c173_3

theorem S_codec_NewReader {b_ : Slc} {w : World} {R : Option Addr → World → Prop} (h : F_codec_NewReader b_ R w) : C_codec_NewReader b_ w R := by
 unfold F_codec_NewReader at h
 unfold C_codec_NewReader
 refine Calls.mono (calls_of_wpE (args := [sv_ b_]) (R := fun v w' => ∃ (r0 : Option Addr), v = Value.pointer r0 ∧ R r0 w') Tryz.func173 (c := c173_0) (by kernel_rfl) 7 (by kernel_rfl) (by kernel_rfl) [(0, sv_ b_)] (by kernel_rfl) ?_) ?_
 · refine Zp c173_3 P1 [(0, sv_ b_)] ?_
   refine Zt r173_4 c173_6 ?_
   refine Zn P1 1 [(3, [], sv_ b_)] ?_
   refine Zm 167 #[sv_ b_] (some 4) (Calls.mono h ?_)
   rintro _ w1 ⟨v4, rfl, h⟩
   refine ⟨_, rfl, ?_⟩
   refine Zn P1 3 [(5, [], .agg #[.bool true, sv_ v4, .int .i64 0])] ?_
   refine Zw (some 6) (fun bb => pv_ bb) (Obj.cells ([.bool true, sv_ v4, .int .i64 0]).toArray ty_codec_Reader (0, 0)) (fun b_1 w2 hb hw => ?_)
   replace h := h b_1 w2 hb hw
   clear hb hw
   refine Zf P1 [(2, pv_ b_1)] ?_
   change WpE _ _ c173_6 _ _ _
   refine wpE_ret (by kernel_rfl) ?_
   repeat (first | refine seqQ_ret ?_ | refine blockQ_ret ?_ | refine loopQ_ret ?_ | refine cutQ_ret ?_)
   exact retS (rs := [(ResultVar.tmp 2)]) (v := pv_ b_1) (by kernel_rfl) (⟨by kernel_rfl, trivial⟩) ⟨(some ⟨b_1, 0, none⟩), rfl, h⟩
 · rintro e w' ⟨v, rfl, r0, rfl, h⟩; exact ⟨r0, rfl, h⟩

/-! ### (*towpath/codec.Reader).Left (function 174) -/
def c174_0 := cb_ Tryz.f174
def c174_3 := cr_ c174_0
def c174_4 := cl_ c174_3
def c174_5 := cl_ c174_4
def r174_5 := co_ c174_5
def c174_7 := cr_ c174_4
def c174_8 := cl_ c174_7
def c174_11 := cr_ c174_8
def c174_12 := cr_ c174_7
def c174_13 := cr_ c174_3
def c174_14 := cl_ c174_13
def r174_14 := co_ c174_14
def c174_16 := cr_ c174_13

theorem S_codec_Reader_Left {r : Option Addr} {w : World} {R : Int → World → Prop} (h : F_codec_Reader_Left r R w) : C_codec_Reader_Left r w R := by
 unfold F_codec_Reader_Left at h
 unfold C_codec_Reader_Left
 refine Calls.mono (calls_of_wpE (args := [Value.pointer r]) (R := fun v w' => ∃ (r0 : Int), v = Value.int .i64 r0 ∧ R r0 w') Tryz.func174 (c := c174_0) (by kernel_rfl) 10 (by kernel_rfl) (by kernel_rfl) [(0, Value.pointer r)] (by kernel_rfl) ?_) ?_
 · refine Zp c174_3 P1 [(0, .pointer r)] ?_
   refine Zs c174_4 c174_13 ?_
   refine Zt r174_5 c174_7 ?_
   refine Zn P1 1 [(0, [], .pointer r), (3, [], .pointer r)] ?_
   refine reg_val (op := (Op.binOp BinOp.eql 219 (Operand.tmp 3) (Operand.const (Value.pointer none)) 219)) (ty := 4) (dst := some 4) (Value.bool r.isNone) (by kernel_rfl) (fun ww => run_ptr_eql_R (p := r) (by kernel_rfl) (by kernel_rfl) (by kernel_rfl) ww) ?_
   refine Ze [(0, .pointer r), (4, .bool r.isNone)] ?_
   change WpE _ _ c174_7 _ _ _
   refine Zc 4 r.isNone c174_8 c174_12 (fun hb => ?_) (fun hb => ?_)
   · replace h := h.1 hb
     refine Zp c174_11 P1 [(2, .int .i64 0)] ?_
     refine wpE_ret (by kernel_rfl) ?_
     repeat (first | refine seqQ_ret ?_ | refine blockQ_ret ?_ | refine loopQ_ret ?_ | refine cutQ_ret ?_)
     exact retS (rs := [(ResultVar.tmp 2)]) (v := Value.int .i64 0) (by kernel_rfl) (⟨by kernel_rfl, trivial⟩) ⟨0, rfl, h⟩
   · replace h := h.2 hb
     refine wpE_skip (by kernel_rfl) ?_
     change WpE _ _ c174_13 _ _ _
     refine Zt r174_14 c174_16 ?_
     refine Zn P1 1 [(5, [], .pointer r)] ?_
     obtain ⟨hp_0, h⟩ := h
     refine Zv (fun pp => [(5, [], .pointer pp)]) hp_0 ?_
     refine Zn P1 2 [(5, [], .pointer (some ⟨(pblk r), (poff r), none⟩)), (6, [], .pointer (some ⟨(pblk r), (poff r), none⟩))] ?_
     refine Zn P1 3 [(7, [], .pointer (some ⟨(pblk r), (poff r) + 1, none⟩))] ?_
     obtain ⟨v8, hc, h⟩ := h
     refine Zl 79 7 (pblk r) ((poff r) + 1) 79 8 hc ?_
     refine Zf P2 [(2, .int .i64 ((v8.len : Nat) : Int))] ?_
     change WpE _ _ c174_16 _ _ _
     refine wpE_ret (by kernel_rfl) ?_
     repeat (first | refine seqQ_ret ?_ | refine blockQ_ret ?_ | refine loopQ_ret ?_ | refine cutQ_ret ?_)
     exact retS (rs := [(ResultVar.tmp 2)]) (v := Value.int .i64 ((v8.len : Nat) : Int)) (by kernel_rfl) (⟨by kernel_rfl, trivial⟩) ⟨((v8.len : Nat) : Int), rfl, h⟩
 · rintro e w' ⟨v, rfl, r0, rfl, h⟩; exact ⟨r0, rfl, h⟩

/-! ### (*towpath/codec.Reader).Text (function 175) -/
def c175_0 := cb_ Tryz.f175
def c175_1 := cl_ c175_0
def r175_1 := co_ c175_1
def c175_3 := cr_ c175_0
def c175_4 := cl_ c175_3
def r175_4 := co_ c175_4
def c175_6 := cr_ c175_3
def c175_7 := cl_ c175_6
def r175_7 := co_ c175_7
def c175_9 := cr_ c175_6

theorem S_codec_Reader_Text {r : Option Addr} {most : Int} {w : World} {R : ByteArray → World → Prop} (h : F_codec_Reader_Text r most R w) : C_codec_Reader_Text r most w R := by
 unfold F_codec_Reader_Text at h
 unfold C_codec_Reader_Text
 refine Calls.mono (calls_of_wpE (args := [Value.pointer r, Value.int .i64 most]) (R := fun v w' => ∃ (r0 : ByteArray), v = Value.string r0 ∧ R r0 w') Tryz.func175 (c := c175_0) (by kernel_rfl) 9 (by kernel_rfl) (by kernel_rfl) [(0, Value.pointer r), (1, Value.int .i64 most)] (by kernel_rfl) ?_) ?_
 · refine Zt r175_1 c175_3 ?_
   refine Zn [] 0 [(0, [], .pointer r), (1, [], .int .i64 most)] ?_
   refine Zw (some 3) (fun bb => pv_ bb) (Obj.cells ([.int .i64 most]).toArray ty_int (0, 0)) (fun b_ w1 hb hw => ?_)
   replace h := h b_ w1 hb hw
   clear hb hw
   refine Zn [] 1 [(0, [], .pointer r), (3, [], pv_ b_)] ?_
   refine Zw (some 4) (fun bb => pv_ bb) (Obj.cells ([.string ByteArray.empty]).toArray ty_string (0, 0)) (fun b_1 w2 hb hw => ?_)
   replace h := h b_1 w2 hb hw
   clear hb hw
   refine Ze [(0, .pointer r), (3, pv_ b_), (4, pv_ b_1)] ?_
   change WpE _ _ c175_3 _ _ _
   refine Zt r175_4 c175_6 ?_
   refine Zn P2 2 [(4, [], pv_ b_1), (5, [], .pointer r), (6, [], .func (.func 201) #[] #[pv_ b_, pv_ b_1])] ?_
   refine Zm 200 #[.pointer r, .func (.func 201) #[] #[pv_ b_, pv_ b_1]] (some 7) (Calls.mono h ?_)
   rintro _ w3 ⟨v7, rfl, h⟩
   refine ⟨_, rfl, ?_⟩
   refine Ze [(4, pv_ b_1)] ?_
   change WpE _ _ c175_6 _ _ _
   refine Zt r175_7 c175_9 ?_
   refine Zn [] 0 [(4, [], pv_ b_1)] ?_
   obtain ⟨v8, hc, h⟩ := h
   refine Zl 9 4 b_1 0 9 8 hc ?_
   refine Zn [] 1 [(4, [], pv_ b_1), (8, [], .string v8)] ?_
   obtain ⟨hc, h⟩ := h
   refine Zo 9 4 8 b_1 0 1 [.string v8] hc (fun w4 hw => ?_)
   replace h := h w4 hw
   clear hw
   refine Ze [(4, pv_ b_1)] ?_
   change WpE _ _ c175_9 _ _ _
   refine wpE_ret (by kernel_rfl) ?_
   obtain ⟨res, hc_res, h⟩ := h
   repeat (first | refine seqQ_ret ?_ | refine blockQ_ret ?_ | refine loopQ_ret ?_ | refine cutQ_ret ?_)
   exact retS (rs := [(ResultVar.cell 4 9)]) (v := Value.string res) (by kernel_rfl) (⟨b_1, 0, [Value.string res], by kernel_rfl, hc_res, (sizeP_of (k := 1) (by kernel_rfl) (by kernel_rfl)), .inr ⟨by kernel_rfl, rfl⟩, trivial⟩) ⟨res, rfl, h⟩
 · rintro e w' ⟨v, rfl, r0, rfl, h⟩; exact ⟨r0, rfl, h⟩

/-! ### (*towpath/codec.Reader).Fixed (function 176) -/
def c176_0 := cb_ Tryz.f176
def c176_1 := cl_ c176_0
def r176_1 := co_ c176_1
def c176_3 := cr_ c176_0
def c176_4 := cl_ c176_3
def r176_4 := co_ c176_4
def c176_6 := cr_ c176_3
def c176_7 := cl_ c176_6
def r176_7 := co_ c176_7
def c176_9 := cr_ c176_6

theorem S_codec_Reader_Fixed {r : Option Addr} {width : Int} {w : World} {R : Int → World → Prop} (h : F_codec_Reader_Fixed r width R w) : C_codec_Reader_Fixed r width w R := by
 unfold F_codec_Reader_Fixed at h
 unfold C_codec_Reader_Fixed
 refine Calls.mono (calls_of_wpE (args := [Value.pointer r, Value.int .i64 width]) (R := fun v w' => ∃ (r0 : Int), v = Value.int .u64 r0 ∧ R r0 w') Tryz.func176 (c := c176_0) (by kernel_rfl) 9 (by kernel_rfl) (by kernel_rfl) [(0, Value.pointer r), (1, Value.int .i64 width)] (by kernel_rfl) ?_) ?_
 · refine Zt r176_1 c176_3 ?_
   refine Zn [] 0 [(0, [], .pointer r), (1, [], .int .i64 width)] ?_
   refine Zw (some 3) (fun bb => pv_ bb) (Obj.cells ([.int .i64 width]).toArray ty_int (0, 0)) (fun b_ w1 hb hw => ?_)
   replace h := h b_ w1 hb hw
   clear hb hw
   refine Zn [] 1 [(0, [], .pointer r), (3, [], pv_ b_)] ?_
   refine Zw (some 4) (fun bb => pv_ bb) (Obj.cells ([.int .u64 0]).toArray ty_uint64 (0, 0)) (fun b_1 w2 hb hw => ?_)
   replace h := h b_1 w2 hb hw
   clear hb hw
   refine Ze [(0, .pointer r), (3, pv_ b_), (4, pv_ b_1)] ?_
   change WpE _ _ c176_3 _ _ _
   refine Zt r176_4 c176_6 ?_
   refine Zn P2 2 [(4, [], pv_ b_1), (5, [], .pointer r), (6, [], .func (.func 203) #[] #[pv_ b_, pv_ b_1])] ?_
   refine Zm 200 #[.pointer r, .func (.func 203) #[] #[pv_ b_, pv_ b_1]] (some 7) (Calls.mono h ?_)
   rintro _ w3 ⟨v7, rfl, h⟩
   refine ⟨_, rfl, ?_⟩
   refine Ze [(4, pv_ b_1)] ?_
   change WpE _ _ c176_6 _ _ _
   refine Zt r176_7 c176_9 ?_
   refine Zn [] 0 [(4, [], pv_ b_1)] ?_
   obtain ⟨v8, hc, h⟩ := h
   refine Zl 117 4 b_1 0 117 8 hc ?_
   refine Zn [] 1 [(4, [], pv_ b_1), (8, [], .int .u64 v8)] ?_
   obtain ⟨hc, h⟩ := h
   refine Zo 117 4 8 b_1 0 1 [.int .u64 v8] hc (fun w4 hw => ?_)
   replace h := h w4 hw
   clear hw
   refine Ze [(4, pv_ b_1)] ?_
   change WpE _ _ c176_9 _ _ _
   refine wpE_ret (by kernel_rfl) ?_
   obtain ⟨res, hc_res, h⟩ := h
   repeat (first | refine seqQ_ret ?_ | refine blockQ_ret ?_ | refine loopQ_ret ?_ | refine cutQ_ret ?_)
   exact retS (rs := [(ResultVar.cell 4 117)]) (v := Value.int .u64 res) (by kernel_rfl) (⟨b_1, 0, [Value.int .u64 res], by kernel_rfl, hc_res, (sizeP_of (k := 1) (by kernel_rfl) (by kernel_rfl)), .inr ⟨by kernel_rfl, rfl⟩, trivial⟩) ⟨res, rfl, h⟩
 · rintro e w' ⟨v, rfl, r0, rfl, h⟩; exact ⟨r0, rfl, h⟩

/-! ### (*towpath/codec.Reader).End (function 177) -/
def c177_0 := cb_ Tryz.f177
def c177_3 := cr_ c177_0
def c177_4 := cl_ c177_3
def c177_5 := cl_ c177_4
def c177_6 := cl_ c177_5
def r177_6 := co_ c177_6
def c177_8 := cr_ c177_5
def c177_9 := cl_ c177_8
def c177_12 := cr_ c177_9
def c177_13 := cr_ c177_8
def c177_14 := cl_ c177_13
def r177_14 := co_ c177_14
def c177_16 := cr_ c177_13
def c177_17 := cl_ c177_16
def c177_20 := cr_ c177_17
def c177_21 := cr_ c177_16
def c177_22 := cr_ c177_3
def c177_23 := cl_ c177_22
def r177_23 := co_ c177_23
def c177_25 := cr_ c177_22

theorem S_codec_Reader_End {r : Option Addr} {w : World} {R : Int → World → Prop} (h : F_codec_Reader_End r R w) : C_codec_Reader_End r w R := by
 unfold F_codec_Reader_End at h
 unfold C_codec_Reader_End
 refine Calls.mono (calls_of_wpE (args := [Value.pointer r]) (R := fun v w' => ∃ (r0 : Int), v = Value.int .i64 r0 ∧ R r0 w') Tryz.func177 (c := c177_0) (by kernel_rfl) 31 (by kernel_rfl) (by kernel_rfl) [(0, Value.pointer r)] (by kernel_rfl) ?_) ?_
 · refine Zp c177_3 P1 [(0, .pointer r)] ?_
   refine Zs c177_4 c177_22 ?_
   refine Zb 0 c177_5 ?_
   refine wpE_seq_cut (x := c177_6) (y := c177_8) (by kernel_rfl) (fun l w => ∃ (t3 : Bool), l = [(0, Value.pointer r), (3, Value.bool t3)] ∧ F_codec_Reader_End_k0 r R t3 w) ?_ ?_
   · refine Zr r177_6 ?_
     refine Zn P1 1 [(0, [], .pointer r), (4, [], .pointer r)] ?_
     refine reg_val (op := (Op.binOp BinOp.eql 219 (Operand.tmp 4) (Operand.const (Value.pointer none)) 219)) (ty := 4) (dst := some 5) (Value.bool r.isNone) (by kernel_rfl) (fun ww => run_ptr_eql_R (p := r) (by kernel_rfl) (by kernel_rfl) (by kernel_rfl) ww) ?_
     refine Zn P2 4 [(0, [], .pointer r), (6, [], .bool r.isNone), (7, [(6, false)], .pointer r)] ?_
     refine reg_split 6 r.isNone (by kernel_rfl) (fun hb => ?_) (fun hb => ?_)
     · replace h := h.1 hb
       refine Zn [] 4 [(0, [], .pointer r), (6, [], .bool true), (7, [], undef)] ?_
       refine Zf [.skip, .skip, .skip, .skip, .plain, .plain] [(0, .pointer r), (3, .bool true)] ?_
       exact ⟨[(0, Value.pointer r), (3, Value.bool true)], Sub.mk (by kernel_rfl), true, rfl, h⟩
     · replace h := h.2 hb
       refine Zn [] 4 [(0, [], .pointer r), (6, [], .bool false), (7, [], .pointer r)] ?_
       refine Zn [] 4 [(0, [], .pointer r), (6, [], .bool false), (7, [], .pointer r)] ?_
       obtain ⟨hp_12, h⟩ := h
       refine Zv (fun pp => [(0, [], .pointer r), (6, [], .bool false), (7, [], .pointer pp)]) hp_12 ?_
       refine Zn [.sure] 5 [(0, [], .pointer r), (6, [], .bool false), (7, [], .pointer (some ⟨(pblk r), (poff r), none⟩)), (8, [], .pointer (some ⟨(pblk r), (poff r), none⟩))] ?_
       refine Zn [.sure] 6 [(0, [], .pointer r), (6, [], .bool false), (9, [], .pointer (some ⟨(pblk r), (poff r), none⟩))] ?_
       obtain ⟨v10, hc, h⟩ := h
       refine Zl 4 9 (pblk r) (poff r) 4 10 hc ?_
       refine Zf [.sure, .plain, .plain] [(0, .pointer r), (3, .bool (!v10))] ?_
       exact ⟨[(0, Value.pointer r), (3, Value.bool (!v10))], Sub.mk (by kernel_rfl), (!v10), rfl, h⟩
   · rintro _ w1 ⟨t3, rfl, h⟩
     unfold F_codec_Reader_End_k0 at h
     refine Zc 3 t3 c177_9 c177_13 (fun hb => ?_) (fun hb => ?_)
     · replace h := h.1 hb
       refine Zp c177_12 P1 [(2, .int .i64 2)] ?_
       refine wpE_ret (by kernel_rfl) ?_
       repeat (first | refine seqQ_ret ?_ | refine blockQ_ret ?_ | refine loopQ_ret ?_ | refine cutQ_ret ?_)
       exact retS (rs := [(ResultVar.tmp 2)]) (v := Value.int .i64 2) (by kernel_rfl) (⟨by kernel_rfl, trivial⟩) ⟨2, rfl, h⟩
     · replace h := h.2 hb
       refine wpE_seq_cut (x := c177_14) (y := c177_16) (by kernel_rfl) (fun l w => ∃ (t13 : Bool), l = [(0, Value.pointer r), (13, Value.bool t13)] ∧ F_codec_Reader_End_k1 r R t13 w) ?_ ?_
       · refine Zr r177_14 ?_
         refine Zn P1 1 [(0, [], .pointer r), (14, [], .pointer r)] ?_
         obtain ⟨hp_10, h⟩ := h
         refine Zv (fun pp => [(0, [], .pointer r), (14, [], .pointer pp)]) hp_10 ?_
         refine Zn P1 2 [(0, [], .pointer r), (14, [], .pointer (some ⟨(pblk r), (poff r), none⟩)), (15, [], .pointer (some ⟨(pblk r), (poff r), none⟩))] ?_
         refine Zn P1 3 [(0, [], .pointer r), (16, [], .pointer (some ⟨(pblk r), (poff r) + 2, none⟩))] ?_
         obtain ⟨v17, hc, h⟩ := h
         refine Zl 28 16 (pblk r) ((poff r) + 2) 28 17 hc ?_
         refine Zn P3 7 [(0, [], .pointer r), (19, [], .bool (v17 == 0)), (20, [(19, true)], .pointer r)] ?_
         refine reg_split 19 (v17 == 0) (by kernel_rfl) (fun hb => ?_) (fun hb => ?_)
         · replace h := h.1 hb
           refine Zn [] 7 [(0, [], .pointer r), (19, [], .bool true), (20, [], .pointer r)] ?_
           refine Zn [] 7 [(0, [], .pointer r), (19, [], .bool true), (20, [], .pointer r)] ?_
           obtain ⟨hp_11, h⟩ := h
           refine Zv (fun pp => [(0, [], .pointer r), (19, [], .bool true), (20, [], .pointer pp)]) hp_11 ?_
           refine Zn [.sure] 8 [(0, [], .pointer r), (19, [], .bool true), (20, [], .pointer (some ⟨(pblk r), (poff r), none⟩)), (21, [], .pointer (some ⟨(pblk r), (poff r), none⟩))] ?_
           refine Zn [.sure] 9 [(0, [], .pointer r), (19, [], .bool true), (22, [], .pointer (some ⟨(pblk r), (poff r) + 1, none⟩))] ?_
           obtain ⟨v23, hc, h⟩ := h
           refine Zl 79 22 (pblk r) ((poff r) + 1) 79 23 hc ?_
           refine Zf [.sure, .sure, .plain, .plain] [(0, .pointer r), (13, .bool (decide (((v23.len : Nat) : Int) > 0)))] ?_
           exact ⟨[(0, Value.pointer r), (13, Value.bool (decide (((v23.len : Nat) : Int) > 0)))], Sub.mk (by kernel_rfl), (decide (((v23.len : Nat) : Int) > 0)), rfl, h⟩
         · replace h := h.2 hb
           refine Zn [] 7 [(0, [], .pointer r), (19, [], .bool false), (20, [], undef)] ?_
           refine Zf [.skip, .skip, .skip, .skip, .skip, .plain, .plain] [(0, .pointer r), (13, .bool false)] ?_
           exact ⟨[(0, Value.pointer r), (13, Value.bool false)], Sub.mk (by kernel_rfl), false, rfl, h⟩
       · rintro _ w2 ⟨t13, rfl, h⟩
         unfold F_codec_Reader_End_k1 at h
         refine Zc 13 t13 c177_17 c177_21 (fun hb => ?_) (fun hb => ?_)
         · replace h := h.1 hb
           refine Zp c177_20 P1 [(2, .int .i64 4)] ?_
           refine wpE_ret (by kernel_rfl) ?_
           repeat (first | refine seqQ_ret ?_ | refine blockQ_ret ?_ | refine loopQ_ret ?_ | refine cutQ_ret ?_)
           exact retS (rs := [(ResultVar.tmp 2)]) (v := Value.int .i64 4) (by kernel_rfl) (⟨by kernel_rfl, trivial⟩) ⟨4, rfl, h⟩
         · replace h := h.2 hb
           refine wpE_skip (by kernel_rfl) ?_
           change WpE _ _ c177_22 _ _ _
           refine Zt r177_23 c177_25 ?_
           refine Zn P1 1 [(27, [], .pointer r)] ?_
           obtain ⟨hp_9, h⟩ := h
           refine Zv (fun pp => [(27, [], .pointer pp)]) hp_9 ?_
           refine Zn P1 2 [(27, [], .pointer (some ⟨(pblk r), (poff r), none⟩)), (28, [], .pointer (some ⟨(pblk r), (poff r), none⟩))] ?_
           refine Zn P1 3 [(29, [], .pointer (some ⟨(pblk r), (poff r) + 2, none⟩))] ?_
           obtain ⟨v30, hc, h⟩ := h
           refine Zl 28 29 (pblk r) ((poff r) + 2) 28 30 hc ?_
           refine Zf P1 [(2, .int .i64 v30)] ?_
           change WpE _ _ c177_25 _ _ _
           refine wpE_ret (by kernel_rfl) ?_
           repeat (first | refine seqQ_ret ?_ | refine blockQ_ret ?_ | refine loopQ_ret ?_ | refine cutQ_ret ?_)
           exact retS (rs := [(ResultVar.tmp 2)]) (v := Value.int .i64 v30) (by kernel_rfl) (⟨by kernel_rfl, trivial⟩) ⟨v30, rfl, h⟩
 · rintro e w' ⟨v, rfl, r0, rfl, h⟩; exact ⟨r0, rfl, h⟩

/-! ### (*towpath/codec.Reader).take (function 200) -/
def c200_0 := cb_ Tryz.f200
def c200_3 := cr_ c200_0
def c200_4 := cl_ c200_3
def c200_5 := cl_ c200_4
def r200_5 := co_ c200_5
def c200_7 := cr_ c200_4
def c200_8 := cl_ c200_7
def c200_11 := cr_ c200_8
def c200_12 := cr_ c200_7
def c200_13 := cr_ c200_3
def c200_14 := cl_ c200_13
def r200_14 := co_ c200_14
def c200_16 := cr_ c200_13
def c200_17 := cl_ c200_16
def c200_20 := cr_ c200_17
def c200_21 := cl_ c200_20
def c200_22 := cl_ c200_21
def r200_22 := co_ c200_22
def c200_24 := cr_ c200_21
def c200_27 := cr_ c200_24
def c200_28 := cr_ c200_20
def c200_29 := cr_ c200_16
def c200_30 := cl_ c200_29
def r200_30 := co_ c200_30
def c200_32 := cr_ c200_29
def c200_35 := cr_ c200_32

theorem S_codec_Reader_take {r : Option Addr} {next : Value} {w : World} {R : Bool → World → Prop} (h : F_codec_Reader_take r next R w) : C_codec_Reader_take r next w R := by
 unfold F_codec_Reader_take at h
 unfold C_codec_Reader_take
 refine Calls.mono (calls_of_wpE (args := [Value.pointer r, next]) (R := fun v w' => ∃ (r0 : Bool), v = Value.bool r0 ∧ R r0 w') Tryz.func200 (c := c200_0) (by kernel_rfl) 57 (by kernel_rfl) (by kernel_rfl) [(0, Value.pointer r), (1, next)] (by kernel_rfl) ?_) ?_
 · refine Zp c200_3 P1 [(0, .pointer r), (1, next)] ?_
   refine Zs c200_4 c200_13 ?_
   refine wpE_seq_cut (x := c200_5) (y := c200_7) (by kernel_rfl) (fun l w => ∃ (t22 : Bool), l = [(0, Value.pointer r), (1, next), (22, Value.bool t22)] ∧ F_codec_Reader_take_k0 r next R t22 w) ?_ ?_
   · refine Zr r200_5 ?_
     refine Zn P1 1 [(0, [], .pointer r), (1, [], next), (7, [], .pointer r)] ?_
     refine reg_val (op := (Op.binOp BinOp.eql 219 (Operand.tmp 7) (Operand.const (Value.pointer none)) 219)) (ty := 4) (dst := some 8) (Value.bool r.isNone) (by kernel_rfl) (fun ww => run_ptr_eql_R (p := r) (by kernel_rfl) (by kernel_rfl) (by kernel_rfl) ww) ?_
     refine Zn P2 4 [(0, [], .pointer r), (1, [], next), (9, [], .bool r.isNone), (10, [(9, false)], .pointer r)] ?_
     refine reg_split 9 r.isNone (by kernel_rfl) (fun hb => ?_) (fun hb => ?_)
     · replace h := h.1 hb
       refine Zn [] 4 [(0, [], .pointer r), (1, [], next), (9, [], .bool true), (10, [], undef)] ?_
       refine Zf [.skip, .skip, .skip, .skip, .plain, .plain, .skip, .skip, .skip, .skip, .skip, .plain] [(0, .pointer r), (1, next), (22, .bool true)] ?_
       exact ⟨[(0, Value.pointer r), (1, next), (22, Value.bool true)], Sub.mk (by kernel_rfl), true, rfl, h⟩
     · replace h := h.2 hb
       refine Zn [] 4 [(0, [], .pointer r), (1, [], next), (9, [], .bool false), (10, [], .pointer r)] ?_
       refine Zn [] 4 [(0, [], .pointer r), (1, [], next), (9, [], .bool false), (10, [], .pointer r)] ?_
       obtain ⟨hp_20, h⟩ := h
       refine Zv (fun pp => [(0, [], .pointer r), (1, [], next), (9, [], .bool false), (10, [], .pointer pp)]) hp_20 ?_
       refine Zn [.sure] 5 [(0, [], .pointer r), (1, [], next), (9, [], .bool false), (10, [], .pointer (some ⟨(pblk r), (poff r), none⟩)), (11, [], .pointer (some ⟨(pblk r), (poff r), none⟩))] ?_
       refine Zn [.sure] 6 [(0, [], .pointer r), (1, [], next), (9, [], .bool false), (12, [], .pointer (some ⟨(pblk r), (poff r), none⟩))] ?_
       obtain ⟨v13, hc, h⟩ := h
       refine Zl 4 12 (pblk r) (poff r) 4 13 hc ?_
       refine Zn [.sure, .plain, .plain, .plain] 11 [(0, [], .pointer r), (1, [], next), (16, [], .bool (!v13)), (17, [(16, false)], .pointer r)] ?_
       refine reg_split 16 (!v13) (by kernel_rfl) (fun hb => ?_) (fun hb => ?_)
       · replace h := h.1 hb
         refine Zn [] 11 [(0, [], .pointer r), (1, [], next), (16, [], .bool true), (17, [], undef)] ?_
         refine Zf [.skip, .skip, .skip, .skip, .plain] [(0, .pointer r), (1, next), (22, .bool true)] ?_
         exact ⟨[(0, Value.pointer r), (1, next), (22, Value.bool true)], Sub.mk (by kernel_rfl), true, rfl, h⟩
       · replace h := h.2 hb
         refine Zn [] 11 [(0, [], .pointer r), (1, [], next), (16, [], .bool false), (17, [], .pointer r)] ?_
         refine Zn [] 11 [(0, [], .pointer r), (1, [], next), (16, [], .bool false), (17, [], .pointer r)] ?_
         obtain ⟨hp_21, h⟩ := h
         refine Zv (fun pp => [(0, [], .pointer r), (1, [], next), (16, [], .bool false), (17, [], .pointer pp)]) hp_21 ?_
         refine Zn [.sure] 12 [(0, [], .pointer r), (1, [], next), (16, [], .bool false), (17, [], .pointer (some ⟨(pblk r), (poff r), none⟩)), (18, [], .pointer (some ⟨(pblk r), (poff r), none⟩))] ?_
         refine Zn [.sure] 13 [(0, [], .pointer r), (1, [], next), (16, [], .bool false), (19, [], .pointer (some ⟨(pblk r), (poff r) + 2, none⟩))] ?_
         obtain ⟨v20, hc, h⟩ := h
         refine Zl 28 19 (pblk r) ((poff r) + 2) 28 20 hc ?_
         refine Zf [.sure, .plain] [(0, .pointer r), (1, next), (22, .bool (v20 != 0))] ?_
         exact ⟨[(0, Value.pointer r), (1, next), (22, Value.bool (v20 != 0))], Sub.mk (by kernel_rfl), (v20 != 0), rfl, h⟩
   · rintro _ w1 ⟨t22, rfl, h⟩
     unfold F_codec_Reader_take_k0 at h
     refine Zc 22 t22 c200_8 c200_12 (fun hb => ?_) (fun hb => ?_)
     · replace h := h.1 hb
       refine Zp c200_11 P1 [(4, .bool false)] ?_
       refine wpE_ret (by kernel_rfl) ?_
       repeat (first | refine seqQ_ret ?_ | refine blockQ_ret ?_ | refine loopQ_ret ?_ | refine cutQ_ret ?_)
       exact retS (rs := [(ResultVar.tmp 4)]) (v := Value.bool false) (by kernel_rfl) (⟨by kernel_rfl, trivial⟩) ⟨false, rfl, h⟩
     · replace h := h.2 hb
       refine wpE_skip (by kernel_rfl) ?_
       change WpE _ _ c200_13 _ _ _
       refine Zt r200_14 c200_16 ?_
       refine Zn P2 2 [(0, [], .pointer r), (24, [], next), (25, [], .pointer r)] ?_
       obtain ⟨hp_7, h⟩ := h
       refine Zv (fun pp => [(0, [], .pointer r), (24, [], next), (25, [], .pointer pp)]) hp_7 ?_
       refine Zn P1 3 [(0, [], .pointer r), (24, [], next), (25, [], .pointer (some ⟨(pblk r), (poff r), none⟩)), (26, [], .pointer (some ⟨(pblk r), (poff r), none⟩))] ?_
       refine Zn P1 4 [(0, [], .pointer r), (24, [], next), (27, [], .pointer (some ⟨(pblk r), (poff r) + 1, none⟩))] ?_
       obtain ⟨v28, hc, h⟩ := h
       refine Zl 79 27 (pblk r) ((poff r) + 1) 79 28 hc ?_
       refine Zn [] 5 [(0, [], .pointer r), (24, [], next), (28, [], sv_ v28)] ?_
       refine reg_enterV (fo := (Operand.tmp 24)) (aa := #[(Operand.tmp 28)]) (ts := #[79]) (fv := next) (ty := 105) (dst := some 29) #[sv_ v28] (by kernel_rfl) (by kernel_rfl) (by kernel_rfl) (CallsV.mono h ?_)
       rintro _ w2 ⟨n_, e, rfl, h⟩
       refine ⟨_, rfl, ?_⟩
       refine Zf (Pl 5) [(0, .pointer r), (5, .int .i64 n_), (6, .int .i64 e)] ?_
       change WpE _ _ c200_16 _ _ _
       refine Zs c200_17 c200_29 ?_
       refine Zp c200_20 P2 [(0, .pointer r), (5, .int .i64 n_), (6, .int .i64 e), (33, .bool (e != 0))] ?_
       refine Zc 33 (e != 0) c200_21 c200_28 (fun hb => ?_) (fun hb => ?_)
       · replace h := h.1 hb
         refine Zt r200_22 c200_24 ?_
         refine Zn P2 2 [(34, [], .pointer r), (35, [], .int .i64 e)] ?_
         obtain ⟨hp_11, h⟩ := h
         refine Zv (fun pp => [(34, [], .pointer pp), (35, [], .int .i64 e)]) hp_11 ?_
         refine Zn P1 3 [(34, [], .pointer (some ⟨(pblk r), (poff r), none⟩)), (35, [], .int .i64 e), (36, [], .pointer (some ⟨(pblk r), (poff r), none⟩))] ?_
         refine Zn P1 4 [(35, [], .int .i64 e), (37, [], .pointer (some ⟨(pblk r), (poff r) + 2, none⟩))] ?_
         obtain ⟨hc, h⟩ := h
         refine Zo 28 37 35 (pblk r) ((poff r) + 2) 1 [.int .i64 e] hc (fun w3 hw => ?_)
         replace h := h w3 hw
         clear hw
         refine Ze [] ?_
         change WpE _ _ c200_24 _ _ _
         refine Zp c200_27 P1 [(4, .bool false)] ?_
         refine wpE_ret (by kernel_rfl) ?_
         repeat (first | refine seqQ_ret ?_ | refine blockQ_ret ?_ | refine loopQ_ret ?_ | refine cutQ_ret ?_)
         exact retS (rs := [(ResultVar.tmp 4)]) (v := Value.bool false) (by kernel_rfl) (⟨by kernel_rfl, trivial⟩) ⟨false, rfl, h⟩
       · replace h := h.2 hb
         refine wpE_skip (by kernel_rfl) ?_
         change WpE _ _ c200_29 _ _ _
         refine Zs c200_30 c200_32 ?_
         refine wpE_tailregion (id := 7) (ops := r200_30) (by kernel_rfl) 19 (by kernel_rfl) (by kernel_rfl) (fun w4 hw => ?_)
         replace h := h w4 hw
         clear hw
         refine qreg_run P2 2 [(0, [], Value.pointer r), (5, [], Value.int .i64 n_), (38, [], Value.pointer r), (39, [], Value.pointer r)] (by kernel_rfl) (by kernel_rfl) ?_
         obtain ⟨hp_16, h⟩ := h
         refine qreg_conv [(0, [], Value.pointer r), (5, [], Value.int .i64 n_), (38, [], Value.pointer r), (39, [], Value.pointer (some ⟨(pblk r), (poff r), none⟩))] (congrArg (fun pp => ([(0, [], Value.pointer r), (5, [], Value.int .i64 n_), (38, [], Value.pointer r), (39, [], Value.pointer pp)] : GEnv)) hp_16) ?_
         refine qreg_run P1 3 [(0, [], Value.pointer r), (5, [], Value.int .i64 n_), (38, [], Value.pointer r), (39, [], Value.pointer (some ⟨(pblk r), (poff r), none⟩)), (40, [], Value.pointer (some ⟨(pblk r), (poff r), none⟩))] (by kernel_rfl) (by kernel_rfl) ?_
         refine qreg_run P1 4 [(0, [], Value.pointer r), (5, [], Value.int .i64 n_), (38, [], Value.pointer r), (41, [], Value.pointer (some ⟨(pblk r), (poff r) + 1, none⟩))] (by kernel_rfl) (by kernel_rfl) ?_
         obtain ⟨v42, hc, h⟩ := h
         refine qreg_load1 (t := 79) (a := (Operand.tmp 41)) (b := (pblk r)) (o := ((poff r) + 1)) (ty := 79) (dst := some 42) (by kernel_rfl) (by kernel_rfl) (by kernel_rfl) hc ?_
         refine qreg_run P2 7 [(0, [], Value.pointer r), (38, [], Value.pointer r), (42, [], sv_ v42), (43, [], Value.int .i64 n_), (44, [], Value.pointer r)] (by kernel_rfl) (by kernel_rfl) ?_
         obtain ⟨hp_17, h⟩ := h
         refine qreg_conv [(0, [], Value.pointer r), (38, [], Value.pointer r), (42, [], sv_ v42), (43, [], Value.int .i64 n_), (44, [], Value.pointer (some ⟨(pblk r), (poff r), none⟩))] (congrArg (fun pp => ([(0, [], Value.pointer r), (38, [], Value.pointer r), (42, [], sv_ v42), (43, [], Value.int .i64 n_), (44, [], Value.pointer pp)] : GEnv)) hp_17) ?_
         refine qreg_run P1 8 [(0, [], Value.pointer r), (38, [], Value.pointer r), (42, [], sv_ v42), (43, [], Value.int .i64 n_), (44, [], Value.pointer (some ⟨(pblk r), (poff r), none⟩)), (45, [], Value.pointer (some ⟨(pblk r), (poff r), none⟩))] (by kernel_rfl) (by kernel_rfl) ?_
         refine qreg_run P1 9 [(0, [], Value.pointer r), (38, [], Value.pointer r), (42, [], sv_ v42), (43, [], Value.int .i64 n_), (46, [], Value.pointer (some ⟨(pblk r), (poff r) + 1, none⟩))] (by kernel_rfl) (by kernel_rfl) ?_
         obtain ⟨v47, hc, h⟩ := h
         refine qreg_load1 (t := 79) (a := (Operand.tmp 46)) (b := (pblk r)) (o := ((poff r) + 1)) (ty := 79) (dst := some 47) (by kernel_rfl) (by kernel_rfl) (by kernel_rfl) hc ?_
         refine qreg_run P2 12 [(38, [], Value.pointer r), (42, [], sv_ v42), (43, [], Value.int .i64 n_), (48, [], Value.int .i64 ((v47.len : Nat) : Int)), (49, [], Value.pointer r)] (by kernel_rfl) (by kernel_rfl) ?_
         obtain ⟨hp_18, h⟩ := h
         refine qreg_conv [(38, [], Value.pointer r), (42, [], sv_ v42), (43, [], Value.int .i64 n_), (48, [], Value.int .i64 ((v47.len : Nat) : Int)), (49, [], Value.pointer (some ⟨(pblk r), (poff r), none⟩))] (congrArg (fun pp => ([(38, [], Value.pointer r), (42, [], sv_ v42), (43, [], Value.int .i64 n_), (48, [], Value.int .i64 ((v47.len : Nat) : Int)), (49, [], Value.pointer pp)] : GEnv)) hp_18) ?_
         refine qreg_run P1 13 [(38, [], Value.pointer r), (42, [], sv_ v42), (43, [], Value.int .i64 n_), (48, [], Value.int .i64 ((v47.len : Nat) : Int)), (49, [], Value.pointer (some ⟨(pblk r), (poff r), none⟩)), (50, [], Value.pointer (some ⟨(pblk r), (poff r), none⟩))] (by kernel_rfl) (by kernel_rfl) ?_
         refine qreg_run P1 14 [(38, [], Value.pointer r), (42, [], sv_ v42), (43, [], Value.int .i64 n_), (48, [], Value.int .i64 ((v47.len : Nat) : Int)), (51, [], Value.pointer (some ⟨(pblk r), (poff r) + 1, none⟩))] (by kernel_rfl) (by kernel_rfl) ?_
         obtain ⟨v52, hc, h⟩ := h
         refine qreg_load1 (t := 79) (a := (Operand.tmp 51)) (b := (pblk r)) (o := ((poff r) + 1)) (ty := 79) (dst := some 52) (by kernel_rfl) (by kernel_rfl) (by kernel_rfl) hc ?_
         refine qreg_run P1 16 [(38, [], Value.pointer r), (42, [], sv_ v42), (43, [], Value.int .i64 n_), (48, [], Value.int .i64 ((v47.len : Nat) : Int)), (53, [], Value.int .i64 ((v52.len : Nat) : Int))] (by kernel_rfl) (by kernel_rfl) ?_
         obtain ⟨hc, h⟩ := h
         refine qreg_sliceHM (t := 79) (e := 5) (x := (Operand.tmp 42)) (lo := (Operand.tmp 43)) (hi := (Operand.tmp 48)) (mx := (Operand.tmp 53)) (s := v42) (sz := 1) (k := .i64) (a := n_) (k' := .i64) (b := ((v47.len : Nat) : Int)) (k'' := .i64) (c := ((v52.len : Nat) : Int)) (ty := 79) (dst := some 54) (by kernel_rfl) (by kernel_rfl) (by kernel_rfl) (by kernel_rfl) (by kernel_rfl) (by kernel_rfl) (by kernel_rfl) hc (fun s hs => ?_)
         replace h := h s hs
         clear hs
         refine qreg_run [] 17 [(38, [], Value.pointer r), (54, [], sv_ s)] (by kernel_rfl) (by kernel_rfl) ?_
         obtain ⟨hp_19, h⟩ := h
         refine qreg_conv [(38, [], Value.pointer (some ⟨(pblk r), (poff r), none⟩)), (54, [], sv_ s)] (congrArg (fun pp => ([(38, [], Value.pointer pp), (54, [], sv_ s)] : GEnv)) hp_19) ?_
         refine qreg_run P1 18 [(38, [], Value.pointer (some ⟨(pblk r), (poff r), none⟩)), (54, [], sv_ s), (55, [], Value.pointer (some ⟨(pblk r), (poff r), none⟩))] (by kernel_rfl) (by kernel_rfl) ?_
         refine qreg_run P1 19 [(54, [], sv_ s), (56, [], Value.pointer (some ⟨(pblk r), (poff r) + 1, none⟩))] (by kernel_rfl) (by kernel_rfl) ?_
         refine qreg_tail (by kernel_rfl) ?_
         refine Zn [] 19 [(54, [], sv_ s), (56, [], .pointer (some ⟨(pblk r), (poff r) + 1, none⟩))] ?_
         obtain ⟨hc, h⟩ := h
         refine Zo 79 56 54 (pblk r) ((poff r) + 1) 1 [sv_ s] hc (fun w5 hw => ?_)
         replace h := h w5 hw
         clear hw
         refine Ze [] ?_
         change WpE _ _ c200_32 _ _ _
         refine Zp c200_35 P1 [(4, .bool true)] ?_
         refine wpE_ret (by kernel_rfl) ?_
         repeat (first | refine seqQ_ret ?_ | refine blockQ_ret ?_ | refine loopQ_ret ?_ | refine cutQ_ret ?_)
         exact retS (rs := [(ResultVar.tmp 4)]) (v := Value.bool true) (by kernel_rfl) (⟨by kernel_rfl, trivial⟩) ⟨true, rfl, h⟩
 · rintro e w' ⟨v, rfl, r0, rfl, h⟩; exact ⟨r0, rfl, h⟩

/-! ### (*towpath/codec.Reader).Text$1 (function 201) -/
def c201_0 := cb_ Tryz.f201
def c201_3 := cr_ c201_0
def c201_4 := cl_ c201_3
def c201_5 := cl_ c201_4
def r201_5 := co_ c201_5
def c201_7 := cr_ c201_4
def c201_8 := cl_ c201_7
def c201_11 := cr_ c201_8
def c201_12 := cr_ c201_7
def c201_13 := cr_ c201_3
def c201_14 := cl_ c201_13
def r201_14 := co_ c201_14
def c201_16 := cr_ c201_13
def c201_17 := cl_ c201_16
def c201_18 := cl_ c201_17
def c201_21 := cr_ c201_18
def c201_22 := cl_ c201_21
def c201_25 := cr_ c201_22
def c201_26 := cr_ c201_21
def c201_27 := cl_ c201_26
def r201_27 := co_ c201_27
def c201_29 := cr_ c201_26
def c201_30 := cl_ c201_29
def c201_33 := cr_ c201_30
def c201_34 := cr_ c201_29
def c201_37 := cr_ c201_34
def c201_38 := cl_ c201_37
def c201_41 := cr_ c201_38
def c201_42 := cr_ c201_37
def c201_43 := cr_ c201_16
def c201_44 := cl_ c201_43
def r201_44 := co_ c201_44
def c201_46 := cr_ c201_43
def c201_49 := cr_ c201_46

theorem S_codec_Reader_Text_1 {b_ : Slc} {t1 : Option Addr} {t2 : Option Addr} {w : World} {R : Int → Int → World → Prop} (h : F_codec_Reader_Text_1 b_ t1 t2 R w) : C_codec_Reader_Text_1 b_ t1 t2 w R := by
 unfold F_codec_Reader_Text_1 at h
 unfold C_codec_Reader_Text_1
 refine Calls.mono (calls_of_wpE (args := [sv_ b_, Value.pointer t1, Value.pointer t2]) (R := fun v w' => ∃ (r0 : Int) (r1 : Int), v = Value.tuple #[Value.int .i64 r0, Value.int .i64 r1] ∧ R r0 r1 w') Tryz.func201 (c := c201_0) (by kernel_rfl) 46 (by kernel_rfl) (by kernel_rfl) [(0, sv_ b_), (1, Value.pointer t1), (2, Value.pointer t2)] (by kernel_rfl) ?_) ?_
 · refine Zp c201_3 P2 [(0, sv_ b_), (1, .pointer t1), (2, .pointer t2)] ?_
   refine Zs c201_4 c201_13 ?_
   refine Zt r201_5 c201_7 ?_
   refine Zn [] 0 [(0, [], sv_ b_), (1, [], .pointer t1), (2, [], .pointer t2)] ?_
   obtain ⟨hp_3, h⟩ := h
   refine Zv (fun pp => [(0, [], sv_ b_), (1, [], .pointer pp), (2, [], .pointer t2)]) hp_3 ?_
   obtain ⟨v9, hc, h⟩ := h
   refine Zl 3 1 (pblk t1) (poff t1) 3 9 hc ?_
   refine Zn P1 2 [(0, [], sv_ b_), (1, [], .pointer (some ⟨(pblk t1), (poff t1), none⟩)), (2, [], .pointer t2), (10, [], .bool (decide (v9 < 0)))] ?_
   refine Zv (fun pp => [(0, [], sv_ b_), (1, [], .pointer pp), (2, [], .pointer t2), (10, [], .bool (decide (v9 < 0)))]) hp_3.symm ?_
   refine Ze [(0, sv_ b_), (1, .pointer t1), (2, .pointer t2), (10, .bool (decide (v9 < 0)))] ?_
   change WpE _ _ c201_7 _ _ _
   refine Zc 10 (decide (v9 < 0)) c201_8 c201_12 (fun hb => ?_) (fun hb => ?_)
   · replace h := h.1 hb
     refine Zp c201_11 P2 [(4, .int .i64 0), (5, .int .i64 1)] ?_
     refine wpE_ret (by kernel_rfl) ?_
     repeat (first | refine seqQ_ret ?_ | refine blockQ_ret ?_ | refine loopQ_ret ?_ | refine cutQ_ret ?_)
     exact retT (rs := [(ResultVar.tmp 4), (ResultVar.tmp 5)]) (vs := [Value.int .i64 0, Value.int .i64 1]) (by kernel_rfl) (⟨by kernel_rfl, ⟨by kernel_rfl, trivial⟩⟩) (by kernel_rfl) ⟨0, 1, rfl, h⟩
   · replace h := h.2 hb
     refine wpE_skip (by kernel_rfl) ?_
     change WpE _ _ c201_13 _ _ _
     refine Zt r201_14 c201_16 ?_
     refine Zn P1 1 [(0, [], sv_ b_), (1, [], .pointer t1), (2, [], .pointer t2), (12, [], sv_ b_)] ?_
     refine Zm 202 #[sv_ b_] (some 13) (Calls.mono h ?_)
     rintro _ w1 ⟨n_, size, e, rfl, h⟩
     refine ⟨_, rfl, ?_⟩
     refine Zf (Pl 7) [(0, sv_ b_), (1, .pointer t1), (2, .pointer t2), (6, .int .u64 n_), (7, .int .i64 size), (8, .int .i64 e)] ?_
     change WpE _ _ c201_16 _ _ _
     refine Zs c201_17 c201_43 ?_
     refine Zb 0 c201_18 ?_
     refine Zp c201_21 P3 [(0, sv_ b_), (1, .pointer t1), (2, .pointer t2), (6, .int .u64 n_), (7, .int .i64 size), (8, .int .i64 e), (17, .bool (e != 0))] ?_
     refine Zc 17 (e != 0) c201_22 c201_26 (fun hb => ?_) (fun hb => ?_)
     · replace h := h.1 hb
       refine Zp c201_25 P3 [(4, .int .i64 0), (5, .int .i64 e)] ?_
       refine wpE_ret (by kernel_rfl) ?_
       repeat (first | refine seqQ_ret ?_ | refine blockQ_ret ?_ | refine loopQ_ret ?_ | refine cutQ_ret ?_)
       exact retT (rs := [(ResultVar.tmp 4), (ResultVar.tmp 5)]) (vs := [Value.int .i64 0, Value.int .i64 e]) (by kernel_rfl) (⟨by kernel_rfl, ⟨by kernel_rfl, trivial⟩⟩) (by kernel_rfl) ⟨0, e, rfl, h⟩
     · replace h := h.2 hb
       refine Zt r201_27 c201_29 ?_
       refine Zn P1 1 [(0, [], sv_ b_), (1, [], .pointer t1), (2, [], .pointer t2), (6, [], .int .u64 n_), (7, [], .int .i64 size), (22, [], .int .u64 n_)] ?_
       obtain ⟨hp_7, h⟩ := h
       refine Zv (fun pp => [(0, [], sv_ b_), (1, [], .pointer pp), (2, [], .pointer t2), (6, [], .int .u64 n_), (7, [], .int .i64 size), (22, [], .int .u64 n_)]) hp_7 ?_
       obtain ⟨v23, hc, h⟩ := h
       refine Zl 3 1 (pblk t1) (poff t1) 3 23 hc ?_
       refine Zf P3 [(0, sv_ b_), (2, .pointer t2), (6, .int .u64 n_), (7, .int .i64 size), (21, .bool (decide (n_ > (IntKind.u64.wrap v23))))] ?_
       change WpE _ _ c201_29 _ _ _
       refine Zc 21 (decide (n_ > (IntKind.u64.wrap v23))) c201_30 c201_34 (fun hb => ?_) (fun hb => ?_)
       · replace h := h.1 hb
         refine Zp c201_33 P2 [(4, .int .i64 0), (5, .int .i64 3)] ?_
         refine wpE_ret (by kernel_rfl) ?_
         repeat (first | refine seqQ_ret ?_ | refine blockQ_ret ?_ | refine loopQ_ret ?_ | refine cutQ_ret ?_)
         exact retT (rs := [(ResultVar.tmp 4), (ResultVar.tmp 5)]) (vs := [Value.int .i64 0, Value.int .i64 3]) (by kernel_rfl) (⟨by kernel_rfl, ⟨by kernel_rfl, trivial⟩⟩) (by kernel_rfl) ⟨0, 3, rfl, h⟩
       · replace h := h.2 hb
         refine Zp c201_37 (Pl 8) [(0, sv_ b_), (2, .pointer t2), (6, .int .u64 n_), (7, .int .i64 size), (26, .bool (decide (n_ > (IntKind.u64.wrap (IntKind.i64.wrap (((b_.len : Nat) : Int) - size))))))] ?_
         refine Zc 26 (decide (n_ > (IntKind.u64.wrap (IntKind.i64.wrap (((b_.len : Nat) : Int) - size))))) c201_38 c201_42 (fun hb => ?_) (fun hb => ?_)
         · replace h := h.1 hb
           refine Zp c201_41 P2 [(4, .int .i64 0), (5, .int .i64 5)] ?_
           refine wpE_ret (by kernel_rfl) ?_
           repeat (first | refine seqQ_ret ?_ | refine blockQ_ret ?_ | refine loopQ_ret ?_ | refine cutQ_ret ?_)
           exact retT (rs := [(ResultVar.tmp 4), (ResultVar.tmp 5)]) (vs := [Value.int .i64 0, Value.int .i64 5]) (by kernel_rfl) (⟨by kernel_rfl, ⟨by kernel_rfl, trivial⟩⟩) (by kernel_rfl) ⟨0, 5, rfl, h⟩
         · replace h := h.2 hb
           refine wpE_skip (by kernel_rfl) ?_
           change WpE _ _ c201_43 _ _ _
           refine Zt r201_44 c201_46 ?_
           refine Zn (Pl 6) 6 [(2, [], .pointer t2), (6, [], .int .u64 n_), (7, [], .int .i64 size), (34, [], sv_ b_), (35, [], .int .i64 size), (39, [], .int .i64 (IntKind.i64.wrap (size + (IntKind.i64.wrap n_))))] ?_
           obtain ⟨hc, h⟩ := h
           refine reg_sliceH (t := 79) (e := 5) (x := (Operand.tmp 34)) (lo := (Operand.tmp 35)) (hi := (Operand.tmp 39)) (s := b_) (sz := 1) (k := .i64) (a := size) (k' := .i64) (b := (IntKind.i64.wrap (size + (IntKind.i64.wrap n_)))) (ty := 79) (dst := some 40) (by kernel_rfl) (by kernel_rfl) (by kernel_rfl) (by kernel_rfl) (by kernel_rfl) (by kernel_rfl) hc (fun s hs => ?_)
           replace h := h s hs
           clear hs
           refine Zn [] 7 [(2, [], .pointer t2), (6, [], .int .u64 n_), (7, [], .int .i64 size), (40, [], sv_ s)] ?_
           obtain ⟨str, hs, h⟩ := h
           refine reg_toString (t := 79) (d := 9) (e := 5) (x := (Operand.tmp 40)) (s := s) (ty := 9) (dst := some 41) (by kernel_rfl) (by kernel_rfl) (by kernel_rfl) (by kernel_rfl) (by kernel_rfl) hs ?_
           refine Zn [] 8 [(2, [], .pointer t2), (6, [], .int .u64 n_), (7, [], .int .i64 size), (41, [], .string str)] ?_
           obtain ⟨hp_9, h⟩ := h
           refine Zv (fun pp => [(2, [], .pointer pp), (6, [], .int .u64 n_), (7, [], .int .i64 size), (41, [], .string str)]) hp_9 ?_
           obtain ⟨hc, h⟩ := h
           refine Zo 9 2 41 (pblk t2) (poff t2) 1 [.string str] hc (fun w2 hw => ?_)
           replace h := h w2 hw
           clear hw
           refine Ze [(6, .int .u64 n_), (7, .int .i64 size)] ?_
           change WpE _ _ c201_46 _ _ _
           refine Zp c201_49 (Pl 6) [(4, .int .i64 (IntKind.i64.wrap (size + (IntKind.i64.wrap n_)))), (5, .int .i64 0)] ?_
           refine wpE_ret (by kernel_rfl) ?_
           repeat (first | refine seqQ_ret ?_ | refine blockQ_ret ?_ | refine loopQ_ret ?_ | refine cutQ_ret ?_)
           exact retT (rs := [(ResultVar.tmp 4), (ResultVar.tmp 5)]) (vs := [Value.int .i64 (IntKind.i64.wrap (size + (IntKind.i64.wrap n_))), Value.int .i64 0]) (by kernel_rfl) (⟨by kernel_rfl, ⟨by kernel_rfl, trivial⟩⟩) (by kernel_rfl) ⟨(IntKind.i64.wrap (size + (IntKind.i64.wrap n_))), 0, rfl, h⟩
 · rintro e w' ⟨v, rfl, r0, r1, rfl, h⟩; exact ⟨r0, r1, rfl, h⟩

/-! ### towpath/codec.short (function 202) -/
def c202_0 := cb_ Tryz.f202
def c202_3 := cr_ c202_0
def c202_4 := cl_ c202_3
def c202_7 := cr_ c202_4
def c202_8 := cl_ c202_7
def c202_9 := cl_ c202_8
def c202_12 := cr_ c202_9
def c202_13 := cl_ c202_12
def c202_14 := cl_ c202_13
def c202_15 := cr_ c202_13
def c202_16 := cr_ c202_12
def c202_17 := cl_ c202_16
def c202_18 := cl_ c202_17
def c202_19 := cl_ c202_18
def r202_19 := co_ c202_19
def c202_21 := cr_ c202_18
def c202_22 := cl_ c202_21
def c202_25 := cr_ c202_22
def c202_26 := cl_ c202_25
def c202_29 := cr_ c202_26
def c202_30 := cr_ c202_25
def c202_31 := cr_ c202_21
def c202_32 := cl_ c202_31
def r202_32 := co_ c202_32
def c202_34 := cr_ c202_31
def c202_37 := cr_ c202_34
def c202_38 := cl_ c202_37
def c202_41 := cr_ c202_38
def c202_42 := cr_ c202_37
def c202_43 := cr_ c202_16
def r202_43 := co_ c202_43
def c202_45 := cr_ c202_3
def c202_48 := cr_ c202_45

theorem S_codec_short {b_ : Slc} {w : World} {R : Int → Int → Int → World → Prop} (h : F_codec_short b_ R w) : C_codec_short b_ w R := by
 unfold F_codec_short at h
 unfold C_codec_short
 refine Calls.mono (calls_of_wpE (args := [sv_ b_]) (R := fun v w' => ∃ (r0 : Int) (r1 : Int) (r2 : Int), v = Value.tuple #[Value.int .u64 r0, Value.int .i64 r1, Value.int .i64 r2] ∧ R r0 r1 r2 w') Tryz.func202 (c := c202_0) (by kernel_rfl) 42 (by kernel_rfl) (by kernel_rfl) [(0, sv_ b_)] (by kernel_rfl) ?_) ?_
 · refine Zp c202_3 P3 [(0, sv_ b_), (2, .int .u64 0)] ?_
   refine Zs c202_4 c202_45 ?_
   refine Zp c202_7 P3 [(2, .int .u64 0), (7, sv_ b_), (8, .int .i64 ((b_.len : Nat) : Int)), (9, .int .i64 0)] ?_
   refine Zb 0 c202_8 ?_
   obtain ⟨I, μ, h0, hr⟩ := h
   refine wpE_loop (x := c202_9) (by kernel_rfl) (fun m l w => ∃ (n_ : Int) (t9 : Int), l = [(2, Value.int .u64 n_), (7, sv_ b_), (8, Value.int .i64 ((b_.len : Nat) : Int)), (9, Value.int .i64 t9)] ∧ I n_ t9 w ∧ μ n_ t9 w = m) (l' := [(2, Value.int .u64 0), (7, sv_ b_), (8, Value.int .i64 ((b_.len : Nat) : Int)), (9, Value.int .i64 0)]) (Sub.mk (by kernel_rfl)) ⟨0, 0, rfl, h0, rfl⟩ ?_
   rintro _ _ w1 ⟨n_, t9, rfl, hI, rfl⟩
   obtain ⟨again_, again__h, h⟩ : ∃ again_ : Int → Int → World → Prop, (∀ n_' t9' w', again_ n_' t9' w' → I n_' t9' w' ∧ μ n_' t9' w' < μ n_ t9 w1) ∧ F_codec_short_L0 b_ R again_ n_ t9 w1 := ⟨_, fun _ _ _ h => h, hr n_ t9 w1 hI⟩
   clear h0 hI
   unfold F_codec_short_L0 at h
   refine Zp c202_12 P1 [(2, .int .u64 n_), (7, sv_ b_), (8, .int .i64 ((b_.len : Nat) : Int)), (9, .int .i64 t9), (10, .bool (decide (t9 < ((b_.len : Nat) : Int))))] ?_
   refine Zs c202_13 c202_16 ?_
   refine Zc 10 (decide (t9 < ((b_.len : Nat) : Int))) c202_14 c202_15 (fun hb => ?_) (fun hb => ?_)
   · replace h := h.1 hb
     refine wpE_skip (by kernel_rfl) ?_
     change WpE _ _ c202_16 _ _ _
     refine Zs c202_17 c202_43 ?_
     refine Zb 1 c202_18 ?_
     refine Zt r202_19 c202_21 ?_
     refine Zn P1 1 [(2, [], .int .u64 n_), (7, [], sv_ b_), (8, [], .int .i64 ((b_.len : Nat) : Int)), (9, [], .int .i64 t9), (11, [], .int .i64 t9)] ?_
     obtain ⟨hp_7, h⟩ := h
     refine Zv (fun pp => [(2, [], .int .u64 n_), (7, [], .slice pp b_.len b_.cap), (8, [], .int .i64 ((b_.len : Nat) : Int)), (9, [], .int .i64 t9), (11, [], .int .i64 t9)]) hp_7 ?_
     obtain ⟨h0, h1, h⟩ := h
     refine Zi 79 5 7 9 (pblk b_.ptr) (poff b_.ptr) b_.len b_.cap t9 12 0 h0 h1 ?_
     refine Zn [] 2 [(2, [], .int .u64 n_), (7, [], .slice (some ⟨(pblk b_.ptr), (poff b_.ptr), none⟩) b_.len b_.cap), (8, [], .int .i64 ((b_.len : Nat) : Int)), (9, [], .int .i64 t9), (11, [], .int .i64 t9), (12, [], .pointer (some ⟨(pblk b_.ptr), (poff b_.ptr) + t9.toNat, none⟩))] ?_
     obtain ⟨c, hc, h⟩ := h
     refine Zl 5 12 (pblk b_.ptr) ((poff b_.ptr) + t9.toNat) 5 13 hc ?_
     refine Zn P2 5 [(2, [], .int .u64 n_), (5, [], .int .i64 t9), (6, [], .int .u8 c), (7, [], .slice (some ⟨(pblk b_.ptr), (poff b_.ptr), none⟩) b_.len b_.cap), (8, [], .int .i64 ((b_.len : Nat) : Int)), (9, [], .int .i64 t9)] ?_
     refine Zv (fun pp => [(2, [], .int .u64 n_), (5, [], .int .i64 t9), (6, [], .int .u8 c), (7, [], .slice pp b_.len b_.cap), (8, [], .int .i64 ((b_.len : Nat) : Int)), (9, [], .int .i64 t9)]) hp_7.symm ?_
     refine Ze [(2, .int .u64 n_), (5, .int .i64 t9), (6, .int .u8 c), (7, sv_ b_), (8, .int .i64 ((b_.len : Nat) : Int)), (9, .int .i64 t9)] ?_
     change WpE _ _ c202_21 _ _ _
     refine Zs c202_22 c202_31 ?_
     refine Zp c202_25 [.plain, .plain, .plain, .plain, .plain, .pick, .plain, .plain, .plain, .plain, .plain, .plain, .pick, .pick] [(2, .int .u64 n_), (5, .int .i64 t9), (6, .int .u8 c), (7, sv_ b_), (8, .int .i64 ((b_.len : Nat) : Int)), (9, .int .i64 t9), (27, .bool (((t9 == 9) && (decide (c > 1))) || ((decide (t9 > 0)) && (c == 0))))] ?_
     refine Zc 27 (((t9 == 9) && (decide (c > 1))) || ((decide (t9 > 0)) && (c == 0))) c202_26 c202_30 (fun hb => ?_) (fun hb => ?_)
     · replace h := h.1 hb
       refine Zp c202_29 P3 [(2, .int .u64 0), (3, .int .i64 0), (4, .int .i64 4)] ?_
       refine wpE_ret (by kernel_rfl) ?_
       repeat (first | refine seqQ_ret ?_ | refine blockQ_ret ?_ | refine loopQ_ret ?_ | refine cutQ_ret ?_)
       exact retT (rs := [(ResultVar.tmp 2), (ResultVar.tmp 3), (ResultVar.tmp 4)]) (vs := [Value.int .u64 0, Value.int .i64 0, Value.int .i64 4]) (by kernel_rfl) (⟨by kernel_rfl, ⟨by kernel_rfl, ⟨by kernel_rfl, trivial⟩⟩⟩) (by kernel_rfl) ⟨0, 0, 4, rfl, h⟩
     · replace h := h.2 hb
       refine wpE_skip (by kernel_rfl) ?_
       change WpE _ _ c202_31 _ _ _
       refine Zt r202_32 c202_34 ?_
       refine Zn (Pl 6) 6 [(2, [], .int .u64 n_), (5, [], .int .i64 t9), (6, [], .int .u8 c), (7, [], sv_ b_), (8, [], .int .i64 ((b_.len : Nat) : Int)), (9, [], .int .i64 t9), (28, [], .int .u64 n_), (31, [], .int .u64 (IntKind.u64.wrap (band .u8 c 127))), (33, [], .int .i64 (IntKind.i64.wrap (7 * t9)))] ?_
       obtain ⟨h0, h⟩ := h
       refine reg_val (op := (Op.binOp BinOp.shl 117 (Operand.tmp 31) (Operand.tmp 33) 3)) (ty := 117) (dst := some 34) (Value.int .u64 (IntKind.u64.wrap ((IntKind.u64.wrap (band .u8 c 127)) * 2 ^ (min (IntKind.i64.wrap (7 * t9)).toNat 64)))) (by kernel_rfl) (fun ww => run_shl (k' := .i64) (by kernel_rfl) (by kernel_rfl) (by kernel_rfl) h0 ww) ?_
       refine Zf P2 [(2, .int .u64 (bor .u64 n_ (IntKind.u64.wrap ((IntKind.u64.wrap (band .u8 c 127)) * 2 ^ (min (IntKind.i64.wrap (7 * t9)).toNat 64))))), (5, .int .i64 t9), (6, .int .u8 c), (7, sv_ b_), (8, .int .i64 ((b_.len : Nat) : Int)), (9, .int .i64 t9)] ?_
       change WpE _ _ c202_34 _ _ _
       refine Zp c202_37 P2 [(2, .int .u64 (bor .u64 n_ (IntKind.u64.wrap ((IntKind.u64.wrap (band .u8 c 127)) * 2 ^ (min (IntKind.i64.wrap (7 * t9)).toNat 64))))), (5, .int .i64 t9), (7, sv_ b_), (8, .int .i64 ((b_.len : Nat) : Int)), (9, .int .i64 t9), (37, .bool (decide (c < 128)))] ?_
       refine Zc 37 (decide (c < 128)) c202_38 c202_42 (fun hb => ?_) (fun hb => ?_)
       · replace h := h.1 hb
         refine Zp c202_41 (Pl 6) [(2, .int .u64 (bor .u64 n_ (IntKind.u64.wrap ((IntKind.u64.wrap (band .u8 c 127)) * 2 ^ (min (IntKind.i64.wrap (7 * t9)).toNat 64))))), (3, .int .i64 (IntKind.i64.wrap (t9 + 1))), (4, .int .i64 0)] ?_
         refine wpE_ret (by kernel_rfl) ?_
         repeat (first | refine seqQ_ret ?_ | refine blockQ_ret ?_ | refine loopQ_ret ?_ | refine cutQ_ret ?_)
         exact retT (rs := [(ResultVar.tmp 2), (ResultVar.tmp 3), (ResultVar.tmp 4)]) (vs := [Value.int .u64 (bor .u64 n_ (IntKind.u64.wrap ((IntKind.u64.wrap (band .u8 c 127)) * 2 ^ (min (IntKind.i64.wrap (7 * t9)).toNat 64)))), Value.int .i64 (IntKind.i64.wrap (t9 + 1)), Value.int .i64 0]) (by kernel_rfl) (⟨by kernel_rfl, ⟨by kernel_rfl, ⟨by kernel_rfl, trivial⟩⟩⟩) (by kernel_rfl) ⟨(bor .u64 n_ (IntKind.u64.wrap ((IntKind.u64.wrap (band .u8 c 127)) * 2 ^ (min (IntKind.i64.wrap (7 * t9)).toNat 64)))), (IntKind.i64.wrap (t9 + 1)), 0, rfl, h⟩
       · replace h := h.2 hb
         refine wpE_skip (by kernel_rfl) ?_
         change WpE _ _ c202_43 _ _ _
         refine Zr r202_43 ?_
         refine Zf P2 [(2, .int .u64 (bor .u64 n_ (IntKind.u64.wrap ((IntKind.u64.wrap (band .u8 c 127)) * 2 ^ (min (IntKind.i64.wrap (7 * t9)).toNat 64))))), (7, sv_ b_), (8, .int .i64 ((b_.len : Nat) : Int)), (9, .int .i64 (IntKind.i64.wrap (t9 + 1)))] ?_
         have hb_ := again__h _ _ _ h
         exact ⟨_, hb_.2, [(2, Value.int .u64 (bor .u64 n_ (IntKind.u64.wrap ((IntKind.u64.wrap (band .u8 c 127)) * 2 ^ (min (IntKind.i64.wrap (7 * t9)).toNat 64))))), (7, sv_ b_), (8, Value.int .i64 ((b_.len : Nat) : Int)), (9, Value.int .i64 (IntKind.i64.wrap (t9 + 1)))], Sub.mk (by kernel_rfl), (bor .u64 n_ (IntKind.u64.wrap ((IntKind.u64.wrap (band .u8 c 127)) * 2 ^ (min (IntKind.i64.wrap (7 * t9)).toNat 64)))), (IntKind.i64.wrap (t9 + 1)), rfl, hb_.1, rfl⟩
   · replace h := h.2 hb
     refine wpE_exit (id := 0) (by kernel_rfl) ?_
     change WpE _ _ c202_45 _ _ _
     refine Zp c202_48 P3 [(2, .int .u64 0), (3, .int .i64 0), (4, .int .i64 5)] ?_
     refine wpE_ret (by kernel_rfl) ?_
     repeat (first | refine seqQ_ret ?_ | refine blockQ_ret ?_ | refine loopQ_ret ?_ | refine cutQ_ret ?_)
     exact retT (rs := [(ResultVar.tmp 2), (ResultVar.tmp 3), (ResultVar.tmp 4)]) (vs := [Value.int .u64 0, Value.int .i64 0, Value.int .i64 5]) (by kernel_rfl) (⟨by kernel_rfl, ⟨by kernel_rfl, ⟨by kernel_rfl, trivial⟩⟩⟩) (by kernel_rfl) ⟨0, 0, 5, rfl, h⟩
 · rintro e w' ⟨v, rfl, r0, r1, r2, rfl, h⟩; exact ⟨r0, r1, r2, rfl, h⟩

/-! ### (*towpath/codec.Reader).Fixed$1 (function 203) -/
def c203_0 := cb_ Tryz.f203
def c203_3 := cr_ c203_0
def c203_4 := cl_ c203_3
def c203_5 := cl_ c203_4
def c203_6 := cl_ c203_5
def r203_6 := co_ c203_6
def c203_8 := cr_ c203_5
def c203_9 := cl_ c203_8
def c203_12 := cr_ c203_9
def c203_13 := cr_ c203_8
def c203_14 := cl_ c203_13
def r203_14 := co_ c203_14
def c203_16 := cr_ c203_13
def c203_17 := cl_ c203_16
def c203_20 := cr_ c203_17
def c203_21 := cr_ c203_16
def c203_22 := cr_ c203_3
def c203_23 := cl_ c203_22
def c203_24 := cl_ c203_23
def r203_24 := co_ c203_24
def c203_26 := cr_ c203_23
def c203_27 := cl_ c203_26
def c203_28 := cl_ c203_27
def c203_29 := cl_ c203_28
def c203_32 := cr_ c203_29
def c203_33 := cl_ c203_32
def c203_34 := cr_ c203_32
def c203_35 := cr_ c203_28
def c203_36 := cl_ c203_35
def c203_37 := cl_ c203_36
def r203_37 := co_ c203_37
def c203_39 := cr_ c203_35
def r203_39 := co_ c203_39
def c203_41 := cr_ c203_22
def c203_42 := cl_ c203_41
def r203_42 := co_ c203_42
def c203_44 := cr_ c203_41

theorem S_codec_Reader_Fixed_1 {b_ : Slc} {t1 : Option Addr} {t2 : Option Addr} {w : World} {R : Int → Int → World → Prop} (h : F_codec_Reader_Fixed_1 b_ t1 t2 R w) : C_codec_Reader_Fixed_1 b_ t1 t2 w R := by
 unfold F_codec_Reader_Fixed_1 at h
 unfold C_codec_Reader_Fixed_1
 refine Calls.mono (calls_of_wpE (args := [sv_ b_, Value.pointer t1, Value.pointer t2]) (R := fun v w' => ∃ (r0 : Int) (r1 : Int), v = Value.tuple #[Value.int .i64 r0, Value.int .i64 r1] ∧ R r0 r1 w') Tryz.func203 (c := c203_0) (by kernel_rfl) 34 (by kernel_rfl) (by kernel_rfl) [(0, sv_ b_), (1, Value.pointer t1), (2, Value.pointer t2)] (by kernel_rfl) ?_) ?_
 · refine Zp c203_3 P2 [(0, sv_ b_), (1, .pointer t1), (2, .pointer t2)] ?_
   refine Zs c203_4 c203_22 ?_
   refine Zb 0 c203_5 ?_
   refine wpE_seq_cut (x := c203_6) (y := c203_8) (by kernel_rfl) (fun l w => ∃ (t7 : Bool), l = [(0, sv_ b_), (1, Value.pointer t1), (2, Value.pointer t2), (7, Value.bool t7)] ∧ F_codec_Reader_Fixed_1_k0 b_ t1 t2 R t7 w) ?_ ?_
   · refine Zr r203_6 ?_
     refine Zn [] 0 [(0, [], sv_ b_), (1, [], .pointer t1), (2, [], .pointer t2)] ?_
     obtain ⟨hp_20, h⟩ := h
     refine Zv (fun pp => [(0, [], sv_ b_), (1, [], .pointer pp), (2, [], .pointer t2)]) hp_20 ?_
     obtain ⟨v8, hc, h⟩ := h
     refine Zl 3 1 (pblk t1) (poff t1) 3 8 hc ?_
     refine Zn P2 3 [(0, [], sv_ b_), (1, [], .pointer (some ⟨(pblk t1), (poff t1), none⟩)), (2, [], .pointer t2), (10, [], .bool (decide (v8 < 1)))] ?_
     refine reg_split 10 (decide (v8 < 1)) (by kernel_rfl) (fun hb => ?_) (fun hb => ?_)
     · replace h := h.1 hb
       refine Zn [] 3 [(0, [], sv_ b_), (1, [], .pointer (some ⟨(pblk t1), (poff t1), none⟩)), (2, [], .pointer t2), (10, [], .bool true)] ?_
       refine Zn [.skip, .skip, .plain, .plain] 7 [(0, [], sv_ b_), (1, [], .pointer (some ⟨(pblk t1), (poff t1), none⟩)), (2, [], .pointer t2), (7, [], .bool true)] ?_
       refine Zv (fun pp => [(0, [], sv_ b_), (1, [], .pointer pp), (2, [], .pointer t2), (7, [], .bool true)]) hp_20.symm ?_
       refine Ze [(0, sv_ b_), (1, .pointer t1), (2, .pointer t2), (7, .bool true)] ?_
       exact ⟨[(0, sv_ b_), (1, Value.pointer t1), (2, Value.pointer t2), (7, Value.bool true)], Sub.mk (by kernel_rfl), true, rfl, h⟩
     · replace h := h.2 hb
       refine Zn [] 3 [(0, [], sv_ b_), (1, [], .pointer (some ⟨(pblk t1), (poff t1), none⟩)), (2, [], .pointer t2), (10, [], .bool false)] ?_
       refine Zn [] 3 [(0, [], sv_ b_), (1, [], .pointer (some ⟨(pblk t1), (poff t1), none⟩)), (2, [], .pointer t2), (10, [], .bool false)] ?_
       obtain ⟨v11, hc, h⟩ := h
       refine Zl 3 1 (pblk t1) (poff t1) 3 11 hc ?_
       refine Zn [.sure, .plain, .plain] 7 [(0, [], sv_ b_), (1, [], .pointer (some ⟨(pblk t1), (poff t1), none⟩)), (2, [], .pointer t2), (7, [], .bool (decide (v11 > 8)))] ?_
       refine Zv (fun pp => [(0, [], sv_ b_), (1, [], .pointer pp), (2, [], .pointer t2), (7, [], .bool (decide (v11 > 8)))]) hp_20.symm ?_
       refine Ze [(0, sv_ b_), (1, .pointer t1), (2, .pointer t2), (7, .bool (decide (v11 > 8)))] ?_
       exact ⟨[(0, sv_ b_), (1, Value.pointer t1), (2, Value.pointer t2), (7, Value.bool (decide (v11 > 8)))], Sub.mk (by kernel_rfl), (decide (v11 > 8)), rfl, h⟩
   · rintro _ w1 ⟨t7, rfl, h⟩
     unfold F_codec_Reader_Fixed_1_k0 at h
     refine Zc 7 t7 c203_9 c203_13 (fun hb => ?_) (fun hb => ?_)
     · replace h := h.1 hb
       refine Zp c203_12 P2 [(4, .int .i64 0), (5, .int .i64 1)] ?_
       refine wpE_ret (by kernel_rfl) ?_
       repeat (first | refine seqQ_ret ?_ | refine blockQ_ret ?_ | refine loopQ_ret ?_ | refine cutQ_ret ?_)
       exact retT (rs := [(ResultVar.tmp 4), (ResultVar.tmp 5)]) (vs := [Value.int .i64 0, Value.int .i64 1]) (by kernel_rfl) (⟨by kernel_rfl, ⟨by kernel_rfl, trivial⟩⟩) (by kernel_rfl) ⟨0, 1, rfl, h⟩
     · replace h := h.2 hb
       refine Zt r203_14 c203_16 ?_
       refine Zn [] 0 [(0, [], sv_ b_), (1, [], .pointer t1), (2, [], .pointer t2)] ?_
       obtain ⟨hp_6, h⟩ := h
       refine Zv (fun pp => [(0, [], sv_ b_), (1, [], .pointer pp), (2, [], .pointer t2)]) hp_6 ?_
       obtain ⟨v15, hc, h⟩ := h
       refine Zl 3 1 (pblk t1) (poff t1) 3 15 hc ?_
       refine Zn P4 5 [(0, [], sv_ b_), (1, [], .pointer (some ⟨(pblk t1), (poff t1), none⟩)), (2, [], .pointer t2), (14, [], .bool (decide (v15 > ((b_.len : Nat) : Int))))] ?_
       refine Zv (fun pp => [(0, [], sv_ b_), (1, [], .pointer pp), (2, [], .pointer t2), (14, [], .bool (decide (v15 > ((b_.len : Nat) : Int))))]) hp_6.symm ?_
       refine Ze [(0, sv_ b_), (1, .pointer t1), (2, .pointer t2), (14, .bool (decide (v15 > ((b_.len : Nat) : Int))))] ?_
       change WpE _ _ c203_16 _ _ _
       refine Zc 14 (decide (v15 > ((b_.len : Nat) : Int))) c203_17 c203_21 (fun hb => ?_) (fun hb => ?_)
       · replace h := h.1 hb
         refine Zp c203_20 P2 [(4, .int .i64 0), (5, .int .i64 5)] ?_
         refine wpE_ret (by kernel_rfl) ?_
         repeat (first | refine seqQ_ret ?_ | refine blockQ_ret ?_ | refine loopQ_ret ?_ | refine cutQ_ret ?_)
         exact retT (rs := [(ResultVar.tmp 4), (ResultVar.tmp 5)]) (vs := [Value.int .i64 0, Value.int .i64 5]) (by kernel_rfl) (⟨by kernel_rfl, ⟨by kernel_rfl, trivial⟩⟩) (by kernel_rfl) ⟨0, 5, rfl, h⟩
       · replace h := h.2 hb
         refine wpE_skip (by kernel_rfl) ?_
         change WpE _ _ c203_22 _ _ _
         refine Zs c203_23 c203_41 ?_
         refine Zt r203_24 c203_26 ?_
         refine Zn [] 0 [(0, [], sv_ b_), (1, [], .pointer t1), (2, [], .pointer t2)] ?_
         obtain ⟨hp_14, h⟩ := h
         refine Zv (fun pp => [(0, [], sv_ b_), (1, [], .pointer pp), (2, [], .pointer t2)]) hp_14 ?_
         obtain ⟨v19, hc, h⟩ := h
         refine Zl 3 1 (pblk t1) (poff t1) 3 19 hc ?_
         refine Zn P2 3 [(0, [], sv_ b_), (1, [], .pointer (some ⟨(pblk t1), (poff t1), none⟩)), (2, [], .pointer t2), (6, [], .int .i64 (IntKind.i64.wrap (v19 - 1)))] ?_
         refine Zv (fun pp => [(0, [], sv_ b_), (1, [], .pointer pp), (2, [], .pointer t2), (6, [], .int .i64 (IntKind.i64.wrap (v19 - 1)))]) hp_14.symm ?_
         refine Ze [(0, sv_ b_), (1, .pointer t1), (2, .pointer t2), (6, .int .i64 (IntKind.i64.wrap (v19 - 1)))] ?_
         change WpE _ _ c203_26 _ _ _
         refine Zb 1 c203_27 ?_
         obtain ⟨I, μ, h0, hr⟩ := h
         refine wpE_loop (x := c203_28) (by kernel_rfl) (fun m l w => ∃ (i : Int), l = [(0, sv_ b_), (1, Value.pointer t1), (2, Value.pointer t2), (6, Value.int .i64 i)] ∧ I i w ∧ μ i w = m) (l' := [(0, sv_ b_), (1, Value.pointer t1), (2, Value.pointer t2), (6, Value.int .i64 (IntKind.i64.wrap (v19 - 1)))]) (Sub.mk (by kernel_rfl)) ⟨(IntKind.i64.wrap (v19 - 1)), rfl, h0, rfl⟩ ?_
         rintro _ _ w2 ⟨i, rfl, hI, rfl⟩
         obtain ⟨again_, again__h, h⟩ : ∃ again_ : Int → World → Prop, (∀ i' w', again_ i' w' → I i' w' ∧ μ i' w' < μ i w2) ∧ F_codec_Reader_Fixed_1_L1 b_ t1 t2 R again_ i w2 := ⟨_, fun _ _ h => h, hr i w2 hI⟩
         clear h0 hI
         unfold F_codec_Reader_Fixed_1_L1 at h
         refine Zs c203_29 c203_35 ?_
         refine Zp c203_32 P2 [(0, sv_ b_), (1, .pointer t1), (2, .pointer t2), (6, .int .i64 i), (22, .bool (decide (i ≥ 0)))] ?_
         refine Zc 22 (decide (i ≥ 0)) c203_33 c203_34 (fun hb => ?_) (fun hb => ?_)
         · replace h := h.1 hb
           refine wpE_skip (by kernel_rfl) ?_
           change WpE _ _ c203_35 _ _ _
           refine Zs c203_36 c203_39 ?_
           refine Zb 2 c203_37 ?_
           refine wpE_tailregion (id := 8) (ops := r203_37) (by kernel_rfl) 8 (by kernel_rfl) (by kernel_rfl) (fun w3 hw => ?_)
           replace h := h w3 hw
           clear hw
           refine qreg_run [] 0 [(0, [], sv_ b_), (1, [], Value.pointer t1), (2, [], Value.pointer t2), (6, [], Value.int .i64 i)] (by kernel_rfl) (by kernel_rfl) ?_
           obtain ⟨hp_17, h⟩ := h
           refine qreg_conv [(0, [], sv_ b_), (1, [], Value.pointer t1), (2, [], Value.pointer (some ⟨(pblk t2), (poff t2), none⟩)), (6, [], Value.int .i64 i)] (congrArg (fun pp => ([(0, [], sv_ b_), (1, [], Value.pointer t1), (2, [], Value.pointer pp), (6, [], Value.int .i64 i)] : GEnv)) hp_17) ?_
           obtain ⟨v25, hc, h⟩ := h
           refine qreg_load1 (t := 117) (a := (Operand.tmp 2)) (b := (pblk t2)) (o := (poff t2)) (ty := 117) (dst := some 25) (by kernel_rfl) (by kernel_rfl) (by kernel_rfl) hc ?_
           refine qreg_run P3 4 [(0, [], sv_ b_), (1, [], Value.pointer t1), (2, [], Value.pointer (some ⟨(pblk t2), (poff t2), none⟩)), (6, [], Value.int .i64 i), (26, [], Value.int .u64 (IntKind.u64.wrap (v25 * 2 ^ 8))), (27, [], sv_ b_), (28, [], Value.int .i64 i)] (by kernel_rfl) (by kernel_rfl) ?_
           obtain ⟨hp_18, h⟩ := h
           refine qreg_conv [(0, [], sv_ b_), (1, [], Value.pointer t1), (2, [], Value.pointer (some ⟨(pblk t2), (poff t2), none⟩)), (6, [], Value.int .i64 i), (26, [], Value.int .u64 (IntKind.u64.wrap (v25 * 2 ^ 8))), (27, [], Value.slice (some ⟨(pblk b_.ptr), (poff b_.ptr), none⟩) b_.len b_.cap), (28, [], Value.int .i64 i)] (congrArg (fun pp => ([(0, [], sv_ b_), (1, [], Value.pointer t1), (2, [], Value.pointer (some ⟨(pblk t2), (poff t2), none⟩)), (6, [], Value.int .i64 i), (26, [], Value.int .u64 (IntKind.u64.wrap (v25 * 2 ^ 8))), (27, [], Value.slice pp b_.len b_.cap), (28, [], Value.int .i64 i)] : GEnv)) hp_18) ?_
           obtain ⟨h0, h1, h⟩ := h
           refine qreg_indexS1 (t := 79) (e := 5) (x := (Operand.tmp 27)) (ix := (Operand.tmp 28)) (b := (pblk b_.ptr)) (o := (poff b_.ptr)) (l := b_.len) (c := b_.cap) (k := .i64) (j := i) (ty := 0) (dst := some 29) (by kernel_rfl) (by kernel_rfl) (by kernel_rfl) (by kernel_rfl) (by kernel_rfl) h0 h1 ?_
           refine qreg_run [] 5 [(0, [], sv_ b_), (1, [], Value.pointer t1), (2, [], Value.pointer (some ⟨(pblk t2), (poff t2), none⟩)), (6, [], Value.int .i64 i), (26, [], Value.int .u64 (IntKind.u64.wrap (v25 * 2 ^ 8))), (29, [], Value.pointer (some ⟨(pblk b_.ptr), (poff b_.ptr) + i.toNat, none⟩))] (by kernel_rfl) (by kernel_rfl) ?_
           obtain ⟨v30, hc, h⟩ := h
           refine qreg_load1 (t := 5) (a := (Operand.tmp 29)) (b := (pblk b_.ptr)) (o := ((poff b_.ptr) + i.toNat)) (ty := 5) (dst := some 30) (by kernel_rfl) (by kernel_rfl) (by kernel_rfl) hc ?_
           refine qreg_run P2 8 [(0, [], sv_ b_), (1, [], Value.pointer t1), (2, [], Value.pointer (some ⟨(pblk t2), (poff t2), none⟩)), (6, [], Value.int .i64 i), (32, [], Value.int .u64 (bor .u64 (IntKind.u64.wrap (v25 * 2 ^ 8)) (IntKind.u64.wrap v30)))] (by kernel_rfl) (by kernel_rfl) ?_
           refine qreg_tail (by kernel_rfl) ?_
           refine Zn [] 8 [(0, [], sv_ b_), (1, [], .pointer t1), (2, [], .pointer (some ⟨(pblk t2), (poff t2), none⟩)), (6, [], .int .i64 i), (32, [], .int .u64 (bor .u64 (IntKind.u64.wrap (v25 * 2 ^ 8)) (IntKind.u64.wrap v30)))] ?_
           obtain ⟨hc, h⟩ := h
           refine Zo 117 2 32 (pblk t2) (poff t2) 1 [.int .u64 (bor .u64 (IntKind.u64.wrap (v25 * 2 ^ 8)) (IntKind.u64.wrap v30))] hc (fun w4 hw => ?_)
           replace h := h w4 hw
           clear hw
           refine Zn [] 9 [(0, [], sv_ b_), (1, [], .pointer t1), (2, [], .pointer (some ⟨(pblk t2), (poff t2), none⟩)), (6, [], .int .i64 i)] ?_
           refine Zv (fun pp => [(0, [], sv_ b_), (1, [], .pointer t1), (2, [], .pointer pp), (6, [], .int .i64 i)]) hp_17.symm ?_
           refine Ze [(0, sv_ b_), (1, .pointer t1), (2, .pointer t2), (6, .int .i64 i)] ?_
           change WpE _ _ c203_39 _ _ _
           refine Zr r203_39 ?_
           refine Zf P3 [(0, sv_ b_), (1, .pointer t1), (2, .pointer t2), (6, .int .i64 (IntKind.i64.wrap (i - 1)))] ?_
           have hb_ := again__h _ _ h
           exact ⟨_, hb_.2, [(0, sv_ b_), (1, Value.pointer t1), (2, Value.pointer t2), (6, Value.int .i64 (IntKind.i64.wrap (i - 1)))], Sub.mk (by kernel_rfl), (IntKind.i64.wrap (i - 1)), rfl, hb_.1, rfl⟩
         · replace h := h.2 hb
           refine wpE_exit (id := 1) (by kernel_rfl) ?_
           change WpE _ _ c203_41 _ _ _
           refine Zt r203_42 c203_44 ?_
           refine Zn [] 0 [(1, [], .pointer t1)] ?_
           obtain ⟨hp_19, h⟩ := h
           refine Zv (fun pp => [(1, [], .pointer pp)]) hp_19 ?_
           obtain ⟨v33, hc, h⟩ := h
           refine Zl 3 1 (pblk t1) (poff t1) 3 33 hc ?_
           refine Zf P2 [(4, .int .i64 v33), (5, .int .i64 0)] ?_
           change WpE _ _ c203_44 _ _ _
           refine wpE_ret (by kernel_rfl) ?_
           repeat (first | refine seqQ_ret ?_ | refine blockQ_ret ?_ | refine loopQ_ret ?_ | refine cutQ_ret ?_)
           exact retT (rs := [(ResultVar.tmp 4), (ResultVar.tmp 5)]) (vs := [Value.int .i64 v33, Value.int .i64 0]) (by kernel_rfl) (⟨by kernel_rfl, ⟨by kernel_rfl, trivial⟩⟩) (by kernel_rfl) ⟨v33, 0, rfl, h⟩
 · rintro e w' ⟨v, rfl, r0, r1, rfl, h⟩; exact ⟨r0, r1, rfl, h⟩

/-! ### (*towpath/codec.Reader).Var (function 205) -/
def c205_0 := cb_ Tryz.f205
def c205_1 := cl_ c205_0
def r205_1 := co_ c205_1
def c205_3 := cr_ c205_0
def c205_4 := cl_ c205_3
def r205_4 := co_ c205_4
def c205_6 := cr_ c205_3
def c205_7 := cl_ c205_6
def r205_7 := co_ c205_7
def c205_9 := cr_ c205_6

theorem S_codec_Reader_Var {r : Option Addr} {w : World} {R : Int → World → Prop} (h : F_codec_Reader_Var r R w) : C_codec_Reader_Var r w R := by
 unfold F_codec_Reader_Var at h
 unfold C_codec_Reader_Var
 refine Calls.mono (calls_of_wpE (args := [Value.pointer r]) (R := fun v w' => ∃ (r0 : Int), v = Value.int .u64 r0 ∧ R r0 w') Tryz.func205 (c := c205_0) (by kernel_rfl) 7 (by kernel_rfl) (by kernel_rfl) [(0, Value.pointer r)] (by kernel_rfl) ?_) ?_
 · refine Zt r205_1 c205_3 ?_
   refine Zn [] 0 [(0, [], .pointer r)] ?_
   refine Zw (some 2) (fun bb => pv_ bb) (Obj.cells ([.int .u64 0]).toArray ty_uint64 (0, 0)) (fun b_ w1 hb hw => ?_)
   replace h := h b_ w1 hb hw
   clear hb hw
   refine Ze [(0, .pointer r), (2, pv_ b_)] ?_
   change WpE _ _ c205_3 _ _ _
   refine Zt r205_4 c205_6 ?_
   refine Zn P2 2 [(2, [], pv_ b_), (3, [], .pointer r), (4, [], .func (.func 211) #[] #[pv_ b_])] ?_
   refine Zm 200 #[.pointer r, .func (.func 211) #[] #[pv_ b_]] (some 5) (Calls.mono h ?_)
   rintro _ w2 ⟨v5, rfl, h⟩
   refine ⟨_, rfl, ?_⟩
   refine Ze [(2, pv_ b_)] ?_
   change WpE _ _ c205_6 _ _ _
   refine Zt r205_7 c205_9 ?_
   refine Zn [] 0 [(2, [], pv_ b_)] ?_
   obtain ⟨v6, hc, h⟩ := h
   refine Zl 117 2 b_ 0 117 6 hc ?_
   refine Zn [] 1 [(2, [], pv_ b_), (6, [], .int .u64 v6)] ?_
   obtain ⟨hc, h⟩ := h
   refine Zo 117 2 6 b_ 0 1 [.int .u64 v6] hc (fun w3 hw => ?_)
   replace h := h w3 hw
   clear hw
   refine Ze [(2, pv_ b_)] ?_
   change WpE _ _ c205_9 _ _ _
   refine wpE_ret (by kernel_rfl) ?_
   obtain ⟨res, hc_res, h⟩ := h
   repeat (first | refine seqQ_ret ?_ | refine blockQ_ret ?_ | refine loopQ_ret ?_ | refine cutQ_ret ?_)
   exact retS (rs := [(ResultVar.cell 2 117)]) (v := Value.int .u64 res) (by kernel_rfl) (⟨b_, 0, [Value.int .u64 res], by kernel_rfl, hc_res, (sizeP_of (k := 1) (by kernel_rfl) (by kernel_rfl)), .inr ⟨by kernel_rfl, rfl⟩, trivial⟩) ⟨res, rfl, h⟩
 · rintro e w' ⟨v, rfl, r0, rfl, h⟩; exact ⟨r0, rfl, h⟩

/-! ### (*towpath/codec.Reader).Var$1 (function 211) -/
def c211_0 := cb_ Tryz.f211
def c211_3 := cr_ c211_0
def c211_4 := cl_ c211_3
def r211_4 := co_ c211_4
def c211_6 := cr_ c211_3
def c211_7 := cl_ c211_6
def r211_7 := co_ c211_7
def c211_9 := cr_ c211_6
def c211_12 := cr_ c211_9

theorem S_codec_Reader_Var_1 {b_ : Slc} {t1 : Option Addr} {w : World} {R : Int → Int → World → Prop} (h : F_codec_Reader_Var_1 b_ t1 R w) : C_codec_Reader_Var_1 b_ t1 w R := by
 unfold F_codec_Reader_Var_1 at h
 unfold C_codec_Reader_Var_1
 refine Calls.mono (calls_of_wpE (args := [sv_ b_, Value.pointer t1]) (R := fun v w' => ∃ (r0 : Int) (r1 : Int), v = Value.tuple #[Value.int .i64 r0, Value.int .i64 r1] ∧ R r0 r1 w') Tryz.func211 (c := c211_0) (by kernel_rfl) 17 (by kernel_rfl) (by kernel_rfl) [(0, sv_ b_), (1, Value.pointer t1)] (by kernel_rfl) ?_) ?_
 · refine Zp c211_3 P2 [(0, sv_ b_), (1, .pointer t1)] ?_
   refine Zt r211_4 c211_6 ?_
   refine Zn P1 1 [(1, [], .pointer t1), (9, [], sv_ b_)] ?_
   refine Zm 202 #[sv_ b_] (some 10) (Calls.mono h ?_)
   rintro _ w1 ⟨v, size, e, rfl, h⟩
   refine ⟨_, rfl, ?_⟩
   refine Zf (Pl 7) [(1, .pointer t1), (5, .int .u64 v), (6, .int .i64 size), (7, .int .i64 e)] ?_
   change WpE _ _ c211_6 _ _ _
   refine Zt r211_7 c211_9 ?_
   refine Zn P1 1 [(1, [], .pointer t1), (6, [], .int .i64 size), (7, [], .int .i64 e), (14, [], .int .u64 v)] ?_
   obtain ⟨hp_1, h⟩ := h
   refine Zv (fun pp => [(1, [], .pointer pp), (6, [], .int .i64 size), (7, [], .int .i64 e), (14, [], .int .u64 v)]) hp_1 ?_
   obtain ⟨hc, h⟩ := h
   refine Zo 117 1 14 (pblk t1) (poff t1) 1 [.int .u64 v] hc (fun w2 hw => ?_)
   replace h := h w2 hw
   clear hw
   refine Ze [(6, .int .i64 size), (7, .int .i64 e)] ?_
   change WpE _ _ c211_9 _ _ _
   refine Zp c211_12 P4 [(3, .int .i64 size), (4, .int .i64 e)] ?_
   refine wpE_ret (by kernel_rfl) ?_
   repeat (first | refine seqQ_ret ?_ | refine blockQ_ret ?_ | refine loopQ_ret ?_ | refine cutQ_ret ?_)
   exact retT (rs := [(ResultVar.tmp 3), (ResultVar.tmp 4)]) (vs := [Value.int .i64 size, Value.int .i64 e]) (by kernel_rfl) (⟨by kernel_rfl, ⟨by kernel_rfl, trivial⟩⟩) (by kernel_rfl) ⟨size, e, rfl, h⟩
 · rintro e w' ⟨v, rfl, r0, r1, rfl, h⟩; exact ⟨r0, r1, rfl, h⟩
end
end Go.Proofs.YtpdegdnigcnjiaaGreatDoor
