/- WRITTEN BY PROGRAM (dec.py): for each Go function the clean formula F, the call's contract C, and the proof S that F gives C. -/
import Derived.Test.YtpdegdnigcnjiaaGreatDoorRows
import Derived.Test.YtpdegdnigcnjiaaGreatDoorGF
namespace Go.Proofs.YtpdegdnigcnjiaaGreatDoor
open Go
set_option linter.unusedVariables false
set_option maxRecDepth 100000
set_option maxHeartbeats 4000000
noncomputable section

/-! ### towpath/towpathref06.New (function 11) -/
def c11_0 := cb_ Tryz.f11
def c11_3 := cr_ c11_0
def c11_4 := cl_ c11_3
def r11_4 := co_ c11_4
def c11_6 := cr_ c11_3
def c11_7 := cl_ c11_6
def c11_10 := cr_ c11_7
def c11_11 := cl_ c11_10
def c11_14 := cr_ c11_11
def c11_15 := cr_ c11_10
def c11_16 := cr_ c11_6
def c11_19 := cr_ c11_16
def c11_20 := cl_ c11_19
def c11_23 := cr_ c11_20
def c11_24 := cl_ c11_23
def c11_25 := cl_ c11_24
def c11_26 := cl_ c11_25
def c11_29 := cr_ c11_26
def c11_30 := cl_ c11_29
def c11_31 := cr_ c11_29
def c11_32 := cr_ c11_25
def c11_33 := cl_ c11_32
def c11_34 := cl_ c11_33
def r11_34 := co_ c11_34
def c11_36 := cr_ c11_32
def r11_36 := co_ c11_36
def c11_38 := cr_ c11_19
def c11_39 := cl_ c11_38
def r11_39 := co_ c11_39
def c11_41 := cr_ c11_38

theorem S_towpathref06_New {l_ : Slc} {w : World} {R : Option Addr → Int → World → Prop} (h : F_towpathref06_New l_ R w) : C_towpathref06_New l_ w R := by
 unfold F_towpathref06_New at h
 unfold C_towpathref06_New
 refine Calls.mono (calls_of_wpE (args := [sv_ l_]) (R := fun v w' => ∃ (r0 : Option Addr) (r1 : Int), v = Value.tuple #[Value.pointer r0, Value.int .i64 r1] ∧ R r0 r1 w') Tryz.func11 (c := c11_0) (by kernel_rfl) 29 (by kernel_rfl) (by kernel_rfl) [(0, sv_ l_)] (by kernel_rfl) ?_) ?_
 · refine Zp c11_3 P2 [(0, sv_ l_)] ?_
   refine Zt r11_4 c11_6 ?_
   refine Zn P1 1 [(0, [], sv_ l_), (7, [], sv_ l_)] ?_
   refine Zm 46 #[sv_ l_] (some 8) (Calls.mono h ?_)
   rintro _ w1 ⟨v8, rfl, h⟩
   refine ⟨_, rfl, ?_⟩
   refine Zf P1 [(0, sv_ l_), (4, .int .i64 v8)] ?_
   change WpE _ _ c11_6 _ _ _
   refine Zs c11_7 c11_16 ?_
   refine Zp c11_10 P2 [(0, sv_ l_), (4, .int .i64 v8), (10, .bool (v8 != 0))] ?_
   refine Zc 10 (v8 != 0) c11_11 c11_15 (fun hb => ?_) (fun hb => ?_)
   · replace h := h.1 hb
     refine Zp c11_14 P3 [(2, .pointer none), (3, .int .i64 v8)] ?_
     refine wpE_ret (by kernel_rfl) ?_
     repeat (first | refine seqQ_ret ?_ | refine blockQ_ret ?_ | refine loopQ_ret ?_ | refine cutQ_ret ?_)
     exact retT (rs := [(ResultVar.tmp 2), (ResultVar.tmp 3)]) (vs := [Value.pointer none, Value.int .i64 v8]) (by kernel_rfl) (⟨by kernel_rfl, ⟨by kernel_rfl, trivial⟩⟩) (by kernel_rfl) ⟨none, v8, rfl, h⟩
   · replace h := h.2 hb
     refine wpE_skip (by kernel_rfl) ?_
     change WpE _ _ c11_16 _ _ _
     refine Zp c11_19 P1 [(0, sv_ l_), (5, .slice none 0 0)] ?_
     refine Zs c11_20 c11_38 ?_
     refine Zp c11_23 P1 [(0, sv_ l_), (5, .slice none 0 0), (6, .int .i64 0)] ?_
     refine Zb 0 c11_24 ?_
     obtain ⟨I, μ, h0, hr⟩ := h
     refine wpE_loop (x := c11_25) (by kernel_rfl) (fun m l w => ∃ (own : Slc) (i : Int), l = [(0, sv_ l_), (5, sv_ own), (6, Value.int .i64 i)] ∧ I own i w ∧ μ own i w = m) (l' := [(0, sv_ l_), (5, Value.slice none 0 0), (6, Value.int .i64 0)]) (Sub.mk (by kernel_rfl)) ⟨(Slc.mk none 0 0), 0, rfl, h0, rfl⟩ ?_
     rintro _ _ w2 ⟨own, i, rfl, hI, rfl⟩
     obtain ⟨again_, again__h, h⟩ : ∃ again_ : Slc → Int → World → Prop, (∀ own' i' w', again_ own' i' w' → I own' i' w' ∧ μ own' i' w' < μ own i w2) ∧ F_towpathref06_New_L0 l_ R again_ own i w2 := ⟨_, fun _ _ _ h => h, hr own i w2 hI⟩
     clear h0 hI
     unfold F_towpathref06_New_L0 at h
     refine Zs c11_26 c11_32 ?_
     refine Zp c11_29 P4 [(0, sv_ l_), (5, sv_ own), (6, .int .i64 i), (15, .bool (decide (i < ((l_.len : Nat) : Int))))] ?_
     refine Zc 15 (decide (i < ((l_.len : Nat) : Int))) c11_30 c11_31 (fun hb => ?_) (fun hb => ?_)
     · replace h := h.1 hb
       refine wpE_skip (by kernel_rfl) ?_
       change WpE _ _ c11_32 _ _ _
       refine Zs c11_33 c11_36 ?_
       refine Zb 1 c11_34 ?_
       refine Zr r11_34 ?_
       refine Zn P3 3 [(0, [], sv_ l_), (5, [], sv_ own), (6, [], .int .i64 i), (18, [], sv_ own), (19, [], sv_ l_), (20, [], .int .i64 i)] ?_
       obtain ⟨hp_3, h⟩ := h
       refine Zv (fun pp => [(0, [], sv_ l_), (5, [], sv_ own), (6, [], .int .i64 i), (18, [], sv_ own), (19, [], .slice pp l_.len l_.cap), (20, [], .int .i64 i)]) hp_3 ?_
       obtain ⟨h0, h1, h⟩ := h
       refine Zj 22 52 19 20 (pblk l_.ptr) (poff l_.ptr) l_.len l_.cap i 2 21 0 h0 h1 ?_
       refine Zn [] 4 [(0, [], sv_ l_), (5, [], sv_ own), (6, [], .int .i64 i), (18, [], sv_ own), (21, [], .pointer (some ⟨(pblk l_.ptr), (poff l_.ptr) + i.toNat * 2, none⟩))] ?_
       obtain ⟨v22, hc, h⟩ := h
       refine reg_loadN (t := 52) (a := (Operand.tmp 21)) (b := (pblk l_.ptr)) (o := ((poff l_.ptr) + i.toNat * 2)) (ty := 52) (dst := some 22) [Value.int .i64 v22.Number, sv_ v22.Writes] (by kernel_rfl) (by kernel_rfl) (by kernel_rfl) (k := 2) (by kernel_rfl) (by kernel_rfl) hc ?_
       refine Zn [] 5 [(0, [], sv_ l_), (5, [], sv_ own), (6, [], .int .i64 i), (18, [], sv_ own), (22, [], .agg #[.int .i64 v22.Number, sv_ v22.Writes])] ?_
       refine Zm 47 #[.agg #[.int .i64 v22.Number, sv_ v22.Writes]] (some 23) (Calls.mono h ?_)
       rintro _ w3 ⟨v23, rfl, h⟩
       refine ⟨_, rfl, ?_⟩
       refine Zn [] 6 [(0, [], sv_ l_), (5, [], sv_ own), (6, [], .int .i64 i), (18, [], sv_ own), (23, [], .agg #[.int .i64 v23.Number, sv_ v23.Writes])] ?_
       refine Zw (some 24) (fun bb => .slice (some ⟨bb, 0, none⟩) 1 1) (Obj.cells ([.int .i64 v23.Number, sv_ v23.Writes]).toArray ty_api_Txn (0, 0)) (fun b_ w4 hb hw => ?_)
       replace h := h b_ w4 hb hw
       clear hb hw
       refine Zn [] 7 [(0, [], sv_ l_), (5, [], sv_ own), (6, [], .int .i64 i), (18, [], sv_ own), (24, [], .slice (some ⟨b_, 0, none⟩) 1 1)] ?_
       obtain ⟨src, hs, h⟩ := h
       refine reg_append (t := 22) (tx := 22) (e := 52) (a := (Operand.tmp 18)) (xo := (Operand.tmp 24)) (s := own) (x := (Slc.mk (some ⟨b_, 0, none⟩) 1 1)) (sz := 2) (by_ := 32) (zs := [Value.int .i64 0, Value.slice none 0 0]) (ty := 22) (dst := some 25)  src (by kernel_rfl) (by kernel_rfl) (by kernel_rfl) (by kernel_rfl) (by kernel_rfl) (by kernel_rfl) (by kernel_rfl) (by kernel_rfl) (by kernel_rfl) hs (AppendW.mono h (fun own1 w5 h => ?_))
       refine Zf P1 [(0, sv_ l_), (5, sv_ own1), (6, .int .i64 i)] ?_
       change WpE _ _ c11_36 _ _ _
       refine Zr r11_36 ?_
       refine Zf P3 [(0, sv_ l_), (5, sv_ own1), (6, .int .i64 (IntKind.i64.wrap (i + 1)))] ?_
       have hb_ := again__h _ _ _ h
       exact ⟨_, hb_.2, [(0, sv_ l_), (5, sv_ own1), (6, Value.int .i64 (IntKind.i64.wrap (i + 1)))], Sub.mk (by kernel_rfl), own1, (IntKind.i64.wrap (i + 1)), rfl, hb_.1, rfl⟩
     · replace h := h.2 hb
       refine wpE_exit (id := 0) (by kernel_rfl) ?_
       change WpE _ _ c11_38 _ _ _
       refine Zt r11_39 c11_41 ?_
       refine Zn P2 2 [(27, [], .agg #[sv_ own, .slice none 0 0])] ?_
       refine Zw (some 28) (fun bb => pv_ bb) (Obj.cells ([sv_ own, .slice none 0 0]).toArray ty_towpathref06_Source (0, 0)) (fun b_1 w6 hb hw => ?_)
       replace h := h b_1 w6 hb hw
       clear hb hw
       refine Zf P2 [(2, pv_ b_1), (3, .int .i64 0)] ?_
       change WpE _ _ c11_41 _ _ _
       refine wpE_ret (by kernel_rfl) ?_
       repeat (first | refine seqQ_ret ?_ | refine blockQ_ret ?_ | refine loopQ_ret ?_ | refine cutQ_ret ?_)
       exact retT (rs := [(ResultVar.tmp 2), (ResultVar.tmp 3)]) (vs := [pv_ b_1, Value.int .i64 0]) (by kernel_rfl) (⟨by kernel_rfl, ⟨by kernel_rfl, trivial⟩⟩) (by kernel_rfl) ⟨(some ⟨b_1, 0, none⟩), 0, rfl, h⟩
 · rintro e w' ⟨v, rfl, r0, r1, rfl, h⟩; exact ⟨r0, r1, rfl, h⟩

/-! ### (*towpath/towpathref06.Source).Get (function 16) -/
def c16_0 := cb_ Tryz.f16
def c16_1 := cl_ c16_0
def r16_1 := co_ c16_1
def c16_3 := cr_ c16_0
def c16_4 := cl_ c16_3
def c16_5 := cl_ c16_4
def r16_5 := co_ c16_5
def c16_7 := cr_ c16_4
def c16_8 := cl_ c16_7
def c16_9 := cl_ c16_8
def r16_9 := co_ c16_9
def c16_11 := cr_ c16_8
def c16_12 := cr_ c16_7
def c16_13 := cr_ c16_3
def c16_14 := cl_ c16_13
def c16_15 := cl_ c16_14
def r16_15 := co_ c16_15
def c16_17 := cr_ c16_14
def c16_18 := cl_ c16_17
def c16_19 := cl_ c16_18
def r16_19 := co_ c16_19
def c16_21 := cr_ c16_18
def c16_22 := cr_ c16_17
def c16_23 := cr_ c16_13
def c16_24 := cl_ c16_23
def r16_24 := co_ c16_24
def c16_26 := cr_ c16_23
def c16_27 := cl_ c16_26
def r16_27 := co_ c16_27
def c16_29 := cr_ c16_26

theorem S_towpathref06_Source_Get {s : Option Addr} {number : Int} {w : World} {R : T_api_Txn → Int → World → Prop} (h : F_towpathref06_Source_Get s number R w) : C_towpathref06_Source_Get s number w R := by
 unfold F_towpathref06_Source_Get at h
 unfold C_towpathref06_Source_Get
 refine Calls.mono (calls_of_wpE (args := [Value.pointer s, Value.int .i64 number]) (R := fun v w' => ∃ (r0 : T_api_Txn) (r1 : Int), v = Value.tuple #[Value.agg #[Value.int .i64 r0.Number, sv_ r0.Writes], Value.int .i64 r1] ∧ R r0 r1 w') Tryz.func16 (c := c16_0) (by kernel_rfl) 40 (by kernel_rfl) (by kernel_rfl) [(0, Value.pointer s), (1, Value.int .i64 number)] (by kernel_rfl) ?_) ?_
 · refine Zt r16_1 c16_3 ?_
   refine Zn [] 0 [(0, [], .pointer s), (1, [], .int .i64 number)] ?_
   refine Zw (some 4) (fun bb => pv_ bb) (Obj.cells ([.int .i64 0, .slice none 0 0]).toArray ty_api_Txn (0, 0)) (fun b_ w1 hb hw => ?_)
   replace h := h b_ w1 hb hw
   clear hb hw
   refine Zf P1 [(0, .pointer s), (1, .int .i64 number), (4, pv_ b_)] ?_
   change WpE _ _ c16_3 _ _ _
   refine Zs c16_4 c16_13 ?_
   refine Zt r16_5 c16_7 ?_
   refine Zn P1 1 [(0, [], .pointer s), (1, [], .int .i64 number), (4, [], pv_ b_), (6, [], .pointer s)] ?_
   refine reg_val (op := (Op.binOp BinOp.eql 31 (Operand.tmp 6) (Operand.const (Value.pointer none)) 31)) (ty := 4) (dst := some 7) (Value.bool s.isNone) (by kernel_rfl) (fun ww => run_ptr_eql_R (p := s) (by kernel_rfl) (by kernel_rfl) (by kernel_rfl) ww) ?_
   refine Ze [(0, .pointer s), (1, .int .i64 number), (4, pv_ b_), (7, .bool s.isNone)] ?_
   change WpE _ _ c16_7 _ _ _
   refine Zc 7 s.isNone c16_8 c16_12 (fun hb => ?_) (fun hb => ?_)
   · replace h := h.1 hb
     refine Zt r16_9 c16_11 ?_
     refine Zn P1 1 [(4, [], pv_ b_), (8, [], .agg #[.int .i64 0, .slice none 0 0])] ?_
     obtain ⟨hc, h⟩ := h
     refine Zo 52 4 8 b_ 0 2 [.int .i64 0, .slice none 0 0] hc (fun w2 hw => ?_)
     replace h := h w2 hw
     clear hw
     refine Zf P1 [(4, pv_ b_), (5, .int .i64 2)] ?_
     change WpE _ _ c16_11 _ _ _
     refine wpE_ret (by kernel_rfl) ?_
     obtain ⟨res, hc_res, h⟩ := h
     repeat (first | refine seqQ_ret ?_ | refine blockQ_ret ?_ | refine loopQ_ret ?_ | refine cutQ_ret ?_)
     exact retT (rs := [(ResultVar.cell 4 52), (ResultVar.tmp 5)]) (vs := [Value.agg #[Value.int .i64 res.Number, sv_ res.Writes], Value.int .i64 2]) (by kernel_rfl) (⟨b_, 0, [Value.int .i64 res.Number, sv_ res.Writes], by kernel_rfl, hc_res, (sizeP_of (k := 2) (by kernel_rfl) (by kernel_rfl)), .inl ⟨by kernel_rfl, rfl⟩, ⟨by kernel_rfl, trivial⟩⟩) (by kernel_rfl) ⟨res, 2, rfl, h⟩
   · replace h := h.2 hb
     refine wpE_skip (by kernel_rfl) ?_
     change WpE _ _ c16_13 _ _ _
     refine Zs c16_14 c16_23 ?_
     refine wpE_seq_cut (x := c16_15) (y := c16_17) (by kernel_rfl) (fun l w => ∃ (t19 : Bool), l = [(0, Value.pointer s), (1, Value.int .i64 number), (4, pv_ b_), (19, Value.bool t19)] ∧ F_towpathref06_Source_Get_k0 s number R b_ t19 w) ?_ ?_
     · refine Zr r16_15 ?_
       refine Zn (Pl 5) 5 [(0, [], .pointer s), (1, [], .int .i64 number), (4, [], pv_ b_), (11, [], .bool (decide (number < 1))), (12, [(11, false)], .int .i64 number), (13, [(11, false)], .pointer s)] ?_
       refine reg_split 11 (decide (number < 1)) (by kernel_rfl) (fun hb => ?_) (fun hb => ?_)
       · replace h := h.1 hb
         refine Zn [] 5 [(0, [], .pointer s), (1, [], .int .i64 number), (4, [], pv_ b_), (11, [], .bool true), (12, [], undef), (13, [], undef)] ?_
         refine Zf [.skip, .skip, .skip, .skip, .skip, .plain] [(0, .pointer s), (1, .int .i64 number), (4, pv_ b_), (19, .bool true)] ?_
         exact ⟨[(0, Value.pointer s), (1, Value.int .i64 number), (4, pv_ b_), (19, Value.bool true)], Sub.mk (by kernel_rfl), true, rfl, h⟩
       · replace h := h.2 hb
         refine Zn [] 5 [(0, [], .pointer s), (1, [], .int .i64 number), (4, [], pv_ b_), (11, [], .bool false), (12, [], .int .i64 number), (13, [], .pointer s)] ?_
         refine Zn [] 5 [(0, [], .pointer s), (1, [], .int .i64 number), (4, [], pv_ b_), (11, [], .bool false), (12, [], .int .i64 number), (13, [], .pointer s)] ?_
         obtain ⟨hp_9, h⟩ := h
         refine Zv (fun pp => [(0, [], .pointer s), (1, [], .int .i64 number), (4, [], pv_ b_), (11, [], .bool false), (12, [], .int .i64 number), (13, [], .pointer pp)]) hp_9 ?_
         refine Zn [.sure] 6 [(0, [], .pointer s), (1, [], .int .i64 number), (4, [], pv_ b_), (11, [], .bool false), (12, [], .int .i64 number), (13, [], .pointer (some ⟨(pblk s), (poff s), none⟩)), (14, [], .pointer (some ⟨(pblk s), (poff s), none⟩))] ?_
         refine Zn [.sure] 7 [(0, [], .pointer s), (1, [], .int .i64 number), (4, [], pv_ b_), (11, [], .bool false), (12, [], .int .i64 number), (15, [], .pointer (some ⟨(pblk s), (poff s), none⟩))] ?_
         obtain ⟨v16, hc, h⟩ := h
         refine Zl 22 15 (pblk s) (poff s) 22 16 hc ?_
         refine Zf [.sure, .sure, .plain] [(0, .pointer s), (1, .int .i64 number), (4, pv_ b_), (19, .bool (decide (number > ((v16.len : Nat) : Int))))] ?_
         exact ⟨[(0, Value.pointer s), (1, Value.int .i64 number), (4, pv_ b_), (19, Value.bool (decide (number > ((v16.len : Nat) : Int))))], Sub.mk (by kernel_rfl), (decide (number > ((v16.len : Nat) : Int))), rfl, h⟩
     · rintro _ w3 ⟨t19, rfl, h⟩
       unfold F_towpathref06_Source_Get_k0 at h
       refine Zc 19 t19 c16_18 c16_22 (fun hb => ?_) (fun hb => ?_)
       · replace h := h.1 hb
         refine Zt r16_19 c16_21 ?_
         refine Zn P1 1 [(4, [], pv_ b_), (20, [], .agg #[.int .i64 0, .slice none 0 0])] ?_
         obtain ⟨hc, h⟩ := h
         refine Zo 52 4 20 b_ 0 2 [.int .i64 0, .slice none 0 0] hc (fun w4 hw => ?_)
         replace h := h w4 hw
         clear hw
         refine Zf P1 [(4, pv_ b_), (5, .int .i64 1)] ?_
         change WpE _ _ c16_21 _ _ _
         refine wpE_ret (by kernel_rfl) ?_
         obtain ⟨res1, hc_res1, h⟩ := h
         repeat (first | refine seqQ_ret ?_ | refine blockQ_ret ?_ | refine loopQ_ret ?_ | refine cutQ_ret ?_)
         exact retT (rs := [(ResultVar.cell 4 52), (ResultVar.tmp 5)]) (vs := [Value.agg #[Value.int .i64 res1.Number, sv_ res1.Writes], Value.int .i64 1]) (by kernel_rfl) (⟨b_, 0, [Value.int .i64 res1.Number, sv_ res1.Writes], by kernel_rfl, hc_res1, (sizeP_of (k := 2) (by kernel_rfl) (by kernel_rfl)), .inl ⟨by kernel_rfl, rfl⟩, ⟨by kernel_rfl, trivial⟩⟩) (by kernel_rfl) ⟨res1, 1, rfl, h⟩
       · replace h := h.2 hb
         refine wpE_skip (by kernel_rfl) ?_
         change WpE _ _ c16_23 _ _ _
         refine Zt r16_24 c16_26 ?_
         refine Zn P2 2 [(0, [], .pointer s), (1, [], .int .i64 number), (4, [], pv_ b_), (21, [], .pointer s), (22, [], .pointer s)] ?_
         obtain ⟨hp_5, h⟩ := h
         refine Zv (fun pp => [(0, [], .pointer s), (1, [], .int .i64 number), (4, [], pv_ b_), (21, [], .pointer s), (22, [], .pointer pp)]) hp_5 ?_
         refine Zn P1 3 [(0, [], .pointer s), (1, [], .int .i64 number), (4, [], pv_ b_), (21, [], .pointer s), (22, [], .pointer (some ⟨(pblk s), (poff s), none⟩)), (23, [], .pointer (some ⟨(pblk s), (poff s), none⟩))] ?_
         refine Zn P1 4 [(0, [], .pointer s), (1, [], .int .i64 number), (4, [], pv_ b_), (21, [], .pointer s), (24, [], .pointer (some ⟨(pblk s), (poff s) + 1, none⟩))] ?_
         obtain ⟨v25, hc, h⟩ := h
         refine Zl 23 24 (pblk s) ((poff s) + 1) 23 25 hc ?_
         refine Zn P1 6 [(0, [], .pointer s), (1, [], .int .i64 number), (4, [], pv_ b_), (21, [], .pointer s), (25, [], sv_ v25), (26, [], .int .i64 number)] ?_
         refine Zw (some 27) (fun bb => .slice (some ⟨bb, 0, none⟩) 1 1) (Obj.cells ([.int .i64 number]).toArray ty_int (0, 0)) (fun b_1 w5 hb hw => ?_)
         replace h := h b_1 w5 hb hw
         clear hb hw
         refine Zn [] 7 [(0, [], .pointer s), (1, [], .int .i64 number), (4, [], pv_ b_), (21, [], .pointer s), (25, [], sv_ v25), (27, [], .slice (some ⟨b_1, 0, none⟩) 1 1)] ?_
         obtain ⟨src, hs, h⟩ := h
         refine reg_append (t := 23) (tx := 23) (e := 3) (a := (Operand.tmp 25)) (xo := (Operand.tmp 27)) (s := v25) (x := (Slc.mk (some ⟨b_1, 0, none⟩) 1 1)) (sz := 1) (by_ := 8) (zs := [Value.int .i64 0]) (ty := 23) (dst := some 28)  src (by kernel_rfl) (by kernel_rfl) (by kernel_rfl) (by kernel_rfl) (by kernel_rfl) (by kernel_rfl) (by kernel_rfl) (by kernel_rfl) (by kernel_rfl) hs (AppendW.mono h (fun v28 w6 h => ?_))
         refine Zn [] 8 [(0, [], .pointer s), (1, [], .int .i64 number), (4, [], pv_ b_), (21, [], .pointer s), (28, [], sv_ v28)] ?_
         obtain ⟨hp_6, h⟩ := h
         refine Zv (fun pp => [(0, [], .pointer s), (1, [], .int .i64 number), (4, [], pv_ b_), (21, [], .pointer pp), (28, [], sv_ v28)]) hp_6 ?_
         refine Zn P1 9 [(0, [], .pointer s), (1, [], .int .i64 number), (4, [], pv_ b_), (21, [], .pointer (some ⟨(pblk s), (poff s), none⟩)), (28, [], sv_ v28), (29, [], .pointer (some ⟨(pblk s), (poff s), none⟩))] ?_
         refine Zn P1 10 [(0, [], .pointer s), (1, [], .int .i64 number), (4, [], pv_ b_), (28, [], sv_ v28), (30, [], .pointer (some ⟨(pblk s), (poff s) + 1, none⟩))] ?_
         obtain ⟨hc, h⟩ := h
         refine Zo 23 30 28 (pblk s) ((poff s) + 1) 1 [sv_ v28] hc (fun w7 hw => ?_)
         replace h := h w7 hw
         clear hw
         refine Ze [(0, .pointer s), (1, .int .i64 number), (4, pv_ b_)] ?_
         change WpE _ _ c16_26 _ _ _
         refine Zt r16_27 c16_29 ?_
         refine Zn P1 1 [(1, [], .int .i64 number), (4, [], pv_ b_), (31, [], .pointer s)] ?_
         obtain ⟨hp_7, h⟩ := h
         refine Zv (fun pp => [(1, [], .int .i64 number), (4, [], pv_ b_), (31, [], .pointer pp)]) hp_7 ?_
         refine Zn P1 2 [(1, [], .int .i64 number), (4, [], pv_ b_), (31, [], .pointer (some ⟨(pblk s), (poff s), none⟩)), (32, [], .pointer (some ⟨(pblk s), (poff s), none⟩))] ?_
         refine Zn P1 3 [(1, [], .int .i64 number), (4, [], pv_ b_), (33, [], .pointer (some ⟨(pblk s), (poff s), none⟩))] ?_
         obtain ⟨v34, hc, h⟩ := h
         refine Zl 22 33 (pblk s) (poff s) 22 34 hc ?_
         refine Zn P2 6 [(4, [], pv_ b_), (34, [], sv_ v34), (36, [], .int .i64 (IntKind.i64.wrap (number - 1)))] ?_
         obtain ⟨hp_8, h⟩ := h
         refine Zv (fun pp => [(4, [], pv_ b_), (34, [], .slice pp v34.len v34.cap), (36, [], .int .i64 (IntKind.i64.wrap (number - 1)))]) hp_8 ?_
         obtain ⟨h0, h1, h⟩ := h
         refine Zj 22 52 34 36 (pblk v34.ptr) (poff v34.ptr) v34.len v34.cap (IntKind.i64.wrap (number - 1)) 2 37 0 h0 h1 ?_
         refine Zn [] 7 [(4, [], pv_ b_), (37, [], .pointer (some ⟨(pblk v34.ptr), (poff v34.ptr) + (IntKind.i64.wrap (number - 1)).toNat * 2, none⟩))] ?_
         obtain ⟨v38, hc, h⟩ := h
         refine reg_loadN (t := 52) (a := (Operand.tmp 37)) (b := (pblk v34.ptr)) (o := ((poff v34.ptr) + (IntKind.i64.wrap (number - 1)).toNat * 2)) (ty := 52) (dst := some 38) [Value.int .i64 v38.Number, sv_ v38.Writes] (by kernel_rfl) (by kernel_rfl) (by kernel_rfl) (k := 2) (by kernel_rfl) (by kernel_rfl) hc ?_
         refine Zn [] 8 [(4, [], pv_ b_), (38, [], .agg #[.int .i64 v38.Number, sv_ v38.Writes])] ?_
         refine Zm 47 #[.agg #[.int .i64 v38.Number, sv_ v38.Writes]] (some 39) (Calls.mono h ?_)
         rintro _ w8 ⟨v39, rfl, h⟩
         refine ⟨_, rfl, ?_⟩
         refine Zn [] 9 [(4, [], pv_ b_), (39, [], .agg #[.int .i64 v39.Number, sv_ v39.Writes])] ?_
         obtain ⟨hc, h⟩ := h
         refine Zo 52 4 39 b_ 0 2 [.int .i64 v39.Number, sv_ v39.Writes] hc (fun w9 hw => ?_)
         replace h := h w9 hw
         clear hw
         refine Zf P1 [(4, pv_ b_), (5, .int .i64 0)] ?_
         change WpE _ _ c16_29 _ _ _
         refine wpE_ret (by kernel_rfl) ?_
         obtain ⟨res2, hc_res2, h⟩ := h
         repeat (first | refine seqQ_ret ?_ | refine blockQ_ret ?_ | refine loopQ_ret ?_ | refine cutQ_ret ?_)
         exact retT (rs := [(ResultVar.cell 4 52), (ResultVar.tmp 5)]) (vs := [Value.agg #[Value.int .i64 res2.Number, sv_ res2.Writes], Value.int .i64 0]) (by kernel_rfl) (⟨b_, 0, [Value.int .i64 res2.Number, sv_ res2.Writes], by kernel_rfl, hc_res2, (sizeP_of (k := 2) (by kernel_rfl) (by kernel_rfl)), .inl ⟨by kernel_rfl, rfl⟩, ⟨by kernel_rfl, trivial⟩⟩) (by kernel_rfl) ⟨res2, 0, rfl, h⟩
 · rintro e w' ⟨v, rfl, r0, r1, rfl, h⟩; exact ⟨r0, r1, rfl, h⟩

/-! ### (*towpath/towpathref06.Source).Last (function 19) -/
def c19_0 := cb_ Tryz.f19
def c19_3 := cr_ c19_0
def c19_4 := cl_ c19_3
def c19_5 := cl_ c19_4
def r19_5 := co_ c19_5
def c19_7 := cr_ c19_4
def c19_8 := cl_ c19_7
def c19_11 := cr_ c19_8
def c19_12 := cr_ c19_7
def c19_13 := cr_ c19_3
def c19_14 := cl_ c19_13
def r19_14 := co_ c19_14
def c19_16 := cr_ c19_13

theorem S_towpathref06_Source_Last {s : Option Addr} {w : World} {R : Int → World → Prop} (h : F_towpathref06_Source_Last s R w) : C_towpathref06_Source_Last s w R := by
 unfold F_towpathref06_Source_Last at h
 unfold C_towpathref06_Source_Last
 refine Calls.mono (calls_of_wpE (args := [Value.pointer s]) (R := fun v w' => ∃ (r0 : Int), v = Value.int .i64 r0 ∧ R r0 w') Tryz.func19 (c := c19_0) (by kernel_rfl) 10 (by kernel_rfl) (by kernel_rfl) [(0, Value.pointer s)] (by kernel_rfl) ?_) ?_
 · refine Zp c19_3 P1 [(0, .pointer s)] ?_
   refine Zs c19_4 c19_13 ?_
   refine Zt r19_5 c19_7 ?_
   refine Zn P1 1 [(0, [], .pointer s), (3, [], .pointer s)] ?_
   refine reg_val (op := (Op.binOp BinOp.eql 31 (Operand.tmp 3) (Operand.const (Value.pointer none)) 31)) (ty := 4) (dst := some 4) (Value.bool s.isNone) (by kernel_rfl) (fun ww => run_ptr_eql_R (p := s) (by kernel_rfl) (by kernel_rfl) (by kernel_rfl) ww) ?_
   refine Ze [(0, .pointer s), (4, .bool s.isNone)] ?_
   change WpE _ _ c19_7 _ _ _
   refine Zc 4 s.isNone c19_8 c19_12 (fun hb => ?_) (fun hb => ?_)
   · replace h := h.1 hb
     refine Zp c19_11 P1 [(2, .int .i64 0)] ?_
     refine wpE_ret (by kernel_rfl) ?_
     repeat (first | refine seqQ_ret ?_ | refine blockQ_ret ?_ | refine loopQ_ret ?_ | refine cutQ_ret ?_)
     exact retS (rs := [(ResultVar.tmp 2)]) (v := Value.int .i64 0) (by kernel_rfl) (⟨by kernel_rfl, trivial⟩) ⟨0, rfl, h⟩
   · replace h := h.2 hb
     refine wpE_skip (by kernel_rfl) ?_
     change WpE _ _ c19_13 _ _ _
     refine Zt r19_14 c19_16 ?_
     refine Zn P1 1 [(5, [], .pointer s)] ?_
     obtain ⟨hp_0, h⟩ := h
     refine Zv (fun pp => [(5, [], .pointer pp)]) hp_0 ?_
     refine Zn P1 2 [(5, [], .pointer (some ⟨(pblk s), (poff s), none⟩)), (6, [], .pointer (some ⟨(pblk s), (poff s), none⟩))] ?_
     refine Zn P1 3 [(7, [], .pointer (some ⟨(pblk s), (poff s), none⟩))] ?_
     obtain ⟨v8, hc, h⟩ := h
     refine Zl 22 7 (pblk s) (poff s) 22 8 hc ?_
     refine Zf P2 [(2, .int .i64 ((v8.len : Nat) : Int))] ?_
     change WpE _ _ c19_16 _ _ _
     refine wpE_ret (by kernel_rfl) ?_
     repeat (first | refine seqQ_ret ?_ | refine blockQ_ret ?_ | refine loopQ_ret ?_ | refine cutQ_ret ?_)
     exact retS (rs := [(ResultVar.tmp 2)]) (v := Value.int .i64 ((v8.len : Nat) : Int)) (by kernel_rfl) (⟨by kernel_rfl, trivial⟩) ⟨((v8.len : Nat) : Int), rfl, h⟩
 · rintro e w' ⟨v, rfl, r0, rfl, h⟩; exact ⟨r0, rfl, h⟩

/-! ### (*towpath/towpathref06.Source).Asked (function 24) -/
def c24_0 := cb_ Tryz.f24
def c24_3 := cr_ c24_0
def c24_4 := cl_ c24_3
def c24_5 := cl_ c24_4
def r24_5 := co_ c24_5
def c24_7 := cr_ c24_4
def c24_8 := cl_ c24_7
def c24_11 := cr_ c24_8
def c24_12 := cr_ c24_7
def c24_13 := cr_ c24_3
def c24_14 := cl_ c24_13
def r24_14 := co_ c24_14
def c24_16 := cr_ c24_13

theorem S_towpathref06_Source_Asked {s : Option Addr} {w : World} {R : Slc → World → Prop} (h : F_towpathref06_Source_Asked s R w) : C_towpathref06_Source_Asked s w R := by
 unfold F_towpathref06_Source_Asked at h
 unfold C_towpathref06_Source_Asked
 refine Calls.mono (calls_of_wpE (args := [Value.pointer s]) (R := fun v w' => ∃ (r0 : Slc), v = sv_ r0 ∧ R r0 w') Tryz.func24 (c := c24_0) (by kernel_rfl) 9 (by kernel_rfl) (by kernel_rfl) [(0, Value.pointer s)] (by kernel_rfl) ?_) ?_
 · refine Zp c24_3 P1 [(0, .pointer s)] ?_
   refine Zs c24_4 c24_13 ?_
   refine Zt r24_5 c24_7 ?_
   refine Zn P1 1 [(0, [], .pointer s), (3, [], .pointer s)] ?_
   refine reg_val (op := (Op.binOp BinOp.eql 31 (Operand.tmp 3) (Operand.const (Value.pointer none)) 31)) (ty := 4) (dst := some 4) (Value.bool s.isNone) (by kernel_rfl) (fun ww => run_ptr_eql_R (p := s) (by kernel_rfl) (by kernel_rfl) (by kernel_rfl) ww) ?_
   refine Ze [(0, .pointer s), (4, .bool s.isNone)] ?_
   change WpE _ _ c24_7 _ _ _
   refine Zc 4 s.isNone c24_8 c24_12 (fun hb => ?_) (fun hb => ?_)
   · replace h := h.1 hb
     refine Zp c24_11 P1 [(2, .slice none 0 0)] ?_
     refine wpE_ret (by kernel_rfl) ?_
     repeat (first | refine seqQ_ret ?_ | refine blockQ_ret ?_ | refine loopQ_ret ?_ | refine cutQ_ret ?_)
     exact retS (rs := [(ResultVar.tmp 2)]) (v := Value.slice none 0 0) (by kernel_rfl) (⟨by kernel_rfl, trivial⟩) ⟨(Slc.mk none 0 0), rfl, h⟩
   · replace h := h.2 hb
     refine wpE_skip (by kernel_rfl) ?_
     change WpE _ _ c24_13 _ _ _
     refine Zt r24_14 c24_16 ?_
     refine Zn P1 1 [(5, [], .pointer s)] ?_
     obtain ⟨hp_0, h⟩ := h
     refine Zv (fun pp => [(5, [], .pointer pp)]) hp_0 ?_
     refine Zn P1 2 [(5, [], .pointer (some ⟨(pblk s), (poff s), none⟩)), (6, [], .pointer (some ⟨(pblk s), (poff s), none⟩))] ?_
     refine Zn P1 3 [(7, [], .pointer (some ⟨(pblk s), (poff s) + 1, none⟩))] ?_
     obtain ⟨v8, hc, h⟩ := h
     refine Zl 23 7 (pblk s) ((poff s) + 1) 23 8 hc ?_
     refine Zf P1 [(2, sv_ v8)] ?_
     change WpE _ _ c24_16 _ _ _
     refine wpE_ret (by kernel_rfl) ?_
     repeat (first | refine seqQ_ret ?_ | refine blockQ_ret ?_ | refine loopQ_ret ?_ | refine cutQ_ret ?_)
     exact retS (rs := [(ResultVar.tmp 2)]) (v := sv_ v8) (by kernel_rfl) (⟨by kernel_rfl, trivial⟩) ⟨v8, rfl, h⟩
 · rintro e w' ⟨v, rfl, r0, rfl, h⟩; exact ⟨r0, rfl, h⟩

/-! ### towpath/towpathref06.Check (function 46) -/
def c46_0 := cb_ Tryz.f46
def c46_3 := cr_ c46_0
def c46_4 := cl_ c46_3
def c46_7 := cr_ c46_4
def c46_8 := cl_ c46_7
def c46_9 := cl_ c46_8
def c46_10 := cl_ c46_9
def c46_13 := cr_ c46_10
def c46_14 := cl_ c46_13
def c46_15 := cr_ c46_13
def c46_16 := cr_ c46_9
def c46_17 := cl_ c46_16
def c46_18 := cl_ c46_17
def c46_19 := cl_ c46_18
def c46_20 := cl_ c46_19
def r46_20 := co_ c46_20
def c46_22 := cr_ c46_19
def c46_23 := cl_ c46_22
def c46_26 := cr_ c46_23
def c46_27 := cr_ c46_22
def c46_28 := cr_ c46_18
def c46_29 := cl_ c46_28
def r46_29 := co_ c46_29
def c46_31 := cr_ c46_28
def c46_32 := cl_ c46_31
def c46_35 := cr_ c46_32
def c46_36 := cr_ c46_31
def c46_37 := cr_ c46_16
def r46_37 := co_ c46_37
def c46_39 := cr_ c46_3
def c46_42 := cr_ c46_39

theorem S_towpathref06_Check {l_ : Slc} {w : World} {R : Int → World → Prop} (h : F_towpathref06_Check l_ R w) : C_towpathref06_Check l_ w R := by
 unfold F_towpathref06_Check at h
 unfold C_towpathref06_Check
 refine Calls.mono (calls_of_wpE (args := [sv_ l_]) (R := fun v w' => ∃ (r0 : Int), v = Value.int .i64 r0 ∧ R r0 w') Tryz.func46 (c := c46_0) (by kernel_rfl) 24 (by kernel_rfl) (by kernel_rfl) [(0, sv_ l_)] (by kernel_rfl) ?_) ?_
 · refine Zp c46_3 P1 [(0, sv_ l_)] ?_
   refine Zs c46_4 c46_39 ?_
   refine Zp c46_7 P1 [(0, sv_ l_), (3, .int .i64 0)] ?_
   refine Zb 0 c46_8 ?_
   obtain ⟨I, μ, h0, hr⟩ := h
   refine wpE_loop (x := c46_9) (by kernel_rfl) (fun m l w => ∃ (i : Int), l = [(0, sv_ l_), (3, Value.int .i64 i)] ∧ I i w ∧ μ i w = m) (l' := [(0, sv_ l_), (3, Value.int .i64 0)]) (Sub.mk (by kernel_rfl)) ⟨0, rfl, h0, rfl⟩ ?_
   rintro _ _ w1 ⟨i, rfl, hI, rfl⟩
   obtain ⟨again_, again__h, h⟩ : ∃ again_ : Int → World → Prop, (∀ i' w', again_ i' w' → I i' w' ∧ μ i' w' < μ i w1) ∧ F_towpathref06_Check_L0 l_ R again_ i w1 := ⟨_, fun _ _ h => h, hr i w1 hI⟩
   clear h0 hI
   unfold F_towpathref06_Check_L0 at h
   refine Zs c46_10 c46_16 ?_
   refine Zp c46_13 P4 [(0, sv_ l_), (3, .int .i64 i), (7, .bool (decide (i < ((l_.len : Nat) : Int))))] ?_
   refine Zc 7 (decide (i < ((l_.len : Nat) : Int))) c46_14 c46_15 (fun hb => ?_) (fun hb => ?_)
   · replace h := h.1 hb
     refine wpE_skip (by kernel_rfl) ?_
     change WpE _ _ c46_16 _ _ _
     refine Zs c46_17 c46_37 ?_
     refine Zb 1 c46_18 ?_
     refine Zs c46_19 c46_28 ?_
     refine Zt r46_20 c46_22 ?_
     refine Zn P2 2 [(0, [], sv_ l_), (3, [], .int .i64 i), (10, [], sv_ l_), (11, [], .int .i64 i)] ?_
     obtain ⟨hp_21, h⟩ := h
     refine Zv (fun pp => [(0, [], sv_ l_), (3, [], .int .i64 i), (10, [], .slice pp l_.len l_.cap), (11, [], .int .i64 i)]) hp_21 ?_
     obtain ⟨h0, h1, h⟩ := h
     refine Zj 22 52 10 11 (pblk l_.ptr) (poff l_.ptr) l_.len l_.cap i 2 12 0 h0 h1 ?_
     refine Zn [] 3 [(0, [], sv_ l_), (3, [], .int .i64 i), (12, [], .pointer (some ⟨(pblk l_.ptr), (poff l_.ptr) + i.toNat * 2, none⟩))] ?_
     obtain ⟨v13, hc, h⟩ := h
     refine reg_loadN (t := 52) (a := (Operand.tmp 12)) (b := (pblk l_.ptr)) (o := ((poff l_.ptr) + i.toNat * 2)) (ty := 52) (dst := some 13) [Value.int .i64 v13.Number, sv_ v13.Writes] (by kernel_rfl) (by kernel_rfl) (by kernel_rfl) (k := 2) (by kernel_rfl) (by kernel_rfl) hc ?_
     refine Zn [] 4 [(0, [], sv_ l_), (3, [], .int .i64 i), (13, [], .agg #[.int .i64 v13.Number, sv_ v13.Writes])] ?_
     refine Zm 123 #[.agg #[.int .i64 v13.Number, sv_ v13.Writes]] (some 14) (Calls.mono h ?_)
     rintro _ w2 ⟨v14, rfl, h⟩
     refine ⟨_, rfl, ?_⟩
     refine Zf P1 [(0, sv_ l_), (3, .int .i64 i), (15, .bool (v14 != 0))] ?_
     change WpE _ _ c46_22 _ _ _
     refine Zc 15 (v14 != 0) c46_23 c46_27 (fun hb => ?_) (fun hb => ?_)
     · replace h := h.1 hb
       refine Zp c46_26 P1 [(2, .int .i64 1)] ?_
       refine wpE_ret (by kernel_rfl) ?_
       repeat (first | refine seqQ_ret ?_ | refine blockQ_ret ?_ | refine loopQ_ret ?_ | refine cutQ_ret ?_)
       exact retS (rs := [(ResultVar.tmp 2)]) (v := Value.int .i64 1) (by kernel_rfl) (⟨by kernel_rfl, trivial⟩) ⟨1, rfl, h⟩
     · replace h := h.2 hb
       refine wpE_skip (by kernel_rfl) ?_
       change WpE _ _ c46_28 _ _ _
       refine Zt r46_29 c46_31 ?_
       refine Zn P2 2 [(0, [], sv_ l_), (3, [], .int .i64 i), (16, [], sv_ l_), (17, [], .int .i64 i)] ?_
       obtain ⟨hp_23, h⟩ := h
       refine Zv (fun pp => [(0, [], sv_ l_), (3, [], .int .i64 i), (16, [], .slice pp l_.len l_.cap), (17, [], .int .i64 i)]) hp_23 ?_
       obtain ⟨h0, h1, h⟩ := h
       refine Zj 22 52 16 17 (pblk l_.ptr) (poff l_.ptr) l_.len l_.cap i 2 18 0 h0 h1 ?_
       refine Zn P1 4 [(0, [], sv_ l_), (3, [], .int .i64 i), (19, [], .pointer (some ⟨(pblk l_.ptr), (poff l_.ptr) + i.toNat * 2, none⟩))] ?_
       obtain ⟨v20, hc, h⟩ := h
       refine Zl 3 19 (pblk l_.ptr) ((poff l_.ptr) + i.toNat * 2) 3 20 hc ?_
       refine Zf P3 [(0, sv_ l_), (3, .int .i64 i), (23, .bool (v20 != (IntKind.i64.wrap (i + 1))))] ?_
       change WpE _ _ c46_31 _ _ _
       refine Zc 23 (v20 != (IntKind.i64.wrap (i + 1))) c46_32 c46_36 (fun hb => ?_) (fun hb => ?_)
       · replace h := h.1 hb
         refine Zp c46_35 P1 [(2, .int .i64 6)] ?_
         refine wpE_ret (by kernel_rfl) ?_
         repeat (first | refine seqQ_ret ?_ | refine blockQ_ret ?_ | refine loopQ_ret ?_ | refine cutQ_ret ?_)
         exact retS (rs := [(ResultVar.tmp 2)]) (v := Value.int .i64 6) (by kernel_rfl) (⟨by kernel_rfl, trivial⟩) ⟨6, rfl, h⟩
       · replace h := h.2 hb
         refine wpE_skip (by kernel_rfl) ?_
         change WpE _ _ c46_37 _ _ _
         refine Zr r46_37 ?_
         refine Zf P3 [(0, sv_ l_), (3, .int .i64 (IntKind.i64.wrap (i + 1)))] ?_
         have hb_ := again__h _ _ h
         exact ⟨_, hb_.2, [(0, sv_ l_), (3, Value.int .i64 (IntKind.i64.wrap (i + 1)))], Sub.mk (by kernel_rfl), (IntKind.i64.wrap (i + 1)), rfl, hb_.1, rfl⟩
   · replace h := h.2 hb
     refine wpE_exit (id := 0) (by kernel_rfl) ?_
     change WpE _ _ c46_39 _ _ _
     refine Zp c46_42 P1 [(2, .int .i64 0)] ?_
     refine wpE_ret (by kernel_rfl) ?_
     repeat (first | refine seqQ_ret ?_ | refine blockQ_ret ?_ | refine loopQ_ret ?_ | refine cutQ_ret ?_)
     exact retS (rs := [(ResultVar.tmp 2)]) (v := Value.int .i64 0) (by kernel_rfl) (⟨by kernel_rfl, trivial⟩) ⟨0, rfl, h⟩
 · rintro e w' ⟨v, rfl, r0, rfl, h⟩; exact ⟨r0, rfl, h⟩

/-! ### towpath/towpathref06.Own (function 47) -/
def c47_0 := cb_ Tryz.f47
def c47_1 := cl_ c47_0
def r47_1 := co_ c47_1
def c47_3 := cr_ c47_0
def c47_6 := cr_ c47_3
def c47_7 := cl_ c47_6
def r47_7 := co_ c47_7
def c47_9 := cr_ c47_6
def c47_10 := cl_ c47_9
def r47_10 := co_ c47_10
def c47_12 := cr_ c47_9

theorem S_towpathref06_Own {t_ : T_api_Txn} {w : World} {R : T_api_Txn → World → Prop} (h : F_towpathref06_Own t_ R w) : C_towpathref06_Own t_ w R := by
 unfold F_towpathref06_Own at h
 unfold C_towpathref06_Own
 refine Calls.mono (calls_of_wpE (args := [Value.agg #[Value.int .i64 t_.Number, sv_ t_.Writes]]) (R := fun v w' => ∃ (r0 : T_api_Txn), v = Value.agg #[Value.int .i64 r0.Number, sv_ r0.Writes] ∧ R r0 w') Tryz.func47 (c := c47_0) (by kernel_rfl) 12 (by kernel_rfl) (by kernel_rfl) [(0, Value.agg #[Value.int .i64 t_.Number, sv_ t_.Writes])] (by kernel_rfl) ?_) ?_
 · refine Zt r47_1 c47_3 ?_
   refine Zn [] 0 [(0, [], .agg #[.int .i64 t_.Number, sv_ t_.Writes])] ?_
   refine Zw (some 1) (fun bb => pv_ bb) (Obj.cells ([.int .i64 t_.Number, sv_ t_.Writes]).toArray ty_api_Txn (0, 0)) (fun b_ w1 hb hw => ?_)
   replace h := h b_ w1 hb hw
   clear hb hw
   refine Zn [] 1 [(1, [], pv_ b_)] ?_
   refine Zw (some 2) (fun bb => pv_ bb) (Obj.cells ([.int .i64 0, .slice none 0 0]).toArray ty_api_Txn (0, 0)) (fun b_1 w2 hb hw => ?_)
   replace h := h b_1 w2 hb hw
   clear hb hw
   refine Ze [(1, pv_ b_), (2, pv_ b_1)] ?_
   change WpE _ _ c47_3 _ _ _
   refine Zp c47_6 P1 [(1, pv_ b_), (2, pv_ b_1), (3, .slice none 0 0)] ?_
   refine Zt r47_7 c47_9 ?_
   refine Zn P2 2 [(1, [], pv_ b_), (2, [], pv_ b_1), (3, [], .slice none 0 0), (4, [], .slice none 0 0), (5, [], .pointer (some ⟨b_, 1, none⟩))] ?_
   obtain ⟨v6, hc, h⟩ := h
   refine Zl 50 5 b_ 1 50 6 hc ?_
   refine Zn [] 3 [(1, [], pv_ b_), (2, [], pv_ b_1), (3, [], .slice none 0 0), (4, [], .slice none 0 0), (6, [], sv_ v6)] ?_
   obtain ⟨src, hs, h⟩ := h
   refine reg_append (t := 50) (tx := 50) (e := 139) (a := (Operand.tmp 4)) (xo := (Operand.tmp 6)) (s := (Slc.mk none 0 0)) (x := v6) (sz := 3) (by_ := 40) (zs := [Value.string ByteArray.empty, Value.string ByteArray.empty, Value.bool false]) (ty := 50) (dst := some 7)  src (by kernel_rfl) (by kernel_rfl) (by kernel_rfl) (by kernel_rfl) (by kernel_rfl) (by kernel_rfl) (by kernel_rfl) (by kernel_rfl) (by kernel_rfl) hs (AppendW.mono h (fun w_ w3 h => ?_))
   refine Zf P1 [(1, pv_ b_), (2, pv_ b_1), (3, sv_ w_)] ?_
   change WpE _ _ c47_9 _ _ _
   refine Zt r47_10 c47_12 ?_
   refine Zn P1 1 [(2, [], pv_ b_1), (3, [], sv_ w_), (8, [], pv_ b_)] ?_
   obtain ⟨v9, hc, h⟩ := h
   refine Zl 3 8 b_ 0 3 9 hc ?_
   refine Zn P2 4 [(2, [], pv_ b_1), (11, [], .agg #[.int .i64 v9, sv_ w_])] ?_
   obtain ⟨hc, h⟩ := h
   refine Zo 52 2 11 b_1 0 2 [.int .i64 v9, sv_ w_] hc (fun w4 hw => ?_)
   replace h := h w4 hw
   clear hw
   refine Ze [(2, pv_ b_1)] ?_
   change WpE _ _ c47_12 _ _ _
   refine wpE_ret (by kernel_rfl) ?_
   obtain ⟨res, hc_res, h⟩ := h
   repeat (first | refine seqQ_ret ?_ | refine blockQ_ret ?_ | refine loopQ_ret ?_ | refine cutQ_ret ?_)
   exact retS (rs := [(ResultVar.cell 2 52)]) (v := Value.agg #[Value.int .i64 res.Number, sv_ res.Writes]) (by kernel_rfl) (⟨b_1, 0, [Value.int .i64 res.Number, sv_ res.Writes], by kernel_rfl, hc_res, (sizeP_of (k := 2) (by kernel_rfl) (by kernel_rfl)), .inl ⟨by kernel_rfl, rfl⟩, trivial⟩) ⟨res, rfl, h⟩
 · rintro e w' ⟨v, rfl, r0, rfl, h⟩; exact ⟨r0, rfl, h⟩
end
end Go.Proofs.YtpdegdnigcnjiaaGreatDoor
