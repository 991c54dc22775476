/- WRITTEN BY PROGRAM (dec.py): for each Go function the clean formula F, the call's contract C, and the proof S that F gives C. -/
import Derived.Test.YtpdegdnigcnjiaaGreatDoorRows
import Derived.Test.YtpdegdnigcnjiaaGreatDoorGF
namespace Go.Proofs.YtpdegdnigcnjiaaGreatDoor
open Go
set_option linter.unusedVariables false
set_option maxRecDepth 100000
set_option maxHeartbeats 4000000
noncomputable section

/-! ### towpath/towpathlaw01.TxnSize (function 43) -/
def c43_0 := cb_ Tryz.f43
def c43_1 := cl_ c43_0
def r43_1 := co_ c43_1
def c43_3 := cr_ c43_0
def c43_4 := cl_ c43_3
def r43_4 := co_ c43_4
def c43_6 := cr_ c43_3

theorem S_towpathlaw01_TxnSize {t_ : T_api_Txn} {w : World} {R : Int → World → Prop} (h : F_towpathlaw01_TxnSize t_ R w) : C_towpathlaw01_TxnSize t_ w R := by
 unfold F_towpathlaw01_TxnSize at h
 unfold C_towpathlaw01_TxnSize
 refine Calls.mono (calls_of_wpE (args := [Value.agg #[Value.int .i64 t_.Number, sv_ t_.Writes]]) (R := fun v w' => ∃ (r0 : Int), v = Value.int .i64 r0 ∧ R r0 w') Tryz.func43 (c := c43_0) (by kernel_rfl) 7 (by kernel_rfl) (by kernel_rfl) [(0, Value.agg #[Value.int .i64 t_.Number, sv_ t_.Writes])] (by kernel_rfl) ?_) ?_
 · refine Zt r43_1 c43_3 ?_
   refine Zn [] 0 [(0, [], .agg #[.int .i64 t_.Number, sv_ t_.Writes])] ?_
   refine Zw (some 1) (fun bb => pv_ bb) (Obj.cells ([.int .i64 t_.Number, sv_ t_.Writes]).toArray ty_api_Txn (0, 0)) (fun b_ w1 hb hw => ?_)
   replace h := h b_ w1 hb hw
   clear hb hw
   refine Zf P1 [(1, pv_ b_)] ?_
   change WpE _ _ c43_3 _ _ _
   refine Zt r43_4 c43_6 ?_
   refine Zn P1 1 [(3, [], .pointer (some ⟨b_, 1, none⟩))] ?_
   obtain ⟨v4, hc, h⟩ := h
   refine Zl 50 3 b_ 1 50 4 hc ?_
   refine Zn [] 2 [(4, [], sv_ v4)] ?_
   refine Zm 120 #[sv_ v4] (some 5) (Calls.mono h ?_)
   rintro _ w2 ⟨v5, rfl, h⟩
   refine ⟨_, rfl, ?_⟩
   refine Zf P2 [(2, .int .i64 (IntKind.i64.wrap (1 + v5)))] ?_
   change WpE _ _ c43_6 _ _ _
   refine wpE_ret (by kernel_rfl) ?_
   repeat (first | refine seqQ_ret ?_ | refine blockQ_ret ?_ | refine loopQ_ret ?_ | refine cutQ_ret ?_)
   exact retS (rs := [(ResultVar.tmp 2)]) (v := Value.int .i64 (IntKind.i64.wrap (1 + v5))) (by kernel_rfl) (⟨by kernel_rfl, trivial⟩) ⟨(IntKind.i64.wrap (1 + v5)), rfl, h⟩
 · rintro e w' ⟨v, rfl, r0, rfl, h⟩; exact ⟨r0, rfl, h⟩

/-! ### towpath/towpathlaw01.TwinTxn (function 44) -/
def c44_0 := cb_ Tryz.f44
def c44_1 := cl_ c44_0
def r44_1 := co_ c44_1
def c44_3 := cr_ c44_0
def c44_4 := cl_ c44_3
def r44_4 := co_ c44_4
def c44_6 := cr_ c44_3
def o_towpathlaw01_TwinTxn_4 : List Nat := [0, 1, 2, 3, 4, 5, 6]

theorem S_towpathlaw01_TwinTxn {x : T_api_Txn} {w : World} {R : T_api_Txn → World → Prop} (h : F_towpathlaw01_TwinTxn x R w) : C_towpathlaw01_TwinTxn x w R := by
 unfold F_towpathlaw01_TwinTxn at h
 unfold C_towpathlaw01_TwinTxn
 refine Calls.mono (calls_of_wpE (args := [Value.agg #[Value.int .i64 x.Number, sv_ x.Writes]]) (R := fun v w' => ∃ (r0 : T_api_Txn), v = Value.agg #[Value.int .i64 r0.Number, sv_ r0.Writes] ∧ R r0 w') Tryz.func44 (c := c44_0) (by kernel_rfl) 9 (by kernel_rfl) (by kernel_rfl) [(0, Value.agg #[Value.int .i64 x.Number, sv_ x.Writes])] (by kernel_rfl) ?_) ?_
 · refine Zt r44_1 c44_3 ?_
   refine Zn [] 0 [(0, [], .agg #[.int .i64 x.Number, sv_ x.Writes])] ?_
   refine Zw (some 1) (fun bb => pv_ bb) (Obj.cells ([.int .i64 x.Number, sv_ x.Writes]).toArray ty_api_Txn (0, 0)) (fun b_ w1 hb hw => ?_)
   replace h := h b_ w1 hb hw
   clear hb hw
   refine Zn [] 1 [(1, [], pv_ b_)] ?_
   refine Zw (some 2) (fun bb => pv_ bb) (Obj.cells ([.int .i64 0, .slice none 0 0]).toArray ty_api_Txn (0, 0)) (fun b_1 w2 hb hw => ?_)
   replace h := h b_1 w2 hb hw
   clear hb hw
   refine Ze [(1, pv_ b_), (2, pv_ b_1)] ?_
   change WpE _ _ c44_3 _ _ _
   refine Zs c44_4 c44_6 ?_
   refine wpE_mixregion (id := 1) (ops := r44_4) o_towpathlaw01_TwinTxn_4 (by kernel_rfl) (by kernel_rfl) (by kernel_rfl) (by kernel_rfl) (fun w3 hw => ?_)
   replace h := h w3 hw
   clear hw
   refine mreg_run P1 1 [(1, [], pv_ b_), (2, [], pv_ b_1), (3, [], pv_ b_)] (by kernel_rfl) (by kernel_rfl) ?_
   obtain ⟨v4, hc, h⟩ := h
   refine mreg_load1 (i := 1) (by kernel_rfl) (t := 3) (a := (Operand.tmp 3)) (b := b_) (o := 0) (ty := 3) (dst := some 4) (by kernel_rfl) (by kernel_rfl) (by kernel_rfl) hc ?_
   refine mreg_run P1 3 [(2, [], pv_ b_1), (4, [], Value.int .i64 v4), (5, [], Value.pointer (some ⟨b_, 1, none⟩))] (by kernel_rfl) (by kernel_rfl) ?_
   obtain ⟨v6, hc, h⟩ := h
   refine mreg_load1 (i := 3) (by kernel_rfl) (t := 50) (a := (Operand.tmp 5)) (b := b_) (o := 1) (ty := 50) (dst := some 6) (by kernel_rfl) (by kernel_rfl) (by kernel_rfl) hc ?_
   refine mreg_run [] 4 [(2, [], pv_ b_1), (4, [], Value.int .i64 v4), (6, [], sv_ v6)] (by kernel_rfl) (by kernel_rfl) ?_
   refine mreg_enter (op := (Op.call (Call.mk (Callee.value (Operand.func 121)) #[(Operand.tmp 6)] #[50]))) (ty := 50) (dst := some 7) 4 [3, 2] [(1, fun w' => w'.cell? ⟨b_, 0, none⟩ = some (Value.int .i64 v4))] 121 #[sv_ v6] (by kernel_rfl) (by kernel_rfl) (by kernel_rfl) (by kernel_rfl) (by kernel_rfl) (fun ww => by kernel_rfl) (Calls.mono h ?_)
   rintro _ w4 ⟨v7, rfl, h⟩
   obtain ⟨hk0, h⟩ := h
   refine ⟨_, rfl, ⟨hk0, trivial⟩, ?_⟩
   refine mreg_run P1 6 [(2, [], pv_ b_1), (8, [], Value.agg #[Value.int .i64 v4, sv_ v7])] (by kernel_rfl) (by kernel_rfl) ?_
   obtain ⟨hc, h⟩ := h
   refine mreg_store (t := 52) (a := (Operand.tmp 2)) (x := (Operand.tmp 8)) (b := b_1) (o := 0) (k := 2) (ty := 0) (dst := none) 6 [0, 1, 2, 3, 4, 5] [] [Value.int .i64 v4, sv_ v7] (by kernel_rfl) (by kernel_rfl) (by kernel_rfl) (by kernel_rfl) (by kernel_rfl) (by kernel_rfl) (by kernel_rfl) (by kernel_rfl) (by kernel_rfl) (by kernel_rfl) hc (fun w5 hw => ?_)
   replace h := h w5 hw
   clear hw
   refine ⟨trivial, ?_⟩
   refine mreg_end [(2, pv_ b_1)] (by kernel_rfl) (by kernel_rfl) (by kernel_rfl) ?_
   change WpE _ _ c44_6 _ _ _
   refine wpE_ret (by kernel_rfl) ?_
   obtain ⟨res, hc_res, h⟩ := h
   repeat (first | refine seqQ_ret ?_ | refine blockQ_ret ?_ | refine loopQ_ret ?_ | refine cutQ_ret ?_)
   exact retS (rs := [(ResultVar.cell 2 52)]) (v := Value.agg #[Value.int .i64 res.Number, sv_ res.Writes]) (by kernel_rfl) (⟨b_1, 0, [Value.int .i64 res.Number, sv_ res.Writes], by kernel_rfl, hc_res, (sizeP_of (k := 2) (by kernel_rfl) (by kernel_rfl)), .inl ⟨by kernel_rfl, rfl⟩, trivial⟩) ⟨res, rfl, h⟩
 · rintro e w' ⟨v, rfl, r0, rfl, h⟩; exact ⟨r0, rfl, h⟩

/-! ### towpath/towpathlaw01.LeftTxn (function 48) -/
def c48_0 := cb_ Tryz.f48
def c48_1 := cl_ c48_0
def r48_1 := co_ c48_1
def c48_3 := cr_ c48_0
def c48_4 := cl_ c48_3
def r48_4 := co_ c48_4
def c48_6 := cr_ c48_3

theorem S_towpathlaw01_LeftTxn {t_ : T_api_Txn} {x : T_api_Txn} {w : World} {R : Bool → World → Prop} (h : F_towpathlaw01_LeftTxn t_ x R w) : C_towpathlaw01_LeftTxn t_ x w R := by
 unfold F_towpathlaw01_LeftTxn at h
 unfold C_towpathlaw01_LeftTxn
 refine Calls.mono (calls_of_wpE (args := [Value.agg #[Value.int .i64 t_.Number, sv_ t_.Writes], Value.agg #[Value.int .i64 x.Number, sv_ x.Writes]]) (R := fun v w' => ∃ (r0 : Bool), v = Value.bool r0 ∧ R r0 w') Tryz.func48 (c := c48_0) (by kernel_rfl) 17 (by kernel_rfl) (by kernel_rfl) [(0, Value.agg #[Value.int .i64 t_.Number, sv_ t_.Writes]), (1, Value.agg #[Value.int .i64 x.Number, sv_ x.Writes])] (by kernel_rfl) ?_) ?_
 · refine Zt r48_1 c48_3 ?_
   refine Zn [] 0 [(0, [], .agg #[.int .i64 t_.Number, sv_ t_.Writes]), (1, [], .agg #[.int .i64 x.Number, sv_ x.Writes])] ?_
   refine Zw (some 2) (fun bb => pv_ bb) (Obj.cells ([.int .i64 t_.Number, sv_ t_.Writes]).toArray ty_api_Txn (0, 0)) (fun b_ w1 hb hw => ?_)
   replace h := h b_ w1 hb hw
   clear hb hw
   refine Zn [] 1 [(1, [], .agg #[.int .i64 x.Number, sv_ x.Writes]), (2, [], pv_ b_)] ?_
   refine Zw (some 3) (fun bb => pv_ bb) (Obj.cells ([.int .i64 x.Number, sv_ x.Writes]).toArray ty_api_Txn (0, 0)) (fun b_1 w2 hb hw => ?_)
   replace h := h b_1 w2 hb hw
   clear hb hw
   refine Zf P1 [(2, pv_ b_), (3, pv_ b_1)] ?_
   change WpE _ _ c48_3 _ _ _
   refine Zt r48_4 c48_6 ?_
   refine Zn P1 1 [(2, [], pv_ b_), (3, [], pv_ b_1), (5, [], pv_ b_)] ?_
   obtain ⟨v6, hc, h⟩ := h
   refine Zl 3 5 b_ 0 3 6 hc ?_
   refine Zn P1 3 [(2, [], pv_ b_), (3, [], pv_ b_1), (6, [], .int .i64 v6), (7, [], pv_ b_1)] ?_
   obtain ⟨v8, hc, h⟩ := h
   refine Zl 3 7 b_1 0 3 8 hc ?_
   refine Zn P3 7 [(3, [], pv_ b_1), (10, [], .bool (v6 == v8)), (11, [(10, true)], .pointer (some ⟨b_, 1, none⟩))] ?_
   refine reg_split 10 (v6 == v8) (by kernel_rfl) (fun hb => ?_) (fun hb => ?_)
   · replace h := h.1 hb
     refine Zn [] 7 [(3, [], pv_ b_1), (10, [], .bool true), (11, [], .pointer (some ⟨b_, 1, none⟩))] ?_
     refine Zn [] 7 [(3, [], pv_ b_1), (10, [], .bool true), (11, [], .pointer (some ⟨b_, 1, none⟩))] ?_
     obtain ⟨v12, hc, h⟩ := h
     refine Zl 50 11 b_ 1 50 12 hc ?_
     refine Zn [.sure] 9 [(10, [], .bool true), (12, [], sv_ v12), (13, [], .pointer (some ⟨b_1, 1, none⟩))] ?_
     obtain ⟨v14, hc, h⟩ := h
     refine Zl 50 13 b_1 1 50 14 hc ?_
     refine Zn [] 10 [(10, [], .bool true), (12, [], sv_ v12), (14, [], sv_ v14)] ?_
     refine Zm 124 #[sv_ v12, sv_ v14] (some 15) (Calls.mono h ?_)
     rintro _ w3 ⟨v15, rfl, h⟩
     refine ⟨_, rfl, ?_⟩
     refine Zf P2 [(4, .bool v15)] ?_
     change WpE _ _ c48_6 _ _ _
     refine wpE_ret (by kernel_rfl) ?_
     repeat (first | refine seqQ_ret ?_ | refine blockQ_ret ?_ | refine loopQ_ret ?_ | refine cutQ_ret ?_)
     exact retS (rs := [(ResultVar.tmp 4)]) (v := Value.bool v15) (by kernel_rfl) (⟨by kernel_rfl, trivial⟩) ⟨v15, rfl, h⟩
   · replace h := h.2 hb
     refine Zn [] 7 [(3, [], pv_ b_1), (10, [], .bool false), (11, [], undef)] ?_
     refine Zf [.skip, .skip, .skip, .skip, .plain, .plain] [(4, .bool false)] ?_
     change WpE _ _ c48_6 _ _ _
     refine wpE_ret (by kernel_rfl) ?_
     repeat (first | refine seqQ_ret ?_ | refine blockQ_ret ?_ | refine loopQ_ret ?_ | refine cutQ_ret ?_)
     exact retS (rs := [(ResultVar.tmp 4)]) (v := Value.bool false) (by kernel_rfl) (⟨by kernel_rfl, trivial⟩) ⟨false, rfl, h⟩
 · rintro e w' ⟨v, rfl, r0, rfl, h⟩; exact ⟨r0, rfl, h⟩

/-! ### (*towpath/towpathlaw01.Book).keepTxn (function 49) -/
def c49_0 := cb_ Tryz.f49
def c49_1 := cl_ c49_0
def r49_1 := co_ c49_1
def c49_3 := cr_ c49_0
def r49_3 := co_ c49_3
def o_towpathlaw01_Book_keepTxn_3 : List Nat := [0, 1, 2, 3, 4, 5, 6, 7, 8, 9, 10, 11, 12, 13, 14, 15]

theorem S_towpathlaw01_Book_keepTxn {b_ : Option Addr} {l_ : Slc} {w : World} {R : World → Prop} (h : F_towpathlaw01_Book_keepTxn b_ l_ R w) : C_towpathlaw01_Book_keepTxn b_ l_ w R := by
 unfold F_towpathlaw01_Book_keepTxn at h
 unfold C_towpathlaw01_Book_keepTxn
 refine Calls.mono (calls_of_wpE (args := [Value.pointer b_, sv_ l_]) (R := fun v w' => v = Value.tuple #[] ∧ R w') Tryz.func49 (c := c49_0) (by kernel_rfl) 26 (by kernel_rfl) (by kernel_rfl) [(0, Value.pointer b_), (1, sv_ l_)] (by kernel_rfl) ?_) ?_
 · refine Zt r49_1 c49_3 ?_
   refine Zn P1 1 [(0, [], .pointer b_), (1, [], sv_ l_), (4, [], .pointer b_)] ?_
   obtain ⟨hp_1, h⟩ := h
   refine Zv (fun pp => [(0, [], .pointer b_), (1, [], sv_ l_), (4, [], .pointer pp)]) hp_1 ?_
   refine Zn P1 2 [(0, [], .pointer b_), (1, [], sv_ l_), (4, [], .pointer (some ⟨(pblk b_), (poff b_), none⟩)), (5, [], .pointer (some ⟨(pblk b_), (poff b_), none⟩))] ?_
   refine Zn P1 3 [(0, [], .pointer b_), (1, [], sv_ l_), (4, [], .pointer (some ⟨(pblk b_), (poff b_), none⟩)), (6, [], .pointer (some ⟨(pblk b_), (poff b_), none⟩))] ?_
   obtain ⟨v7, hc, h⟩ := h
   refine Zl 3 6 (pblk b_) (poff b_) 3 7 hc ?_
   refine Zn P3 7 [(0, [], .pointer b_), (1, [], sv_ l_), (8, [], .int .i64 (IntKind.i64.wrap (v7 + 1))), (10, [], .pointer (some ⟨(pblk b_), (poff b_), none⟩))] ?_
   obtain ⟨hc, h⟩ := h
   refine Zo 3 10 8 (pblk b_) (poff b_) 1 [.int .i64 (IntKind.i64.wrap (v7 + 1))] hc (fun w1 hw => ?_)
   replace h := h w1 hw
   clear hw
   refine Ze [(0, .pointer b_), (1, sv_ l_)] ?_
   change WpE _ _ c49_3 _ _ _
   refine wpE_mixregion (id := 1) (ops := r49_3) o_towpathlaw01_Book_keepTxn_3 (by kernel_rfl) (by kernel_rfl) (by kernel_rfl) (by kernel_rfl) (fun w2 hw => ?_)
   replace h := h w2 hw
   clear hw
   refine mreg_run P2 2 [(0, [], Value.pointer b_), (1, [], sv_ l_), (11, [], Value.pointer b_), (12, [], Value.pointer b_)] (by kernel_rfl) (by kernel_rfl) ?_
   obtain ⟨hp_2, h⟩ := h
   refine mreg_conv [(0, [], Value.pointer b_), (1, [], sv_ l_), (11, [], Value.pointer b_), (12, [], Value.pointer (some ⟨(pblk b_), (poff b_), none⟩))] (congrArg (fun pp => ([(0, [], Value.pointer b_), (1, [], sv_ l_), (11, [], Value.pointer b_), (12, [], Value.pointer pp)] : GEnv)) hp_2) ?_
   refine mreg_run P1 3 [(0, [], Value.pointer b_), (1, [], sv_ l_), (11, [], Value.pointer b_), (12, [], Value.pointer (some ⟨(pblk b_), (poff b_), none⟩)), (13, [], Value.pointer (some ⟨(pblk b_), (poff b_), none⟩))] (by kernel_rfl) (by kernel_rfl) ?_
   refine mreg_run P1 4 [(0, [], Value.pointer b_), (1, [], sv_ l_), (11, [], Value.pointer b_), (14, [], Value.pointer (some ⟨(pblk b_), (poff b_) + 7, none⟩))] (by kernel_rfl) (by kernel_rfl) ?_
   obtain ⟨v15, hc, h⟩ := h
   refine mreg_load1 (i := 4) (by kernel_rfl) (t := 41) (a := (Operand.tmp 14)) (b := (pblk b_)) (o := ((poff b_) + 7)) (ty := 41) (dst := some 15) (by kernel_rfl) (by kernel_rfl) (by kernel_rfl) hc ?_
   refine mreg_run P2 7 [(11, [], Value.pointer b_), (15, [], sv_ v15), (16, [], sv_ l_), (17, [], Value.pointer b_)] (by kernel_rfl) (by kernel_rfl) ?_
   obtain ⟨hp_3, h⟩ := h
   refine mreg_conv [(11, [], Value.pointer b_), (15, [], sv_ v15), (16, [], sv_ l_), (17, [], Value.pointer (some ⟨(pblk b_), (poff b_), none⟩))] (congrArg (fun pp => ([(11, [], Value.pointer b_), (15, [], sv_ v15), (16, [], sv_ l_), (17, [], Value.pointer pp)] : GEnv)) hp_3) ?_
   refine mreg_run P1 8 [(11, [], Value.pointer b_), (15, [], sv_ v15), (16, [], sv_ l_), (17, [], Value.pointer (some ⟨(pblk b_), (poff b_), none⟩)), (18, [], Value.pointer (some ⟨(pblk b_), (poff b_), none⟩))] (by kernel_rfl) (by kernel_rfl) ?_
   refine mreg_run P1 9 [(11, [], Value.pointer b_), (15, [], sv_ v15), (16, [], sv_ l_), (19, [], Value.pointer (some ⟨(pblk b_), (poff b_), none⟩))] (by kernel_rfl) (by kernel_rfl) ?_
   obtain ⟨v20, hc, h⟩ := h
   refine mreg_load1 (i := 9) (by kernel_rfl) (t := 3) (a := (Operand.tmp 19)) (b := (pblk b_)) (o := (poff b_)) (ty := 3) (dst := some 20) (by kernel_rfl) (by kernel_rfl) (by kernel_rfl) hc ?_
   refine mreg_run P1 11 [(11, [], Value.pointer b_), (15, [], sv_ v15), (21, [], Value.agg #[sv_ l_, Value.slice none 0 0, Value.int .i64 v20])] (by kernel_rfl) (by kernel_rfl) ?_
   refine mreg_new (op := (Op.buildSlice 41 1 #[(0, (Operand.tmp 21))])) (ty := 41) (dst := some 22) 11 [10, 5, 9, 8, 7, 6] [(4, fun w' => w'.cell? ⟨(pblk b_), (poff b_) + 7, none⟩ = some (sv_ v15))] (fun bb => Value.slice (some ⟨bb, 0, none⟩) 1 1) (Obj.cells ([sv_ l_, Value.slice none 0 0, Value.int .i64 v20]).toArray ty_towpathlaw01_heldTxn (0, 0)) (by kernel_rfl) (by kernel_rfl) (by kernel_rfl) (by kernel_rfl) (by kernel_rfl) (by kernel_rfl) (fun b_1 w3 hb hw => ?_)
   replace h := h b_1 w3 hb hw
   clear hb hw
   obtain ⟨hk0, h⟩ := h
   refine ⟨⟨hk0, trivial⟩, ?_⟩
   refine mreg_run [] 12 [(11, [], Value.pointer b_), (15, [], sv_ v15), (22, [], Value.slice (some ⟨b_1, 0, none⟩) 1 1)] (by kernel_rfl) (by kernel_rfl) ?_
   obtain ⟨src, hs, h⟩ := h
   refine mreg_append (t := 41) (tx := 41) (e := 141) (a := (Operand.tmp 15)) (xo := (Operand.tmp 22)) (s := v15) (x := (Slc.mk (some ⟨b_1, 0, none⟩) 1 1)) (sz := 3) (by_ := 56) (zs := [Value.slice none 0 0, Value.slice none 0 0, Value.int .i64 0]) (ty := 41) (dst := some 23) 12 [4, 11, 3, 10, 2, 5, 9, 1, 8, 7, 6] [] src (by kernel_rfl) (by kernel_rfl) (by kernel_rfl) (by kernel_rfl) (by kernel_rfl) (by kernel_rfl) (by kernel_rfl) (by kernel_rfl) (by kernel_rfl) (by kernel_rfl) (by kernel_rfl) (by kernel_rfl) (by kernel_rfl) hs (AppendW.mono h (fun v23 w4 h => ?_))
   refine ⟨trivial, ?_⟩
   refine mreg_run [] 13 [(11, [], Value.pointer b_), (23, [], sv_ v23)] (by kernel_rfl) (by kernel_rfl) ?_
   obtain ⟨hp_4, h⟩ := h
   refine mreg_conv [(11, [], Value.pointer (some ⟨(pblk b_), (poff b_), none⟩)), (23, [], sv_ v23)] (congrArg (fun pp => ([(11, [], Value.pointer pp), (23, [], sv_ v23)] : GEnv)) hp_4) ?_
   refine mreg_run P1 14 [(11, [], Value.pointer (some ⟨(pblk b_), (poff b_), none⟩)), (23, [], sv_ v23), (24, [], Value.pointer (some ⟨(pblk b_), (poff b_), none⟩))] (by kernel_rfl) (by kernel_rfl) ?_
   refine mreg_run P1 15 [(23, [], sv_ v23), (25, [], Value.pointer (some ⟨(pblk b_), (poff b_) + 7, none⟩))] (by kernel_rfl) (by kernel_rfl) ?_
   obtain ⟨hc, h⟩ := h
   refine mreg_store (t := 41) (a := (Operand.tmp 25)) (x := (Operand.tmp 23)) (b := (pblk b_)) (o := ((poff b_) + 7)) (k := 1) (ty := 0) (dst := none) 15 [0, 1, 2, 3, 4, 5, 6, 7, 8, 9, 10, 11, 12, 14, 13] [] [sv_ v23] (by kernel_rfl) (by kernel_rfl) (by kernel_rfl) (by kernel_rfl) (by kernel_rfl) (by kernel_rfl) (by kernel_rfl) (by kernel_rfl) (by kernel_rfl) (by kernel_rfl) hc (fun w5 hw => ?_)
   replace h := h w5 hw
   clear hw
   refine ⟨trivial, ?_⟩
   refine mreg_end [] (by kernel_rfl) (by kernel_rfl) (by kernel_rfl) ?_
   repeat (first | refine seqQ_exit ?_ | refine loopQ_exit ?_ | refine cutQ_exit ?_ | refine blockQ_hit ?_ | refine blockQ_miss (by kernel_rfl) ?_)
   refine retQ_normal ?_
   repeat (first | refine seqQ_ret ?_ | refine blockQ_ret ?_ | refine loopQ_ret ?_ | refine cutQ_ret ?_)
   exact retT (rs := []) (vs := []) (by kernel_rfl) (trivial) (by kernel_rfl) ⟨rfl, h⟩
 · rintro e w' ⟨v, rfl, rfl, h⟩; exact ⟨rfl, h⟩

/-! ### (*towpath/towpathlaw01.Book).fillByte (function 50) -/
def c50_0 := cb_ Tryz.f50
def c50_3 := cr_ c50_0
def c50_4 := cl_ c50_3
def c50_5 := cl_ c50_4
def c50_6 := cl_ c50_5
def c50_7 := cl_ c50_6
def r50_7 := co_ c50_7
def c50_9 := cr_ c50_6
def c50_10 := cl_ c50_9
def c50_11 := cr_ c50_9
def c50_12 := cr_ c50_5

theorem S_towpathlaw01_Book_fillByte {b_ : Option Addr} {w : World} {R : World → Prop} (h : F_towpathlaw01_Book_fillByte b_ R w) : C_towpathlaw01_Book_fillByte b_ w R := by
 unfold F_towpathlaw01_Book_fillByte at h
 unfold C_towpathlaw01_Book_fillByte
 refine Calls.mono (calls_of_wpE (args := [Value.pointer b_]) (R := fun v w' => v = Value.tuple #[] ∧ R w') Tryz.func50 (c := c50_0) (by kernel_rfl) 35 (by kernel_rfl) (by kernel_rfl) [(0, Value.pointer b_)] (by kernel_rfl) ?_) ?_
 · refine Zp c50_3 P1 [(0, .pointer b_), (2, .int .i64 0)] ?_
   refine Zb 0 c50_4 ?_
   obtain ⟨I, μ, h0, hr⟩ := h
   refine wpE_loop (x := c50_5) (by kernel_rfl) (fun m l w => ∃ (i : Int), l = [(0, Value.pointer b_), (2, Value.int .i64 i)] ∧ I i w ∧ μ i w = m) (l' := [(0, Value.pointer b_), (2, Value.int .i64 0)]) (Sub.mk (by kernel_rfl)) ⟨0, rfl, h0, rfl⟩ ?_
   rintro _ _ w1 ⟨i, rfl, hI, rfl⟩
   obtain ⟨again_, again__h, h⟩ : ∃ again_ : Int → World → Prop, (∀ i' w', again_ i' w' → I i' w' ∧ μ i' w' < μ i w1) ∧ F_towpathlaw01_Book_fillByte_L0 b_ R again_ i w1 := ⟨_, fun _ _ h => h, hr i w1 hI⟩
   clear h0 hI
   unfold F_towpathlaw01_Book_fillByte_L0 at h
   refine Zs c50_6 c50_12 ?_
   refine Zt r50_7 c50_9 ?_
   refine Zn P2 2 [(0, [], .pointer b_), (2, [], .int .i64 i), (5, [], .int .i64 i), (6, [], .pointer b_)] ?_
   obtain ⟨hp_3, h⟩ := h
   refine Zv (fun pp => [(0, [], .pointer b_), (2, [], .int .i64 i), (5, [], .int .i64 i), (6, [], .pointer pp)]) hp_3 ?_
   refine Zn P1 3 [(0, [], .pointer b_), (2, [], .int .i64 i), (5, [], .int .i64 i), (6, [], .pointer (some ⟨(pblk b_), (poff b_), none⟩)), (7, [], .pointer (some ⟨(pblk b_), (poff b_), none⟩))] ?_
   refine Zn P1 4 [(0, [], .pointer b_), (2, [], .int .i64 i), (5, [], .int .i64 i), (8, [], .pointer (some ⟨(pblk b_), (poff b_) + 1, none⟩))] ?_
   obtain ⟨v9, hc, h⟩ := h
   refine Zl 35 8 (pblk b_) ((poff b_) + 1) 35 9 hc ?_
   refine Zf P2 [(0, .pointer b_), (2, .int .i64 i), (11, .bool (decide (i < ((v9.len : Nat) : Int))))] ?_
   change WpE _ _ c50_9 _ _ _
   refine Zc 11 (decide (i < ((v9.len : Nat) : Int))) c50_10 c50_11 (fun hb => ?_) (fun hb => ?_)
   · replace h := h.1 hb
     exact h.elim
   · replace h := h.2 hb
     refine wpE_exit (id := 0) (by kernel_rfl) ?_
     repeat (first | refine seqQ_exit ?_ | refine loopQ_exit ?_ | refine cutQ_exit ?_ | refine blockQ_hit ?_ | refine blockQ_miss (by kernel_rfl) ?_)
     refine retQ_normal ?_
     repeat (first | refine seqQ_ret ?_ | refine blockQ_ret ?_ | refine loopQ_ret ?_ | refine cutQ_ret ?_)
     exact retT (rs := []) (vs := []) (by kernel_rfl) (trivial) (by kernel_rfl) ⟨rfl, h⟩
 · rintro e w' ⟨v, rfl, rfl, h⟩; exact ⟨rfl, h⟩

/-! ### (*towpath/towpathlaw01.Book).fillInt (function 51) -/
def c51_0 := cb_ Tryz.f51
def c51_3 := cr_ c51_0
def c51_4 := cl_ c51_3
def c51_5 := cl_ c51_4
def c51_6 := cl_ c51_5
def c51_7 := cl_ c51_6
def r51_7 := co_ c51_7
def c51_9 := cr_ c51_6
def c51_10 := cl_ c51_9
def c51_11 := cr_ c51_9
def c51_12 := cr_ c51_5
def c51_13 := cl_ c51_12
def c51_14 := cl_ c51_13
def c51_15 := cl_ c51_14
def r51_15 := co_ c51_15
def c51_17 := cr_ c51_14
def c51_20 := cr_ c51_17
def c51_21 := cl_ c51_20
def c51_22 := cl_ c51_21
def c51_23 := cl_ c51_22
def c51_24 := cl_ c51_23
def r51_24 := co_ c51_24
def c51_26 := cr_ c51_23
def c51_27 := cl_ c51_26
def c51_28 := cr_ c51_26
def c51_29 := cr_ c51_22
def c51_30 := cl_ c51_29
def c51_31 := cl_ c51_30
def r51_31 := co_ c51_31
def c51_33 := cr_ c51_29
def r51_33 := co_ c51_33
def c51_35 := cr_ c51_12
def r51_35 := co_ c51_35
def o_towpathlaw01_Book_fillInt_31 : List Nat := [0, 1, 2, 3, 4, 5, 6, 7]

theorem S_towpathlaw01_Book_fillInt {b_ : Option Addr} {w : World} {R : World → Prop} (h : F_towpathlaw01_Book_fillInt b_ R w) : C_towpathlaw01_Book_fillInt b_ w R := by
 unfold F_towpathlaw01_Book_fillInt at h
 unfold C_towpathlaw01_Book_fillInt
 refine Calls.mono (calls_of_wpE (args := [Value.pointer b_]) (R := fun v w' => v = Value.tuple #[] ∧ R w') Tryz.func51 (c := c51_0) (by kernel_rfl) 35 (by kernel_rfl) (by kernel_rfl) [(0, Value.pointer b_)] (by kernel_rfl) ?_) ?_
 · refine Zp c51_3 P1 [(0, .pointer b_), (2, .int .i64 0)] ?_
   refine Zb 0 c51_4 ?_
   obtain ⟨I, μ, h0, hr⟩ := h
   refine wpE_loop (x := c51_5) (by kernel_rfl) (fun m l w => ∃ (i : Int), l = [(0, Value.pointer b_), (2, Value.int .i64 i)] ∧ I i w ∧ μ i w = m) (l' := [(0, Value.pointer b_), (2, Value.int .i64 0)]) (Sub.mk (by kernel_rfl)) ⟨0, rfl, h0, rfl⟩ ?_
   rintro _ _ w1 ⟨i, rfl, hI, rfl⟩
   obtain ⟨again_, again__h, h⟩ : ∃ again_ : Int → World → Prop, (∀ i' w', again_ i' w' → I i' w' ∧ μ i' w' < μ i w1) ∧ F_towpathlaw01_Book_fillInt_L0 b_ R again_ i w1 := ⟨_, fun _ _ h => h, hr i w1 hI⟩
   clear h0 hI
   unfold F_towpathlaw01_Book_fillInt_L0 at h
   refine Zs c51_6 c51_12 ?_
   refine Zt r51_7 c51_9 ?_
   refine Zn P2 2 [(0, [], .pointer b_), (2, [], .int .i64 i), (5, [], .int .i64 i), (6, [], .pointer b_)] ?_
   obtain ⟨hp_3, h⟩ := h
   refine Zv (fun pp => [(0, [], .pointer b_), (2, [], .int .i64 i), (5, [], .int .i64 i), (6, [], .pointer pp)]) hp_3 ?_
   refine Zn P1 3 [(0, [], .pointer b_), (2, [], .int .i64 i), (5, [], .int .i64 i), (6, [], .pointer (some ⟨(pblk b_), (poff b_), none⟩)), (7, [], .pointer (some ⟨(pblk b_), (poff b_), none⟩))] ?_
   refine Zn P1 4 [(0, [], .pointer b_), (2, [], .int .i64 i), (5, [], .int .i64 i), (8, [], .pointer (some ⟨(pblk b_), (poff b_) + 2, none⟩))] ?_
   obtain ⟨v9, hc, h⟩ := h
   refine Zl 36 8 (pblk b_) ((poff b_) + 2) 36 9 hc ?_
   refine Zf P2 [(0, .pointer b_), (2, .int .i64 i), (11, .bool (decide (i < ((v9.len : Nat) : Int))))] ?_
   change WpE _ _ c51_9 _ _ _
   refine Zc 11 (decide (i < ((v9.len : Nat) : Int))) c51_10 c51_11 (fun hb => ?_) (fun hb => ?_)
   · replace h := h.1 hb
     refine wpE_skip (by kernel_rfl) ?_
     change WpE _ _ c51_12 _ _ _
     refine Zs c51_13 c51_35 ?_
     refine Zb 1 c51_14 ?_
     refine Zt r51_15 c51_17 ?_
     refine Zn P1 1 [(0, [], .pointer b_), (2, [], .int .i64 i), (14, [], .pointer b_)] ?_
     obtain ⟨hp_12, h⟩ := h
     refine Zv (fun pp => [(0, [], .pointer b_), (2, [], .int .i64 i), (14, [], .pointer pp)]) hp_12 ?_
     refine Zn P1 2 [(0, [], .pointer b_), (2, [], .int .i64 i), (14, [], .pointer (some ⟨(pblk b_), (poff b_), none⟩)), (15, [], .pointer (some ⟨(pblk b_), (poff b_), none⟩))] ?_
     refine Zn P1 3 [(0, [], .pointer b_), (2, [], .int .i64 i), (16, [], .pointer (some ⟨(pblk b_), (poff b_) + 2, none⟩))] ?_
     obtain ⟨v17, hc, h⟩ := h
     refine Zl 36 16 (pblk b_) ((poff b_) + 2) 36 17 hc ?_
     refine Zn P1 5 [(0, [], .pointer b_), (2, [], .int .i64 i), (17, [], sv_ v17), (18, [], .int .i64 i)] ?_
     obtain ⟨hp_13, h⟩ := h
     refine Zv (fun pp => [(0, [], .pointer b_), (2, [], .int .i64 i), (17, [], .slice pp v17.len v17.cap), (18, [], .int .i64 i)]) hp_13 ?_
     obtain ⟨h0, h1, h⟩ := h
     refine Zj 36 146 17 18 (pblk v17.ptr) (poff v17.ptr) v17.len v17.cap i 3 19 0 h0 h1 ?_
     refine Zn [] 6 [(0, [], .pointer b_), (2, [], .int .i64 i), (19, [], .pointer (some ⟨(pblk v17.ptr), (poff v17.ptr) + i.toNat * 3, none⟩))] ?_
     obtain ⟨v20, hc, h⟩ := h
     refine reg_loadN (t := 146) (a := (Operand.tmp 19)) (b := (pblk v17.ptr)) (o := ((poff v17.ptr) + i.toNat * 3)) (ty := 146) (dst := some 20) [sv_ v20.l, sv_ v20.long, Value.int .i64 v20.n] (by kernel_rfl) (by kernel_rfl) (by kernel_rfl) (k := 3) (by kernel_rfl) (by kernel_rfl) hc ?_
     refine Zn [] 7 [(0, [], .pointer b_), (2, [], .int .i64 i), (20, [], .agg #[sv_ v20.l, sv_ v20.long, .int .i64 v20.n])] ?_
     refine Zw (some 3) (fun bb => pv_ bb) (Obj.cells ([.slice none 0 0, .slice none 0 0, .int .i64 0]).toArray ty_towpathlaw01_heldInt (0, 0)) (fun b_1 w2 hb hw => ?_)
     replace h := h b_1 w2 hb hw
     clear hb hw
     refine Zn [] 8 [(0, [], .pointer b_), (2, [], .int .i64 i), (3, [], pv_ b_1), (20, [], .agg #[sv_ v20.l, sv_ v20.long, .int .i64 v20.n])] ?_
     obtain ⟨hc, h⟩ := h
     refine Zo 146 3 20 b_1 0 3 [sv_ v20.l, sv_ v20.long, .int .i64 v20.n] hc (fun w3 hw => ?_)
     replace h := h w3 hw
     clear hw
     refine Ze [(0, .pointer b_), (2, .int .i64 i), (3, pv_ b_1)] ?_
     change WpE _ _ c51_17 _ _ _
     refine Zp c51_20 P1 [(0, .pointer b_), (2, .int .i64 i), (3, pv_ b_1), (4, .int .i64 0)] ?_
     refine Zb 2 c51_21 ?_
     obtain ⟨I, μ, h0, hr⟩ := h
     refine wpE_loop (x := c51_22) (by kernel_rfl) (fun m l w => ∃ (k_ : Int), l = [(0, Value.pointer b_), (2, Value.int .i64 i), (3, pv_ b_1), (4, Value.int .i64 k_)] ∧ I k_ w ∧ μ k_ w = m) (l' := [(0, Value.pointer b_), (2, Value.int .i64 i), (3, pv_ b_1), (4, Value.int .i64 0)]) (Sub.mk (by kernel_rfl)) ⟨0, rfl, h0, rfl⟩ ?_
     rintro _ _ w4 ⟨k_, rfl, hI, rfl⟩
     obtain ⟨again_1, again_1_h, h⟩ : ∃ again_1 : Int → World → Prop, (∀ k_' w', again_1 k_' w' → I k_' w' ∧ μ k_' w' < μ k_ w4) ∧ F_towpathlaw01_Book_fillInt_L1 i again_ b_1 again_1 k_ w4 := ⟨_, fun _ _ h => h, hr k_ w4 hI⟩
     clear h0 hI
     unfold F_towpathlaw01_Book_fillInt_L1 at h
     refine Zs c51_23 c51_29 ?_
     refine Zt r51_24 c51_26 ?_
     refine Zn P2 2 [(0, [], .pointer b_), (2, [], .int .i64 i), (3, [], pv_ b_1), (4, [], .int .i64 k_), (21, [], .int .i64 k_), (22, [], pv_ b_1)] ?_
     obtain ⟨v23, hc, h⟩ := h
     refine Zl 23 22 b_1 0 23 23 hc ?_
     refine Zf P2 [(0, .pointer b_), (2, .int .i64 i), (3, pv_ b_1), (4, .int .i64 k_), (25, .bool (decide (k_ < ((v23.len : Nat) : Int))))] ?_
     change WpE _ _ c51_26 _ _ _
     refine Zc 25 (decide (k_ < ((v23.len : Nat) : Int))) c51_27 c51_28 (fun hb => ?_) (fun hb => ?_)
     · replace h := h.1 hb
       refine wpE_skip (by kernel_rfl) ?_
       change WpE _ _ c51_29 _ _ _
       refine Zs c51_30 c51_33 ?_
       refine Zb 3 c51_31 ?_
       refine wpE_mixregion (id := 7) (ops := r51_31) o_towpathlaw01_Book_fillInt_31 (by kernel_rfl) (by kernel_rfl) (by kernel_rfl) (by kernel_rfl) (fun w5 hw => ?_)
       replace h := h w5 hw
       clear hw
       refine mreg_run P1 1 [(0, [], Value.pointer b_), (2, [], Value.int .i64 i), (3, [], pv_ b_1), (4, [], Value.int .i64 k_), (28, [], pv_ b_1)] (by kernel_rfl) (by kernel_rfl) ?_
       obtain ⟨v29, hc, h⟩ := h
       refine mreg_load1 (i := 1) (by kernel_rfl) (t := 23) (a := (Operand.tmp 28)) (b := b_1) (o := 0) (ty := 23) (dst := some 29) (by kernel_rfl) (by kernel_rfl) (by kernel_rfl) hc ?_
       refine mreg_run P2 4 [(0, [], Value.pointer b_), (2, [], Value.int .i64 i), (3, [], pv_ b_1), (4, [], Value.int .i64 k_), (29, [], sv_ v29), (30, [], Value.int .i64 k_), (31, [], Value.pointer (some ⟨b_1, 2, none⟩))] (by kernel_rfl) (by kernel_rfl) ?_
       obtain ⟨v32, hc, h⟩ := h
       refine mreg_load1 (i := 4) (by kernel_rfl) (t := 3) (a := (Operand.tmp 31)) (b := b_1) (o := 2) (ty := 3) (dst := some 32) (by kernel_rfl) (by kernel_rfl) (by kernel_rfl) hc ?_
       refine mreg_run [] 5 [(0, [], Value.pointer b_), (2, [], Value.int .i64 i), (3, [], pv_ b_1), (4, [], Value.int .i64 k_), (29, [], sv_ v29), (30, [], Value.int .i64 k_), (32, [], Value.int .i64 v32)] (by kernel_rfl) (by kernel_rfl) ?_
       refine mreg_enter (op := (Op.call (Call.mk (Callee.value (Operand.func 126)) #[(Operand.tmp 32)] #[3]))) (ty := 3) (dst := some 33) 5 [4, 3] [(1, fun w' => w'.cell? ⟨b_1, 0, none⟩ = some (sv_ v29))] 126 #[Value.int .i64 v32] (by kernel_rfl) (by kernel_rfl) (by kernel_rfl) (by kernel_rfl) (by kernel_rfl) (fun ww => by kernel_rfl) (Calls.mono h ?_)
       rintro _ w6 ⟨v33, rfl, h⟩
       obtain ⟨hk0, h⟩ := h
       refine ⟨_, rfl, ⟨hk0, trivial⟩, ?_⟩
       refine mreg_run [] 6 [(0, [], Value.pointer b_), (2, [], Value.int .i64 i), (3, [], pv_ b_1), (4, [], Value.int .i64 k_), (29, [], sv_ v29), (30, [], Value.int .i64 k_), (33, [], Value.int .i64 v33)] (by kernel_rfl) (by kernel_rfl) ?_
       obtain ⟨hp_15, h⟩ := h
       refine mreg_conv [(0, [], Value.pointer b_), (2, [], Value.int .i64 i), (3, [], pv_ b_1), (4, [], Value.int .i64 k_), (29, [], Value.slice (some ⟨(pblk v29.ptr), (poff v29.ptr), none⟩) v29.len v29.cap), (30, [], Value.int .i64 k_), (33, [], Value.int .i64 v33)] (congrArg (fun pp => ([(0, [], Value.pointer b_), (2, [], Value.int .i64 i), (3, [], pv_ b_1), (4, [], Value.int .i64 k_), (29, [], Value.slice pp v29.len v29.cap), (30, [], Value.int .i64 k_), (33, [], Value.int .i64 v33)] : GEnv)) hp_15) ?_
       obtain ⟨h0, h1, h⟩ := h
       refine mreg_indexS1 (i := 6) (by kernel_rfl) (t := 23) (e := 3) (x := (Operand.tmp 29)) (ix := (Operand.tmp 30)) (b := (pblk v29.ptr)) (o := (poff v29.ptr)) (l := v29.len) (c := v29.cap) (k := .i64) (j := k_) (ty := 0) (dst := some 34) (by kernel_rfl) (by kernel_rfl) (by kernel_rfl) (by kernel_rfl) (by kernel_rfl) h0 h1 ?_
       refine mreg_run [] 7 [(0, [], Value.pointer b_), (2, [], Value.int .i64 i), (3, [], pv_ b_1), (4, [], Value.int .i64 k_), (33, [], Value.int .i64 v33), (34, [], Value.pointer (some ⟨(pblk v29.ptr), (poff v29.ptr) + k_.toNat, none⟩))] (by kernel_rfl) (by kernel_rfl) ?_
       obtain ⟨hc, h⟩ := h
       refine mreg_store (t := 3) (a := (Operand.tmp 34)) (x := (Operand.tmp 33)) (b := (pblk v29.ptr)) (o := ((poff v29.ptr) + k_.toNat)) (k := 1) (ty := 0) (dst := none) 7 [0, 1, 2, 3, 4, 5, 6] [] [Value.int .i64 v33] (by kernel_rfl) (by kernel_rfl) (by kernel_rfl) (by kernel_rfl) (by kernel_rfl) (by kernel_rfl) (by kernel_rfl) (by kernel_rfl) (by kernel_rfl) (by kernel_rfl) hc (fun w7 hw => ?_)
       replace h := h w7 hw
       clear hw
       refine ⟨trivial, ?_⟩
       refine mreg_end [(0, Value.pointer b_), (2, Value.int .i64 i), (3, pv_ b_1), (4, Value.int .i64 k_)] (by kernel_rfl) (by kernel_rfl) (by kernel_rfl) ?_
       change WpE _ _ c51_33 _ _ _
       refine Zr r51_33 ?_
       refine Zf P3 [(0, .pointer b_), (2, .int .i64 i), (3, pv_ b_1), (4, .int .i64 (IntKind.i64.wrap (k_ + 1)))] ?_
       have hb_ := again_1_h _ _ h
       exact ⟨_, hb_.2, [(0, Value.pointer b_), (2, Value.int .i64 i), (3, pv_ b_1), (4, Value.int .i64 (IntKind.i64.wrap (k_ + 1)))], Sub.mk (by kernel_rfl), (IntKind.i64.wrap (k_ + 1)), rfl, hb_.1, rfl⟩
     · replace h := h.2 hb
       refine wpE_exit (id := 2) (by kernel_rfl) ?_
       change WpE _ _ c51_35 _ _ _
       refine Zr r51_35 ?_
       refine Zf P3 [(0, .pointer b_), (2, .int .i64 (IntKind.i64.wrap (i + 1)))] ?_
       have hb_ := again__h _ _ h
       exact ⟨_, hb_.2, [(0, Value.pointer b_), (2, Value.int .i64 (IntKind.i64.wrap (i + 1)))], Sub.mk (by kernel_rfl), (IntKind.i64.wrap (i + 1)), rfl, hb_.1, rfl⟩
   · replace h := h.2 hb
     refine wpE_exit (id := 0) (by kernel_rfl) ?_
     repeat (first | refine seqQ_exit ?_ | refine loopQ_exit ?_ | refine cutQ_exit ?_ | refine blockQ_hit ?_ | refine blockQ_miss (by kernel_rfl) ?_)
     refine retQ_normal ?_
     repeat (first | refine seqQ_ret ?_ | refine blockQ_ret ?_ | refine loopQ_ret ?_ | refine cutQ_ret ?_)
     exact retT (rs := []) (vs := []) (by kernel_rfl) (trivial) (by kernel_rfl) ⟨rfl, h⟩
 · rintro e w' ⟨v, rfl, rfl, h⟩; exact ⟨rfl, h⟩

/-! ### (*towpath/towpathlaw01.Book).fillText (function 52) -/
def c52_0 := cb_ Tryz.f52
def c52_3 := cr_ c52_0
def c52_4 := cl_ c52_3
def c52_5 := cl_ c52_4
def c52_6 := cl_ c52_5
def c52_7 := cl_ c52_6
def r52_7 := co_ c52_7
def c52_9 := cr_ c52_6
def c52_10 := cl_ c52_9
def c52_11 := cr_ c52_9
def c52_12 := cr_ c52_5

theorem S_towpathlaw01_Book_fillText {b_ : Option Addr} {w : World} {R : World → Prop} (h : F_towpathlaw01_Book_fillText b_ R w) : C_towpathlaw01_Book_fillText b_ w R := by
 unfold F_towpathlaw01_Book_fillText at h
 unfold C_towpathlaw01_Book_fillText
 refine Calls.mono (calls_of_wpE (args := [Value.pointer b_]) (R := fun v w' => v = Value.tuple #[] ∧ R w') Tryz.func52 (c := c52_0) (by kernel_rfl) 35 (by kernel_rfl) (by kernel_rfl) [(0, Value.pointer b_)] (by kernel_rfl) ?_) ?_
 · refine Zp c52_3 P1 [(0, .pointer b_), (2, .int .i64 0)] ?_
   refine Zb 0 c52_4 ?_
   obtain ⟨I, μ, h0, hr⟩ := h
   refine wpE_loop (x := c52_5) (by kernel_rfl) (fun m l w => ∃ (i : Int), l = [(0, Value.pointer b_), (2, Value.int .i64 i)] ∧ I i w ∧ μ i w = m) (l' := [(0, Value.pointer b_), (2, Value.int .i64 0)]) (Sub.mk (by kernel_rfl)) ⟨0, rfl, h0, rfl⟩ ?_
   rintro _ _ w1 ⟨i, rfl, hI, rfl⟩
   obtain ⟨again_, again__h, h⟩ : ∃ again_ : Int → World → Prop, (∀ i' w', again_ i' w' → I i' w' ∧ μ i' w' < μ i w1) ∧ F_towpathlaw01_Book_fillText_L0 b_ R again_ i w1 := ⟨_, fun _ _ h => h, hr i w1 hI⟩
   clear h0 hI
   unfold F_towpathlaw01_Book_fillText_L0 at h
   refine Zs c52_6 c52_12 ?_
   refine Zt r52_7 c52_9 ?_
   refine Zn P2 2 [(0, [], .pointer b_), (2, [], .int .i64 i), (5, [], .int .i64 i), (6, [], .pointer b_)] ?_
   obtain ⟨hp_3, h⟩ := h
   refine Zv (fun pp => [(0, [], .pointer b_), (2, [], .int .i64 i), (5, [], .int .i64 i), (6, [], .pointer pp)]) hp_3 ?_
   refine Zn P1 3 [(0, [], .pointer b_), (2, [], .int .i64 i), (5, [], .int .i64 i), (6, [], .pointer (some ⟨(pblk b_), (poff b_), none⟩)), (7, [], .pointer (some ⟨(pblk b_), (poff b_), none⟩))] ?_
   refine Zn P1 4 [(0, [], .pointer b_), (2, [], .int .i64 i), (5, [], .int .i64 i), (8, [], .pointer (some ⟨(pblk b_), (poff b_) + 3, none⟩))] ?_
   obtain ⟨v9, hc, h⟩ := h
   refine Zl 37 8 (pblk b_) ((poff b_) + 3) 37 9 hc ?_
   refine Zf P2 [(0, .pointer b_), (2, .int .i64 i), (11, .bool (decide (i < ((v9.len : Nat) : Int))))] ?_
   change WpE _ _ c52_9 _ _ _
   refine Zc 11 (decide (i < ((v9.len : Nat) : Int))) c52_10 c52_11 (fun hb => ?_) (fun hb => ?_)
   · replace h := h.1 hb
     exact h.elim
   · replace h := h.2 hb
     refine wpE_exit (id := 0) (by kernel_rfl) ?_
     repeat (first | refine seqQ_exit ?_ | refine loopQ_exit ?_ | refine cutQ_exit ?_ | refine blockQ_hit ?_ | refine blockQ_miss (by kernel_rfl) ?_)
     refine retQ_normal ?_
     repeat (first | refine seqQ_ret ?_ | refine blockQ_ret ?_ | refine loopQ_ret ?_ | refine cutQ_ret ?_)
     exact retT (rs := []) (vs := []) (by kernel_rfl) (trivial) (by kernel_rfl) ⟨rfl, h⟩
 · rintro e w' ⟨v, rfl, rfl, h⟩; exact ⟨rfl, h⟩

/-! ### (*towpath/towpathlaw01.Book).fillWrite (function 53) -/
def c53_0 := cb_ Tryz.f53
def c53_3 := cr_ c53_0
def c53_4 := cl_ c53_3
def c53_5 := cl_ c53_4
def c53_6 := cl_ c53_5
def c53_7 := cl_ c53_6
def r53_7 := co_ c53_7
def c53_9 := cr_ c53_6
def c53_10 := cl_ c53_9
def c53_11 := cr_ c53_9
def c53_12 := cr_ c53_5
def c53_13 := cl_ c53_12
def c53_14 := cl_ c53_13
def c53_15 := cl_ c53_14
def r53_15 := co_ c53_15
def c53_17 := cr_ c53_14
def c53_20 := cr_ c53_17
def c53_21 := cl_ c53_20
def c53_22 := cl_ c53_21
def c53_23 := cl_ c53_22
def c53_24 := cl_ c53_23
def r53_24 := co_ c53_24
def c53_26 := cr_ c53_23
def c53_27 := cl_ c53_26
def c53_28 := cr_ c53_26
def c53_29 := cr_ c53_22
def c53_30 := cl_ c53_29
def c53_31 := cl_ c53_30
def r53_31 := co_ c53_31
def c53_33 := cr_ c53_29
def r53_33 := co_ c53_33
def c53_35 := cr_ c53_12
def r53_35 := co_ c53_35
def o_towpathlaw01_Book_fillWrite_31 : List Nat := [0, 1, 2, 3, 4, 5, 6, 7]

theorem S_towpathlaw01_Book_fillWrite {b_ : Option Addr} {w : World} {R : World → Prop} (h : F_towpathlaw01_Book_fillWrite b_ R w) : C_towpathlaw01_Book_fillWrite b_ w R := by
 unfold F_towpathlaw01_Book_fillWrite at h
 unfold C_towpathlaw01_Book_fillWrite
 refine Calls.mono (calls_of_wpE (args := [Value.pointer b_]) (R := fun v w' => v = Value.tuple #[] ∧ R w') Tryz.func53 (c := c53_0) (by kernel_rfl) 35 (by kernel_rfl) (by kernel_rfl) [(0, Value.pointer b_)] (by kernel_rfl) ?_) ?_
 · refine Zp c53_3 P1 [(0, .pointer b_), (2, .int .i64 0)] ?_
   refine Zb 0 c53_4 ?_
   obtain ⟨I, μ, h0, hr⟩ := h
   refine wpE_loop (x := c53_5) (by kernel_rfl) (fun m l w => ∃ (i : Int), l = [(0, Value.pointer b_), (2, Value.int .i64 i)] ∧ I i w ∧ μ i w = m) (l' := [(0, Value.pointer b_), (2, Value.int .i64 0)]) (Sub.mk (by kernel_rfl)) ⟨0, rfl, h0, rfl⟩ ?_
   rintro _ _ w1 ⟨i, rfl, hI, rfl⟩
   obtain ⟨again_, again__h, h⟩ : ∃ again_ : Int → World → Prop, (∀ i' w', again_ i' w' → I i' w' ∧ μ i' w' < μ i w1) ∧ F_towpathlaw01_Book_fillWrite_L0 b_ R again_ i w1 := ⟨_, fun _ _ h => h, hr i w1 hI⟩
   clear h0 hI
   unfold F_towpathlaw01_Book_fillWrite_L0 at h
   refine Zs c53_6 c53_12 ?_
   refine Zt r53_7 c53_9 ?_
   refine Zn P2 2 [(0, [], .pointer b_), (2, [], .int .i64 i), (5, [], .int .i64 i), (6, [], .pointer b_)] ?_
   obtain ⟨hp_3, h⟩ := h
   refine Zv (fun pp => [(0, [], .pointer b_), (2, [], .int .i64 i), (5, [], .int .i64 i), (6, [], .pointer pp)]) hp_3 ?_
   refine Zn P1 3 [(0, [], .pointer b_), (2, [], .int .i64 i), (5, [], .int .i64 i), (6, [], .pointer (some ⟨(pblk b_), (poff b_), none⟩)), (7, [], .pointer (some ⟨(pblk b_), (poff b_), none⟩))] ?_
   refine Zn P1 4 [(0, [], .pointer b_), (2, [], .int .i64 i), (5, [], .int .i64 i), (8, [], .pointer (some ⟨(pblk b_), (poff b_) + 4, none⟩))] ?_
   obtain ⟨v9, hc, h⟩ := h
   refine Zl 38 8 (pblk b_) ((poff b_) + 4) 38 9 hc ?_
   refine Zf P2 [(0, .pointer b_), (2, .int .i64 i), (11, .bool (decide (i < ((v9.len : Nat) : Int))))] ?_
   change WpE _ _ c53_9 _ _ _
   refine Zc 11 (decide (i < ((v9.len : Nat) : Int))) c53_10 c53_11 (fun hb => ?_) (fun hb => ?_)
   · replace h := h.1 hb
     refine wpE_skip (by kernel_rfl) ?_
     change WpE _ _ c53_12 _ _ _
     refine Zs c53_13 c53_35 ?_
     refine Zb 1 c53_14 ?_
     refine Zt r53_15 c53_17 ?_
     refine Zn P1 1 [(0, [], .pointer b_), (2, [], .int .i64 i), (14, [], .pointer b_)] ?_
     obtain ⟨hp_12, h⟩ := h
     refine Zv (fun pp => [(0, [], .pointer b_), (2, [], .int .i64 i), (14, [], .pointer pp)]) hp_12 ?_
     refine Zn P1 2 [(0, [], .pointer b_), (2, [], .int .i64 i), (14, [], .pointer (some ⟨(pblk b_), (poff b_), none⟩)), (15, [], .pointer (some ⟨(pblk b_), (poff b_), none⟩))] ?_
     refine Zn P1 3 [(0, [], .pointer b_), (2, [], .int .i64 i), (16, [], .pointer (some ⟨(pblk b_), (poff b_) + 4, none⟩))] ?_
     obtain ⟨v17, hc, h⟩ := h
     refine Zl 38 16 (pblk b_) ((poff b_) + 4) 38 17 hc ?_
     refine Zn P1 5 [(0, [], .pointer b_), (2, [], .int .i64 i), (17, [], sv_ v17), (18, [], .int .i64 i)] ?_
     obtain ⟨hp_13, h⟩ := h
     refine Zv (fun pp => [(0, [], .pointer b_), (2, [], .int .i64 i), (17, [], .slice pp v17.len v17.cap), (18, [], .int .i64 i)]) hp_13 ?_
     obtain ⟨h0, h1, h⟩ := h
     refine Zj 38 153 17 18 (pblk v17.ptr) (poff v17.ptr) v17.len v17.cap i 3 19 0 h0 h1 ?_
     refine Zn [] 6 [(0, [], .pointer b_), (2, [], .int .i64 i), (19, [], .pointer (some ⟨(pblk v17.ptr), (poff v17.ptr) + i.toNat * 3, none⟩))] ?_
     obtain ⟨v20, hc, h⟩ := h
     refine reg_loadN (t := 153) (a := (Operand.tmp 19)) (b := (pblk v17.ptr)) (o := ((poff v17.ptr) + i.toNat * 3)) (ty := 153) (dst := some 20) [sv_ v20.l, sv_ v20.long, Value.int .i64 v20.n] (by kernel_rfl) (by kernel_rfl) (by kernel_rfl) (k := 3) (by kernel_rfl) (by kernel_rfl) hc ?_
     refine Zn [] 7 [(0, [], .pointer b_), (2, [], .int .i64 i), (20, [], .agg #[sv_ v20.l, sv_ v20.long, .int .i64 v20.n])] ?_
     refine Zw (some 3) (fun bb => pv_ bb) (Obj.cells ([.slice none 0 0, .slice none 0 0, .int .i64 0]).toArray ty_towpathlaw01_heldWrite (0, 0)) (fun b_1 w2 hb hw => ?_)
     replace h := h b_1 w2 hb hw
     clear hb hw
     refine Zn [] 8 [(0, [], .pointer b_), (2, [], .int .i64 i), (3, [], pv_ b_1), (20, [], .agg #[sv_ v20.l, sv_ v20.long, .int .i64 v20.n])] ?_
     obtain ⟨hc, h⟩ := h
     refine Zo 153 3 20 b_1 0 3 [sv_ v20.l, sv_ v20.long, .int .i64 v20.n] hc (fun w3 hw => ?_)
     replace h := h w3 hw
     clear hw
     refine Ze [(0, .pointer b_), (2, .int .i64 i), (3, pv_ b_1)] ?_
     change WpE _ _ c53_17 _ _ _
     refine Zp c53_20 P1 [(0, .pointer b_), (2, .int .i64 i), (3, pv_ b_1), (4, .int .i64 0)] ?_
     refine Zb 2 c53_21 ?_
     obtain ⟨I, μ, h0, hr⟩ := h
     refine wpE_loop (x := c53_22) (by kernel_rfl) (fun m l w => ∃ (k_ : Int), l = [(0, Value.pointer b_), (2, Value.int .i64 i), (3, pv_ b_1), (4, Value.int .i64 k_)] ∧ I k_ w ∧ μ k_ w = m) (l' := [(0, Value.pointer b_), (2, Value.int .i64 i), (3, pv_ b_1), (4, Value.int .i64 0)]) (Sub.mk (by kernel_rfl)) ⟨0, rfl, h0, rfl⟩ ?_
     rintro _ _ w4 ⟨k_, rfl, hI, rfl⟩
     obtain ⟨again_1, again_1_h, h⟩ : ∃ again_1 : Int → World → Prop, (∀ k_' w', again_1 k_' w' → I k_' w' ∧ μ k_' w' < μ k_ w4) ∧ F_towpathlaw01_Book_fillWrite_L1 i again_ b_1 again_1 k_ w4 := ⟨_, fun _ _ h => h, hr k_ w4 hI⟩
     clear h0 hI
     unfold F_towpathlaw01_Book_fillWrite_L1 at h
     refine Zs c53_23 c53_29 ?_
     refine Zt r53_24 c53_26 ?_
     refine Zn P2 2 [(0, [], .pointer b_), (2, [], .int .i64 i), (3, [], pv_ b_1), (4, [], .int .i64 k_), (21, [], .int .i64 k_), (22, [], pv_ b_1)] ?_
     obtain ⟨v23, hc, h⟩ := h
     refine Zl 50 22 b_1 0 50 23 hc ?_
     refine Zf P2 [(0, .pointer b_), (2, .int .i64 i), (3, pv_ b_1), (4, .int .i64 k_), (25, .bool (decide (k_ < ((v23.len : Nat) : Int))))] ?_
     change WpE _ _ c53_26 _ _ _
     refine Zc 25 (decide (k_ < ((v23.len : Nat) : Int))) c53_27 c53_28 (fun hb => ?_) (fun hb => ?_)
     · replace h := h.1 hb
       refine wpE_skip (by kernel_rfl) ?_
       change WpE _ _ c53_29 _ _ _
       refine Zs c53_30 c53_33 ?_
       refine Zb 3 c53_31 ?_
       refine wpE_mixregion (id := 7) (ops := r53_31) o_towpathlaw01_Book_fillWrite_31 (by kernel_rfl) (by kernel_rfl) (by kernel_rfl) (by kernel_rfl) (fun w5 hw => ?_)
       replace h := h w5 hw
       clear hw
       refine mreg_run P1 1 [(0, [], Value.pointer b_), (2, [], Value.int .i64 i), (3, [], pv_ b_1), (4, [], Value.int .i64 k_), (28, [], pv_ b_1)] (by kernel_rfl) (by kernel_rfl) ?_
       obtain ⟨v29, hc, h⟩ := h
       refine mreg_load1 (i := 1) (by kernel_rfl) (t := 50) (a := (Operand.tmp 28)) (b := b_1) (o := 0) (ty := 50) (dst := some 29) (by kernel_rfl) (by kernel_rfl) (by kernel_rfl) hc ?_
       refine mreg_run P2 4 [(0, [], Value.pointer b_), (2, [], Value.int .i64 i), (3, [], pv_ b_1), (4, [], Value.int .i64 k_), (29, [], sv_ v29), (30, [], Value.int .i64 k_), (31, [], Value.pointer (some ⟨b_1, 2, none⟩))] (by kernel_rfl) (by kernel_rfl) ?_
       obtain ⟨v32, hc, h⟩ := h
       refine mreg_load1 (i := 4) (by kernel_rfl) (t := 3) (a := (Operand.tmp 31)) (b := b_1) (o := 2) (ty := 3) (dst := some 32) (by kernel_rfl) (by kernel_rfl) (by kernel_rfl) hc ?_
       refine mreg_run [] 5 [(0, [], Value.pointer b_), (2, [], Value.int .i64 i), (3, [], pv_ b_1), (4, [], Value.int .i64 k_), (29, [], sv_ v29), (30, [], Value.int .i64 k_), (32, [], Value.int .i64 v32)] (by kernel_rfl) (by kernel_rfl) ?_
       refine mreg_enter (op := (Op.call (Call.mk (Callee.value (Operand.func 128)) #[(Operand.tmp 32)] #[3]))) (ty := 139) (dst := some 33) 5 [4, 3] [(1, fun w' => w'.cell? ⟨b_1, 0, none⟩ = some (sv_ v29))] 128 #[Value.int .i64 v32] (by kernel_rfl) (by kernel_rfl) (by kernel_rfl) (by kernel_rfl) (by kernel_rfl) (fun ww => by kernel_rfl) (Calls.mono h ?_)
       rintro _ w6 ⟨v33, rfl, h⟩
       obtain ⟨hk0, h⟩ := h
       refine ⟨_, rfl, ⟨hk0, trivial⟩, ?_⟩
       refine mreg_run [] 6 [(0, [], Value.pointer b_), (2, [], Value.int .i64 i), (3, [], pv_ b_1), (4, [], Value.int .i64 k_), (29, [], sv_ v29), (30, [], Value.int .i64 k_), (33, [], Value.agg #[Value.string v33.Key, Value.string v33.Val, Value.bool v33.Drop])] (by kernel_rfl) (by kernel_rfl) ?_
       obtain ⟨hp_15, h⟩ := h
       refine mreg_conv [(0, [], Value.pointer b_), (2, [], Value.int .i64 i), (3, [], pv_ b_1), (4, [], Value.int .i64 k_), (29, [], Value.slice (some ⟨(pblk v29.ptr), (poff v29.ptr), none⟩) v29.len v29.cap), (30, [], Value.int .i64 k_), (33, [], Value.agg #[Value.string v33.Key, Value.string v33.Val, Value.bool v33.Drop])] (congrArg (fun pp => ([(0, [], Value.pointer b_), (2, [], Value.int .i64 i), (3, [], pv_ b_1), (4, [], Value.int .i64 k_), (29, [], Value.slice pp v29.len v29.cap), (30, [], Value.int .i64 k_), (33, [], Value.agg #[Value.string v33.Key, Value.string v33.Val, Value.bool v33.Drop])] : GEnv)) hp_15) ?_
       obtain ⟨h0, h1, h⟩ := h
       refine mreg_indexS (i := 6) (by kernel_rfl) (t := 50) (e := 139) (x := (Operand.tmp 29)) (ix := (Operand.tmp 30)) (b := (pblk v29.ptr)) (o := (poff v29.ptr)) (l := v29.len) (c := v29.cap) (k := .i64) (j := k_) (ty := 0) (dst := some 34) (sz := 3) (by kernel_rfl) (by kernel_rfl) (by kernel_rfl) (by kernel_rfl) (by kernel_rfl) h0 h1 ?_
       refine mreg_run [] 7 [(0, [], Value.pointer b_), (2, [], Value.int .i64 i), (3, [], pv_ b_1), (4, [], Value.int .i64 k_), (33, [], Value.agg #[Value.string v33.Key, Value.string v33.Val, Value.bool v33.Drop]), (34, [], Value.pointer (some ⟨(pblk v29.ptr), (poff v29.ptr) + k_.toNat * 3, none⟩))] (by kernel_rfl) (by kernel_rfl) ?_
       obtain ⟨hc, h⟩ := h
       refine mreg_store (t := 139) (a := (Operand.tmp 34)) (x := (Operand.tmp 33)) (b := (pblk v29.ptr)) (o := ((poff v29.ptr) + k_.toNat * 3)) (k := 3) (ty := 0) (dst := none) 7 [0, 1, 2, 3, 4, 5, 6] [] [Value.string v33.Key, Value.string v33.Val, Value.bool v33.Drop] (by kernel_rfl) (by kernel_rfl) (by kernel_rfl) (by kernel_rfl) (by kernel_rfl) (by kernel_rfl) (by kernel_rfl) (by kernel_rfl) (by kernel_rfl) (by kernel_rfl) hc (fun w7 hw => ?_)
       replace h := h w7 hw
       clear hw
       refine ⟨trivial, ?_⟩
       refine mreg_end [(0, Value.pointer b_), (2, Value.int .i64 i), (3, pv_ b_1), (4, Value.int .i64 k_)] (by kernel_rfl) (by kernel_rfl) (by kernel_rfl) ?_
       change WpE _ _ c53_33 _ _ _
       refine Zr r53_33 ?_
       refine Zf P3 [(0, .pointer b_), (2, .int .i64 i), (3, pv_ b_1), (4, .int .i64 (IntKind.i64.wrap (k_ + 1)))] ?_
       have hb_ := again_1_h _ _ h
       exact ⟨_, hb_.2, [(0, Value.pointer b_), (2, Value.int .i64 i), (3, pv_ b_1), (4, Value.int .i64 (IntKind.i64.wrap (k_ + 1)))], Sub.mk (by kernel_rfl), (IntKind.i64.wrap (k_ + 1)), rfl, hb_.1, rfl⟩
     · replace h := h.2 hb
       refine wpE_exit (id := 2) (by kernel_rfl) ?_
       change WpE _ _ c53_35 _ _ _
       refine Zr r53_35 ?_
       refine Zf P3 [(0, .pointer b_), (2, .int .i64 (IntKind.i64.wrap (i + 1)))] ?_
       have hb_ := again__h _ _ h
       exact ⟨_, hb_.2, [(0, Value.pointer b_), (2, Value.int .i64 (IntKind.i64.wrap (i + 1)))], Sub.mk (by kernel_rfl), (IntKind.i64.wrap (i + 1)), rfl, hb_.1, rfl⟩
   · replace h := h.2 hb
     refine wpE_exit (id := 0) (by kernel_rfl) ?_
     repeat (first | refine seqQ_exit ?_ | refine loopQ_exit ?_ | refine cutQ_exit ?_ | refine blockQ_hit ?_ | refine blockQ_miss (by kernel_rfl) ?_)
     refine retQ_normal ?_
     repeat (first | refine seqQ_ret ?_ | refine blockQ_ret ?_ | refine loopQ_ret ?_ | refine cutQ_ret ?_)
     exact retT (rs := []) (vs := []) (by kernel_rfl) (trivial) (by kernel_rfl) ⟨rfl, h⟩
 · rintro e w' ⟨v, rfl, rfl, h⟩; exact ⟨rfl, h⟩

/-! ### (*towpath/towpathlaw01.Book).fillEntry (function 54) -/
def c54_0 := cb_ Tryz.f54
def c54_3 := cr_ c54_0
def c54_4 := cl_ c54_3
def c54_5 := cl_ c54_4
def c54_6 := cl_ c54_5
def c54_7 := cl_ c54_6
def r54_7 := co_ c54_7
def c54_9 := cr_ c54_6
def c54_10 := cl_ c54_9
def c54_11 := cr_ c54_9
def c54_12 := cr_ c54_5

theorem S_towpathlaw01_Book_fillEntry {b_ : Option Addr} {w : World} {R : World → Prop} (h : F_towpathlaw01_Book_fillEntry b_ R w) : C_towpathlaw01_Book_fillEntry b_ w R := by
 unfold F_towpathlaw01_Book_fillEntry at h
 unfold C_towpathlaw01_Book_fillEntry
 refine Calls.mono (calls_of_wpE (args := [Value.pointer b_]) (R := fun v w' => v = Value.tuple #[] ∧ R w') Tryz.func54 (c := c54_0) (by kernel_rfl) 35 (by kernel_rfl) (by kernel_rfl) [(0, Value.pointer b_)] (by kernel_rfl) ?_) ?_
 · refine Zp c54_3 P1 [(0, .pointer b_), (2, .int .i64 0)] ?_
   refine Zb 0 c54_4 ?_
   obtain ⟨I, μ, h0, hr⟩ := h
   refine wpE_loop (x := c54_5) (by kernel_rfl) (fun m l w => ∃ (i : Int), l = [(0, Value.pointer b_), (2, Value.int .i64 i)] ∧ I i w ∧ μ i w = m) (l' := [(0, Value.pointer b_), (2, Value.int .i64 0)]) (Sub.mk (by kernel_rfl)) ⟨0, rfl, h0, rfl⟩ ?_
   rintro _ _ w1 ⟨i, rfl, hI, rfl⟩
   obtain ⟨again_, again__h, h⟩ : ∃ again_ : Int → World → Prop, (∀ i' w', again_ i' w' → I i' w' ∧ μ i' w' < μ i w1) ∧ F_towpathlaw01_Book_fillEntry_L0 b_ R again_ i w1 := ⟨_, fun _ _ h => h, hr i w1 hI⟩
   clear h0 hI
   unfold F_towpathlaw01_Book_fillEntry_L0 at h
   refine Zs c54_6 c54_12 ?_
   refine Zt r54_7 c54_9 ?_
   refine Zn P2 2 [(0, [], .pointer b_), (2, [], .int .i64 i), (5, [], .int .i64 i), (6, [], .pointer b_)] ?_
   obtain ⟨hp_3, h⟩ := h
   refine Zv (fun pp => [(0, [], .pointer b_), (2, [], .int .i64 i), (5, [], .int .i64 i), (6, [], .pointer pp)]) hp_3 ?_
   refine Zn P1 3 [(0, [], .pointer b_), (2, [], .int .i64 i), (5, [], .int .i64 i), (6, [], .pointer (some ⟨(pblk b_), (poff b_), none⟩)), (7, [], .pointer (some ⟨(pblk b_), (poff b_), none⟩))] ?_
   refine Zn P1 4 [(0, [], .pointer b_), (2, [], .int .i64 i), (5, [], .int .i64 i), (8, [], .pointer (some ⟨(pblk b_), (poff b_) + 5, none⟩))] ?_
   obtain ⟨v9, hc, h⟩ := h
   refine Zl 39 8 (pblk b_) ((poff b_) + 5) 39 9 hc ?_
   refine Zf P2 [(0, .pointer b_), (2, .int .i64 i), (11, .bool (decide (i < ((v9.len : Nat) : Int))))] ?_
   change WpE _ _ c54_9 _ _ _
   refine Zc 11 (decide (i < ((v9.len : Nat) : Int))) c54_10 c54_11 (fun hb => ?_) (fun hb => ?_)
   · replace h := h.1 hb
     exact h.elim
   · replace h := h.2 hb
     refine wpE_exit (id := 0) (by kernel_rfl) ?_
     repeat (first | refine seqQ_exit ?_ | refine loopQ_exit ?_ | refine cutQ_exit ?_ | refine blockQ_hit ?_ | refine blockQ_miss (by kernel_rfl) ?_)
     refine retQ_normal ?_
     repeat (first | refine seqQ_ret ?_ | refine blockQ_ret ?_ | refine loopQ_ret ?_ | refine cutQ_ret ?_)
     exact retT (rs := []) (vs := []) (by kernel_rfl) (trivial) (by kernel_rfl) ⟨rfl, h⟩
 · rintro e w' ⟨v, rfl, rfl, h⟩; exact ⟨rfl, h⟩

/-! ### (*towpath/towpathlaw01.Book).fillVersion (function 55) -/
def c55_0 := cb_ Tryz.f55
def c55_3 := cr_ c55_0
def c55_4 := cl_ c55_3
def c55_5 := cl_ c55_4
def c55_6 := cl_ c55_5
def c55_7 := cl_ c55_6
def r55_7 := co_ c55_7
def c55_9 := cr_ c55_6
def c55_10 := cl_ c55_9
def c55_11 := cr_ c55_9
def c55_12 := cr_ c55_5

theorem S_towpathlaw01_Book_fillVersion {b_ : Option Addr} {w : World} {R : World → Prop} (h : F_towpathlaw01_Book_fillVersion b_ R w) : C_towpathlaw01_Book_fillVersion b_ w R := by
 unfold F_towpathlaw01_Book_fillVersion at h
 unfold C_towpathlaw01_Book_fillVersion
 refine Calls.mono (calls_of_wpE (args := [Value.pointer b_]) (R := fun v w' => v = Value.tuple #[] ∧ R w') Tryz.func55 (c := c55_0) (by kernel_rfl) 35 (by kernel_rfl) (by kernel_rfl) [(0, Value.pointer b_)] (by kernel_rfl) ?_) ?_
 · refine Zp c55_3 P1 [(0, .pointer b_), (2, .int .i64 0)] ?_
   refine Zb 0 c55_4 ?_
   obtain ⟨I, μ, h0, hr⟩ := h
   refine wpE_loop (x := c55_5) (by kernel_rfl) (fun m l w => ∃ (i : Int), l = [(0, Value.pointer b_), (2, Value.int .i64 i)] ∧ I i w ∧ μ i w = m) (l' := [(0, Value.pointer b_), (2, Value.int .i64 0)]) (Sub.mk (by kernel_rfl)) ⟨0, rfl, h0, rfl⟩ ?_
   rintro _ _ w1 ⟨i, rfl, hI, rfl⟩
   obtain ⟨again_, again__h, h⟩ : ∃ again_ : Int → World → Prop, (∀ i' w', again_ i' w' → I i' w' ∧ μ i' w' < μ i w1) ∧ F_towpathlaw01_Book_fillVersion_L0 b_ R again_ i w1 := ⟨_, fun _ _ h => h, hr i w1 hI⟩
   clear h0 hI
   unfold F_towpathlaw01_Book_fillVersion_L0 at h
   refine Zs c55_6 c55_12 ?_
   refine Zt r55_7 c55_9 ?_
   refine Zn P2 2 [(0, [], .pointer b_), (2, [], .int .i64 i), (5, [], .int .i64 i), (6, [], .pointer b_)] ?_
   obtain ⟨hp_3, h⟩ := h
   refine Zv (fun pp => [(0, [], .pointer b_), (2, [], .int .i64 i), (5, [], .int .i64 i), (6, [], .pointer pp)]) hp_3 ?_
   refine Zn P1 3 [(0, [], .pointer b_), (2, [], .int .i64 i), (5, [], .int .i64 i), (6, [], .pointer (some ⟨(pblk b_), (poff b_), none⟩)), (7, [], .pointer (some ⟨(pblk b_), (poff b_), none⟩))] ?_
   refine Zn P1 4 [(0, [], .pointer b_), (2, [], .int .i64 i), (5, [], .int .i64 i), (8, [], .pointer (some ⟨(pblk b_), (poff b_) + 6, none⟩))] ?_
   obtain ⟨v9, hc, h⟩ := h
   refine Zl 40 8 (pblk b_) ((poff b_) + 6) 40 9 hc ?_
   refine Zf P2 [(0, .pointer b_), (2, .int .i64 i), (11, .bool (decide (i < ((v9.len : Nat) : Int))))] ?_
   change WpE _ _ c55_9 _ _ _
   refine Zc 11 (decide (i < ((v9.len : Nat) : Int))) c55_10 c55_11 (fun hb => ?_) (fun hb => ?_)
   · replace h := h.1 hb
     exact h.elim
   · replace h := h.2 hb
     refine wpE_exit (id := 0) (by kernel_rfl) ?_
     repeat (first | refine seqQ_exit ?_ | refine loopQ_exit ?_ | refine cutQ_exit ?_ | refine blockQ_hit ?_ | refine blockQ_miss (by kernel_rfl) ?_)
     refine retQ_normal ?_
     repeat (first | refine seqQ_ret ?_ | refine blockQ_ret ?_ | refine loopQ_ret ?_ | refine cutQ_ret ?_)
     exact retT (rs := []) (vs := []) (by kernel_rfl) (trivial) (by kernel_rfl) ⟨rfl, h⟩
 · rintro e w' ⟨v, rfl, rfl, h⟩; exact ⟨rfl, h⟩

/-! ### (*towpath/towpathlaw01.Book).fillTxn (function 56) -/
def c56_0 := cb_ Tryz.f56
def c56_3 := cr_ c56_0
def c56_4 := cl_ c56_3
def c56_5 := cl_ c56_4
def c56_6 := cl_ c56_5
def c56_7 := cl_ c56_6
def r56_7 := co_ c56_7
def c56_9 := cr_ c56_6
def c56_10 := cl_ c56_9
def c56_11 := cr_ c56_9
def c56_12 := cr_ c56_5
def c56_13 := cl_ c56_12
def c56_14 := cl_ c56_13
def c56_15 := cl_ c56_14
def r56_15 := co_ c56_15
def c56_17 := cr_ c56_14
def c56_20 := cr_ c56_17
def c56_21 := cl_ c56_20
def c56_22 := cl_ c56_21
def c56_23 := cl_ c56_22
def c56_24 := cl_ c56_23
def r56_24 := co_ c56_24
def c56_26 := cr_ c56_23
def c56_27 := cl_ c56_26
def c56_28 := cr_ c56_26
def c56_29 := cr_ c56_22
def c56_30 := cl_ c56_29
def c56_31 := cl_ c56_30
def r56_31 := co_ c56_31
def c56_33 := cr_ c56_29
def r56_33 := co_ c56_33
def c56_35 := cr_ c56_12
def r56_35 := co_ c56_35
def o_towpathlaw01_Book_fillTxn_31 : List Nat := [0, 1, 2, 3, 4, 5, 6, 7]

theorem S_towpathlaw01_Book_fillTxn {b_ : Option Addr} {w : World} {R : World → Prop} (h : F_towpathlaw01_Book_fillTxn b_ R w) : C_towpathlaw01_Book_fillTxn b_ w R := by
 unfold F_towpathlaw01_Book_fillTxn at h
 unfold C_towpathlaw01_Book_fillTxn
 refine Calls.mono (calls_of_wpE (args := [Value.pointer b_]) (R := fun v w' => v = Value.tuple #[] ∧ R w') Tryz.func56 (c := c56_0) (by kernel_rfl) 35 (by kernel_rfl) (by kernel_rfl) [(0, Value.pointer b_)] (by kernel_rfl) ?_) ?_
 · refine Zp c56_3 P1 [(0, .pointer b_), (2, .int .i64 0)] ?_
   refine Zb 0 c56_4 ?_
   obtain ⟨I, μ, h0, hr⟩ := h
   refine wpE_loop (x := c56_5) (by kernel_rfl) (fun m l w => ∃ (i : Int), l = [(0, Value.pointer b_), (2, Value.int .i64 i)] ∧ I i w ∧ μ i w = m) (l' := [(0, Value.pointer b_), (2, Value.int .i64 0)]) (Sub.mk (by kernel_rfl)) ⟨0, rfl, h0, rfl⟩ ?_
   rintro _ _ w1 ⟨i, rfl, hI, rfl⟩
   obtain ⟨again_, again__h, h⟩ : ∃ again_ : Int → World → Prop, (∀ i' w', again_ i' w' → I i' w' ∧ μ i' w' < μ i w1) ∧ F_towpathlaw01_Book_fillTxn_L0 b_ R again_ i w1 := ⟨_, fun _ _ h => h, hr i w1 hI⟩
   clear h0 hI
   unfold F_towpathlaw01_Book_fillTxn_L0 at h
   refine Zs c56_6 c56_12 ?_
   refine Zt r56_7 c56_9 ?_
   refine Zn P2 2 [(0, [], .pointer b_), (2, [], .int .i64 i), (5, [], .int .i64 i), (6, [], .pointer b_)] ?_
   obtain ⟨hp_3, h⟩ := h
   refine Zv (fun pp => [(0, [], .pointer b_), (2, [], .int .i64 i), (5, [], .int .i64 i), (6, [], .pointer pp)]) hp_3 ?_
   refine Zn P1 3 [(0, [], .pointer b_), (2, [], .int .i64 i), (5, [], .int .i64 i), (6, [], .pointer (some ⟨(pblk b_), (poff b_), none⟩)), (7, [], .pointer (some ⟨(pblk b_), (poff b_), none⟩))] ?_
   refine Zn P1 4 [(0, [], .pointer b_), (2, [], .int .i64 i), (5, [], .int .i64 i), (8, [], .pointer (some ⟨(pblk b_), (poff b_) + 7, none⟩))] ?_
   obtain ⟨v9, hc, h⟩ := h
   refine Zl 41 8 (pblk b_) ((poff b_) + 7) 41 9 hc ?_
   refine Zf P2 [(0, .pointer b_), (2, .int .i64 i), (11, .bool (decide (i < ((v9.len : Nat) : Int))))] ?_
   change WpE _ _ c56_9 _ _ _
   refine Zc 11 (decide (i < ((v9.len : Nat) : Int))) c56_10 c56_11 (fun hb => ?_) (fun hb => ?_)
   · replace h := h.1 hb
     refine wpE_skip (by kernel_rfl) ?_
     change WpE _ _ c56_12 _ _ _
     refine Zs c56_13 c56_35 ?_
     refine Zb 1 c56_14 ?_
     refine Zt r56_15 c56_17 ?_
     refine Zn P1 1 [(0, [], .pointer b_), (2, [], .int .i64 i), (14, [], .pointer b_)] ?_
     obtain ⟨hp_12, h⟩ := h
     refine Zv (fun pp => [(0, [], .pointer b_), (2, [], .int .i64 i), (14, [], .pointer pp)]) hp_12 ?_
     refine Zn P1 2 [(0, [], .pointer b_), (2, [], .int .i64 i), (14, [], .pointer (some ⟨(pblk b_), (poff b_), none⟩)), (15, [], .pointer (some ⟨(pblk b_), (poff b_), none⟩))] ?_
     refine Zn P1 3 [(0, [], .pointer b_), (2, [], .int .i64 i), (16, [], .pointer (some ⟨(pblk b_), (poff b_) + 7, none⟩))] ?_
     obtain ⟨v17, hc, h⟩ := h
     refine Zl 41 16 (pblk b_) ((poff b_) + 7) 41 17 hc ?_
     refine Zn P1 5 [(0, [], .pointer b_), (2, [], .int .i64 i), (17, [], sv_ v17), (18, [], .int .i64 i)] ?_
     obtain ⟨hp_13, h⟩ := h
     refine Zv (fun pp => [(0, [], .pointer b_), (2, [], .int .i64 i), (17, [], .slice pp v17.len v17.cap), (18, [], .int .i64 i)]) hp_13 ?_
     obtain ⟨h0, h1, h⟩ := h
     refine Zj 41 141 17 18 (pblk v17.ptr) (poff v17.ptr) v17.len v17.cap i 3 19 0 h0 h1 ?_
     refine Zn [] 6 [(0, [], .pointer b_), (2, [], .int .i64 i), (19, [], .pointer (some ⟨(pblk v17.ptr), (poff v17.ptr) + i.toNat * 3, none⟩))] ?_
     obtain ⟨v20, hc, h⟩ := h
     refine reg_loadN (t := 141) (a := (Operand.tmp 19)) (b := (pblk v17.ptr)) (o := ((poff v17.ptr) + i.toNat * 3)) (ty := 141) (dst := some 20) [sv_ v20.l, sv_ v20.long, Value.int .i64 v20.n] (by kernel_rfl) (by kernel_rfl) (by kernel_rfl) (k := 3) (by kernel_rfl) (by kernel_rfl) hc ?_
     refine Zn [] 7 [(0, [], .pointer b_), (2, [], .int .i64 i), (20, [], .agg #[sv_ v20.l, sv_ v20.long, .int .i64 v20.n])] ?_
     refine Zw (some 3) (fun bb => pv_ bb) (Obj.cells ([.slice none 0 0, .slice none 0 0, .int .i64 0]).toArray ty_towpathlaw01_heldTxn (0, 0)) (fun b_1 w2 hb hw => ?_)
     replace h := h b_1 w2 hb hw
     clear hb hw
     refine Zn [] 8 [(0, [], .pointer b_), (2, [], .int .i64 i), (3, [], pv_ b_1), (20, [], .agg #[sv_ v20.l, sv_ v20.long, .int .i64 v20.n])] ?_
     obtain ⟨hc, h⟩ := h
     refine Zo 141 3 20 b_1 0 3 [sv_ v20.l, sv_ v20.long, .int .i64 v20.n] hc (fun w3 hw => ?_)
     replace h := h w3 hw
     clear hw
     refine Ze [(0, .pointer b_), (2, .int .i64 i), (3, pv_ b_1)] ?_
     change WpE _ _ c56_17 _ _ _
     refine Zp c56_20 P1 [(0, .pointer b_), (2, .int .i64 i), (3, pv_ b_1), (4, .int .i64 0)] ?_
     refine Zb 2 c56_21 ?_
     obtain ⟨I, μ, h0, hr⟩ := h
     refine wpE_loop (x := c56_22) (by kernel_rfl) (fun m l w => ∃ (k_ : Int), l = [(0, Value.pointer b_), (2, Value.int .i64 i), (3, pv_ b_1), (4, Value.int .i64 k_)] ∧ I k_ w ∧ μ k_ w = m) (l' := [(0, Value.pointer b_), (2, Value.int .i64 i), (3, pv_ b_1), (4, Value.int .i64 0)]) (Sub.mk (by kernel_rfl)) ⟨0, rfl, h0, rfl⟩ ?_
     rintro _ _ w4 ⟨k_, rfl, hI, rfl⟩
     obtain ⟨again_1, again_1_h, h⟩ : ∃ again_1 : Int → World → Prop, (∀ k_' w', again_1 k_' w' → I k_' w' ∧ μ k_' w' < μ k_ w4) ∧ F_towpathlaw01_Book_fillTxn_L1 i again_ b_1 again_1 k_ w4 := ⟨_, fun _ _ h => h, hr k_ w4 hI⟩
     clear h0 hI
     unfold F_towpathlaw01_Book_fillTxn_L1 at h
     refine Zs c56_23 c56_29 ?_
     refine Zt r56_24 c56_26 ?_
     refine Zn P2 2 [(0, [], .pointer b_), (2, [], .int .i64 i), (3, [], pv_ b_1), (4, [], .int .i64 k_), (21, [], .int .i64 k_), (22, [], pv_ b_1)] ?_
     obtain ⟨v23, hc, h⟩ := h
     refine Zl 22 22 b_1 0 22 23 hc ?_
     refine Zf P2 [(0, .pointer b_), (2, .int .i64 i), (3, pv_ b_1), (4, .int .i64 k_), (25, .bool (decide (k_ < ((v23.len : Nat) : Int))))] ?_
     change WpE _ _ c56_26 _ _ _
     refine Zc 25 (decide (k_ < ((v23.len : Nat) : Int))) c56_27 c56_28 (fun hb => ?_) (fun hb => ?_)
     · replace h := h.1 hb
       refine wpE_skip (by kernel_rfl) ?_
       change WpE _ _ c56_29 _ _ _
       refine Zs c56_30 c56_33 ?_
       refine Zb 3 c56_31 ?_
       refine wpE_mixregion (id := 7) (ops := r56_31) o_towpathlaw01_Book_fillTxn_31 (by kernel_rfl) (by kernel_rfl) (by kernel_rfl) (by kernel_rfl) (fun w5 hw => ?_)
       replace h := h w5 hw
       clear hw
       refine mreg_run P1 1 [(0, [], Value.pointer b_), (2, [], Value.int .i64 i), (3, [], pv_ b_1), (4, [], Value.int .i64 k_), (28, [], pv_ b_1)] (by kernel_rfl) (by kernel_rfl) ?_
       obtain ⟨v29, hc, h⟩ := h
       refine mreg_load1 (i := 1) (by kernel_rfl) (t := 22) (a := (Operand.tmp 28)) (b := b_1) (o := 0) (ty := 22) (dst := some 29) (by kernel_rfl) (by kernel_rfl) (by kernel_rfl) hc ?_
       refine mreg_run P2 4 [(0, [], Value.pointer b_), (2, [], Value.int .i64 i), (3, [], pv_ b_1), (4, [], Value.int .i64 k_), (29, [], sv_ v29), (30, [], Value.int .i64 k_), (31, [], Value.pointer (some ⟨b_1, 2, none⟩))] (by kernel_rfl) (by kernel_rfl) ?_
       obtain ⟨v32, hc, h⟩ := h
       refine mreg_load1 (i := 4) (by kernel_rfl) (t := 3) (a := (Operand.tmp 31)) (b := b_1) (o := 2) (ty := 3) (dst := some 32) (by kernel_rfl) (by kernel_rfl) (by kernel_rfl) hc ?_
       refine mreg_run [] 5 [(0, [], Value.pointer b_), (2, [], Value.int .i64 i), (3, [], pv_ b_1), (4, [], Value.int .i64 k_), (29, [], sv_ v29), (30, [], Value.int .i64 k_), (32, [], Value.int .i64 v32)] (by kernel_rfl) (by kernel_rfl) ?_
       refine mreg_enter (op := (Op.call (Call.mk (Callee.value (Operand.func 131)) #[(Operand.tmp 32)] #[3]))) (ty := 52) (dst := some 33) 5 [4, 3] [(1, fun w' => w'.cell? ⟨b_1, 0, none⟩ = some (sv_ v29))] 131 #[Value.int .i64 v32] (by kernel_rfl) (by kernel_rfl) (by kernel_rfl) (by kernel_rfl) (by kernel_rfl) (fun ww => by kernel_rfl) (Calls.mono h ?_)
       rintro _ w6 ⟨v33, rfl, h⟩
       obtain ⟨hk0, h⟩ := h
       refine ⟨_, rfl, ⟨hk0, trivial⟩, ?_⟩
       refine mreg_run [] 6 [(0, [], Value.pointer b_), (2, [], Value.int .i64 i), (3, [], pv_ b_1), (4, [], Value.int .i64 k_), (29, [], sv_ v29), (30, [], Value.int .i64 k_), (33, [], Value.agg #[Value.int .i64 v33.Number, sv_ v33.Writes])] (by kernel_rfl) (by kernel_rfl) ?_
       obtain ⟨hp_15, h⟩ := h
       refine mreg_conv [(0, [], Value.pointer b_), (2, [], Value.int .i64 i), (3, [], pv_ b_1), (4, [], Value.int .i64 k_), (29, [], Value.slice (some ⟨(pblk v29.ptr), (poff v29.ptr), none⟩) v29.len v29.cap), (30, [], Value.int .i64 k_), (33, [], Value.agg #[Value.int .i64 v33.Number, sv_ v33.Writes])] (congrArg (fun pp => ([(0, [], Value.pointer b_), (2, [], Value.int .i64 i), (3, [], pv_ b_1), (4, [], Value.int .i64 k_), (29, [], Value.slice pp v29.len v29.cap), (30, [], Value.int .i64 k_), (33, [], Value.agg #[Value.int .i64 v33.Number, sv_ v33.Writes])] : GEnv)) hp_15) ?_
       obtain ⟨h0, h1, h⟩ := h
       refine mreg_indexS (i := 6) (by kernel_rfl) (t := 22) (e := 52) (x := (Operand.tmp 29)) (ix := (Operand.tmp 30)) (b := (pblk v29.ptr)) (o := (poff v29.ptr)) (l := v29.len) (c := v29.cap) (k := .i64) (j := k_) (ty := 0) (dst := some 34) (sz := 2) (by kernel_rfl) (by kernel_rfl) (by kernel_rfl) (by kernel_rfl) (by kernel_rfl) h0 h1 ?_
       refine mreg_run [] 7 [(0, [], Value.pointer b_), (2, [], Value.int .i64 i), (3, [], pv_ b_1), (4, [], Value.int .i64 k_), (33, [], Value.agg #[Value.int .i64 v33.Number, sv_ v33.Writes]), (34, [], Value.pointer (some ⟨(pblk v29.ptr), (poff v29.ptr) + k_.toNat * 2, none⟩))] (by kernel_rfl) (by kernel_rfl) ?_
       obtain ⟨hc, h⟩ := h
       refine mreg_store (t := 52) (a := (Operand.tmp 34)) (x := (Operand.tmp 33)) (b := (pblk v29.ptr)) (o := ((poff v29.ptr) + k_.toNat * 2)) (k := 2) (ty := 0) (dst := none) 7 [0, 1, 2, 3, 4, 5, 6] [] [Value.int .i64 v33.Number, sv_ v33.Writes] (by kernel_rfl) (by kernel_rfl) (by kernel_rfl) (by kernel_rfl) (by kernel_rfl) (by kernel_rfl) (by kernel_rfl) (by kernel_rfl) (by kernel_rfl) (by kernel_rfl) hc (fun w7 hw => ?_)
       replace h := h w7 hw
       clear hw
       refine ⟨trivial, ?_⟩
       refine mreg_end [(0, Value.pointer b_), (2, Value.int .i64 i), (3, pv_ b_1), (4, Value.int .i64 k_)] (by kernel_rfl) (by kernel_rfl) (by kernel_rfl) ?_
       change WpE _ _ c56_33 _ _ _
       refine Zr r56_33 ?_
       refine Zf P3 [(0, .pointer b_), (2, .int .i64 i), (3, pv_ b_1), (4, .int .i64 (IntKind.i64.wrap (k_ + 1)))] ?_
       have hb_ := again_1_h _ _ h
       exact ⟨_, hb_.2, [(0, Value.pointer b_), (2, Value.int .i64 i), (3, pv_ b_1), (4, Value.int .i64 (IntKind.i64.wrap (k_ + 1)))], Sub.mk (by kernel_rfl), (IntKind.i64.wrap (k_ + 1)), rfl, hb_.1, rfl⟩
     · replace h := h.2 hb
       refine wpE_exit (id := 2) (by kernel_rfl) ?_
       change WpE _ _ c56_35 _ _ _
       refine Zr r56_35 ?_
       refine Zf P3 [(0, .pointer b_), (2, .int .i64 (IntKind.i64.wrap (i + 1)))] ?_
       have hb_ := again__h _ _ h
       exact ⟨_, hb_.2, [(0, Value.pointer b_), (2, Value.int .i64 (IntKind.i64.wrap (i + 1)))], Sub.mk (by kernel_rfl), (IntKind.i64.wrap (i + 1)), rfl, hb_.1, rfl⟩
   · replace h := h.2 hb
     refine wpE_exit (id := 0) (by kernel_rfl) ?_
     repeat (first | refine seqQ_exit ?_ | refine loopQ_exit ?_ | refine cutQ_exit ?_ | refine blockQ_hit ?_ | refine blockQ_miss (by kernel_rfl) ?_)
     refine retQ_normal ?_
     repeat (first | refine seqQ_ret ?_ | refine blockQ_ret ?_ | refine loopQ_ret ?_ | refine cutQ_ret ?_)
     exact retT (rs := []) (vs := []) (by kernel_rfl) (trivial) (by kernel_rfl) ⟨rfl, h⟩
 · rintro e w' ⟨v, rfl, rfl, h⟩; exact ⟨rfl, h⟩

/-! ### (*towpath/towpathlaw01.Book).fillHeld (function 57) -/
def c57_0 := cb_ Tryz.f57
def c57_3 := cr_ c57_0
def c57_4 := cl_ c57_3
def c57_5 := cl_ c57_4
def c57_6 := cl_ c57_5
def c57_7 := cl_ c57_6
def r57_7 := co_ c57_7
def c57_9 := cr_ c57_6
def c57_10 := cl_ c57_9
def c57_11 := cr_ c57_9
def c57_12 := cr_ c57_5

theorem S_towpathlaw01_Book_fillHeld {b_ : Option Addr} {w : World} {R : World → Prop} (h : F_towpathlaw01_Book_fillHeld b_ R w) : C_towpathlaw01_Book_fillHeld b_ w R := by
 unfold F_towpathlaw01_Book_fillHeld at h
 unfold C_towpathlaw01_Book_fillHeld
 refine Calls.mono (calls_of_wpE (args := [Value.pointer b_]) (R := fun v w' => v = Value.tuple #[] ∧ R w') Tryz.func57 (c := c57_0) (by kernel_rfl) 35 (by kernel_rfl) (by kernel_rfl) [(0, Value.pointer b_)] (by kernel_rfl) ?_) ?_
 · refine Zp c57_3 P1 [(0, .pointer b_), (2, .int .i64 0)] ?_
   refine Zb 0 c57_4 ?_
   obtain ⟨I, μ, h0, hr⟩ := h
   refine wpE_loop (x := c57_5) (by kernel_rfl) (fun m l w => ∃ (i : Int), l = [(0, Value.pointer b_), (2, Value.int .i64 i)] ∧ I i w ∧ μ i w = m) (l' := [(0, Value.pointer b_), (2, Value.int .i64 0)]) (Sub.mk (by kernel_rfl)) ⟨0, rfl, h0, rfl⟩ ?_
   rintro _ _ w1 ⟨i, rfl, hI, rfl⟩
   obtain ⟨again_, again__h, h⟩ : ∃ again_ : Int → World → Prop, (∀ i' w', again_ i' w' → I i' w' ∧ μ i' w' < μ i w1) ∧ F_towpathlaw01_Book_fillHeld_L0 b_ R again_ i w1 := ⟨_, fun _ _ h => h, hr i w1 hI⟩
   clear h0 hI
   unfold F_towpathlaw01_Book_fillHeld_L0 at h
   refine Zs c57_6 c57_12 ?_
   refine Zt r57_7 c57_9 ?_
   refine Zn P2 2 [(0, [], .pointer b_), (2, [], .int .i64 i), (5, [], .int .i64 i), (6, [], .pointer b_)] ?_
   obtain ⟨hp_3, h⟩ := h
   refine Zv (fun pp => [(0, [], .pointer b_), (2, [], .int .i64 i), (5, [], .int .i64 i), (6, [], .pointer pp)]) hp_3 ?_
   refine Zn P1 3 [(0, [], .pointer b_), (2, [], .int .i64 i), (5, [], .int .i64 i), (6, [], .pointer (some ⟨(pblk b_), (poff b_), none⟩)), (7, [], .pointer (some ⟨(pblk b_), (poff b_), none⟩))] ?_
   refine Zn P1 4 [(0, [], .pointer b_), (2, [], .int .i64 i), (5, [], .int .i64 i), (8, [], .pointer (some ⟨(pblk b_), (poff b_) + 8, none⟩))] ?_
   obtain ⟨v9, hc, h⟩ := h
   refine Zl 42 8 (pblk b_) ((poff b_) + 8) 42 9 hc ?_
   refine Zf P2 [(0, .pointer b_), (2, .int .i64 i), (11, .bool (decide (i < ((v9.len : Nat) : Int))))] ?_
   change WpE _ _ c57_9 _ _ _
   refine Zc 11 (decide (i < ((v9.len : Nat) : Int))) c57_10 c57_11 (fun hb => ?_) (fun hb => ?_)
   · replace h := h.1 hb
     exact h.elim
   · replace h := h.2 hb
     refine wpE_exit (id := 0) (by kernel_rfl) ?_
     repeat (first | refine seqQ_exit ?_ | refine loopQ_exit ?_ | refine cutQ_exit ?_ | refine blockQ_hit ?_ | refine blockQ_miss (by kernel_rfl) ?_)
     refine retQ_normal ?_
     repeat (first | refine seqQ_ret ?_ | refine blockQ_ret ?_ | refine loopQ_ret ?_ | refine cutQ_ret ?_)
     exact retT (rs := []) (vs := []) (by kernel_rfl) (trivial) (by kernel_rfl) ⟨rfl, h⟩
 · rintro e w' ⟨v, rfl, rfl, h⟩; exact ⟨rfl, h⟩

/-! ### (*towpath/towpathlaw01.Book).fillHeldList (function 58) -/
def c58_0 := cb_ Tryz.f58
def c58_3 := cr_ c58_0
def c58_4 := cl_ c58_3
def c58_5 := cl_ c58_4
def c58_6 := cl_ c58_5
def c58_7 := cl_ c58_6
def r58_7 := co_ c58_7
def c58_9 := cr_ c58_6
def c58_10 := cl_ c58_9
def c58_11 := cr_ c58_9
def c58_12 := cr_ c58_5

theorem S_towpathlaw01_Book_fillHeldList {b_ : Option Addr} {w : World} {R : World → Prop} (h : F_towpathlaw01_Book_fillHeldList b_ R w) : C_towpathlaw01_Book_fillHeldList b_ w R := by
 unfold F_towpathlaw01_Book_fillHeldList at h
 unfold C_towpathlaw01_Book_fillHeldList
 refine Calls.mono (calls_of_wpE (args := [Value.pointer b_]) (R := fun v w' => v = Value.tuple #[] ∧ R w') Tryz.func58 (c := c58_0) (by kernel_rfl) 35 (by kernel_rfl) (by kernel_rfl) [(0, Value.pointer b_)] (by kernel_rfl) ?_) ?_
 · refine Zp c58_3 P1 [(0, .pointer b_), (2, .int .i64 0)] ?_
   refine Zb 0 c58_4 ?_
   obtain ⟨I, μ, h0, hr⟩ := h
   refine wpE_loop (x := c58_5) (by kernel_rfl) (fun m l w => ∃ (i : Int), l = [(0, Value.pointer b_), (2, Value.int .i64 i)] ∧ I i w ∧ μ i w = m) (l' := [(0, Value.pointer b_), (2, Value.int .i64 0)]) (Sub.mk (by kernel_rfl)) ⟨0, rfl, h0, rfl⟩ ?_
   rintro _ _ w1 ⟨i, rfl, hI, rfl⟩
   obtain ⟨again_, again__h, h⟩ : ∃ again_ : Int → World → Prop, (∀ i' w', again_ i' w' → I i' w' ∧ μ i' w' < μ i w1) ∧ F_towpathlaw01_Book_fillHeldList_L0 b_ R again_ i w1 := ⟨_, fun _ _ h => h, hr i w1 hI⟩
   clear h0 hI
   unfold F_towpathlaw01_Book_fillHeldList_L0 at h
   refine Zs c58_6 c58_12 ?_
   refine Zt r58_7 c58_9 ?_
   refine Zn P2 2 [(0, [], .pointer b_), (2, [], .int .i64 i), (5, [], .int .i64 i), (6, [], .pointer b_)] ?_
   obtain ⟨hp_3, h⟩ := h
   refine Zv (fun pp => [(0, [], .pointer b_), (2, [], .int .i64 i), (5, [], .int .i64 i), (6, [], .pointer pp)]) hp_3 ?_
   refine Zn P1 3 [(0, [], .pointer b_), (2, [], .int .i64 i), (5, [], .int .i64 i), (6, [], .pointer (some ⟨(pblk b_), (poff b_), none⟩)), (7, [], .pointer (some ⟨(pblk b_), (poff b_), none⟩))] ?_
   refine Zn P1 4 [(0, [], .pointer b_), (2, [], .int .i64 i), (5, [], .int .i64 i), (8, [], .pointer (some ⟨(pblk b_), (poff b_) + 9, none⟩))] ?_
   obtain ⟨v9, hc, h⟩ := h
   refine Zl 43 8 (pblk b_) ((poff b_) + 9) 43 9 hc ?_
   refine Zf P2 [(0, .pointer b_), (2, .int .i64 i), (11, .bool (decide (i < ((v9.len : Nat) : Int))))] ?_
   change WpE _ _ c58_9 _ _ _
   refine Zc 11 (decide (i < ((v9.len : Nat) : Int))) c58_10 c58_11 (fun hb => ?_) (fun hb => ?_)
   · replace h := h.1 hb
     exact h.elim
   · replace h := h.2 hb
     refine wpE_exit (id := 0) (by kernel_rfl) ?_
     repeat (first | refine seqQ_exit ?_ | refine loopQ_exit ?_ | refine cutQ_exit ?_ | refine blockQ_hit ?_ | refine blockQ_miss (by kernel_rfl) ?_)
     refine retQ_normal ?_
     repeat (first | refine seqQ_ret ?_ | refine blockQ_ret ?_ | refine loopQ_ret ?_ | refine cutQ_ret ?_)
     exact retT (rs := []) (vs := []) (by kernel_rfl) (trivial) (by kernel_rfl) ⟨rfl, h⟩
 · rintro e w' ⟨v, rfl, rfl, h⟩; exact ⟨rfl, h⟩
end
end Go.Proofs.YtpdegdnigcnjiaaGreatDoor
