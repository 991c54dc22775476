/- WRITTEN BY PROGRAM (dec.py): for each Go function the clean formula F, the call's contract C, and the proof S that F gives C. -/
import Derived.Test.YtpedclhflmhakaaGreatDoorRows
import Derived.Test.YtpedclhflmhakaaGreatDoorGF
namespace Go.Proofs.YtpedclhflmhakaaGreatDoor
open Go
set_option linter.unusedVariables false
set_option maxRecDepth 100000
set_option maxHeartbeats 4000000
noncomputable section

/-! ### towpath/towpathlaw01.markHeld (function 98) -/

theorem S_towpathlaw01_markHeld {n_ : Int} {w : World} {R : T_api_Held → World → Prop} (h : F_towpathlaw01_markHeld n_ R w) : C_towpathlaw01_markHeld n_ w R := by
 unfold F_towpathlaw01_markHeld at h
 refine Yh Tryz.func98 ?_
 · refine Yt ?_
   refine Yw pv_ h fun b_ w1 h => ?_
   refine Yf [] [0, 2] ?_
   refine Yt ?_
   refine Yn P1 ?_
   refine Ym1 h fun v4 w2 h => ?_
   refine Yn P1 ?_
   refine Yo h fun w3 h => ?_
   refine Yf [] [2] ?_
   obtain ⟨res, hc_res, h⟩ := h
   exact YSg (rs := [(ResultVar.cell 2 125)]) (v := Value.agg #[Value.string res.Key, sv_ res.Versions]) (⟨b_, 0, [Value.string res.Key, sv_ res.Versions], by kernel_rfl, hc_res, (sizeP_of (k := 2) (by kernel_rfl) (by kernel_rfl)), .inl ⟨by kernel_rfl, rfl⟩, trivial⟩) ⟨res, rfl, h⟩

/-! ### towpath/towpathlaw01.isInt (function 103) -/

theorem S_towpathlaw01_isInt {x : Int} {n_ : Int} {w : World} {R : Bool → World → Prop} (h : F_towpathlaw01_isInt x n_ R w) : C_towpathlaw01_isInt x n_ w R := by
 unfold F_towpathlaw01_isInt at h
 refine Yh Tryz.func103 ?_
 · refine Yp P1 [0, 1] ?_
   refine Yp (Pl 5) [4] ?_
   exact YS ⟨(x == (IntKind.i64.wrap ((-1000) - n_))), rfl, h⟩

/-! ### towpath/towpathlaw01.isEntry (function 106) -/
def c106_0 := cb_ Tryz.f106
def c106_3 := cr_ c106_0
def c106_4 := cl_ c106_3
def r106_4 := co_ c106_4
def o_towpathlaw01_isEntry_4 : List Nat := [0, 1, 2, 3, 4, 5]

theorem S_towpathlaw01_isEntry {x : T_api_Entry} {n_ : Int} {w : World} {R : Bool → World → Prop} (h : F_towpathlaw01_isEntry x n_ R w) : C_towpathlaw01_isEntry x n_ w R := by
 unfold F_towpathlaw01_isEntry at h
 refine Yh Tryz.func106 ?_
 · refine Yt ?_
   refine Yw pv_ h fun b_ w1 h => ?_
   refine Yf P1 [1, 2] ?_
   refine Ys ?_
   refine wpE_mixregion (id := 1) (ops := r106_4) o_towpathlaw01_isEntry_4 (by kernel_rfl) (by kernel_rfl) (by kernel_rfl) (by kernel_rfl) (fun w2 hw => ?_)
   replace h := h w2 hw
   clear hw
   refine ML 0 h fun v5 hc h => ?_
   refine Mn P1 ?_
   refine mreg_enter (op := (Op.call (Call.mk (Callee.value (Operand.func 126)) #[(Operand.tmp 6)] #[3]))) (ty := 9) (dst := some 7) 2 [1] [(0, fun w' => CellsAt w' b_ 0 [Value.string v5.Key, Value.string v5.Val])] 126 #[Value.int .i64 n_] (by kernel_rfl) (by kernel_rfl) (by kernel_rfl) (by kernel_rfl) (by kernel_rfl) (fun ww => by kernel_rfl) (Calls.mono h ?_)
   rintro _ w3 ⟨v7, rfl, h⟩
   obtain ⟨hk0, h⟩ := h
   refine ⟨_, rfl, ⟨hk0, trivial⟩, ?_⟩
   refine Mn P1 ?_
   refine mreg_val (i := 4) (by kernel_rfl) (op := (Op.binOp BinOp.eql 131 (Operand.tmp 5) (Operand.tmp 8) 131)) (ty := 4) (dst := some 9) (Value.bool ((v5.Key == v7) && (v5.Val == ByteArray.empty))) (by kernel_rfl) (fun ww => run_struct_eql (xs := [Value.string v5.Key, Value.string v5.Val]) (ys := [Value.string v7, Value.string ByteArray.empty]) (by kernel_rfl) (by kernel_rfl) (by kernel_rfl) (by kernel_rfl) (by kernel_rfl) ww) ?_
   refine Mf P1 [4] ?_
   exact YS ⟨((v5.Key == v7) && (v5.Val == ByteArray.empty)), rfl, h⟩

/-! ### towpath/towpathlaw01.isVersion (function 107) -/

theorem S_towpathlaw01_isVersion {x : T_api_Version} {n_ : Int} {w : World} {R : Bool → World → Prop} (h : F_towpathlaw01_isVersion x n_ R w) : C_towpathlaw01_isVersion x n_ w R := by
 unfold F_towpathlaw01_isVersion at h
 refine Yh Tryz.func107 ?_
 · refine Yt ?_
   refine Yw pv_ h fun b_ w1 h => ?_
   refine Yf P1 [1, 2] ?_
   refine Yt ?_
   refine YL h fun v5 h => ?_
   refine Yn P3 ?_
   refine reg_val (op := (Op.binOp BinOp.eql 128 (Operand.tmp 5) (Operand.tmp 8) 128)) (ty := 4) (dst := some 9) (Value.bool (((v5.Number == (IntKind.i64.wrap ((-1000) - n_))) && (v5.Val == ByteArray.empty)) && (v5.Drop == false))) (by kernel_rfl) (fun ww => run_struct_eql (xs := [Value.int .i64 v5.Number, Value.string v5.Val, Value.bool v5.Drop]) (ys := [Value.int .i64 (IntKind.i64.wrap ((-1000) - n_)), Value.string ByteArray.empty, Value.bool false]) (by kernel_rfl) (by kernel_rfl) (by kernel_rfl) (by kernel_rfl) (by kernel_rfl) ww) ?_
   refine Yf P1 [4] ?_
   exact YS ⟨(((v5.Number == (IntKind.i64.wrap ((-1000) - n_))) && (v5.Val == ByteArray.empty)) && (v5.Drop == false)), rfl, h⟩

/-! ### towpath/towpathlaw01.isHeld (function 109) -/
def c109_0 := cb_ Tryz.f109
def c109_3 := cr_ c109_0
def c109_4 := cl_ c109_3
def r109_4 := co_ c109_4
def o_towpathlaw01_isHeld_4 : List Nat := [0, 1, 2, 3, 4, 5, 6, 7, 8, 9, 10, 11]

theorem S_towpathlaw01_isHeld {x : T_api_Held} {n_ : Int} {w : World} {R : Bool → World → Prop} (h : F_towpathlaw01_isHeld x n_ R w) : C_towpathlaw01_isHeld x n_ w R := by
 unfold F_towpathlaw01_isHeld at h
 refine Yh Tryz.func109 ?_
 · refine Yt ?_
   refine Yw pv_ h fun b_ w1 h => ?_
   refine Yf P1 [1, 2] ?_
   refine Ys ?_
   refine wpE_mixregion (id := 1) (ops := r109_4) o_towpathlaw01_isHeld_4 (by kernel_rfl) (by kernel_rfl) (by kernel_rfl) (by kernel_rfl) (fun w2 hw => ?_)
   replace h := h w2 hw
   clear hw
   refine Mn P1 ?_
   refine Ml 1 h fun v6 hc h => ?_
   refine Mn P1 ?_
   refine mreg_enter (op := (Op.call (Call.mk (Callee.value (Operand.func 126)) #[(Operand.tmp 7)] #[3]))) (ty := 9) (dst := some 8) 3 [2] [(1, fun w' => w'.cell? ⟨b_, 0, none⟩ = some (Value.string v6))] 126 #[Value.int .i64 n_] (by kernel_rfl) (by kernel_rfl) (by kernel_rfl) (by kernel_rfl) (by kernel_rfl) (fun ww => by kernel_rfl) (Calls.mono h ?_)
   rintro _ w3 ⟨v8, rfl, h⟩
   obtain ⟨hk0, h⟩ := h
   refine ⟨_, rfl, ⟨hk0, trivial⟩, ?_⟩
   refine Mn P3 ?_
   refine Mspl 10 h (fun h => ?_) fun h => ?_
   · refine Ml 7 h fun v12 hc h => ?_
     refine Mf [.sure, .sure, .plain, .plain] [4] ?_
     exact YS ⟨(((v12.len : Nat) : Int) == 0), rfl, h⟩
   · refine Mf [.skip, .skip, .skip, .plain, .plain] [4] ?_
     exact YS ⟨false, rfl, h⟩

/-! ### towpath/towpathlaw01.TwinHeld (function 115) -/
def c115_0 := cb_ Tryz.f115
def c115_3 := cr_ c115_0
def c115_4 := cl_ c115_3
def r115_4 := co_ c115_4
def o_towpathlaw01_TwinHeld_4 : List Nat := [0, 1, 2, 3, 4, 5, 6]

theorem S_towpathlaw01_TwinHeld {x : T_api_Held} {w : World} {R : T_api_Held → World → Prop} (h : F_towpathlaw01_TwinHeld x R w) : C_towpathlaw01_TwinHeld x w R := by
 unfold F_towpathlaw01_TwinHeld at h
 refine Yh Tryz.func115 ?_
 · refine Yt ?_
   refine Yw pv_ h fun b_ w1 h => ?_
   refine Yw pv_ h fun b_1 w2 h => ?_
   refine Yf [] [1, 2] ?_
   refine Ys ?_
   refine wpE_mixregion (id := 1) (ops := r115_4) o_towpathlaw01_TwinHeld_4 (by kernel_rfl) (by kernel_rfl) (by kernel_rfl) (by kernel_rfl) (fun w3 hw => ?_)
   replace h := h w3 hw
   clear hw
   refine Mn P1 ?_
   refine Ml 1 h fun v4 hc h => ?_
   refine Mn P1 ?_
   refine Ml 3 h fun v6 hc h => ?_
   refine mreg_enter (op := (Op.call (Call.mk (Callee.value (Operand.func 128)) #[(Operand.tmp 6)] #[123]))) (ty := 123) (dst := some 7) 4 [3, 2] [(1, fun w' => w'.cell? ⟨b_, 0, none⟩ = some (Value.string v4))] 128 #[sv_ v6] (by kernel_rfl) (by kernel_rfl) (by kernel_rfl) (by kernel_rfl) (by kernel_rfl) (fun ww => by kernel_rfl) (Calls.mono h ?_)
   rintro _ w4 ⟨v7, rfl, h⟩
   obtain ⟨hk0, h⟩ := h
   refine ⟨_, rfl, ⟨hk0, trivial⟩, ?_⟩
   refine Mn P1 ?_
   refine Mstore 6 [0, 1, 2, 3, 4, 5] [] h fun w5 h => ?_
   refine ⟨trivial, ?_⟩
   refine Mf [] [2] ?_
   obtain ⟨res, hc_res, h⟩ := h
   exact YSg (rs := [(ResultVar.cell 2 125)]) (v := Value.agg #[Value.string res.Key, sv_ res.Versions]) (⟨b_1, 0, [Value.string res.Key, sv_ res.Versions], by kernel_rfl, hc_res, (sizeP_of (k := 2) (by kernel_rfl) (by kernel_rfl)), .inl ⟨by kernel_rfl, rfl⟩, trivial⟩) ⟨res, rfl, h⟩

/-! ### (*towpath/towpathlaw01.Book).keepInt (function 121) -/
def c121_0 := cb_ Tryz.f121
def c121_3 := cr_ c121_0
def r121_3 := co_ c121_3
def o_towpathlaw01_Book_keepInt_3 : List Nat := [0, 1, 2, 3, 4, 5, 6, 7, 8, 9, 10, 11, 12, 13, 14, 15]

theorem S_towpathlaw01_Book_keepInt {b_ : Option Addr} {l_ : Slc} {w : World} {R : World → Prop} (h : F_towpathlaw01_Book_keepInt b_ l_ R w) : C_towpathlaw01_Book_keepInt b_ l_ w R := by
 unfold F_towpathlaw01_Book_keepInt at h
 refine Yh Tryz.func121 ?_
 · refine Yt ?_
   refine Yn P1 ?_
   refine Yv 4 h fun hp_1 h => ?_
   refine Yn P1 ?_
   refine Yn P1 ?_
   refine Yl h fun v7 h => ?_
   refine Yn P3 ?_
   refine Yo h fun w1 h => ?_
   refine Yf [] [0, 1] ?_
   refine wpE_mixregion (id := 1) (ops := r121_3) o_towpathlaw01_Book_keepInt_3 (by kernel_rfl) (by kernel_rfl) (by kernel_rfl) (by kernel_rfl) (fun w2 hw => ?_)
   replace h := h w2 hw
   clear hw
   refine Mn P2 ?_
   refine Mv 12 h fun hp_2 h => ?_
   refine Mn P1 ?_
   refine Mn P1 ?_
   refine Ml 4 h fun v15 hc h => ?_
   refine Mn P2 ?_
   refine Mv 17 h fun hp_3 h => ?_
   refine Mn P1 ?_
   refine Mn P1 ?_
   refine Ml 9 h fun v20 hc h => ?_
   refine Mn P1 ?_
   refine mreg_new (op := (Op.buildSlice 24 1 #[(0, (Operand.tmp 21))])) (ty := 24) (dst := some 22) 11 [10, 5, 9, 8, 7, 6] [(4, fun w' => w'.cell? ⟨(pblk b_), (poff b_) + 2, none⟩ = some (sv_ v15))] (fun bb => Value.slice (some ⟨bb, 0, none⟩) 1 1) (Obj.cells ([sv_ l_, Value.slice none 0 0, Value.int .i64 v20]).toArray ty_towpathlaw01_heldInt (0, 0)) (by kernel_rfl) (by kernel_rfl) (by kernel_rfl) (by kernel_rfl) (by kernel_rfl) (by kernel_rfl) (fun b_1 w3 hb hw => ?_)
   replace h := h b_1 w3 hb hw
   clear hb hw
   obtain ⟨hk0, h⟩ := h
   refine ⟨⟨hk0, trivial⟩, ?_⟩
   obtain ⟨src, hs, h⟩ := h
   refine mreg_append (t := 24) (tx := 24) (e := 149) (a := (Operand.tmp 15)) (xo := (Operand.tmp 22)) (s := v15) (x := (Slc.mk (some ⟨b_1, 0, none⟩) 1 1)) (sz := 3) (by_ := 56) (zs := [Value.slice none 0 0, Value.slice none 0 0, Value.int .i64 0]) (ty := 24) (dst := some 23) 12 [4, 11, 3, 10, 2, 5, 9, 1, 8, 7, 6] [] src (by kernel_rfl) (by kernel_rfl) (by kernel_rfl) (by kernel_rfl) (by kernel_rfl) (by kernel_rfl) (by kernel_rfl) (by kernel_rfl) (by kernel_rfl) (by kernel_rfl) (by kernel_rfl) (by kernel_rfl) (by kernel_rfl) hs (AppendW.mono h (fun v23 w4 h => ?_))
   refine ⟨trivial, ?_⟩
   refine Mv 11 h fun hp_4 h => ?_
   refine Mn P1 ?_
   refine Mn P1 ?_
   refine Mstore 15 [0, 1, 2, 3, 4, 5, 6, 7, 8, 9, 10, 11, 12, 14, 13] [] h fun w5 h => ?_
   refine ⟨trivial, ?_⟩
   refine Mf [] [] ?_
   repeat (first | refine seqQ_exit ?_ | refine loopQ_exit ?_ | refine cutQ_exit ?_ | refine blockQ_hit ?_ | refine blockQ_miss (by kernel_rfl) ?_)
   refine retQ_normal ?_
   repeat (first | refine seqQ_ret ?_ | refine blockQ_ret ?_ | refine loopQ_ret ?_ | refine cutQ_ret ?_)
   exact retT (rs := []) (vs := []) (by kernel_rfl) (trivial) (by kernel_rfl) ⟨rfl, h⟩

/-! ### (*towpath/towpathlaw01.Book).keepEntry (function 122) -/
def c122_0 := cb_ Tryz.f122
def c122_3 := cr_ c122_0
def r122_3 := co_ c122_3
def o_towpathlaw01_Book_keepEntry_3 : List Nat := [0, 1, 2, 3, 4, 5, 6, 7, 8, 9, 10, 11, 12, 13, 14, 15]

theorem S_towpathlaw01_Book_keepEntry {b_ : Option Addr} {l_ : Slc} {w : World} {R : World → Prop} (h : F_towpathlaw01_Book_keepEntry b_ l_ R w) : C_towpathlaw01_Book_keepEntry b_ l_ w R := by
 unfold F_towpathlaw01_Book_keepEntry at h
 refine Yh Tryz.func122 ?_
 · refine Yt ?_
   refine Yn P1 ?_
   refine Yv 4 h fun hp_1 h => ?_
   refine Yn P1 ?_
   refine Yn P1 ?_
   refine Yl h fun v7 h => ?_
   refine Yn P3 ?_
   refine Yo h fun w1 h => ?_
   refine Yf [] [0, 1] ?_
   refine wpE_mixregion (id := 1) (ops := r122_3) o_towpathlaw01_Book_keepEntry_3 (by kernel_rfl) (by kernel_rfl) (by kernel_rfl) (by kernel_rfl) (fun w2 hw => ?_)
   replace h := h w2 hw
   clear hw
   refine Mn P2 ?_
   refine Mv 12 h fun hp_2 h => ?_
   refine Mn P1 ?_
   refine Mn P1 ?_
   refine Ml 4 h fun v15 hc h => ?_
   refine Mn P2 ?_
   refine Mv 17 h fun hp_3 h => ?_
   refine Mn P1 ?_
   refine Mn P1 ?_
   refine Ml 9 h fun v20 hc h => ?_
   refine Mn P1 ?_
   refine mreg_new (op := (Op.buildSlice 27 1 #[(0, (Operand.tmp 21))])) (ty := 27) (dst := some 22) 11 [10, 5, 9, 8, 7, 6] [(4, fun w' => w'.cell? ⟨(pblk b_), (poff b_) + 5, none⟩ = some (sv_ v15))] (fun bb => Value.slice (some ⟨bb, 0, none⟩) 1 1) (Obj.cells ([sv_ l_, Value.slice none 0 0, Value.int .i64 v20]).toArray ty_towpathlaw01_heldEntry (0, 0)) (by kernel_rfl) (by kernel_rfl) (by kernel_rfl) (by kernel_rfl) (by kernel_rfl) (by kernel_rfl) (fun b_1 w3 hb hw => ?_)
   replace h := h b_1 w3 hb hw
   clear hb hw
   obtain ⟨hk0, h⟩ := h
   refine ⟨⟨hk0, trivial⟩, ?_⟩
   obtain ⟨src, hs, h⟩ := h
   refine mreg_append (t := 27) (tx := 27) (e := 159) (a := (Operand.tmp 15)) (xo := (Operand.tmp 22)) (s := v15) (x := (Slc.mk (some ⟨b_1, 0, none⟩) 1 1)) (sz := 3) (by_ := 56) (zs := [Value.slice none 0 0, Value.slice none 0 0, Value.int .i64 0]) (ty := 27) (dst := some 23) 12 [4, 11, 3, 10, 2, 5, 9, 1, 8, 7, 6] [] src (by kernel_rfl) (by kernel_rfl) (by kernel_rfl) (by kernel_rfl) (by kernel_rfl) (by kernel_rfl) (by kernel_rfl) (by kernel_rfl) (by kernel_rfl) (by kernel_rfl) (by kernel_rfl) (by kernel_rfl) (by kernel_rfl) hs (AppendW.mono h (fun v23 w4 h => ?_))
   refine ⟨trivial, ?_⟩
   refine Mv 11 h fun hp_4 h => ?_
   refine Mn P1 ?_
   refine Mn P1 ?_
   refine Mstore 15 [0, 1, 2, 3, 4, 5, 6, 7, 8, 9, 10, 11, 12, 14, 13] [] h fun w5 h => ?_
   refine ⟨trivial, ?_⟩
   refine Mf [] [] ?_
   repeat (first | refine seqQ_exit ?_ | refine loopQ_exit ?_ | refine cutQ_exit ?_ | refine blockQ_hit ?_ | refine blockQ_miss (by kernel_rfl) ?_)
   refine retQ_normal ?_
   repeat (first | refine seqQ_ret ?_ | refine blockQ_ret ?_ | refine loopQ_ret ?_ | refine cutQ_ret ?_)
   exact retT (rs := []) (vs := []) (by kernel_rfl) (trivial) (by kernel_rfl) ⟨rfl, h⟩

/-! ### (*towpath/towpathlaw01.Book).keepVersion (function 123) -/
def c123_0 := cb_ Tryz.f123
def c123_3 := cr_ c123_0
def r123_3 := co_ c123_3
def o_towpathlaw01_Book_keepVersion_3 : List Nat := [0, 1, 2, 3, 4, 5, 6, 7, 8, 9, 10, 11, 12, 13, 14, 15]

theorem S_towpathlaw01_Book_keepVersion {b_ : Option Addr} {l_ : Slc} {w : World} {R : World → Prop} (h : F_towpathlaw01_Book_keepVersion b_ l_ R w) : C_towpathlaw01_Book_keepVersion b_ l_ w R := by
 unfold F_towpathlaw01_Book_keepVersion at h
 refine Yh Tryz.func123 ?_
 · refine Yt ?_
   refine Yn P1 ?_
   refine Yv 4 h fun hp_1 h => ?_
   refine Yn P1 ?_
   refine Yn P1 ?_
   refine Yl h fun v7 h => ?_
   refine Yn P3 ?_
   refine Yo h fun w1 h => ?_
   refine Yf [] [0, 1] ?_
   refine wpE_mixregion (id := 1) (ops := r123_3) o_towpathlaw01_Book_keepVersion_3 (by kernel_rfl) (by kernel_rfl) (by kernel_rfl) (by kernel_rfl) (fun w2 hw => ?_)
   replace h := h w2 hw
   clear hw
   refine Mn P2 ?_
   refine Mv 12 h fun hp_2 h => ?_
   refine Mn P1 ?_
   refine Mn P1 ?_
   refine Ml 4 h fun v15 hc h => ?_
   refine Mn P2 ?_
   refine Mv 17 h fun hp_3 h => ?_
   refine Mn P1 ?_
   refine Mn P1 ?_
   refine Ml 9 h fun v20 hc h => ?_
   refine Mn P1 ?_
   refine mreg_new (op := (Op.buildSlice 28 1 #[(0, (Operand.tmp 21))])) (ty := 28) (dst := some 22) 11 [10, 5, 9, 8, 7, 6] [(4, fun w' => w'.cell? ⟨(pblk b_), (poff b_) + 6, none⟩ = some (sv_ v15))] (fun bb => Value.slice (some ⟨bb, 0, none⟩) 1 1) (Obj.cells ([sv_ l_, Value.slice none 0 0, Value.int .i64 v20]).toArray ty_towpathlaw01_heldVersion (0, 0)) (by kernel_rfl) (by kernel_rfl) (by kernel_rfl) (by kernel_rfl) (by kernel_rfl) (by kernel_rfl) (fun b_1 w3 hb hw => ?_)
   replace h := h b_1 w3 hb hw
   clear hb hw
   obtain ⟨hk0, h⟩ := h
   refine ⟨⟨hk0, trivial⟩, ?_⟩
   obtain ⟨src, hs, h⟩ := h
   refine mreg_append (t := 28) (tx := 28) (e := 162) (a := (Operand.tmp 15)) (xo := (Operand.tmp 22)) (s := v15) (x := (Slc.mk (some ⟨b_1, 0, none⟩) 1 1)) (sz := 3) (by_ := 56) (zs := [Value.slice none 0 0, Value.slice none 0 0, Value.int .i64 0]) (ty := 28) (dst := some 23) 12 [4, 11, 3, 10, 2, 5, 9, 1, 8, 7, 6] [] src (by kernel_rfl) (by kernel_rfl) (by kernel_rfl) (by kernel_rfl) (by kernel_rfl) (by kernel_rfl) (by kernel_rfl) (by kernel_rfl) (by kernel_rfl) (by kernel_rfl) (by kernel_rfl) (by kernel_rfl) (by kernel_rfl) hs (AppendW.mono h (fun v23 w4 h => ?_))
   refine ⟨trivial, ?_⟩
   refine Mv 11 h fun hp_4 h => ?_
   refine Mn P1 ?_
   refine Mn P1 ?_
   refine Mstore 15 [0, 1, 2, 3, 4, 5, 6, 7, 8, 9, 10, 11, 12, 14, 13] [] h fun w5 h => ?_
   refine ⟨trivial, ?_⟩
   refine Mf [] [] ?_
   repeat (first | refine seqQ_exit ?_ | refine loopQ_exit ?_ | refine cutQ_exit ?_ | refine blockQ_hit ?_ | refine blockQ_miss (by kernel_rfl) ?_)
   refine retQ_normal ?_
   repeat (first | refine seqQ_ret ?_ | refine blockQ_ret ?_ | refine loopQ_ret ?_ | refine cutQ_ret ?_)
   exact retT (rs := []) (vs := []) (by kernel_rfl) (trivial) (by kernel_rfl) ⟨rfl, h⟩

/-! ### towpath/towpathlaw01.word (function 126) -/

theorem S_towpathlaw01_word {n_ : Int} {w : World} {R : ByteArray → World → Prop} (h : F_towpathlaw01_word n_ R w) : C_towpathlaw01_word n_ w R := by
 unfold F_towpathlaw01_word at h
 refine Yh Tryz.func126 ?_
 · refine Yp P1 [0] ?_
   refine Yt ?_
   refine Yn P1 ?_
   refine Ym1 h fun v4 w1 h => ?_
   obtain ⟨h0, h⟩ := h
   refine reg_val (op := (Op.binOp BinOp.add 9 (Operand.const (Value.string (ByteArray.mk #[35]))) (Operand.tmp 4) 9)) (ty := 9) (dst := some 5) (Value.string ((ByteArray.mk #[35]) ++ v4)) (by kernel_rfl) (fun ww => run_stradd (by kernel_rfl) (by kernel_rfl) h0 ww) ?_
   refine Yf P1 [2] ?_
   exact YS ⟨((ByteArray.mk #[35]) ++ v4), rfl, h⟩

/-! ### towpath/towpathlaw01.TwinVersions (function 128) -/

theorem S_towpathlaw01_TwinVersions {l_ : Slc} {w : World} {R : Slc → World → Prop} (h : F_towpathlaw01_TwinVersions l_ R w) : C_towpathlaw01_TwinVersions l_ w R := by
 unfold F_towpathlaw01_TwinVersions at h
 refine Yh Tryz.func128 ?_
 · refine Yp P1 [0] ?_
   refine Yt ?_
   refine Yn P3 ?_
   obtain ⟨h0, h1, h2, h⟩ := h
   refine reg_makeSlice (t := 123) (e := 128) (lo := (Operand.const (Value.int IntKind.i64 0))) (co := (Operand.tmp 7)) (l := 0) (c := (IntKind.i64.wrap (((l_.len : Nat) : Int) + 1))) (sz := 3) (by_ := 32) (zs := [Value.int .i64 0, Value.string ByteArray.empty, Value.bool false]) (ty := 123) (dst := some 8) (by kernel_rfl) (by kernel_rfl) (by kernel_rfl) (by kernel_rfl) (by kernel_rfl) (by kernel_rfl) (by kernel_rfl) (by kernel_rfl) (by kernel_rfl) h0 h1 h2 (fun b_ w1 hb hw => ?_)
   replace h := h b_ w1 hb hw
   clear hb hw
   refine Yf P1 [0, 3] ?_
   refine Ys ?_
   refine Yp P1 [0, 3, 4] ?_
   refine Yd 0 ?_
   obtain ⟨I, μ, h0, hr⟩ := h
   refine Yloop (fun m l w => ∃ (t_ : Slc) (i : Int), l = [(0, sv_ l_), (3, sv_ t_), (4, Value.int .i64 i)] ∧ I t_ i w ∧ μ t_ i w = m) ⟨(Slc.mk (some ⟨b_, 0, none⟩) 0 ((IntKind.i64.wrap (((l_.len : Nat) : Int) + 1)).toNat)), 0, rfl, h0, rfl⟩ ?_
   rintro _ _ w2 ⟨t_, i, rfl, hI, rfl⟩
   obtain ⟨again_, again__h, h⟩ : ∃ again_ : Slc → Int → World → Prop, (∀ t_' i' w', again_ t_' i' w' → I t_' i' w' ∧ μ t_' i' w' < μ t_ i w2) ∧ F_towpathlaw01_TwinVersions_L0 l_ R again_ t_ i w2 := ⟨_, fun _ _ _ h => h, hr t_ i w2 hI⟩
   clear h0 hI
   unfold F_towpathlaw01_TwinVersions_L0 at h
   refine Ys ?_
   refine Yp P4 [0, 3, 4, 12] ?_
   refine Yc h (fun h => ?_) fun h => ?_
   · refine Yskip ?_
     refine Ys ?_
     refine Yd 1 ?_
     refine Yr ?_
     refine Yn P3 ?_
     obtain ⟨hp_3, h⟩ := h
     refine Yu 16 (fun pp => .slice pp l_.len l_.cap) hp_3 ?_
     refine Yi h fun h => ?_
     refine YL h fun v19 h => ?_
     refine Yw (sl_ 1 1) h fun b_1 w3 h => ?_
     obtain ⟨src, hs, h⟩ := h
     refine reg_append (t := 123) (tx := 123) (e := 128) (a := (Operand.tmp 15)) (xo := (Operand.tmp 20)) (s := t_) (x := (Slc.mk (some ⟨b_1, 0, none⟩) 1 1)) (sz := 3) (by_ := 32) (zs := [Value.int .i64 0, Value.string ByteArray.empty, Value.bool false]) (ty := 123) (dst := some 21)  src (by kernel_rfl) (by kernel_rfl) (by kernel_rfl) (by kernel_rfl) (by kernel_rfl) (by kernel_rfl) (by kernel_rfl) (by kernel_rfl) (by kernel_rfl) hs (AppendW.mono h (fun t_1 w4 h => ?_))
     refine Yf P1 [0, 3, 4] ?_
     refine Yr ?_
     refine Yf P3 [0, 3, 4] ?_
     have hb_ := again__h _ _ _ h
     exact ⟨_, hb_.2, _, Sub.mk (by kernel_rfl), t_1, (IntKind.i64.wrap (i + 1)), rfl, hb_.1, rfl⟩
   · refine Yexit 0 ?_
     refine Yt ?_
     refine Yn P2 ?_
     refine Yw (sl_ 1 1) h fun b_2 w5 h => ?_
     obtain ⟨src, hs, h⟩ := h
     refine reg_append (t := 123) (tx := 123) (e := 128) (a := (Operand.tmp 22)) (xo := (Operand.tmp 24)) (s := t_) (x := (Slc.mk (some ⟨b_2, 0, none⟩) 1 1)) (sz := 3) (by_ := 32) (zs := [Value.int .i64 0, Value.string ByteArray.empty, Value.bool false]) (ty := 123) (dst := some 25)  src (by kernel_rfl) (by kernel_rfl) (by kernel_rfl) (by kernel_rfl) (by kernel_rfl) (by kernel_rfl) (by kernel_rfl) (by kernel_rfl) (by kernel_rfl) hs (AppendW.mono h (fun v25 w6 h => ?_))
     refine Yn P2 ?_
     obtain ⟨h0, h1, h⟩ := h
     refine reg_sliceHi (t := 123) (e := 128) (x := (Operand.tmp 25)) (hi := (Operand.tmp 27)) (p := v25.ptr) (l := v25.len) (c := v25.cap) (sz := 3) (k := .i64) (j := ((l_.len : Nat) : Int)) (ty := 123) (dst := some 28) (by kernel_rfl) (by kernel_rfl) (by kernel_rfl) (by kernel_rfl) (by kernel_rfl) h0 h1 ?_
     refine Yf P1 [2] ?_
     exact YS ⟨(Slc.mk v25.ptr (((l_.len : Nat) : Int).toNat) v25.cap), rfl, h⟩
end
end Go.Proofs.YtpedclhflmhakaaGreatDoor
