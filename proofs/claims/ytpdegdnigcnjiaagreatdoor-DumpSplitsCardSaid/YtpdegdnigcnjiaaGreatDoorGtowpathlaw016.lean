/- WRITTEN BY PROGRAM (dec.py): for each Go function the clean formula F, the call's contract C, and the proof S that F gives C. -/
import Derived.Test.YtpdegdnigcnjiaaGreatDoorRows
import Derived.Test.YtpdegdnigcnjiaaGreatDoorGF
namespace Go.Proofs.YtpdegdnigcnjiaaGreatDoor
open Go
set_option linter.unusedVariables false
set_option maxRecDepth 100000
set_option maxHeartbeats 4000000
noncomputable section

/-! ### towpath/towpathlaw01.VersionsSize (function 148) -/

theorem S_towpathlaw01_VersionsSize {l_ : Slc} {w : World} {R : Int → World → Prop} (h : F_towpathlaw01_VersionsSize l_ R w) : C_towpathlaw01_VersionsSize l_ w R := by
 unfold F_towpathlaw01_VersionsSize at h
 refine Yh Tryz.func148 ?_
 · refine Yp P1 [0] ?_
   refine Yp P3 [0, 3] ?_
   refine Ys ?_
   refine Yp P1 [0, 3, 4] ?_
   refine Yd 0 ?_
   obtain ⟨I, μ, h0, hr⟩ := h
   refine Yloop (fun m l w => ∃ (n_ : Int) (i : Int), l = [(0, sv_ l_), (3, Value.int .i64 n_), (4, Value.int .i64 i)] ∧ I n_ i w ∧ μ n_ i w = m) ⟨((l_.len : Nat) : Int), 0, rfl, h0, rfl⟩ ?_
   rintro _ _ w1 ⟨n_, i, rfl, hI, rfl⟩
   obtain ⟨again_, again__h, h⟩ : ∃ again_ : Int → Int → World → Prop, (∀ n_' i' w', again_ n_' i' w' → I n_' i' w' ∧ μ n_' i' w' < μ n_ i w1) ∧ F_towpathlaw01_VersionsSize_L0 l_ R again_ n_ i w1 := ⟨_, fun _ _ _ h => h, hr n_ i w1 hI⟩
   clear h0 hI
   unfold F_towpathlaw01_VersionsSize_L0 at h
   refine Ys ?_
   refine Yp [.plain, .plain, .plain, .plain, .plain, .plain, .plain, .pick] [0, 3, 4, 14] ?_
   refine Yc h (fun h => ?_) fun h => ?_
   · refine Yskip ?_
     refine Ys ?_
     refine Yd 1 ?_
     refine Yr ?_
     refine Yn P3 ?_
     obtain ⟨hp_3, h⟩ := h
     refine Yu 18 (fun pp => .slice pp l_.len l_.cap) hp_3 ?_
     refine Yi h fun h => ?_
     refine Yn P1 ?_
     refine Yl h fun v22 h => ?_
     refine Yf P3 [0, 3, 4] ?_
     refine Yr ?_
     refine Yf P3 [0, 3, 4] ?_
     have hb_ := again__h _ _ _ h
     exact ⟨_, hb_.2, _, Sub.mk (by kernel_rfl), (IntKind.i64.wrap (n_ + ((v22.size : Nat) : Int))), (IntKind.i64.wrap (i + 1)), rfl, hb_.1, rfl⟩
   · refine Yexit 0 ?_
     refine Yp P2 [2] ?_
     exact YS ⟨n_, rfl, h⟩

/-! ### towpath/towpathlaw01.TwinHeld (function 149) -/
def c149_0 := cb_ Tryz.f149
def c149_3 := cr_ c149_0
def c149_4 := cl_ c149_3
def r149_4 := co_ c149_4
def o_towpathlaw01_TwinHeld_4 : List Nat := [0, 1, 2, 3, 4, 5, 6]

theorem S_towpathlaw01_TwinHeld {x : T_api_Held} {w : World} {R : T_api_Held → World → Prop} (h : F_towpathlaw01_TwinHeld x R w) : C_towpathlaw01_TwinHeld x w R := by
 unfold F_towpathlaw01_TwinHeld at h
 refine Yh Tryz.func149 ?_
 · refine Yt ?_
   refine Yw pv_ h fun b_ w1 h => ?_
   refine Yw pv_ h fun b_1 w2 h => ?_
   refine Yf [] [1, 2] ?_
   refine Ys ?_
   refine wpE_mixregion (id := 1) (ops := r149_4) o_towpathlaw01_TwinHeld_4 (by kernel_rfl) (by kernel_rfl) (by kernel_rfl) (by kernel_rfl) (fun w3 hw => ?_)
   replace h := h w3 hw
   clear hw
   refine Mn P1 ?_
   refine Ml 1 h fun v4 hc h => ?_
   refine Mn P1 ?_
   refine Ml 3 h fun v6 hc h => ?_
   refine mreg_enter (op := (Op.call (Call.mk (Callee.value (Operand.func 187)) #[(Operand.tmp 6)] #[102]))) (ty := 102) (dst := some 7) 4 [3, 2] [(1, fun w' => w'.cell? ⟨b_, 0, none⟩ = some (Value.string v4))] 187 #[sv_ v6] (by kernel_rfl) (by kernel_rfl) (by kernel_rfl) (by kernel_rfl) (by kernel_rfl) (fun ww => by kernel_rfl) (Calls.mono h ?_)
   rintro _ w4 ⟨v7, rfl, h⟩
   obtain ⟨hk0, h⟩ := h
   refine ⟨_, rfl, ⟨hk0, trivial⟩, ?_⟩
   refine Mn P1 ?_
   refine Mstore 6 [0, 1, 2, 3, 4, 5] [] h fun w5 h => ?_
   refine ⟨trivial, ?_⟩
   refine Mf [] [2] ?_
   obtain ⟨res, hc_res, h⟩ := h
   exact YSg (rs := [(ResultVar.cell 2 104)]) (v := Value.agg #[Value.string res.Key, sv_ res.Versions]) (⟨b_1, 0, [Value.string res.Key, sv_ res.Versions], by kernel_rfl, hc_res, (sizeP_of (k := 2) (by kernel_rfl) (by kernel_rfl)), .inl ⟨by kernel_rfl, rfl⟩, trivial⟩) ⟨res, rfl, h⟩

/-! ### towpath/towpathlaw01.SameHeld (function 159) -/

theorem S_towpathlaw01_SameHeld {a_ : T_api_Held} {b_ : T_api_Held} {w : World} {R : Bool → World → Prop} (h : F_towpathlaw01_SameHeld a_ b_ R w) : C_towpathlaw01_SameHeld a_ b_ w R := by
 unfold F_towpathlaw01_SameHeld at h
 refine Yh Tryz.func159 ?_
 · refine Yt ?_
   refine Yw pv_ h fun b_1 w1 h => ?_
   refine Yw pv_ h fun b_2 w2 h => ?_
   refine Yf P1 [2, 3] ?_
   refine Yt ?_
   refine Yn P1 ?_
   refine Yl h fun v6 h => ?_
   refine Yn P1 ?_
   refine Yl h fun v8 h => ?_
   refine Yn P3 ?_
   refine Yspl 10 h (fun h => ?_) fun h => ?_
   · refine Yl h fun v12 h => ?_
     refine Yn [.sure] ?_
     refine Yl h fun v14 h => ?_
     refine Ym1 h fun v15 w3 h => ?_
     refine Yf P2 [4] ?_
     exact YS ⟨v15, rfl, h⟩
   · refine Yf [.skip, .skip, .skip, .skip, .plain, .plain] [4] ?_
     exact YS ⟨false, rfl, h⟩

/-! ### towpath/towpathlaw01.LeftHeld (function 160) -/

theorem S_towpathlaw01_LeftHeld {t_ : T_api_Held} {x : T_api_Held} {w : World} {R : Bool → World → Prop} (h : F_towpathlaw01_LeftHeld t_ x R w) : C_towpathlaw01_LeftHeld t_ x w R := by
 unfold F_towpathlaw01_LeftHeld at h
 refine Yh Tryz.func160 ?_
 · refine Yt ?_
   refine Yw pv_ h fun b_ w1 h => ?_
   refine Yw pv_ h fun b_1 w2 h => ?_
   refine Yf P1 [2, 3] ?_
   refine Yt ?_
   refine Yn P1 ?_
   refine Yl h fun v6 h => ?_
   refine Yn P1 ?_
   refine Yl h fun v8 h => ?_
   refine Yn P3 ?_
   refine Yspl 10 h (fun h => ?_) fun h => ?_
   · refine Yl h fun v12 h => ?_
     refine Yn [.sure] ?_
     refine Yl h fun v14 h => ?_
     refine Ym1 h fun v15 w3 h => ?_
     refine Yf P2 [4] ?_
     exact YS ⟨v15, rfl, h⟩
   · refine Yf [.skip, .skip, .skip, .skip, .plain, .plain] [4] ?_
     exact YS ⟨false, rfl, h⟩

/-! ### (*towpath/towpathlaw01.Book).Versions (function 161) -/

theorem S_towpathlaw01_Book_Versions {b_ : Option Addr} {l_ : Slc} {w : World} {R : World → Prop} (h : F_towpathlaw01_Book_Versions b_ l_ R w) : C_towpathlaw01_Book_Versions b_ l_ w R := by
 unfold F_towpathlaw01_Book_Versions at h
 refine Yh Tryz.func161 ?_
 · refine Yr ?_
   refine Yn P2 ?_
   refine Ym0 h fun w1 h => ?_
   refine Yf [] [] ?_
   repeat (first | refine seqQ_exit ?_ | refine loopQ_exit ?_ | refine cutQ_exit ?_ | refine blockQ_hit ?_ | refine blockQ_miss (by kernel_rfl) ?_)
   refine retQ_normal ?_
   repeat (first | refine seqQ_ret ?_ | refine blockQ_ret ?_ | refine loopQ_ret ?_ | refine cutQ_ret ?_)
   exact retT (rs := []) (vs := []) (by kernel_rfl) (trivial) (by kernel_rfl) ⟨rfl, h⟩

/-! ### (*towpath/towpathlaw01.Book).keepHeld (function 162) -/
def c162_0 := cb_ Tryz.f162
def c162_3 := cr_ c162_0
def r162_3 := co_ c162_3
def o_towpathlaw01_Book_keepHeld_3 : List Nat := [0, 1, 2, 3, 4, 5, 6, 7, 8, 9, 10, 11, 12, 13, 14, 15]

theorem S_towpathlaw01_Book_keepHeld {b_ : Option Addr} {l_ : Slc} {w : World} {R : World → Prop} (h : F_towpathlaw01_Book_keepHeld b_ l_ R w) : C_towpathlaw01_Book_keepHeld b_ l_ w R := by
 unfold F_towpathlaw01_Book_keepHeld at h
 refine Yh Tryz.func162 ?_
 · refine Yt ?_
   refine Yn P1 ?_
   refine Yv 4 h fun hp_1 h => ?_
   refine Yn P1 ?_
   refine Yn P1 ?_
   refine Yl h fun v7 h => ?_
   refine Yn P3 ?_
   refine Yo h fun w1 h => ?_
   refine Yf [] [0, 1] ?_
   refine wpE_mixregion (id := 1) (ops := r162_3) o_towpathlaw01_Book_keepHeld_3 (by kernel_rfl) (by kernel_rfl) (by kernel_rfl) (by kernel_rfl) (fun w2 hw => ?_)
   replace h := h w2 hw
   clear hw
   refine Mn P2 ?_
   refine Mv 12 h fun hp_2 h => ?_
   refine Mn P1 ?_
   refine Mn P1 ?_
   refine Ml 4 h fun v15 hc h => ?_
   refine Mn P2 ?_
   refine Mv 17 h fun hp_3 h => ?_
   refine Mn P1 ?_
   refine Mn P1 ?_
   refine Ml 9 h fun v20 hc h => ?_
   refine Mn P1 ?_
   refine mreg_new (op := (Op.buildSlice 42 1 #[(0, (Operand.tmp 21))])) (ty := 42) (dst := some 22) 11 [10, 5, 9, 8, 7, 6] [(4, fun w' => w'.cell? ⟨(pblk b_), (poff b_) + 8, none⟩ = some (sv_ v15))] (fun bb => Value.slice (some ⟨bb, 0, none⟩) 1 1) (Obj.cells ([sv_ l_, Value.slice none 0 0, Value.int .i64 v20]).toArray ty_towpathlaw01_heldHeld (0, 0)) (by kernel_rfl) (by kernel_rfl) (by kernel_rfl) (by kernel_rfl) (by kernel_rfl) (by kernel_rfl) (fun b_1 w3 hb hw => ?_)
   replace h := h b_1 w3 hb hw
   clear hb hw
   obtain ⟨hk0, h⟩ := h
   refine ⟨⟨hk0, trivial⟩, ?_⟩
   obtain ⟨src, hs, h⟩ := h
   refine mreg_append (t := 42) (tx := 42) (e := 166) (a := (Operand.tmp 15)) (xo := (Operand.tmp 22)) (s := v15) (x := (Slc.mk (some ⟨b_1, 0, none⟩) 1 1)) (sz := 3) (by_ := 56) (zs := [Value.slice none 0 0, Value.slice none 0 0, Value.int .i64 0]) (ty := 42) (dst := some 23) 12 [4, 11, 3, 10, 2, 5, 9, 1, 8, 7, 6] [] src (by kernel_rfl) (by kernel_rfl) (by kernel_rfl) (by kernel_rfl) (by kernel_rfl) (by kernel_rfl) (by kernel_rfl) (by kernel_rfl) (by kernel_rfl) (by kernel_rfl) (by kernel_rfl) (by kernel_rfl) (by kernel_rfl) hs (AppendW.mono h (fun v23 w4 h => ?_))
   refine ⟨trivial, ?_⟩
   refine Mv 11 h fun hp_4 h => ?_
   refine Mn P1 ?_
   refine Mn P1 ?_
   refine Mstore 15 [0, 1, 2, 3, 4, 5, 6, 7, 8, 9, 10, 11, 12, 14, 13] [] h fun w5 h => ?_
   refine ⟨trivial, ?_⟩
   refine Mf [] [] ?_
   repeat (first | refine seqQ_exit ?_ | refine loopQ_exit ?_ | refine cutQ_exit ?_ | refine blockQ_hit ?_ | refine blockQ_miss (by kernel_rfl) ?_)
   refine retQ_normal ?_
   repeat (first | refine seqQ_ret ?_ | refine blockQ_ret ?_ | refine loopQ_ret ?_ | refine cutQ_ret ?_)
   exact retT (rs := []) (vs := []) (by kernel_rfl) (trivial) (by kernel_rfl) ⟨rfl, h⟩

/-! ### towpath/towpathlaw01.word (function 186) -/

theorem S_towpathlaw01_word {n_ : Int} {w : World} {R : ByteArray → World → Prop} (h : F_towpathlaw01_word n_ R w) : C_towpathlaw01_word n_ w R := by
 unfold F_towpathlaw01_word at h
 refine Yh Tryz.func186 ?_
 · refine Yp P1 [0] ?_
   refine Yt ?_
   refine Yn P1 ?_
   refine Ym1 h fun v4 w1 h => ?_
   obtain ⟨h0, h⟩ := h
   refine reg_val (op := (Op.binOp BinOp.add 9 (Operand.const (Value.string (ByteArray.mk #[35]))) (Operand.tmp 4) 9)) (ty := 9) (dst := some 5) (Value.string ((ByteArray.mk #[35]) ++ v4)) (by kernel_rfl) (fun ww => run_stradd (by kernel_rfl) (by kernel_rfl) h0 ww) ?_
   refine Yf P1 [2] ?_
   exact YS ⟨((ByteArray.mk #[35]) ++ v4), rfl, h⟩

/-! ### towpath/towpathlaw01.TwinVersions (function 187) -/

theorem S_towpathlaw01_TwinVersions {l_ : Slc} {w : World} {R : Slc → World → Prop} (h : F_towpathlaw01_TwinVersions l_ R w) : C_towpathlaw01_TwinVersions l_ w R := by
 unfold F_towpathlaw01_TwinVersions at h
 refine Yh Tryz.func187 ?_
 · refine Yp P1 [0] ?_
   refine Yt ?_
   refine Yn P3 ?_
   obtain ⟨h0, h1, h2, h⟩ := h
   refine reg_makeSlice (t := 102) (e := 109) (lo := (Operand.const (Value.int IntKind.i64 0))) (co := (Operand.tmp 7)) (l := 0) (c := (IntKind.i64.wrap (((l_.len : Nat) : Int) + 1))) (sz := 3) (by_ := 32) (zs := [Value.int .i64 0, Value.string ByteArray.empty, Value.bool false]) (ty := 102) (dst := some 8) (by kernel_rfl) (by kernel_rfl) (by kernel_rfl) (by kernel_rfl) (by kernel_rfl) (by kernel_rfl) (by kernel_rfl) (by kernel_rfl) (by kernel_rfl) h0 h1 h2 (fun b_ w1 hb hw => ?_)
   replace h := h b_ w1 hb hw
   clear hb hw
   refine Yf P1 [0, 3] ?_
   refine Ys ?_
   refine Yp P1 [0, 3, 4] ?_
   refine Yd 0 ?_
   obtain ⟨I, μ, h0, hr⟩ := h
   refine Yloop (fun m l w => ∃ (t_ : Slc) (i : Int), l = [(0, sv_ l_), (3, sv_ t_), (4, Value.int .i64 i)] ∧ I t_ i w ∧ μ t_ i w = m) ⟨(Slc.mk (some ⟨b_, 0, none⟩) 0 ((IntKind.i64.wrap (((l_.len : Nat) : Int) + 1)).toNat)), 0, rfl, h0, rfl⟩ ?_
   rintro _ _ w2 ⟨t_, i, rfl, hI, rfl⟩
   obtain ⟨again_, again__h, h⟩ : ∃ again_ : Slc → Int → World → Prop, (∀ t_' i' w', again_ t_' i' w' → I t_' i' w' ∧ μ t_' i' w' < μ t_ i w2) ∧ F_towpathlaw01_TwinVersions_L0 l_ R again_ t_ i w2 := ⟨_, fun _ _ _ h => h, hr t_ i w2 hI⟩
   clear h0 hI
   unfold F_towpathlaw01_TwinVersions_L0 at h
   refine Ys ?_
   refine Yp P4 [0, 3, 4, 12] ?_
   refine Yc h (fun h => ?_) fun h => ?_
   · refine Yskip ?_
     refine Ys ?_
     refine Yd 1 ?_
     refine Yr ?_
     refine Yn P3 ?_
     obtain ⟨hp_3, h⟩ := h
     refine Yu 16 (fun pp => .slice pp l_.len l_.cap) hp_3 ?_
     refine Yi h fun h => ?_
     refine YL h fun v19 h => ?_
     refine Yw (sl_ 1 1) h fun b_1 w3 h => ?_
     obtain ⟨src, hs, h⟩ := h
     refine reg_append (t := 102) (tx := 102) (e := 109) (a := (Operand.tmp 15)) (xo := (Operand.tmp 20)) (s := t_) (x := (Slc.mk (some ⟨b_1, 0, none⟩) 1 1)) (sz := 3) (by_ := 32) (zs := [Value.int .i64 0, Value.string ByteArray.empty, Value.bool false]) (ty := 102) (dst := some 21)  src (by kernel_rfl) (by kernel_rfl) (by kernel_rfl) (by kernel_rfl) (by kernel_rfl) (by kernel_rfl) (by kernel_rfl) (by kernel_rfl) (by kernel_rfl) hs (AppendW.mono h (fun t_1 w4 h => ?_))
     refine Yf P1 [0, 3, 4] ?_
     refine Yr ?_
     refine Yf P3 [0, 3, 4] ?_
     have hb_ := again__h _ _ _ h
     exact ⟨_, hb_.2, _, Sub.mk (by kernel_rfl), t_1, (IntKind.i64.wrap (i + 1)), rfl, hb_.1, rfl⟩
   · refine Yexit 0 ?_
     refine Yt ?_
     refine Yn P2 ?_
     refine Yw (sl_ 1 1) h fun b_2 w5 h => ?_
     obtain ⟨src, hs, h⟩ := h
     refine reg_append (t := 102) (tx := 102) (e := 109) (a := (Operand.tmp 22)) (xo := (Operand.tmp 24)) (s := t_) (x := (Slc.mk (some ⟨b_2, 0, none⟩) 1 1)) (sz := 3) (by_ := 32) (zs := [Value.int .i64 0, Value.string ByteArray.empty, Value.bool false]) (ty := 102) (dst := some 25)  src (by kernel_rfl) (by kernel_rfl) (by kernel_rfl) (by kernel_rfl) (by kernel_rfl) (by kernel_rfl) (by kernel_rfl) (by kernel_rfl) (by kernel_rfl) hs (AppendW.mono h (fun v25 w6 h => ?_))
     refine Yn P2 ?_
     obtain ⟨h0, h1, h⟩ := h
     refine reg_sliceHi (t := 102) (e := 109) (x := (Operand.tmp 25)) (hi := (Operand.tmp 27)) (p := v25.ptr) (l := v25.len) (c := v25.cap) (sz := 3) (k := .i64) (j := ((l_.len : Nat) : Int)) (ty := 102) (dst := some 28) (by kernel_rfl) (by kernel_rfl) (by kernel_rfl) (by kernel_rfl) (by kernel_rfl) h0 h1 ?_
     refine Yf P1 [2] ?_
     exact YS ⟨(Slc.mk v25.ptr (((l_.len : Nat) : Int).toNat) v25.cap), rfl, h⟩

/-! ### towpath/towpathlaw01.SameVersions (function 194) -/
def c194_0 := cb_ Tryz.f194
def c194_3 := cr_ c194_0
def c194_13 := cr_ c194_3
def c194_14 := cl_ c194_13
def c194_17 := cr_ c194_14
def c194_18 := cl_ c194_17
def c194_19 := cl_ c194_18
def c194_26 := cr_ c194_19
def c194_27 := cl_ c194_26
def c194_28 := cl_ c194_27
def c194_29 := cl_ c194_28
def r194_29 := co_ c194_29

theorem S_towpathlaw01_SameVersions {a_ : Slc} {b_ : Slc} {w : World} {R : Bool → World → Prop} (h : F_towpathlaw01_SameVersions a_ b_ R w) : C_towpathlaw01_SameVersions a_ b_ w R := by
 unfold F_towpathlaw01_SameVersions at h
 refine Yh Tryz.func194 ?_
 · refine Yp P1 [0, 1] ?_
   refine Ys ?_
   refine Yp (Pl 5) [0, 1, 10] ?_
   refine Yc h (fun h => ?_) fun h => ?_
   · refine Yp P1 [4] ?_
     exact YS ⟨false, rfl, h⟩
   · refine Yskip ?_
     refine Ys ?_
     refine Yp P1 [0, 1, 5] ?_
     refine Yd 0 ?_
     obtain ⟨I, μ, h0, hr⟩ := h
     refine Yloop (fun m l w => ∃ (i : Int), l = [(0, sv_ a_), (1, sv_ b_), (5, Value.int .i64 i)] ∧ I i w ∧ μ i w = m) ⟨0, rfl, h0, rfl⟩ ?_
     rintro _ _ w1 ⟨i, rfl, hI, rfl⟩
     obtain ⟨again_, again__h, h⟩ : ∃ again_ : Int → World → Prop, (∀ i' w', again_ i' w' → I i' w' ∧ μ i' w' < μ i w1) ∧ F_towpathlaw01_SameVersions_L0 a_ b_ R again_ i w1 := ⟨_, fun _ _ h => h, hr i w1 hI⟩
     clear h0 hI
     unfold F_towpathlaw01_SameVersions_L0 at h
     refine Ys ?_
     refine Yp P4 [0, 1, 5, 14] ?_
     refine Yc h (fun h => ?_) fun h => ?_
     · refine Yskip ?_
       refine Ys ?_
       refine Yd 1 ?_
       refine Ys ?_
       refine wpE_drawregion (id := 6) (ops := r194_29) (by kernel_rfl) (by kernel_rfl) (by kernel_rfl) ?_
       refine Qn P2 ?_
       obtain ⟨hp_14, h⟩ := h
       refine Qu 17 (fun pp => .slice pp a_.len a_.cap) hp_14 ?_
       refine Qi h fun h => ?_
       refine QL h fun v20 h => ?_
       refine Qn P2 ?_
       obtain ⟨hp_15, h⟩ := h
       refine Qu 21 (fun pp => .slice pp b_.len b_.cap) hp_15 ?_
       refine Qi h fun h => ?_
       refine QL h fun v24 h => ?_
       refine qreg_val (op := (Op.binOp BinOp.neq 109 (Operand.tmp 20) (Operand.tmp 24) 109)) (ty := 4) (dst := some 25) (Value.bool (!(((v20.Number == v24.Number) && (v20.Val == v24.Val)) && (v20.Drop == v24.Drop)))) (by kernel_rfl) (fun ww => run_struct_neq (xs := [Value.int .i64 v20.Number, Value.string v20.Val, Value.bool v20.Drop]) (ys := [Value.int .i64 v24.Number, Value.string v24.Val, Value.bool v24.Drop]) (by kernel_rfl) (by kernel_rfl) (by kernel_rfl) (by kernel_rfl) (by kernel_rfl) ww) ?_
       refine Qf [] [0, 1, 5, 25] h fun w2 h => ?_
       refine Yc h (fun h => ?_) fun h => ?_
       · refine Yp P1 [4] ?_
         exact YS ⟨false, rfl, h⟩
       · refine Yskip ?_
         refine Yr ?_
         refine Yf P3 [0, 1, 5] ?_
         have hb_ := again__h _ _ h
         exact ⟨_, hb_.2, _, Sub.mk (by kernel_rfl), (IntKind.i64.wrap (i + 1)), rfl, hb_.1, rfl⟩
     · refine Yexit 0 ?_
       refine Yp P1 [4] ?_
       exact YS ⟨true, rfl, h⟩

/-! ### towpath/towpathlaw01.LeftVersions (function 195) -/
def c195_0 := cb_ Tryz.f195
def c195_3 := cr_ c195_0
def c195_13 := cr_ c195_3
def c195_14 := cl_ c195_13
def c195_17 := cr_ c195_14
def c195_18 := cl_ c195_17
def c195_19 := cl_ c195_18
def c195_26 := cr_ c195_19
def c195_27 := cl_ c195_26
def c195_28 := cl_ c195_27
def c195_29 := cl_ c195_28
def r195_29 := co_ c195_29

theorem S_towpathlaw01_LeftVersions {t_ : Slc} {l_ : Slc} {w : World} {R : Bool → World → Prop} (h : F_towpathlaw01_LeftVersions t_ l_ R w) : C_towpathlaw01_LeftVersions t_ l_ w R := by
 unfold F_towpathlaw01_LeftVersions at h
 refine Yh Tryz.func195 ?_
 · refine Yp P1 [0, 1] ?_
   refine Ys ?_
   refine Yp [.plain, .plain, .plain, .plain, .plain, .plain, .plain, .plain, .plain, .plain, .plain, .pick] [0, 1, 18] ?_
   refine Yc h (fun h => ?_) fun h => ?_
   · refine Yp P1 [4] ?_
     exact YS ⟨false, rfl, h⟩
   · refine Yskip ?_
     refine Ys ?_
     refine Yp P1 [0, 1, 5] ?_
     refine Yd 0 ?_
     obtain ⟨I, μ, h0, hr⟩ := h
     refine Yloop (fun m l w => ∃ (i : Int), l = [(0, sv_ t_), (1, sv_ l_), (5, Value.int .i64 i)] ∧ I i w ∧ μ i w = m) ⟨0, rfl, h0, rfl⟩ ?_
     rintro _ _ w1 ⟨i, rfl, hI, rfl⟩
     obtain ⟨again_, again__h, h⟩ : ∃ again_ : Int → World → Prop, (∀ i' w', again_ i' w' → I i' w' ∧ μ i' w' < μ i w1) ∧ F_towpathlaw01_LeftVersions_L0 t_ l_ R again_ i w1 := ⟨_, fun _ _ h => h, hr i w1 hI⟩
     clear h0 hI
     unfold F_towpathlaw01_LeftVersions_L0 at h
     refine Ys ?_
     refine Yp P4 [0, 1, 5, 22] ?_
     refine Yc h (fun h => ?_) fun h => ?_
     · refine Yskip ?_
       refine Ys ?_
       refine Yd 1 ?_
       refine Ys ?_
       refine wpE_drawregion (id := 6) (ops := r195_29) (by kernel_rfl) (by kernel_rfl) (by kernel_rfl) ?_
       refine Qn P2 ?_
       obtain ⟨hp_14, h⟩ := h
       refine Qu 25 (fun pp => .slice pp t_.len t_.cap) hp_14 ?_
       refine Qi h fun h => ?_
       refine QL h fun v28 h => ?_
       refine Qn P2 ?_
       obtain ⟨hp_15, h⟩ := h
       refine Qu 29 (fun pp => .slice pp l_.len l_.cap) hp_15 ?_
       refine Qi h fun h => ?_
       refine QL h fun v32 h => ?_
       refine qreg_val (op := (Op.binOp BinOp.neq 109 (Operand.tmp 28) (Operand.tmp 32) 109)) (ty := 4) (dst := some 33) (Value.bool (!(((v28.Number == v32.Number) && (v28.Val == v32.Val)) && (v28.Drop == v32.Drop)))) (by kernel_rfl) (fun ww => run_struct_neq (xs := [Value.int .i64 v28.Number, Value.string v28.Val, Value.bool v28.Drop]) (ys := [Value.int .i64 v32.Number, Value.string v32.Val, Value.bool v32.Drop]) (by kernel_rfl) (by kernel_rfl) (by kernel_rfl) (by kernel_rfl) (by kernel_rfl) ww) ?_
       refine Qf [] [0, 1, 5, 33] h fun w2 h => ?_
       refine Yc h (fun h => ?_) fun h => ?_
       · refine Yp P1 [4] ?_
         exact YS ⟨false, rfl, h⟩
       · refine Yskip ?_
         refine Yr ?_
         refine Yf P3 [0, 1, 5] ?_
         have hb_ := again__h _ _ h
         exact ⟨_, hb_.2, _, Sub.mk (by kernel_rfl), (IntKind.i64.wrap (i + 1)), rfl, hb_.1, rfl⟩
     · refine Yexit 0 ?_
       refine Yt ?_
       refine Yn P4 ?_
       obtain ⟨h0, h1, h⟩ := h
       refine reg_sliceHi (t := 102) (e := 109) (x := (Operand.tmp 34)) (hi := (Operand.tmp 37)) (p := t_.ptr) (l := t_.len) (c := t_.cap) (sz := 3) (k := .i64) (j := (IntKind.i64.wrap (((l_.len : Nat) : Int) + 1))) (ty := 102) (dst := some 38) (by kernel_rfl) (by kernel_rfl) (by kernel_rfl) (by kernel_rfl) (by kernel_rfl) h0 h1 ?_
       refine Yn P2 ?_
       obtain ⟨hp_17, h⟩ := h
       refine Yu 38 (fun pp => .slice pp ((IntKind.i64.wrap (((l_.len : Nat) : Int) + 1)).toNat) t_.cap) hp_17 ?_
       refine Yi h fun h => ?_
       refine YL h fun v42 h => ?_
       refine Yw pv_ h fun b_ w3 h => ?_
       refine Yo h fun w4 h => ?_
       refine Yf [] [6] ?_
       refine Yt ?_
       refine YL h fun v43 h => ?_
       refine Yn P1 ?_
       refine reg_val (op := (Op.binOp BinOp.eql 109 (Operand.tmp 43) (Operand.tmp 44) 109)) (ty := 4) (dst := some 45) (Value.bool (((v43.Number == 7777) && (v43.Val == ByteArray.empty)) && (v43.Drop == false))) (by kernel_rfl) (fun ww => run_struct_eql (xs := [Value.int .i64 v43.Number, Value.string v43.Val, Value.bool v43.Drop]) (ys := [Value.int .i64 7777, Value.string ByteArray.empty, Value.bool false]) (by kernel_rfl) (by kernel_rfl) (by kernel_rfl) (by kernel_rfl) (by kernel_rfl) ww) ?_
       refine Yf P1 [4] ?_
       exact YS ⟨(((v43.Number == 7777) && (v43.Val == ByteArray.empty)) && (v43.Drop == false)), rfl, h⟩

/-! ### (*towpath/towpathlaw01.Book).keepVersion (function 196) -/
def c196_0 := cb_ Tryz.f196
def c196_3 := cr_ c196_0
def r196_3 := co_ c196_3
def o_towpathlaw01_Book_keepVersion_3 : List Nat := [0, 1, 2, 3, 4, 5, 6, 7, 8, 9, 10, 11, 12, 13, 14, 15]

theorem S_towpathlaw01_Book_keepVersion {b_ : Option Addr} {l_ : Slc} {w : World} {R : World → Prop} (h : F_towpathlaw01_Book_keepVersion b_ l_ R w) : C_towpathlaw01_Book_keepVersion b_ l_ w R := by
 unfold F_towpathlaw01_Book_keepVersion at h
 refine Yh Tryz.func196 ?_
 · refine Yt ?_
   refine Yn P1 ?_
   refine Yv 4 h fun hp_1 h => ?_
   refine Yn P1 ?_
   refine Yn P1 ?_
   refine Yl h fun v7 h => ?_
   refine Yn P3 ?_
   refine Yo h fun w1 h => ?_
   refine Yf [] [0, 1] ?_
   refine wpE_mixregion (id := 1) (ops := r196_3) o_towpathlaw01_Book_keepVersion_3 (by kernel_rfl) (by kernel_rfl) (by kernel_rfl) (by kernel_rfl) (fun w2 hw => ?_)
   replace h := h w2 hw
   clear hw
   refine Mn P2 ?_
   refine Mv 12 h fun hp_2 h => ?_
   refine Mn P1 ?_
   refine Mn P1 ?_
   refine Ml 4 h fun v15 hc h => ?_
   refine Mn P2 ?_
   refine Mv 17 h fun hp_3 h => ?_
   refine Mn P1 ?_
   refine Mn P1 ?_
   refine Ml 9 h fun v20 hc h => ?_
   refine Mn P1 ?_
   refine mreg_new (op := (Op.buildSlice 40 1 #[(0, (Operand.tmp 21))])) (ty := 40) (dst := some 22) 11 [10, 5, 9, 8, 7, 6] [(4, fun w' => w'.cell? ⟨(pblk b_), (poff b_) + 6, none⟩ = some (sv_ v15))] (fun bb => Value.slice (some ⟨bb, 0, none⟩) 1 1) (Obj.cells ([sv_ l_, Value.slice none 0 0, Value.int .i64 v20]).toArray ty_towpathlaw01_heldVersion (0, 0)) (by kernel_rfl) (by kernel_rfl) (by kernel_rfl) (by kernel_rfl) (by kernel_rfl) (by kernel_rfl) (fun b_1 w3 hb hw => ?_)
   replace h := h b_1 w3 hb hw
   clear hb hw
   obtain ⟨hk0, h⟩ := h
   refine ⟨⟨hk0, trivial⟩, ?_⟩
   obtain ⟨src, hs, h⟩ := h
   refine mreg_append (t := 40) (tx := 40) (e := 162) (a := (Operand.tmp 15)) (xo := (Operand.tmp 22)) (s := v15) (x := (Slc.mk (some ⟨b_1, 0, none⟩) 1 1)) (sz := 3) (by_ := 56) (zs := [Value.slice none 0 0, Value.slice none 0 0, Value.int .i64 0]) (ty := 40) (dst := some 23) 12 [4, 11, 3, 10, 2, 5, 9, 1, 8, 7, 6] [] src (by kernel_rfl) (by kernel_rfl) (by kernel_rfl) (by kernel_rfl) (by kernel_rfl) (by kernel_rfl) (by kernel_rfl) (by kernel_rfl) (by kernel_rfl) (by kernel_rfl) (by kernel_rfl) (by kernel_rfl) (by kernel_rfl) hs (AppendW.mono h (fun v23 w4 h => ?_))
   refine ⟨trivial, ?_⟩
   refine Mv 11 h fun hp_4 h => ?_
   refine Mn P1 ?_
   refine Mn P1 ?_
   refine Mstore 15 [0, 1, 2, 3, 4, 5, 6, 7, 8, 9, 10, 11, 12, 14, 13] [] h fun w5 h => ?_
   refine ⟨trivial, ?_⟩
   refine Mf [] [] ?_
   repeat (first | refine seqQ_exit ?_ | refine loopQ_exit ?_ | refine cutQ_exit ?_ | refine blockQ_hit ?_ | refine blockQ_miss (by kernel_rfl) ?_)
   refine retQ_normal ?_
   repeat (first | refine seqQ_ret ?_ | refine blockQ_ret ?_ | refine loopQ_ret ?_ | refine cutQ_ret ?_)
   exact retT (rs := []) (vs := []) (by kernel_rfl) (trivial) (by kernel_rfl) ⟨rfl, h⟩
end
end Go.Proofs.YtpdegdnigcnjiaaGreatDoor
