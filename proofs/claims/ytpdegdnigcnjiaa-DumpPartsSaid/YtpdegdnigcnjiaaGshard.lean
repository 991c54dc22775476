/- WRITTEN BY PROGRAM (dec.py): for each Go function the clean formula F, the call's contract C, and the proof S that F gives C. -/
import Derived.Test.YtpdegdnigcnjiaaRows
import Derived.Test.YtpdegdnigcnjiaaGF
namespace Go.Proofs.Ytpdegdnigcnjiaa
open Go
set_option linter.unusedVariables false
set_option maxRecDepth 100000
set_option maxHeartbeats 4000000
noncomputable section

/-! ### towpath/shard.Load (function 34) -/
def c34_0 := cb_ Try.f34
def c34_3 := cr_ c34_0
def c34_6 := cr_ c34_3
def c34_7 := cl_ c34_6
def c34_10 := cr_ c34_7
def c34_11 := cl_ c34_10
def c34_12 := cl_ c34_11
def c34_15 := cr_ c34_12
def c34_19 := cr_ c34_15
def c34_20 := cl_ c34_19
def c34_21 := cl_ c34_20
def c34_24 := cr_ c34_21
def c34_25 := cl_ c34_24
def c34_26 := cl_ c34_25
def r34_26 := co_ c34_26
def c34_34 := cr_ c34_24
def r34_34 := co_ c34_34
def o_shard_Load_26 : List Nat := [0, 1, 2, 3, 4, 5, 6, 7, 8, 9, 10, 11, 12, 13, 14, 15, 16, 17, 18, 19, 20, 21, 22, 23, 24, 25, 26, 27, 28, 29, 30]
def o_shard_Load_34 : List Nat := [0, 1, 2, 3, 4, 5, 6, 7, 8, 9, 10]

theorem S_shard_Load {l_ : Slc} {w : World} {R : Option Addr → Int → World → Prop} (h : F_shard_Load l_ R w) : C_shard_Load l_ w R := by
 unfold F_shard_Load at h
 refine Yh Try.func34 ?_
 · refine Yp P2 [0] ?_
   refine Yt ?_
   refine Ym1 h fun v7 w1 h => ?_
   refine Yf P1 [0, 4] ?_
   refine Ys ?_
   refine Yp P3 [0, 4, 8, 9, 10] ?_
   refine Yd 0 ?_
   obtain ⟨I, μ, h0, hr⟩ := h
   refine Yloop (fun m l w => ∃ (t10 : Int), l = [(0, sv_ l_), (4, Value.pointer v7), (8, sv_ l_), (9, Value.int .i64 ((l_.len : Nat) : Int)), (10, Value.int .i64 t10)] ∧ I t10 w ∧ μ t10 w = m) ⟨0, rfl, h0, rfl⟩ ?_
   rintro _ _ w2 ⟨t10, rfl, hI, rfl⟩
   obtain ⟨again_, again__h, h⟩ : ∃ again_ : Int → World → Prop, (∀ t10' w', again_ t10' w' → I t10' w' ∧ μ t10' w' < μ t10 w2) ∧ F_shard_Load_L0 l_ R v7 again_ t10 w2 := ⟨_, fun _ _ h => h, hr t10 w2 hI⟩
   clear h0 hI
   unfold F_shard_Load_L0 at h
   refine Yp P1 [0, 4, 8, 9, 10, 11] ?_
   refine Ys ?_
   refine Yc h (fun h => ?_) fun h => ?_
   · refine Yskip ?_
     refine Ys ?_
     refine Yd 1 ?_
     refine Yt ?_
     refine Yn P1 ?_
     obtain ⟨hp_22, h⟩ := h
     refine Yu 8 (fun pp => .slice pp l_.len l_.cap) hp_22 ?_
     refine Yi h fun h => ?_
     refine YL h fun v14 h => ?_
     refine Yw pv_ h fun b_ w3 h => ?_
     refine Yn P1 ?_
     refine Yo h fun w4 h => ?_
     refine Yu 8 (fun pp => .slice pp l_.len l_.cap) hp_22.symm ?_
     refine Yf [] [0, 4, 5, 6, 8, 9, 10] ?_
     refine Ys ?_
     refine Ycut (fun l w => ∃ (t45 : Bool), l = [(0, sv_ l_), (4, Value.pointer v7), (6, pv_ b_), (8, sv_ l_), (9, Value.int .i64 ((l_.len : Nat) : Int)), (10, Value.int .i64 t10), (45, Value.bool t45)] ∧ F_shard_Load_k1 R v7 t10 again_ b_ t45 w) ?_ ?_
     · refine wpE_mixregion (id := 5) (ops := r34_26) o_shard_Load_26 (by kernel_rfl) (by kernel_rfl) (by kernel_rfl) (by kernel_rfl) (fun w9 hw => ?_)
       replace h := h w9 hw
       clear hw
       refine Mn P1 ?_
       refine Ml 1 h fun v16 hc h => ?_
       refine mreg_enter (op := (Op.call (Call.mk (Callee.value (Operand.func 67)) #[(Operand.tmp 16)] #[9]))) (ty := 4) (dst := some 17) 2 [1, 0] [] 67 #[Value.string v16] (by kernel_rfl) (by kernel_rfl) (by kernel_rfl) (by kernel_rfl) (by kernel_rfl) (fun ww => by kernel_rfl) (Calls.mono h ?_)
       rintro _ w10 ⟨v17, rfl, h⟩
       refine ⟨_, rfl, trivial, ?_⟩
       refine Mn (Pl 8) ?_
       refine Mspl 19 h (fun h => ?_) fun h => ?_
       · refine Mf [.skip, .skip, .skip, .skip, .skip, .skip, .skip, .plain, .plain, .skip, .skip, .skip, .skip, .plain, .plain, .skip, .skip, .skip, .skip, .plain] [0, 4, 6, 8, 9, 10, 45] ?_
         exact ⟨_, Sub.mk (by kernel_rfl), true, rfl, h⟩
       · refine Mspl 22 h (fun h => ?_) fun h => ?_
         · obtain ⟨hp_27, h⟩ := h
           refine Mu 23 (fun pp => .slice pp l_.len l_.cap) hp_27 ?_
           refine Mi 11 h fun h => ?_
           refine Mn [.sure] ?_
           refine Ml 13 h fun v28 hc h => ?_
           refine Mn [.sure] ?_
           refine Ml 15 h fun v30 hc h => ?_
           refine Mn [.sure, .sure, .plain, .plain, .plain] ?_
           refine Mspl 34 h (fun h => ?_) fun h => ?_
           · refine Mf [.skip, .skip, .skip, .plain, .plain, .skip, .skip, .skip, .skip, .plain] [0, 4, 6, 8, 9, 10, 45] ?_
             exact ⟨_, Sub.mk (by kernel_rfl), true, rfl, h⟩
           · refine Ml 21 h fun v36 hc h => ?_
             refine Mn [.sure, .sure, .plain, .plain, .plain] ?_
             refine Mspl 40 h (fun h => ?_) fun h => ?_
             · refine Mf [.skip, .skip, .skip, .plain] [0, 4, 6, 8, 9, 10, 45] ?_
               exact ⟨_, Sub.mk (by kernel_rfl), true, rfl, h⟩
             · refine Ml 27 h fun v42 hc h => ?_
               refine mreg_enter (op := (Op.call (Call.mk (Callee.value (Operand.func 68)) #[(Operand.tmp 42)] #[71]))) (ty := 29) (dst := some 43) 28 [25, 27, 19, 24, 26, 7, 18, 23, 4, 6, 17, 22, 2, 3, 5, 16, 21, 1, 13, 15, 20, 0, 12, 14, 11, 8, 10, 9] [] 68 #[sv_ v42] (by kernel_rfl) (by kernel_rfl) (by kernel_rfl) (by kernel_rfl) (by kernel_rfl) (fun ww => by kernel_rfl) (Calls.mono h ?_)
               rintro _ w11 ⟨v43, rfl, h⟩
               refine ⟨_, rfl, trivial, ?_⟩
               refine Mf [.sure, .plain] [0, 4, 6, 8, 9, 10, 45] ?_
               exact ⟨_, Sub.mk (by kernel_rfl), (v43 != 0), rfl, h⟩
         · refine Mn [.skip, .skip, .skip, .skip, .skip, .skip, .sure, .plain, .plain, .sure] ?_
           refine Ml 21 h fun v361 hc h => ?_
           refine Mn [.sure, .sure, .plain, .plain, .plain] ?_
           refine Mspl 40 h (fun h => ?_) fun h => ?_
           · refine Mf [.skip, .skip, .skip, .plain] [0, 4, 6, 8, 9, 10, 45] ?_
             exact ⟨_, Sub.mk (by kernel_rfl), true, rfl, h⟩
           · refine Ml 27 h fun v421 hc h => ?_
             refine mreg_enter (op := (Op.call (Call.mk (Callee.value (Operand.func 68)) #[(Operand.tmp 42)] #[71]))) (ty := 29) (dst := some 43) 28 [25, 27, 19, 24, 26, 7, 18, 23, 4, 6, 17, 22, 2, 3, 5, 16, 21, 1, 13, 15, 20, 0, 12, 14, 11, 8, 10, 9] [] 68 #[sv_ v421] (by kernel_rfl) (by kernel_rfl) (by kernel_rfl) (by kernel_rfl) (by kernel_rfl) (fun ww => by kernel_rfl) (Calls.mono h ?_)
             rintro _ w12 ⟨v431, rfl, h⟩
             refine ⟨_, rfl, trivial, ?_⟩
             refine Mf [.sure, .plain] [0, 4, 6, 8, 9, 10, 45] ?_
             exact ⟨_, Sub.mk (by kernel_rfl), (v431 != 0), rfl, h⟩
     · rintro _ w5 ⟨t45, rfl, h⟩
       unfold F_shard_Load_k1 at h
       refine Yc h (fun h => ?_) fun h => ?_
       · refine Yp P2 [2, 3] ?_
         exact YT2 ⟨none, 1, rfl, h⟩
       · refine Yskip ?_
         refine wpE_mixregion (id := 7) (ops := r34_34) o_shard_Load_34 (by kernel_rfl) (by kernel_rfl) (by kernel_rfl) (by kernel_rfl) (fun w6 hw => ?_)
         replace h := h w6 hw
         clear hw
         refine Mn P1 ?_
         refine Mv 46 h fun hp_26 h => ?_
         refine Mn P1 ?_
         refine Mn P2 ?_
         refine Ml 4 h fun v50 hc h => ?_
         refine Mn P1 ?_
         refine Ml 6 h fun v52 hc h => ?_
         refine Mn P1 ?_
         refine Ml 8 h fun v54 hc h => ?_
         refine mreg_enter (op := (Op.call (Call.mk (Callee.value (Operand.func 63)) #[(Operand.tmp 54)] #[71]))) (ty := 71) (dst := some 55) 9 [8, 7] [(6, fun w' => w'.cell? ⟨b_, 0, none⟩ = some (Value.string v52)), (4, fun w' => w'.cell? ⟨(pblk v7), (poff v7), none⟩ = some (Value.map v50))] 63 #[sv_ v54] (by kernel_rfl) (by kernel_rfl) (by kernel_rfl) (by kernel_rfl) (by kernel_rfl) (fun ww => by kernel_rfl) (Calls.mono h ?_)
         rintro _ w7 ⟨v55, rfl, h⟩
         obtain ⟨hk0, hk1, h⟩ := h
         refine ⟨_, rfl, ⟨hk0, hk1, trivial⟩, ?_⟩
         obtain ⟨r, es, c, hr_, hm_, hi_, hn_, h⟩ := h
         refine mreg_mapUpdateS (t := 127) (kt := 9) (et := 71) (x := (Operand.tmp 50)) (k := (Operand.tmp 52)) (v := (Operand.tmp 55)) (m := v50) (es := es) (j := v52) (vv := (sv_ v55)) (ty := 0) (dst := none) 10 [0, 1, 2, 3, 4, 5, 6, 7, 8, 9] [] r c (by kernel_rfl) (by kernel_rfl) (by kernel_rfl) (by kernel_rfl) (by kernel_rfl) (by kernel_rfl) hr_ (by kernel_rfl) (by kernel_rfl) (by kernel_rfl) (by kernel_rfl) hm_ hi_ hn_ (fun w8 hw => ?_)
         replace h := h w8 hw
         clear hw
         refine ⟨trivial, ?_⟩
         refine Mf [] [0, 4, 8, 9, 10] ?_
         refine Yr ?_
         refine Yf P2 [0, 4, 8, 9, 10] ?_
         have hb_ := again__h _ _ h
         exact ⟨_, hb_.2, _, Sub.mk (by kernel_rfl), (IntKind.i64.wrap (t10 + 1)), rfl, hb_.1, rfl⟩
   · refine Yexit 0 ?_
     refine Yp P3 [2, 3] ?_
     exact YT2 ⟨v7, 0, rfl, h⟩

/-! ### (*towpath/shard.Shard).Get (function 35) -/
def c35_0 := cb_ Try.f35
def c35_3 := cr_ c35_0
def c35_13 := cr_ c35_3
def c35_16 := cr_ c35_13
def c35_17 := cl_ c35_16
def r35_17 := co_ c35_17

theorem S_shard_Shard_Get {s : Option Addr} {key : ByteArray} {mark : Int} {w : World} {R : ByteArray → Bool → World → Prop} (h : F_shard_Shard_Get s key mark R w) : C_shard_Shard_Get s key mark w R := by
 unfold F_shard_Shard_Get at h
 refine Yh Try.func35 ?_
 · refine Yp P2 [0, 1, 2] ?_
   refine Ys ?_
   refine Yt ?_
   refine Yn P1 ?_
   refine Ym1 h fun v12 w1 h => ?_
   refine Yf [] [0, 1, 2, 12] ?_
   refine Yc h (fun h => ?_) fun h => ?_
   · refine Yp P2 [6, 7] ?_
     exact YT2 ⟨ByteArray.empty, false, rfl, h⟩
   · refine Yskip ?_
     refine Yt ?_
     refine Yn P1 ?_
     refine Yv 14 h fun hp_1 h => ?_
     refine Yn P1 ?_
     refine Yn P2 ?_
     refine Yl h fun v18 h => ?_
     refine Yn P1 ?_
     obtain ⟨es, v20, hm_, hi_, hv_, h⟩ := h
     refine reg_lookupS (t := 127) (kt := 9) (et := 71) (x := (Operand.tmp 18)) (k := (Operand.tmp 19)) (m := v18) (es := es) (j := key) (z := (Value.slice none 0 0)) (u := (sv_ v20)) (ty := 71) (dst := some 20) (by kernel_rfl) (by kernel_rfl) (by kernel_rfl) (by kernel_rfl) (by kernel_rfl) (fun w_ => by kernel_rfl) hm_ hi_ hv_ ?_
     refine Yn P1 ?_
     refine Ym3 h fun v22 ok v22_2 w2 h => ?_
     refine Yn P4 ?_
     refine Yw pv_ h fun b_ w3 h => ?_
     refine Yo h fun w4 h => ?_
     refine Yf P2 [8, 9] ?_
     refine Ys ?_
     refine wpE_drawregion (id := 4) (ops := r35_17) (by kernel_rfl) (by kernel_rfl) (by kernel_rfl) ?_
     refine Qn P1 ?_
     refine Ql h fun v27 h => ?_
     refine Qn P3 ?_
     refine Qspl 29 h (fun h => ?_) fun h => ?_
     · refine Ql h fun v31 h => ?_
       refine Qf [.sure, .plain, .plain, .plain] [6, 7] h fun w5 h => ?_
       exact YT2 ⟨v27, (!v31), rfl, h⟩
     · refine Qf [.skip, .skip, .plain, .plain, .plain] [6, 7] h fun w6 h => ?_
       exact YT2 ⟨v27, false, rfl, h⟩

/-! ### towpath/shard.New (function 66) -/

theorem S_shard_New {w : World} {R : Option Addr → World → Prop} (h : F_shard_New R w) : C_shard_New w R := by
 unfold F_shard_New at h
 refine Yh Try.func66 ?_
 · refine Yp P1 [] ?_
   refine Yt ?_
   refine Yw (fun bb => Value.map (some bb)) h fun b_ w1 h => ?_
   refine Yn P2 ?_
   refine Yw pv_ h fun b_1 w2 h => ?_
   refine Yf P1 [0] ?_
   exact YS ⟨(some ⟨b_1, 0, none⟩), rfl, h⟩

/-! ### towpath/shard.may (function 67) -/

theorem S_shard_may {key : ByteArray} {w : World} {R : Bool → World → Prop} (h : F_shard_may key R w) : C_shard_may key w R := by
 unfold F_shard_may at h
 refine Yh Try.func67 ?_
 · refine Yp P1 [0] ?_
   refine Yp [.plain, .plain, .plain, .plain, .plain, .plain, .pick, .plain] [2] ?_
   exact YS ⟨((!(key.toList == ByteArray.empty.toList)) && (decide (((key.size : Nat) : Int) ≤ 64))), rfl, h⟩

/-! ### (*towpath/shard.Shard).gone (function 69) -/

theorem S_shard_Shard_gone {s : Option Addr} {w : World} {R : Bool → World → Prop} (h : F_shard_Shard_gone s R w) : C_shard_Shard_gone s w R := by
 unfold F_shard_Shard_gone at h
 refine Yh Try.func69 ?_
 · refine Yp P1 [0] ?_
   refine Yt ?_
   refine Yn P1 ?_
   refine reg_val (op := (Op.binOp BinOp.eql 75 (Operand.tmp 3) (Operand.const (Value.pointer none)) 75)) (ty := 4) (dst := some 4) (Value.bool s.isNone) (by kernel_rfl) (fun ww => run_ptr_eql_R (p := s) (by kernel_rfl) (by kernel_rfl) (by kernel_rfl) ww) ?_
   refine Yn P2 ?_
   refine Yspl 5 h (fun h => ?_) fun h => ?_
   · refine Yf [.skip, .skip, .skip, .skip, .skip, .plain, .plain] [2] ?_
     exact YS ⟨true, rfl, h⟩
   · refine Yv 6 h fun hp_0 h => ?_
     refine Yn [.sure] ?_
     refine Yn [.sure, .sure] ?_
     refine Yl h fun v10 h => ?_
     refine reg_val (op := (Op.binOp BinOp.eql 127 (Operand.tmp 10) (Operand.const (Value.map none)) 127)) (ty := 4) (dst := some 11) (Value.bool v10.isNone) (by kernel_rfl) (fun ww => run_map_eql_R (p := v10) (by kernel_rfl) (by kernel_rfl) (by kernel_rfl) ww) ?_
     refine Yf P2 [2] ?_
     exact YS ⟨v10.isNone, rfl, h⟩
end
end Go.Proofs.Ytpdegdnigcnjiaa
