/- WRITTEN BY PROGRAM (dec.py): for each Go function the clean formula F, the call's contract C, and the proof S that F gives C. -/
import Derived.Test.YtpdegdnigcnjiaaRows
import Derived.Test.YtpdegdnigcnjiaaGF
namespace Go.Proofs.Ytpdegdnigcnjiaa
open Go
set_option linter.unusedVariables false
set_option maxRecDepth 100000
set_option maxHeartbeats 4000000
noncomputable section

/-! ### towpath/codec.NewReader (function 37) -/

theorem S_codec_NewReader {b_ : Slc} {w : World} {R : Option Addr → World → Prop} (h : F_codec_NewReader b_ R w) : C_codec_NewReader b_ w R := by
 unfold F_codec_NewReader at h
 refine Yh Try.func37 ?_
 · refine Yp P1 [0] ?_
   refine Yt ?_
   refine Yn P1 ?_
   refine Ym1 h fun v4 w1 h => ?_
   refine Yn P1 ?_
   refine Yw pv_ h fun b_1 w2 h => ?_
   refine Yf P1 [2] ?_
   exact YS ⟨(some ⟨b_1, 0, none⟩), rfl, h⟩

/-! ### (*towpath/codec.Reader).Left (function 39) -/

theorem S_codec_Reader_Left {r : Option Addr} {w : World} {R : Int → World → Prop} (h : F_codec_Reader_Left r R w) : C_codec_Reader_Left r w R := by
 unfold F_codec_Reader_Left at h
 refine Yh Try.func39 ?_
 · refine Yp P1 [0] ?_
   refine Ys ?_
   refine Yt ?_
   refine Yn P1 ?_
   refine reg_val (op := (Op.binOp BinOp.eql 82 (Operand.tmp 3) (Operand.const (Value.pointer none)) 82)) (ty := 4) (dst := some 4) (Value.bool r.isNone) (by kernel_rfl) (fun ww => run_ptr_eql_R (p := r) (by kernel_rfl) (by kernel_rfl) (by kernel_rfl) ww) ?_
   refine Yf [] [0, 4] ?_
   refine Yc h (fun h => ?_) fun h => ?_
   · refine Yp P1 [2] ?_
     exact YS ⟨0, rfl, h⟩
   · refine Yskip ?_
     refine Yt ?_
     refine Yn P1 ?_
     refine Yv 5 h fun hp_0 h => ?_
     refine Yn P1 ?_
     refine Yn P1 ?_
     refine Yl h fun v8 h => ?_
     refine Yf P2 [2] ?_
     exact YS ⟨((v8.len : Nat) : Int), rfl, h⟩

/-! ### (*towpath/codec.Reader).End (function 40) -/

theorem S_codec_Reader_End {r : Option Addr} {w : World} {R : Int → World → Prop} (h : F_codec_Reader_End r R w) : C_codec_Reader_End r w R := by
 unfold F_codec_Reader_End at h
 refine Yh Try.func40 ?_
 · refine Yp P1 [0] ?_
   refine Ys ?_
   refine Yd 0 ?_
   refine Ycut (fun l w => ∃ (t3 : Bool), l = [(0, Value.pointer r), (3, Value.bool t3)] ∧ F_codec_Reader_End_k0 r R t3 w) ?_ ?_
   · refine Yr ?_
     refine Yn P1 ?_
     refine reg_val (op := (Op.binOp BinOp.eql 82 (Operand.tmp 4) (Operand.const (Value.pointer none)) 82)) (ty := 4) (dst := some 5) (Value.bool r.isNone) (by kernel_rfl) (fun ww => run_ptr_eql_R (p := r) (by kernel_rfl) (by kernel_rfl) (by kernel_rfl) ww) ?_
     refine Yn P2 ?_
     refine Yspl 6 h (fun h => ?_) fun h => ?_
     · refine Yf [.skip, .skip, .skip, .skip, .plain, .plain] [0, 3] ?_
       exact ⟨_, Sub.mk (by kernel_rfl), true, rfl, h⟩
     · refine Yv 7 h fun hp_12 h => ?_
       refine Yn [.sure] ?_
       refine Yn [.sure] ?_
       refine Yl h fun v10 h => ?_
       refine Yf [.sure, .plain, .plain] [0, 3] ?_
       exact ⟨_, Sub.mk (by kernel_rfl), (!v10), rfl, h⟩
   · rintro _ w1 ⟨t3, rfl, h⟩
     unfold F_codec_Reader_End_k0 at h
     refine Yc h (fun h => ?_) fun h => ?_
     · refine Yp P1 [2] ?_
       exact YS ⟨2, rfl, h⟩
     · refine Ycut (fun l w => ∃ (t13 : Bool), l = [(0, Value.pointer r), (13, Value.bool t13)] ∧ F_codec_Reader_End_k1 r R t13 w) ?_ ?_
       · refine Yr ?_
         refine Yn P1 ?_
         refine Yv 14 h fun hp_10 h => ?_
         refine Yn P1 ?_
         refine Yn P1 ?_
         refine Yl h fun v17 h => ?_
         refine Yn P3 ?_
         refine Yspl 19 h (fun h => ?_) fun h => ?_
         · refine Yv 20 h fun hp_11 h => ?_
           refine Yn [.sure] ?_
           refine Yn [.sure] ?_
           refine Yl h fun v23 h => ?_
           refine Yf [.sure, .sure, .plain, .plain] [0, 13] ?_
           exact ⟨_, Sub.mk (by kernel_rfl), (decide (((v23.len : Nat) : Int) > 0)), rfl, h⟩
         · refine Yf [.skip, .skip, .skip, .skip, .skip, .plain, .plain] [0, 13] ?_
           exact ⟨_, Sub.mk (by kernel_rfl), false, rfl, h⟩
       · rintro _ w2 ⟨t13, rfl, h⟩
         unfold F_codec_Reader_End_k1 at h
         refine Yc h (fun h => ?_) fun h => ?_
         · refine Yp P1 [2] ?_
           exact YS ⟨4, rfl, h⟩
         · refine Yskip ?_
           refine Yt ?_
           refine Yn P1 ?_
           refine Yv 27 h fun hp_9 h => ?_
           refine Yn P1 ?_
           refine Yn P1 ?_
           refine Yl h fun v30 h => ?_
           refine Yf P1 [2] ?_
           exact YS ⟨v30, rfl, h⟩

/-! ### (*towpath/codec.Reader).Var (function 42) -/

theorem S_codec_Reader_Var {r : Option Addr} {w : World} {R : Int → World → Prop} (h : F_codec_Reader_Var r R w) : C_codec_Reader_Var r w R := by
 unfold F_codec_Reader_Var at h
 refine Yh Try.func42 ?_
 · refine Yt ?_
   refine Yw pv_ h fun b_ w1 h => ?_
   refine Yf [] [0, 2] ?_
   refine Yt ?_
   refine Yn P2 ?_
   refine Ym1 h fun v5 w2 h => ?_
   refine Yf [] [2] ?_
   refine Yt ?_
   refine Yl h fun v6 h => ?_
   refine Yo h fun w3 h => ?_
   refine Yf [] [2] ?_
   obtain ⟨res, hc_res, h⟩ := h
   exact YSg (rs := [(ResultVar.cell 2 86)]) (v := Value.int .u64 res) (⟨b_, 0, [Value.int .u64 res], by kernel_rfl, hc_res, (sizeP_of (k := 1) (by kernel_rfl) (by kernel_rfl)), .inr ⟨by kernel_rfl, rfl⟩, trivial⟩) ⟨res, rfl, h⟩

/-! ### (*towpath/codec.Reader).Fixed (function 44) -/

theorem S_codec_Reader_Fixed {r : Option Addr} {width : Int} {w : World} {R : Int → World → Prop} (h : F_codec_Reader_Fixed r width R w) : C_codec_Reader_Fixed r width w R := by
 unfold F_codec_Reader_Fixed at h
 refine Yh Try.func44 ?_
 · refine Yt ?_
   refine Yw pv_ h fun b_ w1 h => ?_
   refine Yw pv_ h fun b_1 w2 h => ?_
   refine Yf [] [0, 3, 4] ?_
   refine Yt ?_
   refine Yn P2 ?_
   refine Ym1 h fun v7 w3 h => ?_
   refine Yf [] [4] ?_
   refine Yt ?_
   refine Yl h fun v8 h => ?_
   refine Yo h fun w4 h => ?_
   refine Yf [] [4] ?_
   obtain ⟨res, hc_res, h⟩ := h
   exact YSg (rs := [(ResultVar.cell 4 86)]) (v := Value.int .u64 res) (⟨b_1, 0, [Value.int .u64 res], by kernel_rfl, hc_res, (sizeP_of (k := 1) (by kernel_rfl) (by kernel_rfl)), .inr ⟨by kernel_rfl, rfl⟩, trivial⟩) ⟨res, rfl, h⟩

/-! ### (*towpath/codec.Reader).Text (function 45) -/

theorem S_codec_Reader_Text {r : Option Addr} {most : Int} {w : World} {R : ByteArray → World → Prop} (h : F_codec_Reader_Text r most R w) : C_codec_Reader_Text r most w R := by
 unfold F_codec_Reader_Text at h
 refine Yh Try.func45 ?_
 · refine Yt ?_
   refine Yw pv_ h fun b_ w1 h => ?_
   refine Yw pv_ h fun b_1 w2 h => ?_
   refine Yf [] [0, 3, 4] ?_
   refine Yt ?_
   refine Yn P2 ?_
   refine Ym1 h fun v7 w3 h => ?_
   refine Yf [] [4] ?_
   refine Yt ?_
   refine Yl h fun v8 h => ?_
   refine Yo h fun w4 h => ?_
   refine Yf [] [4] ?_
   obtain ⟨res, hc_res, h⟩ := h
   exact YSg (rs := [(ResultVar.cell 4 9)]) (v := Value.string res) (⟨b_1, 0, [Value.string res], by kernel_rfl, hc_res, (sizeP_of (k := 1) (by kernel_rfl) (by kernel_rfl)), .inr ⟨by kernel_rfl, rfl⟩, trivial⟩) ⟨res, rfl, h⟩

/-! ### towpath/codec.NewWriter (function 46) -/

theorem S_codec_NewWriter {w : World} {R : Option Addr → World → Prop} (h : F_codec_NewWriter R w) : C_codec_NewWriter w R := by
 unfold F_codec_NewWriter at h
 refine Yh Try.func46 ?_
 · refine Yp P1 [] ?_
   refine Yt ?_
   refine Yn P1 ?_
   refine Yw pv_ h fun b_ w1 h => ?_
   refine Yf P1 [0] ?_
   exact YS ⟨(some ⟨b_, 0, none⟩), rfl, h⟩

/-! ### (*towpath/codec.Writer).Var (function 47) -/

theorem S_codec_Writer_Var {w_ : Option Addr} {n_ : Int} {w : World} {R : World → Prop} (h : F_codec_Writer_Var w_ n_ R w) : C_codec_Writer_Var w_ n_ w R := by
 unfold F_codec_Writer_Var at h
 refine Yh Try.func47 ?_
 · refine Ys ?_
   refine Yt ?_
   refine Yn P1 ?_
   refine Ym1 h fun v5 w1 h => ?_
   refine Yf [] [0, 1, 5] ?_
   refine Yc h (fun h => ?_) fun h => ?_
   · exact YT0 ⟨rfl, h⟩
   · refine Yskip ?_
     refine Ys ?_
     refine Yd 0 ?_
     obtain ⟨I, μ, h0, hr⟩ := h
     refine Yloop (fun m l w => ∃ (n_1 : Int), l = [(0, Value.pointer w_), (1, Value.int .u64 n_1)] ∧ I n_1 w ∧ μ n_1 w = m) ⟨n_, rfl, h0, rfl⟩ ?_
     rintro _ _ w2 ⟨n_1, rfl, hI, rfl⟩
     obtain ⟨again_, again__h, h⟩ : ∃ again_ : Int → World → Prop, (∀ n_1' w', again_ n_1' w' → I n_1' w' ∧ μ n_1' w' < μ n_1 w2) ∧ F_codec_Writer_Var_L0 w_ R again_ n_1 w2 := ⟨_, fun _ _ h => h, hr n_1 w2 hI⟩
     clear h0 hI
     unfold F_codec_Writer_Var_L0 at h
     refine Ys ?_
     refine Yp P2 [0, 1, 7] ?_
     refine Yc h (fun h => ?_) fun h => ?_
     · refine Yskip ?_
       refine Ys ?_
       refine Yd 1 ?_
       refine Yr ?_
       refine Yn P2 ?_
       refine Yv 11 h fun hp_6 h => ?_
       refine Yn P1 ?_
       refine Yn P1 ?_
       refine Yl h fun v14 h => ?_
       refine Yn P3 ?_
       refine Yw (sl_ 1 1) h fun b_ w3 h => ?_
       obtain ⟨src, hs, h⟩ := h
       refine reg_append (t := 22) (tx := 22) (e := 5) (a := (Operand.tmp 14)) (xo := (Operand.tmp 18)) (s := v14) (x := (Slc.mk (some ⟨b_, 0, none⟩) 1 1)) (sz := 1) (by_ := 1) (zs := [Value.int .u8 0]) (ty := 22) (dst := some 19)  src (by kernel_rfl) (by kernel_rfl) (by kernel_rfl) (by kernel_rfl) (by kernel_rfl) (by kernel_rfl) (by kernel_rfl) (by kernel_rfl) (by kernel_rfl) hs (AppendW.mono h (fun v19 w4 h => ?_))
       refine Yv 10 h fun hp_7 h => ?_
       refine Yn P1 ?_
       refine Yn P1 ?_
       refine Yo h fun w5 h => ?_
       refine Yf [] [0, 1] ?_
       refine Yr ?_
       refine Yf P3 [0, 1] ?_
       have hb_ := again__h _ _ h
       exact ⟨_, hb_.2, _, Sub.mk (by kernel_rfl), (Int.fdiv n_1 (2 ^ 7)), rfl, hb_.1, rfl⟩
     · refine Yexit 0 ?_
       refine Yr ?_
       refine Yn P2 ?_
       refine Yv 23 h fun hp_8 h => ?_
       refine Yn P1 ?_
       refine Yn P1 ?_
       refine Yl h fun v26 h => ?_
       refine Yn P2 ?_
       refine Yw (sl_ 1 1) h fun b_1 w6 h => ?_
       obtain ⟨src, hs, h⟩ := h
       refine reg_append (t := 22) (tx := 22) (e := 5) (a := (Operand.tmp 26)) (xo := (Operand.tmp 29)) (s := v26) (x := (Slc.mk (some ⟨b_1, 0, none⟩) 1 1)) (sz := 1) (by_ := 1) (zs := [Value.int .u8 0]) (ty := 22) (dst := some 30)  src (by kernel_rfl) (by kernel_rfl) (by kernel_rfl) (by kernel_rfl) (by kernel_rfl) (by kernel_rfl) (by kernel_rfl) (by kernel_rfl) (by kernel_rfl) hs (AppendW.mono h (fun v30 w7 h => ?_))
       refine Yv 22 h fun hp_9 h => ?_
       refine Yn P1 ?_
       refine Yn P1 ?_
       refine Yo h fun w8 h => ?_
       refine Yf [] [] ?_
       repeat (first | refine seqQ_exit ?_ | refine loopQ_exit ?_ | refine cutQ_exit ?_ | refine blockQ_hit ?_ | refine blockQ_miss (by kernel_rfl) ?_)
       refine retQ_normal ?_
       repeat (first | refine seqQ_ret ?_ | refine blockQ_ret ?_ | refine loopQ_ret ?_ | refine cutQ_ret ?_)
       exact retT (rs := []) (vs := []) (by kernel_rfl) (trivial) (by kernel_rfl) ⟨rfl, h⟩

/-! ### (*towpath/codec.Writer).Text (function 48) -/

theorem S_codec_Writer_Text {w_ : Option Addr} {s : ByteArray} {w : World} {R : World → Prop} (h : F_codec_Writer_Text w_ s R w) : C_codec_Writer_Text w_ s w R := by
 unfold F_codec_Writer_Text at h
 refine Yh Try.func48 ?_
 · refine Ys ?_
   refine Yt ?_
   refine Yn P1 ?_
   refine Ym1 h fun v5 w1 h => ?_
   refine Yf [] [0, 1, 5] ?_
   refine Yc h (fun h => ?_) fun h => ?_
   · exact YT0 ⟨rfl, h⟩
   · refine Yskip ?_
     refine Yt ?_
     refine Yn P4 ?_
     refine Ym0 h fun w2 h => ?_
     refine Yf [] [0, 1] ?_
     refine Yr ?_
     refine Yn P2 ?_
     refine Yv 12 h fun hp_0 h => ?_
     refine Yn P1 ?_
     refine Yn P1 ?_
     refine Yl h fun v15 h => ?_
     refine Yn P1 ?_
     refine reg_appendStr (t := 22) (tx := 9) (e := 5) (a := (Operand.tmp 15)) (xo := (Operand.tmp 16)) (s := v15) (str := s) (by_ := 1) (zs := [Value.int .u8 0]) (ty := 22) (dst := some 17)  (by kernel_rfl) (by kernel_rfl) (by kernel_rfl) (by kernel_rfl) (by kernel_rfl) (by kernel_rfl) (by kernel_rfl) (by kernel_rfl) (by kernel_rfl) (AppendW.mono h (fun v17 w3 h => ?_))
     refine Yv 11 h fun hp_1 h => ?_
     refine Yn P1 ?_
     refine Yn P1 ?_
     refine Yo h fun w4 h => ?_
     refine Yf [] [] ?_
     repeat (first | refine seqQ_exit ?_ | refine loopQ_exit ?_ | refine cutQ_exit ?_ | refine blockQ_hit ?_ | refine blockQ_miss (by kernel_rfl) ?_)
     refine retQ_normal ?_
     repeat (first | refine seqQ_ret ?_ | refine blockQ_ret ?_ | refine loopQ_ret ?_ | refine cutQ_ret ?_)
     exact retT (rs := []) (vs := []) (by kernel_rfl) (trivial) (by kernel_rfl) ⟨rfl, h⟩

/-! ### (*towpath/codec.Writer).Fixed (function 49) -/

theorem S_codec_Writer_Fixed {w_ : Option Addr} {n_ : Int} {width : Int} {w : World} {R : Int → World → Prop} (h : F_codec_Writer_Fixed w_ n_ width R w) : C_codec_Writer_Fixed w_ n_ width w R := by
 unfold F_codec_Writer_Fixed at h
 refine Yh Try.func49 ?_
 · refine Yp P1 [0, 1, 2] ?_
   refine Ys ?_
   refine Yd 0 ?_
   refine Yt ?_
   refine Yn P1 ?_
   refine Ym1 h fun v9 w1 h => ?_
   refine Yf P1 [0, 1, 2, 7] ?_
   refine Yc h (fun h => ?_) fun h => ?_
   · refine Yp P1 [6] ?_
     exact YS ⟨2, rfl, h⟩
   · refine Yp [.plain, .plain, .plain, .plain, .plain, .pick, .plain] [0, 1, 2, 10] ?_
     refine Yc h (fun h => ?_) fun h => ?_
     · refine Yp P1 [6] ?_
       exact YS ⟨1, rfl, h⟩
     · refine Yt ?_
       refine Yn P3 ?_
       obtain ⟨h0, h⟩ := h
       refine reg_val (op := (Op.binOp BinOp.shr 86 (Operand.tmp 18) (Operand.tmp 20) 3)) (ty := 86) (dst := some 21) (Value.int .u64 (Int.fdiv n_ (2 ^ (min (IntKind.i64.wrap (8 * width)).toNat 64)))) (by kernel_rfl) (fun ww => run_shr (k' := .i64) (by kernel_rfl) (by kernel_rfl) (by kernel_rfl) h0 ww) ?_
       refine Yf P2 [0, 1, 2, 17] ?_
       refine Yc h (fun h => ?_) fun h => ?_
       · refine Yp P1 [6] ?_
         exact YS ⟨3, rfl, h⟩
       · refine Yskip ?_
         refine Ys ?_
         refine Yp P2 [0, 1, 23, 24] ?_
         refine Yd 1 ?_
         obtain ⟨I, μ, h0, hr⟩ := h
         refine Yloop (fun m l w => ∃ (n_1 : Int) (t24 : Int), l = [(0, Value.pointer w_), (1, Value.int .u64 n_1), (23, Value.int .i64 width), (24, Value.int .i64 t24)] ∧ I n_1 t24 w ∧ μ n_1 t24 w = m) ⟨n_, 0, rfl, h0, rfl⟩ ?_
         rintro _ _ w2 ⟨n_1, t24, rfl, hI, rfl⟩
         obtain ⟨again_, again__h, h⟩ : ∃ again_ : Int → Int → World → Prop, (∀ n_1' t24' w', again_ n_1' t24' w' → I n_1' t24' w' ∧ μ n_1' t24' w' < μ n_1 t24 w2) ∧ F_codec_Writer_Fixed_L0 w_ width R again_ n_1 t24 w2 := ⟨_, fun _ _ _ h => h, hr n_1 t24 w2 hI⟩
         clear h0 hI
         unfold F_codec_Writer_Fixed_L0 at h
         refine Yp P1 [0, 1, 23, 24, 25] ?_
         refine Ys ?_
         refine Yc h (fun h => ?_) fun h => ?_
         · refine Yskip ?_
           refine Ys ?_
           refine Yd 2 ?_
           refine Yt ?_
           refine Yn P2 ?_
           refine Yv 27 h fun hp_14 h => ?_
           refine Yn P1 ?_
           refine Yn P1 ?_
           refine Yl h fun v30 h => ?_
           refine Yn P2 ?_
           refine Yw (sl_ 1 1) h fun b_ w3 h => ?_
           obtain ⟨src, hs, h⟩ := h
           refine reg_append (t := 22) (tx := 22) (e := 5) (a := (Operand.tmp 30)) (xo := (Operand.tmp 33)) (s := v30) (x := (Slc.mk (some ⟨b_, 0, none⟩) 1 1)) (sz := 1) (by_ := 1) (zs := [Value.int .u8 0]) (ty := 22) (dst := some 34)  src (by kernel_rfl) (by kernel_rfl) (by kernel_rfl) (by kernel_rfl) (by kernel_rfl) (by kernel_rfl) (by kernel_rfl) (by kernel_rfl) (by kernel_rfl) hs (AppendW.mono h (fun v34 w4 h => ?_))
           refine Yv 26 h fun hp_15 h => ?_
           refine Yn P1 ?_
           refine Yn P1 ?_
           refine Yo h fun w5 h => ?_
           refine Yf [] [0, 1, 23, 24] ?_
           refine Yr ?_
           refine Yf P3 [0, 1, 23, 24] ?_
           refine Yr ?_
           refine Yf P2 [0, 1, 23, 24] ?_
           have hb_ := again__h _ _ _ h
           exact ⟨_, hb_.2, _, Sub.mk (by kernel_rfl), (Int.fdiv n_1 (2 ^ 8)), (IntKind.i64.wrap (t24 + 1)), rfl, hb_.1, rfl⟩
         · refine Yexit 1 ?_
           refine Yp P1 [6] ?_
           exact YS ⟨0, rfl, h⟩

/-! ### (*towpath/codec.Writer).Done (function 50) -/

theorem S_codec_Writer_Done {w_ : Option Addr} {w : World} {R : Slc → World → Prop} (h : F_codec_Writer_Done w_ R w) : C_codec_Writer_Done w_ w R := by
 unfold F_codec_Writer_Done at h
 refine Yh Try.func50 ?_
 · refine Yp P1 [0] ?_
   refine Ys ?_
   refine Yt ?_
   refine Yn P1 ?_
   refine Ym1 h fun v4 w1 h => ?_
   refine Yf [] [0, 4] ?_
   refine Yc h (fun h => ?_) fun h => ?_
   · refine Yp P1 [2] ?_
     exact YS ⟨(Slc.mk none 0 0), rfl, h⟩
   · refine Yskip ?_
     refine Yt ?_
     refine Yn P1 ?_
     refine Yv 5 h fun hp_0 h => ?_
     refine Yn P1 ?_
     refine Yn P1 ?_
     refine Yl h fun v8 h => ?_
     refine Ym1 h fun v9 w2 h => ?_
     refine Yf P1 [2] ?_
     exact YS ⟨v9, rfl, h⟩

/-! ### (*towpath/codec.Reader).take (function 72) -/
def c72_0 := cb_ Try.f72
def c72_3 := cr_ c72_0
def c72_13 := cr_ c72_3
def c72_16 := cr_ c72_13
def c72_29 := cr_ c72_16
def c72_30 := cl_ c72_29
def r72_30 := co_ c72_30

theorem S_codec_Reader_take {r : Option Addr} {next : Value} {w : World} {R : Bool → World → Prop} (h : F_codec_Reader_take r next R w) : C_codec_Reader_take r next w R := by
 unfold F_codec_Reader_take at h
 refine Yh Try.func72 ?_
 · refine Yp P1 [0, 1] ?_
   refine Ys ?_
   refine Ycut (fun l w => ∃ (t22 : Bool), l = [(0, Value.pointer r), (1, next), (22, Value.bool t22)] ∧ F_codec_Reader_take_k0 r next R t22 w) ?_ ?_
   · refine Yr ?_
     refine Yn P1 ?_
     refine reg_val (op := (Op.binOp BinOp.eql 82 (Operand.tmp 7) (Operand.const (Value.pointer none)) 82)) (ty := 4) (dst := some 8) (Value.bool r.isNone) (by kernel_rfl) (fun ww => run_ptr_eql_R (p := r) (by kernel_rfl) (by kernel_rfl) (by kernel_rfl) ww) ?_
     refine Yn P2 ?_
     refine Yspl 9 h (fun h => ?_) fun h => ?_
     · refine Yf [.skip, .skip, .skip, .skip, .plain, .plain, .skip, .skip, .skip, .skip, .skip, .plain] [0, 1, 22] ?_
       exact ⟨_, Sub.mk (by kernel_rfl), true, rfl, h⟩
     · refine Yv 10 h fun hp_20 h => ?_
       refine Yn [.sure] ?_
       refine Yn [.sure] ?_
       refine Yl h fun v13 h => ?_
       refine Yn [.sure, .plain, .plain, .plain] ?_
       refine Yspl 16 h (fun h => ?_) fun h => ?_
       · refine Yf [.skip, .skip, .skip, .skip, .plain] [0, 1, 22] ?_
         exact ⟨_, Sub.mk (by kernel_rfl), true, rfl, h⟩
       · refine Yv 17 h fun hp_21 h => ?_
         refine Yn [.sure] ?_
         refine Yn [.sure] ?_
         refine Yl h fun v20 h => ?_
         refine Yf [.sure, .plain] [0, 1, 22] ?_
         exact ⟨_, Sub.mk (by kernel_rfl), (v20 != 0), rfl, h⟩
   · rintro _ w1 ⟨t22, rfl, h⟩
     unfold F_codec_Reader_take_k0 at h
     refine Yc h (fun h => ?_) fun h => ?_
     · refine Yp P1 [4] ?_
       exact YS ⟨false, rfl, h⟩
     · refine Yskip ?_
       refine Yt ?_
       refine Yn P2 ?_
       refine Yv 25 h fun hp_7 h => ?_
       refine Yn P1 ?_
       refine Yn P1 ?_
       refine Yl h fun v28 h => ?_
       refine reg_enterV (fo := (Operand.tmp 24)) (aa := #[(Operand.tmp 28)]) (ts := #[22]) (fv := next) (ty := 69) (dst := some 29) #[sv_ v28] (by kernel_rfl) (by kernel_rfl) (by kernel_rfl) (CallsV.mono h ?_)
       rintro _ w2 ⟨n_, e, rfl, h⟩
       refine ⟨_, rfl, ?_⟩
       refine Yf (Pl 5) [0, 5, 6] ?_
       refine Ys ?_
       refine Yp P2 [0, 5, 6, 33] ?_
       refine Yc h (fun h => ?_) fun h => ?_
       · refine Yt ?_
         refine Yn P2 ?_
         refine Yv 34 h fun hp_11 h => ?_
         refine Yn P1 ?_
         refine Yn P1 ?_
         refine Yo h fun w3 h => ?_
         refine Yf [] [] ?_
         refine Yp P1 [4] ?_
         exact YS ⟨false, rfl, h⟩
       · refine Yskip ?_
         refine Ys ?_
         refine wpE_tailregion (id := 7) (ops := r72_30) (by kernel_rfl) 19 (by kernel_rfl) (by kernel_rfl) (fun w4 hw => ?_)
         replace h := h w4 hw
         clear hw
         refine Qn P2 ?_
         refine Qv 39 h fun hp_16 h => ?_
         refine Qn P1 ?_
         refine Qn P1 ?_
         refine Ql h fun v42 h => ?_
         refine Qn P2 ?_
         refine Qv 44 h fun hp_17 h => ?_
         refine Qn P1 ?_
         refine Qn P1 ?_
         refine Ql h fun v47 h => ?_
         refine Qn P2 ?_
         refine Qv 49 h fun hp_18 h => ?_
         refine Qn P1 ?_
         refine Qn P1 ?_
         refine Ql h fun v52 h => ?_
         refine Qn P1 ?_
         obtain ⟨hc, h⟩ := h
         refine qreg_sliceHM (t := 22) (e := 5) (x := (Operand.tmp 42)) (lo := (Operand.tmp 43)) (hi := (Operand.tmp 48)) (mx := (Operand.tmp 53)) (s := v42) (sz := 1) (k := .i64) (a := n_) (k' := .i64) (b := ((v47.len : Nat) : Int)) (k'' := .i64) (c := ((v52.len : Nat) : Int)) (ty := 22) (dst := some 54) (by kernel_rfl) (by kernel_rfl) (by kernel_rfl) (by kernel_rfl) (by kernel_rfl) (by kernel_rfl) (by kernel_rfl) hc (fun s hs => ?_)
         replace h := h s hs
         clear hs
         refine Qv 38 h fun hp_19 h => ?_
         refine Qn P1 ?_
         refine Qn P1 ?_
         refine qreg_tail (by kernel_rfl) ?_
         refine Yo h fun w5 h => ?_
         refine Yf [] [] ?_
         refine Yp P1 [4] ?_
         exact YS ⟨true, rfl, h⟩

/-! ### (*towpath/codec.Reader).Var$1 (function 73) -/

theorem S_codec_Reader_Var_1 {b_ : Slc} {t1 : Option Addr} {w : World} {R : Int → Int → World → Prop} (h : F_codec_Reader_Var_1 b_ t1 R w) : C_codec_Reader_Var_1 b_ t1 w R := by
 unfold F_codec_Reader_Var_1 at h
 refine Yh Try.func73 ?_
 · refine Yp P2 [0, 1] ?_
   refine Yt ?_
   refine Yn P1 ?_
   refine Ym3 h fun v size e w1 h => ?_
   refine Yf (Pl 7) [1, 5, 6, 7] ?_
   refine Yt ?_
   refine Yn P1 ?_
   refine Yv 1 h fun hp_1 h => ?_
   refine Yo h fun w2 h => ?_
   refine Yf [] [6, 7] ?_
   refine Yp P4 [3, 4] ?_
   exact YT2 ⟨size, e, rfl, h⟩

/-! ### towpath/codec.short (function 74) -/

theorem S_codec_short {b_ : Slc} {w : World} {R : Int → Int → Int → World → Prop} (h : F_codec_short b_ R w) : C_codec_short b_ w R := by
 unfold F_codec_short at h
 refine Yh Try.func74 ?_
 · refine Yp P3 [0, 2] ?_
   refine Ys ?_
   refine Yp P3 [2, 7, 8, 9] ?_
   refine Yd 0 ?_
   obtain ⟨I, μ, h0, hr⟩ := h
   refine Yloop (fun m l w => ∃ (n_ : Int) (t9 : Int), l = [(2, Value.int .u64 n_), (7, sv_ b_), (8, Value.int .i64 ((b_.len : Nat) : Int)), (9, Value.int .i64 t9)] ∧ I n_ t9 w ∧ μ n_ t9 w = m) ⟨0, 0, rfl, h0, rfl⟩ ?_
   rintro _ _ w1 ⟨n_, t9, rfl, hI, rfl⟩
   obtain ⟨again_, again__h, h⟩ : ∃ again_ : Int → Int → World → Prop, (∀ n_' t9' w', again_ n_' t9' w' → I n_' t9' w' ∧ μ n_' t9' w' < μ n_ t9 w1) ∧ F_codec_short_L0 b_ R again_ n_ t9 w1 := ⟨_, fun _ _ _ h => h, hr n_ t9 w1 hI⟩
   clear h0 hI
   unfold F_codec_short_L0 at h
   refine Yp P1 [2, 7, 8, 9, 10] ?_
   refine Ys ?_
   refine Yc h (fun h => ?_) fun h => ?_
   · refine Yskip ?_
     refine Ys ?_
     refine Yd 1 ?_
     refine Yt ?_
     refine Yn P1 ?_
     obtain ⟨hp_7, h⟩ := h
     refine Yu 7 (fun pp => .slice pp b_.len b_.cap) hp_7 ?_
     refine Yi1 h fun h => ?_
     refine Yl h fun c h => ?_
     refine Yn P2 ?_
     refine Yu 7 (fun pp => .slice pp b_.len b_.cap) hp_7.symm ?_
     refine Yf [] [2, 5, 6, 7, 8, 9] ?_
     refine Ys ?_
     refine Yp [.plain, .plain, .plain, .plain, .plain, .pick, .plain, .plain, .plain, .plain, .plain, .plain, .pick, .pick] [2, 5, 6, 7, 8, 9, 27] ?_
     refine Yc h (fun h => ?_) fun h => ?_
     · refine Yp P3 [2, 3, 4] ?_
       exact YT3 ⟨0, 0, 4, rfl, h⟩
     · refine Yskip ?_
       refine Yt ?_
       refine Yn (Pl 6) ?_
       obtain ⟨h0, h⟩ := h
       refine reg_val (op := (Op.binOp BinOp.shl 86 (Operand.tmp 31) (Operand.tmp 33) 3)) (ty := 86) (dst := some 34) (Value.int .u64 (IntKind.u64.wrap ((IntKind.u64.wrap (band .u8 c 127)) * 2 ^ (min (IntKind.i64.wrap (7 * t9)).toNat 64)))) (by kernel_rfl) (fun ww => run_shl (k' := .i64) (by kernel_rfl) (by kernel_rfl) (by kernel_rfl) h0 ww) ?_
       refine Yf P2 [2, 5, 6, 7, 8, 9] ?_
       refine Yp P2 [2, 5, 7, 8, 9, 37] ?_
       refine Yc h (fun h => ?_) fun h => ?_
       · refine Yp (Pl 6) [2, 3, 4] ?_
         exact YT3 ⟨(bor .u64 n_ (IntKind.u64.wrap ((IntKind.u64.wrap (band .u8 c 127)) * 2 ^ (min (IntKind.i64.wrap (7 * t9)).toNat 64)))), (IntKind.i64.wrap (t9 + 1)), 0, rfl, h⟩
       · refine Yskip ?_
         refine Yr ?_
         refine Yf P2 [2, 7, 8, 9] ?_
         have hb_ := again__h _ _ _ h
         exact ⟨_, hb_.2, _, Sub.mk (by kernel_rfl), (bor .u64 n_ (IntKind.u64.wrap ((IntKind.u64.wrap (band .u8 c 127)) * 2 ^ (min (IntKind.i64.wrap (7 * t9)).toNat 64)))), (IntKind.i64.wrap (t9 + 1)), rfl, hb_.1, rfl⟩
   · refine Yexit 0 ?_
     refine Yp P3 [2, 3, 4] ?_
     exact YT3 ⟨0, 0, 5, rfl, h⟩
end
end Go.Proofs.Ytpdegdnigcnjiaa
