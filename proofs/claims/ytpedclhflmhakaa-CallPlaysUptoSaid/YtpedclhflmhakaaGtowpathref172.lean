/- WRITTEN BY PROGRAM (dec.py): for each Go function the clean formula F, the call's contract C, and the proof S that F gives C. -/
import Derived.Test.YtpedclhflmhakaaRows
import Derived.Test.YtpedclhflmhakaaGF
namespace Go.Proofs.Ytpedclhflmhakaa
open Go
set_option linter.unusedVariables false
set_option maxRecDepth 100000
set_option maxHeartbeats 4000000
noncomputable section

/-! ### (*towpath/towpathref17.Task).req (function 99) -/
def c99_0 := cb_ Try.f99
def c99_3 := cr_ c99_0
def c99_4 := cl_ c99_3
def c99_7 := cr_ c99_4
def c99_8 := cl_ c99_7
def c99_11 := cr_ c99_8
def c99_12 := cl_ c99_11
def c99_13 := cl_ c99_12
def r99_13 := co_ c99_13
def c99_16 := cr_ c99_11
def c99_19 := cr_ c99_16
def c99_20 := cl_ c99_19
def c99_21 := cl_ c99_20
def r99_21 := co_ c99_21
def c99_33 := cr_ c99_3
def c99_34 := cl_ c99_33
def r99_34 := co_ c99_34
def o_towpathref17_Task_req_34 : List Nat := [0, 1, 2, 3, 4, 5, 6, 7, 8]

theorem S_towpathref17_Task_req {t_ : Option Addr} {mark : Int} {least : Int} {beyond : Slc} {w : World} {R : T_api_Req → World → Prop} (h : F_towpathref17_Task_req t_ mark least beyond R w) : C_towpathref17_Task_req t_ mark least beyond w R := by
 unfold F_towpathref17_Task_req at h
 refine Yh Try.func99 ?_
 · refine Yt ?_
   refine Yw pv_ h fun b_ w1 h => ?_
   refine Yf [] [0, 1, 2, 3, 8] ?_
   refine Ys ?_
   refine Yt ?_
   refine Yn P1 ?_
   refine Yv 9 h fun hp_9 h => ?_
   refine Yn P1 ?_
   refine Yn P2 ?_
   refine Yl h fun v13 h => ?_
   refine Yf [] [0, 1, 2, 3, 8, 13] ?_
   refine Yd 0 ?_
   refine Yp P2 [0, 1, 2, 3, 8, 13, 14] ?_
   refine Yc h (fun h => ?_) fun h => ?_
   · refine Ys ?_
     refine wpE_tailregion (id := 3) (ops := r99_13) (by kernel_rfl) 11 (by kernel_rfl) (by kernel_rfl) (fun w2 hw => ?_)
     replace h := h w2 hw
     clear hw
     refine Qn P1 ?_
     refine Qv 16 h fun hp_10 h => ?_
     refine Qn P1 ?_
     refine Qn P1 ?_
     refine Ql h fun v19 h => ?_
     refine Qn P2 ?_
     refine Qv 21 h fun hp_11 h => ?_
     refine Qn P1 ?_
     refine Qn P2 ?_
     refine Ql h fun v25 h => ?_
     refine Qn P1 ?_
     refine qreg_tail (by kernel_rfl) ?_
     refine Yo h fun w3 h => ?_
     refine Yf [] [8] ?_
     obtain ⟨res, hc_res, h⟩ := h
     exact YSg (rs := [(ResultVar.cell 8 80)]) (v := Value.agg #[Value.int .u8 res.Kind, Value.int .i64 res.From, Value.int .i64 res.Number, Value.string res.Write.Key, Value.string res.Write.Val, Value.bool res.Write.Drop, Value.string res.Key, Value.string res.End, sv_ res.Beyond]) (⟨b_, 0, [Value.int .u8 res.Kind, Value.int .i64 res.From, Value.int .i64 res.Number, Value.string res.Write.Key, Value.string res.Write.Val, Value.bool res.Write.Drop, Value.string res.Key, Value.string res.End, sv_ res.Beyond], by kernel_rfl, hc_res, (sizeP_of (k := 9) (by kernel_rfl) (by kernel_rfl)), .inl ⟨by kernel_rfl, rfl⟩, trivial⟩) ⟨res, rfl, h⟩
   · refine Yp P2 [0, 1, 2, 3, 8, 13, 27] ?_
     refine Yc h (fun h => ?_) fun h => ?_
     · refine Ys ?_
       refine wpE_tailregion (id := 5) (ops := r99_21) (by kernel_rfl) 16 (by kernel_rfl) (by kernel_rfl) (fun w4 hw => ?_)
       replace h := h w4 hw
       clear hw
       refine Qn P1 ?_
       refine Qv 29 h fun hp_12 h => ?_
       refine Qn P1 ?_
       refine Qn P1 ?_
       refine Ql h fun v32 h => ?_
       refine Qn P2 ?_
       refine Qv 34 h fun hp_13 h => ?_
       refine Qn P1 ?_
       refine Qn P2 ?_
       refine Ql h fun v38 h => ?_
       refine Qn P1 ?_
       refine Qv 39 h fun hp_14 h => ?_
       refine Qn P1 ?_
       refine Qn P2 ?_
       refine Ql h fun v43 h => ?_
       refine Qn P1 ?_
       refine qreg_tail (by kernel_rfl) ?_
       refine Yo h fun w5 h => ?_
       refine Yf [] [8] ?_
       obtain ⟨res1, hc_res1, h⟩ := h
       exact YSg (rs := [(ResultVar.cell 8 80)]) (v := Value.agg #[Value.int .u8 res1.Kind, Value.int .i64 res1.From, Value.int .i64 res1.Number, Value.string res1.Write.Key, Value.string res1.Write.Val, Value.bool res1.Write.Drop, Value.string res1.Key, Value.string res1.End, sv_ res1.Beyond]) (⟨b_, 0, [Value.int .u8 res1.Kind, Value.int .i64 res1.From, Value.int .i64 res1.Number, Value.string res1.Write.Key, Value.string res1.Write.Val, Value.bool res1.Write.Drop, Value.string res1.Key, Value.string res1.End, sv_ res1.Beyond], by kernel_rfl, hc_res1, (sizeP_of (k := 9) (by kernel_rfl) (by kernel_rfl)), .inl ⟨by kernel_rfl, rfl⟩, trivial⟩) ⟨res1, rfl, h⟩
     · refine Yp P2 [0, 1, 2, 3, 8, 45] ?_
       refine Yc h (fun h => ?_) fun h => ?_
       · refine Yt ?_
         refine Yn P1 ?_
         refine Yv 47 h fun hp_15 h => ?_
         refine Yn P1 ?_
         refine Yn P1 ?_
         refine Yl h fun v50 h => ?_
         refine Yn P2 ?_
         refine Yo h fun w6 h => ?_
         refine Yf [] [8] ?_
         obtain ⟨res2, hc_res2, h⟩ := h
         exact YSg (rs := [(ResultVar.cell 8 80)]) (v := Value.agg #[Value.int .u8 res2.Kind, Value.int .i64 res2.From, Value.int .i64 res2.Number, Value.string res2.Write.Key, Value.string res2.Write.Val, Value.bool res2.Write.Drop, Value.string res2.Key, Value.string res2.End, sv_ res2.Beyond]) (⟨b_, 0, [Value.int .u8 res2.Kind, Value.int .i64 res2.From, Value.int .i64 res2.Number, Value.string res2.Write.Key, Value.string res2.Write.Val, Value.bool res2.Write.Drop, Value.string res2.Key, Value.string res2.End, sv_ res2.Beyond], by kernel_rfl, hc_res2, (sizeP_of (k := 9) (by kernel_rfl) (by kernel_rfl)), .inl ⟨by kernel_rfl, rfl⟩, trivial⟩) ⟨res2, rfl, h⟩
       · refine Yskip ?_
         refine Ys ?_
         refine wpE_mixregion (id := 8) (ops := r99_34) o_towpathref17_Task_req_34 (by kernel_rfl) (by kernel_rfl) (by kernel_rfl) (by kernel_rfl) (fun w7 hw => ?_)
         replace h := h w7 hw
         clear hw
         refine Mn P1 ?_
         refine Mv 53 h fun hp_16 h => ?_
         refine Mn P1 ?_
         refine Mn P1 ?_
         refine Ml 3 h fun v56 hc h => ?_
         refine Mn P2 ?_
         obtain ⟨src, hs, h⟩ := h
         refine mreg_append (t := 23) (tx := 23) (e := 3) (a := (Operand.const (Value.slice none 0 0))) (xo := (Operand.tmp 58)) (s := (Slc.mk none 0 0)) (x := beyond) (sz := 1) (by_ := 8) (zs := [Value.int .i64 0]) (ty := 23) (dst := some 59) 6 [5] [(3, fun w' => w'.cell? ⟨(pblk t_), (poff t_), none⟩ = some (Value.int .i64 v56))] src (by kernel_rfl) (by kernel_rfl) (by kernel_rfl) (by kernel_rfl) (by kernel_rfl) (by kernel_rfl) (by kernel_rfl) (by kernel_rfl) (by kernel_rfl) (by kernel_rfl) (by kernel_rfl) (by kernel_rfl) (by kernel_rfl) hs (AppendW.mono h (fun v59 w8 h => ?_))
         obtain ⟨hk0, h⟩ := h
         refine ⟨⟨hk0, trivial⟩, ?_⟩
         refine Mn P1 ?_
         refine Mstore 8 [0, 1, 2, 3, 4, 5, 6, 7] [] h fun w9 h => ?_
         refine ⟨trivial, ?_⟩
         refine Mf [] [8] ?_
         obtain ⟨res3, hc_res3, h⟩ := h
         exact YSg (rs := [(ResultVar.cell 8 80)]) (v := Value.agg #[Value.int .u8 res3.Kind, Value.int .i64 res3.From, Value.int .i64 res3.Number, Value.string res3.Write.Key, Value.string res3.Write.Val, Value.bool res3.Write.Drop, Value.string res3.Key, Value.string res3.End, sv_ res3.Beyond]) (⟨b_, 0, [Value.int .u8 res3.Kind, Value.int .i64 res3.From, Value.int .i64 res3.Number, Value.string res3.Write.Key, Value.string res3.Write.Val, Value.bool res3.Write.Drop, Value.string res3.Key, Value.string res3.End, sv_ res3.Beyond], by kernel_rfl, hc_res3, (sizeP_of (k := 9) (by kernel_rfl) (by kernel_rfl)), .inl ⟨by kernel_rfl, rfl⟩, trivial⟩) ⟨res3, rfl, h⟩

/-! ### towpath/towpathref17.entry (function 104) -/
def c104_0 := cb_ Try.f104
def c104_3 := cr_ c104_0
def c104_6 := cr_ c104_3
def c104_9 := cr_ c104_6
def c104_10 := cl_ c104_9
def c104_13 := cr_ c104_10
def c104_14 := cl_ c104_13
def c104_15 := cl_ c104_14
def c104_22 := cr_ c104_15
def c104_23 := cl_ c104_22
def c104_24 := cl_ c104_23
def c104_25 := cl_ c104_24
def c104_26 := cl_ c104_25
def r104_26 := co_ c104_26

theorem S_towpathref17_entry {l_ : Slc} {x : T_api_Entry} {w : World} {R : Slc → World → Prop} (h : F_towpathref17_entry l_ x R w) : C_towpathref17_entry l_ x w R := by
 unfold F_towpathref17_entry at h
 refine Yh Try.func104 ?_
 · refine Yt ?_
   refine Yw pv_ h fun b_ w1 h => ?_
   refine Yf P1 [0, 3] ?_
   refine Yp P1 [0, 3, 5] ?_
   refine Yp P1 [0, 3, 5, 6] ?_
   refine Ys ?_
   refine Yp P1 [0, 3, 5, 6, 7] ?_
   refine Yd 0 ?_
   obtain ⟨I, μ, h0, hr⟩ := h
   refine Yloop (fun m l w => ∃ (out : Slc) (done : Bool) (i : Int), l = [(0, sv_ l_), (3, pv_ b_), (5, sv_ out), (6, Value.bool done), (7, Value.int .i64 i)] ∧ I out done i w ∧ μ out done i w = m) ⟨(Slc.mk none 0 0), false, 0, rfl, h0, rfl⟩ ?_
   rintro _ _ w2 ⟨out, done, i, rfl, hI, rfl⟩
   obtain ⟨again_, again__h, h⟩ : ∃ again_ : Slc → Bool → Int → World → Prop, (∀ out' done' i' w', again_ out' done' i' w' → I out' done' i' w' ∧ μ out' done' i' w' < μ out done i w2) ∧ F_towpathref17_entry_L0 l_ R b_ again_ out done i w2 := ⟨_, fun _ _ _ _ h => h, hr out done i w2 hI⟩
   clear h0 hI
   unfold F_towpathref17_entry_L0 at h
   refine Ys ?_
   refine Yp P4 [0, 3, 5, 6, 7, 11] ?_
   refine Yc h (fun h => ?_) fun h => ?_
   · refine Yskip ?_
     refine Ys ?_
     refine Yd 1 ?_
     refine Ycut (fun l w => ∃ (out1 : Slc) (done1 : Bool), l = [(0, sv_ l_), (3, pv_ b_), (5, sv_ out1), (6, Value.bool done1), (7, Value.int .i64 i)] ∧ F_towpathref17_entry_k1 l_ i again_ out1 done1 w) ?_ ?_
     · refine Ycut (fun l w => ∃ (t25 : Bool), l = [(0, sv_ l_), (3, pv_ b_), (5, sv_ out), (6, Value.bool done), (7, Value.int .i64 i), (25, Value.bool t25)] ∧ F_towpathref17_entry_k2 l_ b_ out done i again_ t25 w) ?_ ?_
       · refine wpE_drawregion (id := 6) (ops := r104_26) (by kernel_rfl) (by kernel_rfl) (by kernel_rfl) ?_
         refine Qn P4 ?_
         refine Qspl 16 h (fun h => ?_) fun h => ?_
         · refine Ql h fun v18 h => ?_
           refine Qn [.sure, .sure] ?_
           obtain ⟨hp_19, h⟩ := h
           refine Qu 19 (fun pp => .slice pp l_.len l_.cap) hp_19 ?_
           refine Qi h fun h => ?_
           refine Qn [.sure] ?_
           refine Ql h fun v23 h => ?_
           refine Qf [.sure, .plain] [0, 3, 5, 6, 7, 25] h fun w9 h => ?_
           exact ⟨_, Sub.mk (by kernel_rfl), (Op.bytesLess v18.toList v23.toList), rfl, h⟩
         · refine Qf [.skip, .skip, .skip, .skip, .skip, .skip, .skip, .plain] [0, 3, 5, 6, 7, 25] h fun w10 h => ?_
           exact ⟨_, Sub.mk (by kernel_rfl), false, rfl, h⟩
       · rintro _ w6 ⟨t25, rfl, h⟩
         unfold F_towpathref17_entry_k2 at h
         refine Yc h (fun h => ?_) fun h => ?_
         · refine Yt ?_
           refine Yn P1 ?_
           refine YL h fun v27 h => ?_
           refine Yw (sl_ 1 1) h fun b_2 w7 h => ?_
           obtain ⟨src, hs, h⟩ := h
           refine reg_append (t := 92) (tx := 92) (e := 140) (a := (Operand.tmp 26)) (xo := (Operand.tmp 28)) (s := out) (x := (Slc.mk (some ⟨b_2, 0, none⟩) 1 1)) (sz := 2) (by_ := 32) (zs := [Value.string ByteArray.empty, Value.string ByteArray.empty]) (ty := 92) (dst := some 29)  src (by kernel_rfl) (by kernel_rfl) (by kernel_rfl) (by kernel_rfl) (by kernel_rfl) (by kernel_rfl) (by kernel_rfl) (by kernel_rfl) (by kernel_rfl) hs (AppendW.mono h (fun out3 w8 h => ?_))
           refine Yf P1 [0, 3, 5, 7] ?_
           refine Yr ?_
           refine Yf P1 [0, 3, 5, 6, 7] ?_
           exact ⟨_, Sub.mk (by kernel_rfl), out3, true, rfl, h⟩
         · refine Yskip ?_
           exact ⟨_, Sub.mk (by kernel_rfl), out, done, rfl, h⟩
     · rintro _ w3 ⟨out1, done1, rfl, h⟩
       unfold F_towpathref17_entry_k1 at h
       refine Yr ?_
       refine Yn P3 ?_
       obtain ⟨hp_17, h⟩ := h
       refine Yu 31 (fun pp => .slice pp l_.len l_.cap) hp_17 ?_
       refine Yi h fun h => ?_
       refine YL h fun v34 h => ?_
       refine Yw (sl_ 1 1) h fun b_1 w4 h => ?_
       obtain ⟨src, hs, h⟩ := h
       refine reg_append (t := 92) (tx := 92) (e := 140) (a := (Operand.tmp 30)) (xo := (Operand.tmp 35)) (s := out1) (x := (Slc.mk (some ⟨b_1, 0, none⟩) 1 1)) (sz := 2) (by_ := 32) (zs := [Value.string ByteArray.empty, Value.string ByteArray.empty]) (ty := 92) (dst := some 36)  src (by kernel_rfl) (by kernel_rfl) (by kernel_rfl) (by kernel_rfl) (by kernel_rfl) (by kernel_rfl) (by kernel_rfl) (by kernel_rfl) (by kernel_rfl) hs (AppendW.mono h (fun out2 w5 h => ?_))
       refine Yf P1 [0, 3, 5, 6, 7] ?_
       refine Yr ?_
       refine Yf P3 [0, 3, 5, 6, 7] ?_
       have hb_ := again__h _ _ _ _ h
       exact ⟨_, hb_.2, _, Sub.mk (by kernel_rfl), out2, done1, (IntKind.i64.wrap (i + 1)), rfl, hb_.1, rfl⟩
   · refine Yexit 0 ?_
     refine Ycut (fun l w => ∃ (out4 : Slc), l = [(5, sv_ out4)] ∧ F_towpathref17_entry_k3 R out4 w) ?_ ?_
     · refine Yp P2 [3, 5, 38] ?_
       refine Yc h (fun h => ?_) fun h => ?_
       · refine Yr ?_
         refine Yn P1 ?_
         refine YL h fun v40 h => ?_
         refine Yw (sl_ 1 1) h fun b_3 w12 h => ?_
         obtain ⟨src, hs, h⟩ := h
         refine reg_append (t := 92) (tx := 92) (e := 140) (a := (Operand.tmp 39)) (xo := (Operand.tmp 41)) (s := out) (x := (Slc.mk (some ⟨b_3, 0, none⟩) 1 1)) (sz := 2) (by_ := 32) (zs := [Value.string ByteArray.empty, Value.string ByteArray.empty]) (ty := 92) (dst := some 42)  src (by kernel_rfl) (by kernel_rfl) (by kernel_rfl) (by kernel_rfl) (by kernel_rfl) (by kernel_rfl) (by kernel_rfl) (by kernel_rfl) (by kernel_rfl) hs (AppendW.mono h (fun out5 w13 h => ?_))
         refine Yf P1 [5] ?_
         exact ⟨_, Sub.mk (by kernel_rfl), out5, rfl, h⟩
       · refine Yskip ?_
         exact ⟨_, Sub.mk (by kernel_rfl), out, rfl, h⟩
     · rintro _ w11 ⟨out4, rfl, h⟩
       unfold F_towpathref17_entry_k3 at h
       refine Yp P2 [4] ?_
       exact YS ⟨out4, rfl, h⟩

/-! ### towpath/towpathref17.held (function 105) -/
def c105_0 := cb_ Try.f105
def c105_3 := cr_ c105_0
def c105_6 := cr_ c105_3
def c105_9 := cr_ c105_6
def c105_10 := cl_ c105_9
def c105_13 := cr_ c105_10
def c105_14 := cl_ c105_13
def c105_15 := cl_ c105_14
def c105_22 := cr_ c105_15
def c105_23 := cl_ c105_22
def c105_24 := cl_ c105_23
def c105_25 := cl_ c105_24
def c105_26 := cl_ c105_25
def r105_26 := co_ c105_26

theorem S_towpathref17_held {l_ : Slc} {x : T_api_Held} {w : World} {R : Slc → World → Prop} (h : F_towpathref17_held l_ x R w) : C_towpathref17_held l_ x w R := by
 unfold F_towpathref17_held at h
 refine Yh Try.func105 ?_
 · refine Yt ?_
   refine Yw pv_ h fun b_ w1 h => ?_
   refine Yf P1 [0, 3] ?_
   refine Yp P1 [0, 3, 5] ?_
   refine Yp P1 [0, 3, 5, 6] ?_
   refine Ys ?_
   refine Yp P1 [0, 3, 5, 6, 7] ?_
   refine Yd 0 ?_
   obtain ⟨I, μ, h0, hr⟩ := h
   refine Yloop (fun m l w => ∃ (out : Slc) (done : Bool) (i : Int), l = [(0, sv_ l_), (3, pv_ b_), (5, sv_ out), (6, Value.bool done), (7, Value.int .i64 i)] ∧ I out done i w ∧ μ out done i w = m) ⟨(Slc.mk none 0 0), false, 0, rfl, h0, rfl⟩ ?_
   rintro _ _ w2 ⟨out, done, i, rfl, hI, rfl⟩
   obtain ⟨again_, again__h, h⟩ : ∃ again_ : Slc → Bool → Int → World → Prop, (∀ out' done' i' w', again_ out' done' i' w' → I out' done' i' w' ∧ μ out' done' i' w' < μ out done i w2) ∧ F_towpathref17_held_L0 l_ R b_ again_ out done i w2 := ⟨_, fun _ _ _ _ h => h, hr out done i w2 hI⟩
   clear h0 hI
   unfold F_towpathref17_held_L0 at h
   refine Ys ?_
   refine Yp P4 [0, 3, 5, 6, 7, 11] ?_
   refine Yc h (fun h => ?_) fun h => ?_
   · refine Yskip ?_
     refine Ys ?_
     refine Yd 1 ?_
     refine Ycut (fun l w => ∃ (out1 : Slc) (done1 : Bool), l = [(0, sv_ l_), (3, pv_ b_), (5, sv_ out1), (6, Value.bool done1), (7, Value.int .i64 i)] ∧ F_towpathref17_held_k1 l_ i again_ out1 done1 w) ?_ ?_
     · refine Ycut (fun l w => ∃ (t25 : Bool), l = [(0, sv_ l_), (3, pv_ b_), (5, sv_ out), (6, Value.bool done), (7, Value.int .i64 i), (25, Value.bool t25)] ∧ F_towpathref17_held_k2 l_ b_ out done i again_ t25 w) ?_ ?_
       · refine wpE_drawregion (id := 6) (ops := r105_26) (by kernel_rfl) (by kernel_rfl) (by kernel_rfl) ?_
         refine Qn P4 ?_
         refine Qspl 16 h (fun h => ?_) fun h => ?_
         · refine Ql h fun v18 h => ?_
           refine Qn [.sure, .sure] ?_
           obtain ⟨hp_19, h⟩ := h
           refine Qu 19 (fun pp => .slice pp l_.len l_.cap) hp_19 ?_
           refine Qi h fun h => ?_
           refine Qn [.sure] ?_
           refine Ql h fun v23 h => ?_
           refine Qf [.sure, .plain] [0, 3, 5, 6, 7, 25] h fun w9 h => ?_
           exact ⟨_, Sub.mk (by kernel_rfl), (Op.bytesLess v18.toList v23.toList), rfl, h⟩
         · refine Qf [.skip, .skip, .skip, .skip, .skip, .skip, .skip, .plain] [0, 3, 5, 6, 7, 25] h fun w10 h => ?_
           exact ⟨_, Sub.mk (by kernel_rfl), false, rfl, h⟩
       · rintro _ w6 ⟨t25, rfl, h⟩
         unfold F_towpathref17_held_k2 at h
         refine Yc h (fun h => ?_) fun h => ?_
         · refine Yt ?_
           refine Yn P1 ?_
           refine YL h fun v27 h => ?_
           refine Yw (sl_ 1 1) h fun b_2 w7 h => ?_
           obtain ⟨src, hs, h⟩ := h
           refine reg_append (t := 93) (tx := 93) (e := 143) (a := (Operand.tmp 26)) (xo := (Operand.tmp 28)) (s := out) (x := (Slc.mk (some ⟨b_2, 0, none⟩) 1 1)) (sz := 2) (by_ := 40) (zs := [Value.string ByteArray.empty, Value.slice none 0 0]) (ty := 93) (dst := some 29)  src (by kernel_rfl) (by kernel_rfl) (by kernel_rfl) (by kernel_rfl) (by kernel_rfl) (by kernel_rfl) (by kernel_rfl) (by kernel_rfl) (by kernel_rfl) hs (AppendW.mono h (fun out3 w8 h => ?_))
           refine Yf P1 [0, 3, 5, 7] ?_
           refine Yr ?_
           refine Yf P1 [0, 3, 5, 6, 7] ?_
           exact ⟨_, Sub.mk (by kernel_rfl), out3, true, rfl, h⟩
         · refine Yskip ?_
           exact ⟨_, Sub.mk (by kernel_rfl), out, done, rfl, h⟩
     · rintro _ w3 ⟨out1, done1, rfl, h⟩
       unfold F_towpathref17_held_k1 at h
       refine Yr ?_
       refine Yn P3 ?_
       obtain ⟨hp_17, h⟩ := h
       refine Yu 31 (fun pp => .slice pp l_.len l_.cap) hp_17 ?_
       refine Yi h fun h => ?_
       refine YL h fun v34 h => ?_
       refine Yw (sl_ 1 1) h fun b_1 w4 h => ?_
       obtain ⟨src, hs, h⟩ := h
       refine reg_append (t := 93) (tx := 93) (e := 143) (a := (Operand.tmp 30)) (xo := (Operand.tmp 35)) (s := out1) (x := (Slc.mk (some ⟨b_1, 0, none⟩) 1 1)) (sz := 2) (by_ := 40) (zs := [Value.string ByteArray.empty, Value.slice none 0 0]) (ty := 93) (dst := some 36)  src (by kernel_rfl) (by kernel_rfl) (by kernel_rfl) (by kernel_rfl) (by kernel_rfl) (by kernel_rfl) (by kernel_rfl) (by kernel_rfl) (by kernel_rfl) hs (AppendW.mono h (fun out2 w5 h => ?_))
       refine Yf P1 [0, 3, 5, 6, 7] ?_
       refine Yr ?_
       refine Yf P3 [0, 3, 5, 6, 7] ?_
       have hb_ := again__h _ _ _ _ h
       exact ⟨_, hb_.2, _, Sub.mk (by kernel_rfl), out2, done1, (IntKind.i64.wrap (i + 1)), rfl, hb_.1, rfl⟩
   · refine Yexit 0 ?_
     refine Ycut (fun l w => ∃ (out4 : Slc), l = [(5, sv_ out4)] ∧ F_towpathref17_held_k3 R out4 w) ?_ ?_
     · refine Yp P2 [3, 5, 38] ?_
       refine Yc h (fun h => ?_) fun h => ?_
       · refine Yr ?_
         refine Yn P1 ?_
         refine YL h fun v40 h => ?_
         refine Yw (sl_ 1 1) h fun b_3 w12 h => ?_
         obtain ⟨src, hs, h⟩ := h
         refine reg_append (t := 93) (tx := 93) (e := 143) (a := (Operand.tmp 39)) (xo := (Operand.tmp 41)) (s := out) (x := (Slc.mk (some ⟨b_3, 0, none⟩) 1 1)) (sz := 2) (by_ := 40) (zs := [Value.string ByteArray.empty, Value.slice none 0 0]) (ty := 93) (dst := some 42)  src (by kernel_rfl) (by kernel_rfl) (by kernel_rfl) (by kernel_rfl) (by kernel_rfl) (by kernel_rfl) (by kernel_rfl) (by kernel_rfl) (by kernel_rfl) hs (AppendW.mono h (fun out5 w13 h => ?_))
         refine Yf P1 [5] ?_
         exact ⟨_, Sub.mk (by kernel_rfl), out5, rfl, h⟩
       · refine Yskip ?_
         exact ⟨_, Sub.mk (by kernel_rfl), out, rfl, h⟩
     · rintro _ w11 ⟨out4, rfl, h⟩
       unfold F_towpathref17_held_k3 at h
       refine Yp P2 [4] ?_
       exact YS ⟨out4, rfl, h⟩
end
end Go.Proofs.Ytpedclhflmhakaa
