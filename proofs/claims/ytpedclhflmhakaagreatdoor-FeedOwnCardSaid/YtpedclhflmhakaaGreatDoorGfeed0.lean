/- WRITTEN BY PROGRAM (dec.py): for each Go function the clean formula F, the call's contract C, and the proof S that F gives C. -/
import Derived.Test.YtpedclhflmhakaaGreatDoorRows
import Derived.Test.YtpedclhflmhakaaGreatDoorGF
namespace Go.Proofs.YtpedclhflmhakaaGreatDoor
open Go
set_option linter.unusedVariables false
set_option maxRecDepth 100000
set_option maxHeartbeats 4000000
noncomputable section

/-! ### towpath/feed.New (function 6) -/
def c6_0 := cb_ Tryz.f6
def c6_3 := cr_ c6_0
def c6_4 := cl_ c6_3
def c6_5 := cl_ c6_4
def r6_5 := co_ c6_5
def c6_7 := cr_ c6_4
def c6_8 := cl_ c6_7
def c6_11 := cr_ c6_8
def c6_12 := cr_ c6_7
def c6_13 := cr_ c6_3
def c6_14 := cl_ c6_13
def c6_17 := cr_ c6_14
def c6_18 := cl_ c6_17
def c6_21 := cr_ c6_18
def c6_22 := cr_ c6_17
def c6_23 := cr_ c6_13
def c6_24 := cl_ c6_23
def r6_24 := co_ c6_24
def c6_26 := cr_ c6_23
def c6_29 := cr_ c6_26
def c6_30 := cl_ c6_29
def c6_33 := cr_ c6_30
def c6_34 := cl_ c6_33
def c6_35 := cl_ c6_34
def c6_38 := cr_ c6_35
def c6_39 := cl_ c6_38
def c6_40 := cl_ c6_39
def c6_41 := cr_ c6_39
def c6_42 := cr_ c6_38
def c6_43 := cl_ c6_42
def c6_44 := cl_ c6_43
def c6_45 := cl_ c6_44
def r6_45 := co_ c6_45
def c6_47 := cr_ c6_44
def c6_48 := cl_ c6_47
def c6_51 := cr_ c6_48
def c6_52 := cl_ c6_51
def c6_55 := cr_ c6_52
def c6_56 := cr_ c6_51
def c6_57 := cr_ c6_47
def c6_60 := cr_ c6_57
def r6_60 := co_ c6_60
def c6_62 := cr_ c6_42
def r6_62 := co_ c6_62
def c6_64 := cr_ c6_29
def c6_65 := cl_ c6_64
def c6_66 := cl_ c6_65
def r6_66 := co_ c6_66
def c6_68 := cr_ c6_65
def c6_69 := cl_ c6_68
def c6_72 := cr_ c6_69
def c6_73 := cr_ c6_68
def c6_74 := cr_ c6_64
def c6_75 := cl_ c6_74
def r6_75 := co_ c6_75
def c6_77 := cr_ c6_74

theorem S_feed_New {s : Option Addr} {mark : Int} {beyond : Slc} {window : Int} {w : World} {R : Option Addr → Int → World → Prop} (h : F_feed_New s mark beyond window R w) : C_feed_New s mark beyond window w R := by
 unfold F_feed_New at h
 unfold C_feed_New
 refine Calls.mono (calls_of_wpE (args := [Value.pointer s, Value.int .i64 mark, sv_ beyond, Value.int .i64 window]) (R := fun v w' => ∃ (r0 : Option Addr) (r1 : Int), v = Value.tuple #[Value.pointer r0, Value.int .i64 r1] ∧ R r0 r1 w') Tryz.func6 (c := c6_0) (by kernel_rfl) 66 (by kernel_rfl) (by kernel_rfl) [(0, Value.pointer s), (1, Value.int .i64 mark), (2, sv_ beyond), (3, Value.int .i64 window)] (by kernel_rfl) ?_) ?_
 · refine Zp c6_3 P2 [(0, .pointer s), (1, .int .i64 mark), (2, sv_ beyond), (3, .int .i64 window)] ?_
   refine Zs c6_4 c6_13 ?_
   refine Zt r6_5 c6_7 ?_
   refine Zn P1 1 [(0, [], .pointer s), (1, [], .int .i64 mark), (2, [], sv_ beyond), (3, [], .int .i64 window), (14, [], .pointer s)] ?_
   refine reg_val (op := (Op.binOp BinOp.eql 36 (Operand.tmp 14) (Operand.const (Value.pointer none)) 36)) (ty := 4) (dst := some 15) (Value.bool s.isNone) (by kernel_rfl) (fun ww => run_ptr_eql_R (p := s) (by kernel_rfl) (by kernel_rfl) (by kernel_rfl) ww) ?_
   refine Ze [(0, .pointer s), (1, .int .i64 mark), (2, sv_ beyond), (3, .int .i64 window), (15, .bool s.isNone)] ?_
   change WpE _ _ c6_7 _ _ _
   refine Zc 15 s.isNone c6_8 c6_12 (fun hb => ?_) (fun hb => ?_)
   · replace h := h.1 hb
     refine Zp c6_11 P2 [(8, .pointer none), (9, .int .i64 2)] ?_
     refine wpE_ret (by kernel_rfl) ?_
     repeat (first | refine seqQ_ret ?_ | refine blockQ_ret ?_ | refine loopQ_ret ?_ | refine cutQ_ret ?_)
     exact retT (rs := [(ResultVar.tmp 8), (ResultVar.tmp 9)]) (vs := [Value.pointer none, Value.int .i64 2]) (by kernel_rfl) (⟨by kernel_rfl, ⟨by kernel_rfl, trivial⟩⟩) (by kernel_rfl) ⟨none, 2, rfl, h⟩
   · replace h := h.2 hb
     refine wpE_skip (by kernel_rfl) ?_
     change WpE _ _ c6_13 _ _ _
     refine Zs c6_14 c6_23 ?_
     refine Zp c6_17 [.plain, .plain, .plain, .plain, .plain, .pick, .plain, .plain, .plain, .pick] [(0, .pointer s), (1, .int .i64 mark), (2, sv_ beyond), (3, .int .i64 window), (25, .bool (((decide (mark < 0)) || (decide (window < 1))) || (decide (window > 64))))] ?_
     refine Zc 25 (((decide (mark < 0)) || (decide (window < 1))) || (decide (window > 64))) c6_18 c6_22 (fun hb => ?_) (fun hb => ?_)
     · replace h := h.1 hb
       refine Zp c6_21 P2 [(8, .pointer none), (9, .int .i64 1)] ?_
       refine wpE_ret (by kernel_rfl) ?_
       repeat (first | refine seqQ_ret ?_ | refine blockQ_ret ?_ | refine loopQ_ret ?_ | refine cutQ_ret ?_)
       exact retT (rs := [(ResultVar.tmp 8), (ResultVar.tmp 9)]) (vs := [Value.pointer none, Value.int .i64 1]) (by kernel_rfl) (⟨by kernel_rfl, ⟨by kernel_rfl, trivial⟩⟩) (by kernel_rfl) ⟨none, 1, rfl, h⟩
     · replace h := h.2 hb
       refine wpE_skip (by kernel_rfl) ?_
       change WpE _ _ c6_23 _ _ _
       refine Zt r6_24 c6_26 ?_
       refine Zn P2 2 [(0, [], .pointer s), (1, [], .int .i64 mark), (2, [], sv_ beyond), (3, [], .int .i64 window), (27, [], .int .i64 ((beyond.len : Nat) : Int))] ?_
       refine Zw (some 28) (fun bb => Value.map (some bb)) (Obj.map #[] 0) (fun b_ w1 hb hw => ?_)
       replace h := h b_ w1 hb hw
       clear hb hw
       refine Zf P1 [(0, .pointer s), (1, .int .i64 mark), (2, sv_ beyond), (3, .int .i64 window), (10, Value.map (some b_))] ?_
       change WpE _ _ c6_26 _ _ _
       refine Zp c6_29 P2 [(0, .pointer s), (1, .int .i64 mark), (2, sv_ beyond), (3, .int .i64 window), (10, Value.map (some b_)), (11, .int .i64 mark)] ?_
       refine Zs c6_30 c6_64 ?_
       refine Zp c6_33 P3 [(0, .pointer s), (1, .int .i64 mark), (3, .int .i64 window), (10, Value.map (some b_)), (11, .int .i64 mark), (30, sv_ beyond), (31, .int .i64 ((beyond.len : Nat) : Int)), (32, .int .i64 0)] ?_
       refine Zb 0 c6_34 ?_
       obtain ⟨I, μ, h0, hr⟩ := h
       refine wpE_loop (x := c6_35) (by kernel_rfl) (fun m l w => ∃ (last : Int) (t32 : Int), l = [(0, Value.pointer s), (1, Value.int .i64 mark), (3, Value.int .i64 window), (10, Value.map (some b_)), (11, Value.int .i64 last), (30, sv_ beyond), (31, Value.int .i64 ((beyond.len : Nat) : Int)), (32, Value.int .i64 t32)] ∧ I last t32 w ∧ μ last t32 w = m) (l' := [(0, Value.pointer s), (1, Value.int .i64 mark), (3, Value.int .i64 window), (10, Value.map (some b_)), (11, Value.int .i64 mark), (30, sv_ beyond), (31, Value.int .i64 ((beyond.len : Nat) : Int)), (32, Value.int .i64 0)]) (Sub.mk (by kernel_rfl)) ⟨mark, 0, rfl, h0, rfl⟩ ?_
       rintro _ _ w2 ⟨last, t32, rfl, hI, rfl⟩
       obtain ⟨again_, again__h, h⟩ : ∃ again_ : Int → Int → World → Prop, (∀ last' t32' w', again_ last' t32' w' → I last' t32' w' ∧ μ last' t32' w' < μ last t32 w2) ∧ F_feed_New_L0 s mark beyond window R b_ again_ last t32 w2 := ⟨_, fun _ _ _ h => h, hr last t32 w2 hI⟩
       clear h0 hI
       unfold F_feed_New_L0 at h
       refine Zp c6_38 P1 [(0, .pointer s), (1, .int .i64 mark), (3, .int .i64 window), (10, Value.map (some b_)), (11, .int .i64 last), (30, sv_ beyond), (31, .int .i64 ((beyond.len : Nat) : Int)), (32, .int .i64 t32), (33, .bool (decide (t32 < ((beyond.len : Nat) : Int))))] ?_
       refine Zs c6_39 c6_42 ?_
       refine Zc 33 (decide (t32 < ((beyond.len : Nat) : Int))) c6_40 c6_41 (fun hb => ?_) (fun hb => ?_)
       · replace h := h.1 hb
         refine wpE_skip (by kernel_rfl) ?_
         change WpE _ _ c6_42 _ _ _
         refine Zs c6_43 c6_62 ?_
         refine Zb 1 c6_44 ?_
         refine Zt r6_45 c6_47 ?_
         refine Zn P1 1 [(0, [], .pointer s), (1, [], .int .i64 mark), (3, [], .int .i64 window), (10, [], Value.map (some b_)), (11, [], .int .i64 last), (30, [], sv_ beyond), (31, [], .int .i64 ((beyond.len : Nat) : Int)), (32, [], .int .i64 t32), (34, [], .int .i64 t32)] ?_
         obtain ⟨hp_7, h⟩ := h
         refine Zv (fun pp => [(0, [], .pointer s), (1, [], .int .i64 mark), (3, [], .int .i64 window), (10, [], Value.map (some b_)), (11, [], .int .i64 last), (30, [], .slice pp beyond.len beyond.cap), (31, [], .int .i64 ((beyond.len : Nat) : Int)), (32, [], .int .i64 t32), (34, [], .int .i64 t32)]) hp_7 ?_
         obtain ⟨h0, h1, h⟩ := h
         refine Zi 67 3 30 32 (pblk beyond.ptr) (poff beyond.ptr) beyond.len beyond.cap t32 35 0 h0 h1 ?_
         refine Zn [] 2 [(0, [], .pointer s), (1, [], .int .i64 mark), (3, [], .int .i64 window), (10, [], Value.map (some b_)), (11, [], .int .i64 last), (30, [], .slice (some ⟨(pblk beyond.ptr), (poff beyond.ptr), none⟩) beyond.len beyond.cap), (31, [], .int .i64 ((beyond.len : Nat) : Int)), (32, [], .int .i64 t32), (34, [], .int .i64 t32), (35, [], .pointer (some ⟨(pblk beyond.ptr), (poff beyond.ptr) + t32.toNat, none⟩))] ?_
         obtain ⟨n_, hc, h⟩ := h
         refine Zl 3 35 (pblk beyond.ptr) ((poff beyond.ptr) + t32.toNat) 3 36 hc ?_
         refine Zn P2 5 [(0, [], .pointer s), (1, [], .int .i64 mark), (3, [], .int .i64 window), (10, [], Value.map (some b_)), (11, [], .int .i64 last), (12, [], .int .i64 t32), (13, [], .int .i64 n_), (30, [], .slice (some ⟨(pblk beyond.ptr), (poff beyond.ptr), none⟩) beyond.len beyond.cap), (31, [], .int .i64 ((beyond.len : Nat) : Int)), (32, [], .int .i64 t32)] ?_
         refine Zv (fun pp => [(0, [], .pointer s), (1, [], .int .i64 mark), (3, [], .int .i64 window), (10, [], Value.map (some b_)), (11, [], .int .i64 last), (12, [], .int .i64 t32), (13, [], .int .i64 n_), (30, [], .slice pp beyond.len beyond.cap), (31, [], .int .i64 ((beyond.len : Nat) : Int)), (32, [], .int .i64 t32)]) hp_7.symm ?_
         refine Ze [(0, .pointer s), (1, .int .i64 mark), (3, .int .i64 window), (10, Value.map (some b_)), (11, .int .i64 last), (12, .int .i64 t32), (13, .int .i64 n_), (30, sv_ beyond), (31, .int .i64 ((beyond.len : Nat) : Int)), (32, .int .i64 t32)] ?_
         change WpE _ _ c6_47 _ _ _
         refine Zs c6_48 c6_57 ?_
         refine Zp c6_51 [.plain, .plain, .plain, .plain, .plain, .plain, .plain, .plain, .plain, .plain, .plain, .pick, .pick] [(0, .pointer s), (1, .int .i64 mark), (3, .int .i64 window), (10, Value.map (some b_)), (13, .int .i64 n_), (30, sv_ beyond), (31, .int .i64 ((beyond.len : Nat) : Int)), (32, .int .i64 t32), (49, .bool ((decide (n_ ≤ last)) || ((t32 == 0) && (decide ((IntKind.i64.wrap (n_ - 1)) ≤ last)))))] ?_
         refine Zc 49 ((decide (n_ ≤ last)) || ((t32 == 0) && (decide ((IntKind.i64.wrap (n_ - 1)) ≤ last)))) c6_52 c6_56 (fun hb => ?_) (fun hb => ?_)
         · replace h := h.1 hb
           refine Zp c6_55 P2 [(8, .pointer none), (9, .int .i64 1)] ?_
           refine wpE_ret (by kernel_rfl) ?_
           repeat (first | refine seqQ_ret ?_ | refine blockQ_ret ?_ | refine loopQ_ret ?_ | refine cutQ_ret ?_)
           exact retT (rs := [(ResultVar.tmp 8), (ResultVar.tmp 9)]) (vs := [Value.pointer none, Value.int .i64 1]) (by kernel_rfl) (⟨by kernel_rfl, ⟨by kernel_rfl, trivial⟩⟩) (by kernel_rfl) ⟨none, 1, rfl, h⟩
         · replace h := h.2 hb
           refine wpE_skip (by kernel_rfl) ?_
           change WpE _ _ c6_57 _ _ _
           refine Zp c6_60 P2 [(0, .pointer s), (1, .int .i64 mark), (3, .int .i64 window), (10, Value.map (some b_)), (11, .int .i64 n_), (13, .int .i64 n_), (30, sv_ beyond), (31, .int .i64 ((beyond.len : Nat) : Int)), (32, .int .i64 t32)] ?_
           refine Zr r6_60 ?_
           refine Zn P3 3 [(0, [], .pointer s), (1, [], .int .i64 mark), (3, [], .int .i64 window), (10, [], Value.map (some b_)), (11, [], .int .i64 n_), (30, [], sv_ beyond), (31, [], .int .i64 ((beyond.len : Nat) : Int)), (32, [], .int .i64 t32), (51, [], Value.map (some b_)), (52, [], .int .i64 n_), (53, [], .agg #[])] ?_
           obtain ⟨r, es, c, hr_, hm_, hi_, hn_, h⟩ := h
           refine reg_mapUpdateI (t := 97) (kt := 3) (et := 98) (x := (Operand.tmp 51)) (k := (Operand.tmp 52)) (v := (Operand.tmp 53)) (m := (some b_)) (es := es) (j := n_) (vv := (Value.agg #[])) (ty := 0) (dst := none) r c (by kernel_rfl) (by kernel_rfl) hr_ (by kernel_rfl) (by kernel_rfl) (by kernel_rfl) (by kernel_rfl) (fun w_ => by kernel_rfl) hm_ hi_ hn_ (fun w3 hw => ?_)
           replace h := h w3 hw
           clear hw
           refine Ze [(0, .pointer s), (1, .int .i64 mark), (3, .int .i64 window), (10, Value.map (some b_)), (11, .int .i64 n_), (30, sv_ beyond), (31, .int .i64 ((beyond.len : Nat) : Int)), (32, .int .i64 t32)] ?_
           change WpE _ _ c6_62 _ _ _
           refine Zr r6_62 ?_
           refine Zf P2 [(0, .pointer s), (1, .int .i64 mark), (3, .int .i64 window), (10, Value.map (some b_)), (11, .int .i64 n_), (30, sv_ beyond), (31, .int .i64 ((beyond.len : Nat) : Int)), (32, .int .i64 (IntKind.i64.wrap (t32 + 1)))] ?_
           have hb_ := again__h _ _ _ h
           exact ⟨_, hb_.2, [(0, Value.pointer s), (1, Value.int .i64 mark), (3, Value.int .i64 window), (10, Value.map (some b_)), (11, Value.int .i64 n_), (30, sv_ beyond), (31, Value.int .i64 ((beyond.len : Nat) : Int)), (32, Value.int .i64 (IntKind.i64.wrap (t32 + 1)))], Sub.mk (by kernel_rfl), n_, (IntKind.i64.wrap (t32 + 1)), rfl, hb_.1, rfl⟩
       · replace h := h.2 hb
         refine wpE_exit (id := 0) (by kernel_rfl) ?_
         change WpE _ _ c6_64 _ _ _
         refine Zs c6_65 c6_74 ?_
         refine Zt r6_66 c6_68 ?_
         refine Zn P2 2 [(0, [], .pointer s), (1, [], .int .i64 mark), (3, [], .int .i64 window), (10, [], Value.map (some b_)), (55, [], .int .i64 last), (56, [], .pointer s)] ?_
         refine Zm 27 #[.pointer s] (some 57) (Calls.mono h ?_)
         rintro _ w4 ⟨v57, rfl, h⟩
         refine ⟨_, rfl, ?_⟩
         refine Zf P1 [(0, .pointer s), (1, .int .i64 mark), (3, .int .i64 window), (10, Value.map (some b_)), (58, .bool (decide (last > v57)))] ?_
         change WpE _ _ c6_68 _ _ _
         refine Zc 58 (decide (last > v57)) c6_69 c6_73 (fun hb => ?_) (fun hb => ?_)
         · replace h := h.1 hb
           refine Zp c6_72 P2 [(8, .pointer none), (9, .int .i64 6)] ?_
           refine wpE_ret (by kernel_rfl) ?_
           repeat (first | refine seqQ_ret ?_ | refine blockQ_ret ?_ | refine loopQ_ret ?_ | refine cutQ_ret ?_)
           exact retT (rs := [(ResultVar.tmp 8), (ResultVar.tmp 9)]) (vs := [Value.pointer none, Value.int .i64 6]) (by kernel_rfl) (⟨by kernel_rfl, ⟨by kernel_rfl, trivial⟩⟩) (by kernel_rfl) ⟨none, 6, rfl, h⟩
         · replace h := h.2 hb
           refine wpE_skip (by kernel_rfl) ?_
           change WpE _ _ c6_74 _ _ _
           refine Zt r6_75 c6_77 ?_
           refine Zn (Pl 6) 6 [(64, [], .agg #[.pointer s, .int .i64 mark, .int .i64 mark, .int .i64 window, Value.map (some b_), .pointer none, .bool false])] ?_
           refine Zw (some 65) (fun bb => pv_ bb) (Obj.cells ([.pointer s, .int .i64 mark, .int .i64 mark, .int .i64 window, Value.map (some b_), .pointer none, .bool false]).toArray ty_feed_Feed (0, 0)) (fun b_1 w5 hb hw => ?_)
           replace h := h b_1 w5 hb hw
           clear hb hw
           refine Zf P2 [(8, pv_ b_1), (9, .int .i64 0)] ?_
           change WpE _ _ c6_77 _ _ _
           refine wpE_ret (by kernel_rfl) ?_
           repeat (first | refine seqQ_ret ?_ | refine blockQ_ret ?_ | refine loopQ_ret ?_ | refine cutQ_ret ?_)
           exact retT (rs := [(ResultVar.tmp 8), (ResultVar.tmp 9)]) (vs := [pv_ b_1, Value.int .i64 0]) (by kernel_rfl) (⟨by kernel_rfl, ⟨by kernel_rfl, trivial⟩⟩) (by kernel_rfl) ⟨(some ⟨b_1, 0, none⟩), 0, rfl, h⟩
 · rintro e w' ⟨v, rfl, r0, r1, rfl, h⟩; exact ⟨r0, r1, rfl, h⟩

/-! ### (*towpath/feed.Feed).More (function 8) -/
def c8_0 := cb_ Tryz.f8
def c8_3 := cr_ c8_0
def c8_4 := cl_ c8_3
def c8_5 := cl_ c8_4
def c8_6 := cl_ c8_5
def r8_6 := co_ c8_6
def c8_8 := cr_ c8_5
def c8_9 := cl_ c8_8
def c8_12 := cr_ c8_9
def c8_13 := cr_ c8_8
def c8_14 := cl_ c8_13
def r8_14 := co_ c8_14
def c8_16 := cr_ c8_13
def c8_17 := cl_ c8_16
def c8_20 := cr_ c8_17
def c8_21 := cr_ c8_16
def c8_22 := cl_ c8_21
def r8_22 := co_ c8_22
def c8_24 := cr_ c8_21
def c8_25 := cl_ c8_24
def c8_28 := cr_ c8_25
def c8_29 := cr_ c8_24
def c8_30 := cr_ c8_3
def c8_31 := cl_ c8_30
def r8_31 := co_ c8_31
def c8_33 := cr_ c8_30
def c8_36 := cr_ c8_33

theorem S_feed_Feed_More {f : Option Addr} {last : Int} {w : World} {R : Int → World → Prop} (h : F_feed_Feed_More f last R w) : C_feed_Feed_More f last w R := by
 unfold F_feed_Feed_More at h
 unfold C_feed_Feed_More
 refine Calls.mono (calls_of_wpE (args := [Value.pointer f, Value.int .i64 last]) (R := fun v w' => ∃ (r0 : Int), v = Value.int .i64 r0 ∧ R r0 w') Tryz.func8 (c := c8_0) (by kernel_rfl) 34 (by kernel_rfl) (by kernel_rfl) [(0, Value.pointer f), (1, Value.int .i64 last)] (by kernel_rfl) ?_) ?_
 · refine Zp c8_3 P1 [(0, .pointer f), (1, .int .i64 last)] ?_
   refine Zs c8_4 c8_30 ?_
   refine Zb 0 c8_5 ?_
   refine Zt r8_6 c8_8 ?_
   refine Zn P1 1 [(0, [], .pointer f), (1, [], .int .i64 last), (6, [], .pointer f)] ?_
   refine Zm 30 #[.pointer f] (some 7) (Calls.mono h ?_)
   rintro _ w1 ⟨v7, rfl, h⟩
   refine ⟨_, rfl, ?_⟩
   refine Zf P2 [(0, .pointer f), (1, .int .i64 last), (5, .bool (!v7))] ?_
   change WpE _ _ c8_8 _ _ _
   refine Zc 5 (!v7) c8_9 c8_13 (fun hb => ?_) (fun hb => ?_)
   · replace h := h.1 hb
     refine Zp c8_12 P1 [(4, .int .i64 2)] ?_
     refine wpE_ret (by kernel_rfl) ?_
     repeat (first | refine seqQ_ret ?_ | refine blockQ_ret ?_ | refine loopQ_ret ?_ | refine cutQ_ret ?_)
     exact retS (rs := [(ResultVar.tmp 4)]) (v := Value.int .i64 2) (by kernel_rfl) (⟨by kernel_rfl, trivial⟩) ⟨2, rfl, h⟩
   · replace h := h.2 hb
     refine Zt r8_14 c8_16 ?_
     refine Zn P1 1 [(0, [], .pointer f), (1, [], .int .i64 last), (10, [], .pointer f)] ?_
     obtain ⟨hp_7, h⟩ := h
     refine Zv (fun pp => [(0, [], .pointer f), (1, [], .int .i64 last), (10, [], .pointer pp)]) hp_7 ?_
     refine Zn P1 2 [(0, [], .pointer f), (1, [], .int .i64 last), (10, [], .pointer (some ⟨(pblk f), (poff f), none⟩)), (11, [], .pointer (some ⟨(pblk f), (poff f), none⟩))] ?_
     refine Zn P1 3 [(0, [], .pointer f), (1, [], .int .i64 last), (12, [], .pointer (some ⟨(pblk f), (poff f) + 6, none⟩))] ?_
     obtain ⟨v13, hc, h⟩ := h
     refine Zl 4 12 (pblk f) ((poff f) + 6) 4 13 hc ?_
     refine Zf P1 [(0, .pointer f), (1, .int .i64 last), (9, .bool v13)] ?_
     change WpE _ _ c8_16 _ _ _
     refine Zc 9 v13 c8_17 c8_21 (fun hb => ?_) (fun hb => ?_)
     · replace h := h.1 hb
       refine Zp c8_20 P1 [(4, .int .i64 12)] ?_
       refine wpE_ret (by kernel_rfl) ?_
       repeat (first | refine seqQ_ret ?_ | refine blockQ_ret ?_ | refine loopQ_ret ?_ | refine cutQ_ret ?_)
       exact retS (rs := [(ResultVar.tmp 4)]) (v := Value.int .i64 12) (by kernel_rfl) (⟨by kernel_rfl, trivial⟩) ⟨12, rfl, h⟩
     · replace h := h.2 hb
       refine wpE_seq_cut (x := c8_22) (y := c8_24) (by kernel_rfl) (fun l w => ∃ (t14 : Bool), l = [(0, Value.pointer f), (1, Value.int .i64 last), (14, Value.bool t14)] ∧ F_feed_Feed_More_k0 f last R t14 w) ?_ ?_
       · refine Zr r8_22 ?_
         refine Zn P2 2 [(0, [], .pointer f), (1, [], .int .i64 last), (15, [], .int .i64 last), (16, [], .pointer f)] ?_
         obtain ⟨hp_12, h⟩ := h
         refine Zv (fun pp => [(0, [], .pointer f), (1, [], .int .i64 last), (15, [], .int .i64 last), (16, [], .pointer pp)]) hp_12 ?_
         refine Zn P1 3 [(0, [], .pointer f), (1, [], .int .i64 last), (15, [], .int .i64 last), (16, [], .pointer (some ⟨(pblk f), (poff f), none⟩)), (17, [], .pointer (some ⟨(pblk f), (poff f), none⟩))] ?_
         refine Zn P1 4 [(0, [], .pointer f), (1, [], .int .i64 last), (15, [], .int .i64 last), (18, [], .pointer (some ⟨(pblk f), (poff f) + 2, none⟩))] ?_
         obtain ⟨v19, hc, h⟩ := h
         refine Zl 3 18 (pblk f) ((poff f) + 2) 3 19 hc ?_
         refine Zn P4 9 [(0, [], .pointer f), (1, [], .int .i64 last), (21, [], .bool (decide (last < v19))), (22, [(21, false)], .int .i64 last), (23, [(21, false)], .pointer f)] ?_
         refine reg_split 21 (decide (last < v19)) (by kernel_rfl) (fun hb => ?_) (fun hb => ?_)
         · replace h := h.1 hb
           refine Zn [] 9 [(0, [], .pointer f), (1, [], .int .i64 last), (21, [], .bool true), (22, [], undef), (23, [], undef)] ?_
           refine Zf [.skip, .skip, .skip, .skip, .skip, .plain, .plain] [(0, .pointer f), (1, .int .i64 last), (14, .bool true)] ?_
           exact ⟨[(0, Value.pointer f), (1, Value.int .i64 last), (14, Value.bool true)], Sub.mk (by kernel_rfl), true, rfl, h⟩
         · replace h := h.2 hb
           refine Zn [] 9 [(0, [], .pointer f), (1, [], .int .i64 last), (21, [], .bool false), (22, [], .int .i64 last), (23, [], .pointer f)] ?_
           refine Zn [] 9 [(0, [], .pointer f), (1, [], .int .i64 last), (21, [], .bool false), (22, [], .int .i64 last), (23, [], .pointer f)] ?_
           obtain ⟨hp_13, h⟩ := h
           refine Zv (fun pp => [(0, [], .pointer f), (1, [], .int .i64 last), (21, [], .bool false), (22, [], .int .i64 last), (23, [], .pointer pp)]) hp_13 ?_
           refine Zn [.sure] 10 [(0, [], .pointer f), (1, [], .int .i64 last), (21, [], .bool false), (22, [], .int .i64 last), (23, [], .pointer (some ⟨(pblk f), (poff f), none⟩)), (24, [], .pointer (some ⟨(pblk f), (poff f), none⟩))] ?_
           refine Zn [.sure] 11 [(0, [], .pointer f), (1, [], .int .i64 last), (21, [], .bool false), (22, [], .int .i64 last), (25, [], .pointer (some ⟨(pblk f), (poff f), none⟩))] ?_
           obtain ⟨v26, hc, h⟩ := h
           refine Zl 36 25 (pblk f) (poff f) 36 26 hc ?_
           refine Zn [] 12 [(0, [], .pointer f), (1, [], .int .i64 last), (21, [], .bool false), (22, [], .int .i64 last), (26, [], .pointer v26)] ?_
           refine Zm 27 #[.pointer v26] (some 27) (Calls.mono h ?_)
           rintro _ w4 ⟨v27, rfl, h⟩
           refine ⟨_, rfl, ?_⟩
           refine Zf [.sure, .plain, .plain] [(0, .pointer f), (1, .int .i64 last), (14, .bool (decide (last > v27)))] ?_
           exact ⟨[(0, Value.pointer f), (1, Value.int .i64 last), (14, Value.bool (decide (last > v27)))], Sub.mk (by kernel_rfl), (decide (last > v27)), rfl, h⟩
       · rintro _ w2 ⟨t14, rfl, h⟩
         unfold F_feed_Feed_More_k0 at h
         refine Zc 14 t14 c8_25 c8_29 (fun hb => ?_) (fun hb => ?_)
         · replace h := h.1 hb
           refine Zp c8_28 P1 [(4, .int .i64 1)] ?_
           refine wpE_ret (by kernel_rfl) ?_
           repeat (first | refine seqQ_ret ?_ | refine blockQ_ret ?_ | refine loopQ_ret ?_ | refine cutQ_ret ?_)
           exact retS (rs := [(ResultVar.tmp 4)]) (v := Value.int .i64 1) (by kernel_rfl) (⟨by kernel_rfl, trivial⟩) ⟨1, rfl, h⟩
         · replace h := h.2 hb
           refine wpE_skip (by kernel_rfl) ?_
           change WpE _ _ c8_30 _ _ _
           refine Zt r8_31 c8_33 ?_
           refine Zn P2 2 [(30, [], .pointer f), (31, [], .int .i64 last)] ?_
           obtain ⟨hp_11, h⟩ := h
           refine Zv (fun pp => [(30, [], .pointer pp), (31, [], .int .i64 last)]) hp_11 ?_
           refine Zn P1 3 [(30, [], .pointer (some ⟨(pblk f), (poff f), none⟩)), (31, [], .int .i64 last), (32, [], .pointer (some ⟨(pblk f), (poff f), none⟩))] ?_
           refine Zn P1 4 [(31, [], .int .i64 last), (33, [], .pointer (some ⟨(pblk f), (poff f) + 2, none⟩))] ?_
           obtain ⟨hc, h⟩ := h
           refine Zo 3 33 31 (pblk f) ((poff f) + 2) 1 [.int .i64 last] hc (fun w3 hw => ?_)
           replace h := h w3 hw
           clear hw
           refine Ze [] ?_
           change WpE _ _ c8_33 _ _ _
           refine Zp c8_36 P1 [(4, .int .i64 0)] ?_
           refine wpE_ret (by kernel_rfl) ?_
           repeat (first | refine seqQ_ret ?_ | refine blockQ_ret ?_ | refine loopQ_ret ?_ | refine cutQ_ret ?_)
           exact retS (rs := [(ResultVar.tmp 4)]) (v := Value.int .i64 0) (by kernel_rfl) (⟨by kernel_rfl, trivial⟩) ⟨0, rfl, h⟩
 · rintro e w' ⟨v, rfl, r0, rfl, h⟩; exact ⟨r0, rfl, h⟩

/-! ### (*towpath/feed.Feed).Read (function 9) -/
def c9_0 := cb_ Tryz.f9
def c9_3 := cr_ c9_0
def c9_4 := cl_ c9_3
def c9_5 := cl_ c9_4
def c9_6 := cl_ c9_5
def r9_6 := co_ c9_6
def c9_8 := cr_ c9_5
def c9_9 := cl_ c9_8
def c9_12 := cr_ c9_9
def c9_13 := cr_ c9_8
def c9_14 := cl_ c9_13
def r9_14 := co_ c9_14
def c9_16 := cr_ c9_13
def c9_17 := cl_ c9_16
def c9_20 := cr_ c9_17
def c9_21 := cr_ c9_16
def c9_22 := cl_ c9_21
def r9_22 := co_ c9_22
def c9_24 := cr_ c9_21
def c9_25 := cl_ c9_24
def c9_28 := cr_ c9_25
def c9_29 := cr_ c9_24
def c9_30 := cl_ c9_29
def r9_30 := co_ c9_30
def c9_32 := cr_ c9_29
def c9_33 := cl_ c9_32
def c9_36 := cr_ c9_33
def c9_37 := cr_ c9_32
def c9_38 := cr_ c9_3
def c9_39 := cl_ c9_38
def r9_39 := co_ c9_39
def c9_41 := cr_ c9_38
def c9_42 := cl_ c9_41
def c9_45 := cr_ c9_42
def c9_46 := cl_ c9_45
def c9_49 := cr_ c9_46
def c9_50 := cr_ c9_45
def c9_51 := cr_ c9_41
def c9_52 := cl_ c9_51
def r9_52 := co_ c9_52
def c9_54 := cr_ c9_51
def c9_55 := cl_ c9_54
def r9_55 := co_ c9_55
def c9_57 := cr_ c9_54
def c9_58 := cl_ c9_57
def r9_58 := co_ c9_58
def c9_60 := cr_ c9_57
def o_feed_Feed_Read_39 : List Nat := [0, 1, 2, 3, 4, 5, 6, 7, 8, 9, 10, 11, 12, 13, 14, 15]
def o_feed_Feed_Read_39_1 : List Nat := [0, 1, 2, 3, 4, 5, 6, 7, 8, 9, 10, 11, 12, 13, 14, 15]
def o_feed_Feed_Read_39_2 : List Nat := [0, 1, 2, 3, 4, 5, 6, 7, 8, 13, 9, 10, 11, 12, 14, 15]
def o_feed_Feed_Read_39_4 : List Nat := [0, 1, 2, 3, 4, 5, 6, 7, 8, 9, 10, 11, 12, 13, 14, 15]
def o_feed_Feed_Read_39_5 : List Nat := [0, 1, 2, 3, 4, 5, 6, 7, 8, 13, 9, 10, 11, 12, 14, 15]

theorem S_feed_Feed_Read {f : Option Addr} {w : World} {R : Int → Int → World → Prop} (h : F_feed_Feed_Read f R w) : C_feed_Feed_Read f w R := by
 unfold F_feed_Feed_Read at h
 unfold C_feed_Feed_Read
 refine Calls.mono (calls_of_wpE (args := [Value.pointer f]) (R := fun v w' => ∃ (r0 : Int) (r1 : Int), v = Value.tuple #[Value.int .i64 r0, Value.int .i64 r1] ∧ R r0 r1 w') Tryz.func9 (c := c9_0) (by kernel_rfl) 59 (by kernel_rfl) (by kernel_rfl) [(0, Value.pointer f)] (by kernel_rfl) ?_) ?_
 · refine Zp c9_3 P2 [(0, .pointer f)] ?_
   refine Zs c9_4 c9_38 ?_
   refine Zb 0 c9_5 ?_
   refine Zt r9_6 c9_8 ?_
   refine Zn P1 1 [(0, [], .pointer f), (7, [], .pointer f)] ?_
   refine Zm 30 #[.pointer f] (some 8) (Calls.mono h ?_)
   rintro _ w1 ⟨v8, rfl, h⟩
   refine ⟨_, rfl, ?_⟩
   refine Zf P2 [(0, .pointer f), (6, .bool (!v8))] ?_
   change WpE _ _ c9_8 _ _ _
   refine Zc 6 (!v8) c9_9 c9_13 (fun hb => ?_) (fun hb => ?_)
   · replace h := h.1 hb
     refine Zp c9_12 P2 [(2, .int .i64 0), (3, .int .i64 2)] ?_
     refine wpE_ret (by kernel_rfl) ?_
     repeat (first | refine seqQ_ret ?_ | refine blockQ_ret ?_ | refine loopQ_ret ?_ | refine cutQ_ret ?_)
     exact retT (rs := [(ResultVar.tmp 2), (ResultVar.tmp 3)]) (vs := [Value.int .i64 0, Value.int .i64 2]) (by kernel_rfl) (⟨by kernel_rfl, ⟨by kernel_rfl, trivial⟩⟩) (by kernel_rfl) ⟨0, 2, rfl, h⟩
   · replace h := h.2 hb
     refine Zt r9_14 c9_16 ?_
     refine Zn P1 1 [(0, [], .pointer f), (11, [], .pointer f)] ?_
     obtain ⟨hp_9, h⟩ := h
     refine Zv (fun pp => [(0, [], .pointer f), (11, [], .pointer pp)]) hp_9 ?_
     refine Zn P1 2 [(0, [], .pointer f), (11, [], .pointer (some ⟨(pblk f), (poff f), none⟩)), (12, [], .pointer (some ⟨(pblk f), (poff f), none⟩))] ?_
     refine Zn P1 3 [(0, [], .pointer f), (13, [], .pointer (some ⟨(pblk f), (poff f) + 5, none⟩))] ?_
     obtain ⟨v14, hc, h⟩ := h
     refine Zl 100 13 (pblk f) ((poff f) + 5) 100 14 hc ?_
     refine Zn [] 4 [(0, [], .pointer f), (14, [], .pointer v14)] ?_
     refine reg_val (op := (Op.binOp BinOp.neq 100 (Operand.tmp 14) (Operand.const (Value.pointer none)) 100)) (ty := 4) (dst := some 15) (Value.bool (!v14.isNone)) (by kernel_rfl) (fun ww => run_ptr_neq_R (p := v14) (by kernel_rfl) (by kernel_rfl) (by kernel_rfl) ww) ?_
     refine Zf P1 [(0, .pointer f), (10, .bool (!v14.isNone))] ?_
     change WpE _ _ c9_16 _ _ _
     refine Zc 10 (!v14.isNone) c9_17 c9_21 (fun hb => ?_) (fun hb => ?_)
     · replace h := h.1 hb
       refine Zp c9_20 P2 [(2, .int .i64 0), (3, .int .i64 10)] ?_
       refine wpE_ret (by kernel_rfl) ?_
       repeat (first | refine seqQ_ret ?_ | refine blockQ_ret ?_ | refine loopQ_ret ?_ | refine cutQ_ret ?_)
       exact retT (rs := [(ResultVar.tmp 2), (ResultVar.tmp 3)]) (vs := [Value.int .i64 0, Value.int .i64 10]) (by kernel_rfl) (⟨by kernel_rfl, ⟨by kernel_rfl, trivial⟩⟩) (by kernel_rfl) ⟨0, 10, rfl, h⟩
     · replace h := h.2 hb
       refine Zt r9_22 c9_24 ?_
       refine Zn P1 1 [(0, [], .pointer f), (17, [], .pointer f)] ?_
       obtain ⟨hp_11, h⟩ := h
       refine Zv (fun pp => [(0, [], .pointer f), (17, [], .pointer pp)]) hp_11 ?_
       refine Zn P1 2 [(0, [], .pointer f), (17, [], .pointer (some ⟨(pblk f), (poff f), none⟩)), (18, [], .pointer (some ⟨(pblk f), (poff f), none⟩))] ?_
       refine Zn P1 3 [(0, [], .pointer f), (19, [], .pointer (some ⟨(pblk f), (poff f) + 6, none⟩))] ?_
       obtain ⟨v20, hc, h⟩ := h
       refine Zl 4 19 (pblk f) ((poff f) + 6) 4 20 hc ?_
       refine Zf P1 [(0, .pointer f), (16, .bool v20)] ?_
       change WpE _ _ c9_24 _ _ _
       refine Zc 16 v20 c9_25 c9_29 (fun hb => ?_) (fun hb => ?_)
       · replace h := h.1 hb
         refine Zp c9_28 P2 [(2, .int .i64 0), (3, .int .i64 12)] ?_
         refine wpE_ret (by kernel_rfl) ?_
         repeat (first | refine seqQ_ret ?_ | refine blockQ_ret ?_ | refine loopQ_ret ?_ | refine cutQ_ret ?_)
         exact retT (rs := [(ResultVar.tmp 2), (ResultVar.tmp 3)]) (vs := [Value.int .i64 0, Value.int .i64 12]) (by kernel_rfl) (⟨by kernel_rfl, ⟨by kernel_rfl, trivial⟩⟩) (by kernel_rfl) ⟨0, 12, rfl, h⟩
       · replace h := h.2 hb
         refine Zs c9_30 c9_32 ?_
         refine wpE_drawregion (id := 7) (ops := r9_30) (by kernel_rfl) (by kernel_rfl) (by kernel_rfl) ?_
         refine qreg_run P1 1 [(0, [], Value.pointer f), (22, [], Value.pointer f)] (by kernel_rfl) (by kernel_rfl) ?_
         obtain ⟨hp_14, h⟩ := h
         refine qreg_conv [(0, [], Value.pointer f), (22, [], Value.pointer (some ⟨(pblk f), (poff f), none⟩))] (congrArg (fun pp => ([(0, [], Value.pointer f), (22, [], Value.pointer pp)] : GEnv)) hp_14) ?_
         refine qreg_run P1 2 [(0, [], Value.pointer f), (22, [], Value.pointer (some ⟨(pblk f), (poff f), none⟩)), (23, [], Value.pointer (some ⟨(pblk f), (poff f), none⟩))] (by kernel_rfl) (by kernel_rfl) ?_
         refine qreg_run P1 3 [(0, [], Value.pointer f), (24, [], Value.pointer (some ⟨(pblk f), (poff f) + 1, none⟩))] (by kernel_rfl) (by kernel_rfl) ?_
         obtain ⟨v25, hc, h⟩ := h
         refine qreg_load1 (t := 3) (a := (Operand.tmp 24)) (b := (pblk f)) (o := ((poff f) + 1)) (ty := 3) (dst := some 25) (by kernel_rfl) (by kernel_rfl) (by kernel_rfl) hc ?_
         refine qreg_run P1 5 [(0, [], Value.pointer f), (25, [], Value.int .i64 v25), (26, [], Value.pointer f)] (by kernel_rfl) (by kernel_rfl) ?_
         obtain ⟨hp_15, h⟩ := h
         refine qreg_conv [(0, [], Value.pointer f), (25, [], Value.int .i64 v25), (26, [], Value.pointer (some ⟨(pblk f), (poff f), none⟩))] (congrArg (fun pp => ([(0, [], Value.pointer f), (25, [], Value.int .i64 v25), (26, [], Value.pointer pp)] : GEnv)) hp_15) ?_
         refine qreg_run P1 6 [(0, [], Value.pointer f), (25, [], Value.int .i64 v25), (26, [], Value.pointer (some ⟨(pblk f), (poff f), none⟩)), (27, [], Value.pointer (some ⟨(pblk f), (poff f), none⟩))] (by kernel_rfl) (by kernel_rfl) ?_
         refine qreg_run P1 7 [(0, [], Value.pointer f), (25, [], Value.int .i64 v25), (28, [], Value.pointer (some ⟨(pblk f), (poff f) + 2, none⟩))] (by kernel_rfl) (by kernel_rfl) ?_
         obtain ⟨v29, hc, h⟩ := h
         refine qreg_load1 (t := 3) (a := (Operand.tmp 28)) (b := (pblk f)) (o := ((poff f) + 2)) (ty := 3) (dst := some 29) (by kernel_rfl) (by kernel_rfl) (by kernel_rfl) hc ?_
         refine qreg_run P2 10 [(0, [], Value.pointer f), (21, [], Value.bool (decide (v25 ≥ v29)))] (by kernel_rfl) (by kernel_rfl) ?_
         refine qreg_end [(0, Value.pointer f), (21, Value.bool (decide (v25 ≥ v29)))] (by kernel_rfl) (by kernel_rfl) (fun w2 hw => ?_)
         replace h := h w2 hw
         clear hw
         change WpE _ _ c9_32 _ _ _
         refine Zc 21 (decide (v25 ≥ v29)) c9_33 c9_37 (fun hb => ?_) (fun hb => ?_)
         · replace h := h.1 hb
           refine Zp c9_36 P2 [(2, .int .i64 0), (3, .int .i64 9)] ?_
           refine wpE_ret (by kernel_rfl) ?_
           repeat (first | refine seqQ_ret ?_ | refine blockQ_ret ?_ | refine loopQ_ret ?_ | refine cutQ_ret ?_)
           exact retT (rs := [(ResultVar.tmp 2), (ResultVar.tmp 3)]) (vs := [Value.int .i64 0, Value.int .i64 9]) (by kernel_rfl) (⟨by kernel_rfl, ⟨by kernel_rfl, trivial⟩⟩) (by kernel_rfl) ⟨0, 9, rfl, h⟩
         · replace h := h.2 hb
           refine wpE_skip (by kernel_rfl) ?_
           change WpE _ _ c9_38 _ _ _
           refine wpE_seq_cut (x := c9_39) (y := c9_41) (by kernel_rfl) (fun l w => ∃ (t_ : Option Addr) (e : Int), l = [(0, Value.pointer f), (4, Value.pointer t_), (5, Value.int .i64 e)] ∧ F_feed_Feed_Read_k0 f R t_ e w) ?_ ?_
           · refine wpE_mixregion (id := 9) (ops := r9_39) o_feed_Feed_Read_39 (by kernel_rfl) (by kernel_rfl) (by kernel_rfl) (by kernel_rfl) (fun w6 hw => ?_)
             replace h := h w6 hw
             clear hw
             refine mreg_run P1 1 [(0, [], Value.pointer f), (32, [], Value.pointer f)] (by kernel_rfl) (by kernel_rfl) ?_
             obtain ⟨hp_23, h⟩ := h
             refine mreg_conv [(0, [], Value.pointer f), (32, [], Value.pointer (some ⟨(pblk f), (poff f), none⟩))] (congrArg (fun pp => ([(0, [], Value.pointer f), (32, [], Value.pointer pp)] : GEnv)) hp_23) ?_
             refine mreg_run P1 2 [(0, [], Value.pointer f), (32, [], Value.pointer (some ⟨(pblk f), (poff f), none⟩)), (33, [], Value.pointer (some ⟨(pblk f), (poff f), none⟩))] (by kernel_rfl) (by kernel_rfl) ?_
             refine mreg_run P1 3 [(0, [], Value.pointer f), (34, [], Value.pointer (some ⟨(pblk f), (poff f), none⟩))] (by kernel_rfl) (by kernel_rfl) ?_
             obtain ⟨v35, hc, h⟩ := h
             refine mreg_load1 (i := 3) (by kernel_rfl) (t := 36) (a := (Operand.tmp 34)) (b := (pblk f)) (o := (poff f)) (ty := 36) (dst := some 35) (by kernel_rfl) (by kernel_rfl) (by kernel_rfl) hc ?_
             refine mreg_run P1 5 [(0, [], Value.pointer f), (35, [], Value.pointer v35), (36, [], Value.pointer f)] (by kernel_rfl) (by kernel_rfl) ?_
             obtain ⟨hp_24, h⟩ := h
             refine mreg_conv [(0, [], Value.pointer f), (35, [], Value.pointer v35), (36, [], Value.pointer (some ⟨(pblk f), (poff f), none⟩))] (congrArg (fun pp => ([(0, [], Value.pointer f), (35, [], Value.pointer v35), (36, [], Value.pointer pp)] : GEnv)) hp_24) ?_
             refine mreg_run P1 6 [(0, [], Value.pointer f), (35, [], Value.pointer v35), (36, [], Value.pointer (some ⟨(pblk f), (poff f), none⟩)), (37, [], Value.pointer (some ⟨(pblk f), (poff f), none⟩))] (by kernel_rfl) (by kernel_rfl) ?_
             refine mreg_run P1 7 [(0, [], Value.pointer f), (35, [], Value.pointer v35), (38, [], Value.pointer (some ⟨(pblk f), (poff f) + 1, none⟩))] (by kernel_rfl) (by kernel_rfl) ?_
             obtain ⟨v39, hc, h⟩ := h
             refine mreg_load1 (i := 7) (by kernel_rfl) (t := 3) (a := (Operand.tmp 38)) (b := (pblk f)) (o := ((poff f) + 1)) (ty := 3) (dst := some 39) (by kernel_rfl) (by kernel_rfl) (by kernel_rfl) hc ?_
             refine mreg_run P1 9 [(0, [], Value.pointer f), (35, [], Value.pointer v35), (40, [], Value.int .i64 (IntKind.i64.wrap (v39 + 1)))] (by kernel_rfl) (by kernel_rfl) ?_
             refine mreg_fork 9 [9, 13] (by kernel_rfl) (by kernel_rfl) (fork_two ?_ ?_)
             · replace h := h.1
               refine eff_enter (π := o_feed_Feed_Read_39_4) (k := 9) (op := (Op.call (Call.mk (Callee.value (Operand.func 31)) #[(Operand.tmp 35), (Operand.tmp 40)] #[36, 3]))) (ty := 50) (dst := some 41) 9 [3, 8, 2, 7, 1, 6, 0, 5, 4] [] 31 #[Value.pointer v35, Value.int .i64 (IntKind.i64.wrap (v39 + 1))] (by kernel_rfl) (by kernel_rfl) (by kernel_rfl) (by kernel_rfl) (by kernel_rfl) (by kernel_rfl) (fun ww => by kernel_rfl) (Calls.mono h ?_)
               rintro _ w7 ⟨v41, e1, rfl, h⟩
               refine ⟨_, rfl, trivial, ?_⟩
               refine mreg_run P3 13 [(0, [], Value.pointer f), (42, [], Value.agg #[Value.int .i64 v41.Number, sv_ v41.Writes]), (43, [], Value.int .i64 e1)] (by kernel_rfl) (by kernel_rfl) ?_
               refine mreg_new (op := (Op.alloc 49)) (ty := 0) (dst := some 4) 13 [] [] (fun bb => pv_ bb) (Obj.cells ([Value.int .i64 0, Value.slice none 0 0]).toArray ty_api_Txn (0, 0)) (by kernel_rfl) (by kernel_rfl) (by kernel_rfl) (by kernel_rfl) (by kernel_rfl) (by kernel_rfl) (fun b_ w8 hb hw => ?_)
               replace h := h b_ w8 hb hw
               clear hb hw
               refine ⟨trivial, ?_⟩
               refine mreg_run [] 14 [(0, [], Value.pointer f), (4, [], pv_ b_), (42, [], Value.agg #[Value.int .i64 v41.Number, sv_ v41.Writes]), (43, [], Value.int .i64 e1)] (by kernel_rfl) (by kernel_rfl) ?_
               obtain ⟨hc, h⟩ := h
               refine mreg_store (t := 49) (a := (Operand.tmp 4)) (x := (Operand.tmp 42)) (b := b_) (o := 0) (k := 2) (ty := 0) (dst := none) 14 [0, 1, 2, 3, 4, 5, 6, 7, 8, 9, 10, 11, 13] [] [Value.int .i64 v41.Number, sv_ v41.Writes] (by kernel_rfl) (by kernel_rfl) (by kernel_rfl) (by kernel_rfl) (by kernel_rfl) (by kernel_rfl) (by kernel_rfl) (by kernel_rfl) (by kernel_rfl) (by kernel_rfl) hc (fun w9 hw => ?_)
               replace h := h w9 hw
               clear hw
               refine ⟨trivial, ?_⟩
               refine mreg_run P1 16 [(0, [], Value.pointer f), (4, [], pv_ b_), (5, [], Value.int .i64 e1)] (by kernel_rfl) (by kernel_rfl) ?_
               refine mreg_end [(0, Value.pointer f), (4, pv_ b_), (5, Value.int .i64 e1)] (by kernel_rfl) (by kernel_rfl) (by kernel_rfl) ?_
               exact ⟨[(0, Value.pointer f), (4, pv_ b_), (5, Value.int .i64 e1)], Sub.mk (by kernel_rfl), (some ⟨b_, 0, none⟩), e1, rfl, h⟩
             · replace h := h.2
               refine eff_new (π := o_feed_Feed_Read_39_5) (k := 9) (op := (Op.alloc 49)) (ty := 0) (dst := some 4) 13 [] [(7, fun w' => w'.cell? ⟨(pblk f), (poff f) + 1, none⟩ = some (Value.int .i64 v39)), (3, fun w' => w'.cell? ⟨(pblk f), (poff f), none⟩ = some (Value.pointer v35))] (fun bb => pv_ bb) (Obj.cells ([Value.int .i64 0, Value.slice none 0 0]).toArray ty_api_Txn (0, 0)) (by kernel_rfl) (by kernel_rfl) (by kernel_rfl) (by kernel_rfl) (by kernel_rfl) (by kernel_rfl) (by kernel_rfl) (fun b_1 w10 hb hw => ?_)
               replace h := h b_1 w10 hb hw
               clear hb hw
               obtain ⟨hk0, hk1, h⟩ := h
               refine ⟨⟨hk0, hk1, trivial⟩, ?_⟩
               refine mreg_run [] 10 [(0, [], Value.pointer f), (4, [], pv_ b_1), (35, [], Value.pointer v35), (40, [], Value.int .i64 (IntKind.i64.wrap (v39 + 1)))] (by kernel_rfl) (by kernel_rfl) ?_
               refine mreg_enter (op := (Op.call (Call.mk (Callee.value (Operand.func 31)) #[(Operand.tmp 35), (Operand.tmp 40)] #[36, 3]))) (ty := 50) (dst := some 41) 9 [3, 8, 2, 7, 1, 6, 0, 5, 4] [] 31 #[Value.pointer v35, Value.int .i64 (IntKind.i64.wrap (v39 + 1))] (by kernel_rfl) (by kernel_rfl) (by kernel_rfl) (by kernel_rfl) (by kernel_rfl) (fun ww => by kernel_rfl) (Calls.mono h ?_)
               rintro _ w11 ⟨v411, e2, rfl, h⟩
               refine ⟨_, rfl, trivial, ?_⟩
               refine mreg_run P3 14 [(0, [], Value.pointer f), (4, [], pv_ b_1), (42, [], Value.agg #[Value.int .i64 v411.Number, sv_ v411.Writes]), (43, [], Value.int .i64 e2)] (by kernel_rfl) (by kernel_rfl) ?_
               obtain ⟨hc, h⟩ := h
               refine mreg_store (t := 49) (a := (Operand.tmp 4)) (x := (Operand.tmp 42)) (b := b_1) (o := 0) (k := 2) (ty := 0) (dst := none) 14 [0, 1, 2, 3, 4, 5, 6, 7, 8, 9, 10, 11, 13] [] [Value.int .i64 v411.Number, sv_ v411.Writes] (by kernel_rfl) (by kernel_rfl) (by kernel_rfl) (by kernel_rfl) (by kernel_rfl) (by kernel_rfl) (by kernel_rfl) (by kernel_rfl) (by kernel_rfl) (by kernel_rfl) hc (fun w12 hw => ?_)
               replace h := h w12 hw
               clear hw
               refine ⟨trivial, ?_⟩
               refine mreg_run P1 16 [(0, [], Value.pointer f), (4, [], pv_ b_1), (5, [], Value.int .i64 e2)] (by kernel_rfl) (by kernel_rfl) ?_
               refine mreg_end [(0, Value.pointer f), (4, pv_ b_1), (5, Value.int .i64 e2)] (by kernel_rfl) (by kernel_rfl) (by kernel_rfl) ?_
               exact ⟨[(0, Value.pointer f), (4, pv_ b_1), (5, Value.int .i64 e2)], Sub.mk (by kernel_rfl), (some ⟨b_1, 0, none⟩), e2, rfl, h⟩
           · rintro _ w3 ⟨t_, e, rfl, h⟩
             unfold F_feed_Feed_Read_k0 at h
             refine Zs c9_42 c9_51 ?_
             refine Zp c9_45 P2 [(0, .pointer f), (4, .pointer t_), (5, .int .i64 e), (45, .bool (e != 0))] ?_
             refine Zc 45 (e != 0) c9_46 c9_50 (fun hb => ?_) (fun hb => ?_)
             · replace h := h.1 hb
               refine Zp c9_49 P3 [(2, .int .i64 0), (3, .int .i64 e)] ?_
               refine wpE_ret (by kernel_rfl) ?_
               repeat (first | refine seqQ_ret ?_ | refine blockQ_ret ?_ | refine loopQ_ret ?_ | refine cutQ_ret ?_)
               exact retT (rs := [(ResultVar.tmp 2), (ResultVar.tmp 3)]) (vs := [Value.int .i64 0, Value.int .i64 e]) (by kernel_rfl) (⟨by kernel_rfl, ⟨by kernel_rfl, trivial⟩⟩) (by kernel_rfl) ⟨0, e, rfl, h⟩
             · replace h := h.2 hb
               refine wpE_skip (by kernel_rfl) ?_
               change WpE _ _ c9_51 _ _ _
               refine Zt r9_52 c9_54 ?_
               refine Zn P1 1 [(0, [], .pointer f), (4, [], .pointer t_), (47, [], .pointer f)] ?_
               obtain ⟨hp_19, h⟩ := h
               refine Zv (fun pp => [(0, [], .pointer f), (4, [], .pointer t_), (47, [], .pointer pp)]) hp_19 ?_
               refine Zn P1 2 [(0, [], .pointer f), (4, [], .pointer t_), (47, [], .pointer (some ⟨(pblk f), (poff f), none⟩)), (48, [], .pointer (some ⟨(pblk f), (poff f), none⟩))] ?_
               refine Zn P1 3 [(0, [], .pointer f), (4, [], .pointer t_), (47, [], .pointer (some ⟨(pblk f), (poff f), none⟩)), (49, [], .pointer (some ⟨(pblk f), (poff f) + 1, none⟩))] ?_
               obtain ⟨v50, hc, h⟩ := h
               refine Zl 3 49 (pblk f) ((poff f) + 1) 3 50 hc ?_
               refine Zn P3 7 [(0, [], .pointer f), (4, [], .pointer t_), (51, [], .int .i64 (IntKind.i64.wrap (v50 + 1))), (53, [], .pointer (some ⟨(pblk f), (poff f) + 1, none⟩))] ?_
               obtain ⟨hc, h⟩ := h
               refine Zo 3 53 51 (pblk f) ((poff f) + 1) 1 [.int .i64 (IntKind.i64.wrap (v50 + 1))] hc (fun w4 hw => ?_)
               replace h := h w4 hw
               clear hw
               refine Ze [(0, .pointer f), (4, .pointer t_)] ?_
               change WpE _ _ c9_54 _ _ _
               refine Zt r9_55 c9_57 ?_
               refine Zn P1 1 [(4, [], .pointer t_), (54, [], .pointer f)] ?_
               obtain ⟨hp_21, h⟩ := h
               refine Zv (fun pp => [(4, [], .pointer t_), (54, [], .pointer pp)]) hp_21 ?_
               refine Zn P1 2 [(4, [], .pointer t_), (54, [], .pointer (some ⟨(pblk f), (poff f), none⟩)), (55, [], .pointer (some ⟨(pblk f), (poff f), none⟩))] ?_
               refine Zn P1 3 [(4, [], .pointer t_), (56, [], .pointer (some ⟨(pblk f), (poff f) + 5, none⟩))] ?_
               obtain ⟨hc, h⟩ := h
               refine Zo 100 56 4 (pblk f) ((poff f) + 5) 1 [.pointer t_] hc (fun w5 hw => ?_)
               replace h := h w5 hw
               clear hw
               refine Ze [(4, .pointer t_)] ?_
               change WpE _ _ c9_57 _ _ _
               refine Zt r9_58 c9_60 ?_
               refine Zn [] 0 [(4, [], .pointer t_)] ?_
               obtain ⟨hp_22, h⟩ := h
               refine Zv (fun pp => [(4, [], .pointer pp)]) hp_22 ?_
               refine Zn P1 1 [(4, [], .pointer (some ⟨(pblk t_), (poff t_), none⟩)), (57, [], .pointer (some ⟨(pblk t_), (poff t_), none⟩))] ?_
               refine Zn [] 1 [(57, [], .pointer (some ⟨(pblk t_), (poff t_), none⟩))] ?_
               obtain ⟨v58, hc, h⟩ := h
               refine Zl 3 57 (pblk t_) (poff t_) 3 58 hc ?_
               refine Zf P2 [(2, .int .i64 v58), (3, .int .i64 0)] ?_
               change WpE _ _ c9_60 _ _ _
               refine wpE_ret (by kernel_rfl) ?_
               repeat (first | refine seqQ_ret ?_ | refine blockQ_ret ?_ | refine loopQ_ret ?_ | refine cutQ_ret ?_)
               exact retT (rs := [(ResultVar.tmp 2), (ResultVar.tmp 3)]) (vs := [Value.int .i64 v58, Value.int .i64 0]) (by kernel_rfl) (⟨by kernel_rfl, ⟨by kernel_rfl, trivial⟩⟩) (by kernel_rfl) ⟨v58, 0, rfl, h⟩
 · rintro e w' ⟨v, rfl, r0, r1, rfl, h⟩; exact ⟨r0, r1, rfl, h⟩

/-! ### (*towpath/feed.Feed).Dispatch (function 10) -/
def c10_0 := cb_ Tryz.f10
def c10_1 := cl_ c10_0
def r10_1 := co_ c10_1
def c10_3 := cr_ c10_0
def c10_4 := cl_ c10_3
def c10_5 := cl_ c10_4
def c10_6 := cl_ c10_5
def r10_6 := co_ c10_6
def c10_8 := cr_ c10_5
def c10_9 := cl_ c10_8
def c10_10 := cl_ c10_9
def r10_10 := co_ c10_10
def c10_12 := cr_ c10_9
def c10_13 := cr_ c10_8
def c10_14 := cl_ c10_13
def r10_14 := co_ c10_14
def c10_16 := cr_ c10_13
def c10_17 := cl_ c10_16
def c10_18 := cl_ c10_17
def r10_18 := co_ c10_18
def c10_20 := cr_ c10_17
def c10_21 := cr_ c10_16
def c10_22 := cl_ c10_21
def r10_22 := co_ c10_22
def c10_24 := cr_ c10_21
def c10_25 := cl_ c10_24
def c10_26 := cl_ c10_25
def r10_26 := co_ c10_26
def c10_28 := cr_ c10_25
def c10_29 := cr_ c10_24
def c10_30 := cr_ c10_3
def c10_31 := cl_ c10_30
def r10_31 := co_ c10_31
def c10_33 := cr_ c10_30
def c10_34 := cl_ c10_33
def r10_34 := co_ c10_34
def c10_36 := cr_ c10_33
def c10_37 := cl_ c10_36
def r10_37 := co_ c10_37
def c10_39 := cr_ c10_36

theorem S_feed_Feed_Dispatch {f : Option Addr} {mark : Int} {w : World} {R : T_api_Txn → Int → World → Prop} (h : F_feed_Feed_Dispatch f mark R w) : C_feed_Feed_Dispatch f mark w R := by
 unfold F_feed_Feed_Dispatch at h
 unfold C_feed_Feed_Dispatch
 refine Calls.mono (calls_of_wpE (args := [Value.pointer f, Value.int .i64 mark]) (R := fun v w' => ∃ (r0 : T_api_Txn) (r1 : Int), v = Value.tuple #[Value.agg #[Value.int .i64 r0.Number, sv_ r0.Writes], Value.int .i64 r1] ∧ R r0 r1 w') Tryz.func10 (c := c10_0) (by kernel_rfl) 39 (by kernel_rfl) (by kernel_rfl) [(0, Value.pointer f), (1, Value.int .i64 mark)] (by kernel_rfl) ?_) ?_
 · refine Zt r10_1 c10_3 ?_
   refine Zn [] 0 [(0, [], .pointer f), (1, [], .int .i64 mark)] ?_
   refine Zw (some 4) (fun bb => pv_ bb) (Obj.cells ([.int .i64 0, .slice none 0 0]).toArray ty_api_Txn (0, 0)) (fun b_ w1 hb hw => ?_)
   replace h := h b_ w1 hb hw
   clear hb hw
   refine Zf P1 [(0, .pointer f), (1, .int .i64 mark), (4, pv_ b_)] ?_
   change WpE _ _ c10_3 _ _ _
   refine Zs c10_4 c10_30 ?_
   refine Zb 0 c10_5 ?_
   refine Zt r10_6 c10_8 ?_
   refine Zn P1 1 [(0, [], .pointer f), (1, [], .int .i64 mark), (4, [], pv_ b_), (8, [], .pointer f)] ?_
   refine Zm 30 #[.pointer f] (some 9) (Calls.mono h ?_)
   rintro _ w2 ⟨v9, rfl, h⟩
   refine ⟨_, rfl, ?_⟩
   refine Zf P2 [(0, .pointer f), (1, .int .i64 mark), (4, pv_ b_), (7, .bool (!v9))] ?_
   change WpE _ _ c10_8 _ _ _
   refine Zc 7 (!v9) c10_9 c10_13 (fun hb => ?_) (fun hb => ?_)
   · replace h := h.1 hb
     refine Zt r10_10 c10_12 ?_
     refine Zn P1 1 [(4, [], pv_ b_), (11, [], .agg #[.int .i64 0, .slice none 0 0])] ?_
     obtain ⟨hc, h⟩ := h
     refine Zo 49 4 11 b_ 0 2 [.int .i64 0, .slice none 0 0] hc (fun w3 hw => ?_)
     replace h := h w3 hw
     clear hw
     refine Zf P1 [(4, pv_ b_), (5, .int .i64 2)] ?_
     change WpE _ _ c10_12 _ _ _
     refine wpE_ret (by kernel_rfl) ?_
     obtain ⟨res, hc_res, h⟩ := h
     repeat (first | refine seqQ_ret ?_ | refine blockQ_ret ?_ | refine loopQ_ret ?_ | refine cutQ_ret ?_)
     exact retT (rs := [(ResultVar.cell 4 49), (ResultVar.tmp 5)]) (vs := [Value.agg #[Value.int .i64 res.Number, sv_ res.Writes], Value.int .i64 2]) (by kernel_rfl) (⟨b_, 0, [Value.int .i64 res.Number, sv_ res.Writes], by kernel_rfl, hc_res, (sizeP_of (k := 2) (by kernel_rfl) (by kernel_rfl)), .inl ⟨by kernel_rfl, rfl⟩, ⟨by kernel_rfl, trivial⟩⟩) (by kernel_rfl) ⟨res, 2, rfl, h⟩
   · replace h := h.2 hb
     refine Zt r10_14 c10_16 ?_
     refine Zn P1 1 [(0, [], .pointer f), (1, [], .int .i64 mark), (4, [], pv_ b_), (13, [], .pointer f)] ?_
     obtain ⟨hp_3, h⟩ := h
     refine Zv (fun pp => [(0, [], .pointer f), (1, [], .int .i64 mark), (4, [], pv_ b_), (13, [], .pointer pp)]) hp_3 ?_
     refine Zn P1 2 [(0, [], .pointer f), (1, [], .int .i64 mark), (4, [], pv_ b_), (13, [], .pointer (some ⟨(pblk f), (poff f), none⟩)), (14, [], .pointer (some ⟨(pblk f), (poff f), none⟩))] ?_
     refine Zn P1 3 [(0, [], .pointer f), (1, [], .int .i64 mark), (4, [], pv_ b_), (15, [], .pointer (some ⟨(pblk f), (poff f) + 5, none⟩))] ?_
     obtain ⟨v16, hc, h⟩ := h
     refine Zl 100 15 (pblk f) ((poff f) + 5) 100 16 hc ?_
     refine Zn [] 4 [(0, [], .pointer f), (1, [], .int .i64 mark), (4, [], pv_ b_), (16, [], .pointer v16)] ?_
     refine reg_val (op := (Op.binOp BinOp.eql 100 (Operand.tmp 16) (Operand.const (Value.pointer none)) 100)) (ty := 4) (dst := some 17) (Value.bool v16.isNone) (by kernel_rfl) (fun ww => run_ptr_eql_R (p := v16) (by kernel_rfl) (by kernel_rfl) (by kernel_rfl) ww) ?_
     refine Zf P1 [(0, .pointer f), (1, .int .i64 mark), (4, pv_ b_), (12, .bool v16.isNone)] ?_
     change WpE _ _ c10_16 _ _ _
     refine Zc 12 v16.isNone c10_17 c10_21 (fun hb => ?_) (fun hb => ?_)
     · replace h := h.1 hb
       refine Zt r10_18 c10_20 ?_
       refine Zn P1 1 [(4, [], pv_ b_), (18, [], .agg #[.int .i64 0, .slice none 0 0])] ?_
       obtain ⟨hc, h⟩ := h
       refine Zo 49 4 18 b_ 0 2 [.int .i64 0, .slice none 0 0] hc (fun w4 hw => ?_)
       replace h := h w4 hw
       clear hw
       refine Zf P1 [(4, pv_ b_), (5, .int .i64 9)] ?_
       change WpE _ _ c10_20 _ _ _
       refine wpE_ret (by kernel_rfl) ?_
       obtain ⟨res1, hc_res1, h⟩ := h
       repeat (first | refine seqQ_ret ?_ | refine blockQ_ret ?_ | refine loopQ_ret ?_ | refine cutQ_ret ?_)
       exact retT (rs := [(ResultVar.cell 4 49), (ResultVar.tmp 5)]) (vs := [Value.agg #[Value.int .i64 res1.Number, sv_ res1.Writes], Value.int .i64 9]) (by kernel_rfl) (⟨b_, 0, [Value.int .i64 res1.Number, sv_ res1.Writes], by kernel_rfl, hc_res1, (sizeP_of (k := 2) (by kernel_rfl) (by kernel_rfl)), .inl ⟨by kernel_rfl, rfl⟩, ⟨by kernel_rfl, trivial⟩⟩) (by kernel_rfl) ⟨res1, 9, rfl, h⟩
     · replace h := h.2 hb
       refine wpE_seq_cut (x := c10_22) (y := c10_24) (by kernel_rfl) (fun l w => ∃ (t19 : Bool), l = [(0, Value.pointer f), (4, pv_ b_), (19, Value.bool t19)] ∧ F_feed_Feed_Dispatch_k0 f R b_ t19 w) ?_ ?_
       · refine Zr r10_22 ?_
         refine Zn P1 1 [(0, [], .pointer f), (1, [], .int .i64 mark), (4, [], pv_ b_), (20, [], .pointer f)] ?_
         refine Zm 32 #[.pointer f] (some 21) (Calls.mono h ?_)
         rintro _ w11 ⟨v21, rfl, h⟩
         refine ⟨_, rfl, ?_⟩
         refine Zn P3 5 [(0, [], .pointer f), (4, [], pv_ b_), (22, [], .bool v21), (23, [(22, false)], .pointer f), (24, [(22, false)], .int .i64 mark)] ?_
         refine reg_split 22 v21 (by kernel_rfl) (fun hb => ?_) (fun hb => ?_)
         · replace h := h.1 hb
           refine Zn [] 5 [(0, [], .pointer f), (4, [], pv_ b_), (22, [], .bool true), (23, [], undef), (24, [], undef)] ?_
           refine Zf [.skip, .skip, .plain, .plain] [(0, .pointer f), (4, pv_ b_), (19, .bool true)] ?_
           exact ⟨[(0, Value.pointer f), (4, pv_ b_), (19, Value.bool true)], Sub.mk (by kernel_rfl), true, rfl, h⟩
         · replace h := h.2 hb
           refine Zn [] 5 [(0, [], .pointer f), (4, [], pv_ b_), (22, [], .bool false), (23, [], .pointer f), (24, [], .int .i64 mark)] ?_
           refine Zn [] 5 [(0, [], .pointer f), (4, [], pv_ b_), (22, [], .bool false), (23, [], .pointer f), (24, [], .int .i64 mark)] ?_
           refine Zm 33 #[.pointer f, .int .i64 mark] (some 25) (Calls.mono h ?_)
           rintro _ w12 ⟨v25, rfl, h⟩
           refine ⟨_, rfl, ?_⟩
           refine Zf [.sure, .plain, .plain] [(0, .pointer f), (4, pv_ b_), (19, .bool (!v25))] ?_
           exact ⟨[(0, Value.pointer f), (4, pv_ b_), (19, Value.bool (!v25))], Sub.mk (by kernel_rfl), (!v25), rfl, h⟩
       · rintro _ w5 ⟨t19, rfl, h⟩
         unfold F_feed_Feed_Dispatch_k0 at h
         refine Zc 19 t19 c10_25 c10_29 (fun hb => ?_) (fun hb => ?_)
         · replace h := h.1 hb
           refine Zt r10_26 c10_28 ?_
           refine Zn P1 1 [(4, [], pv_ b_), (28, [], .agg #[.int .i64 0, .slice none 0 0])] ?_
           obtain ⟨hc, h⟩ := h
           refine Zo 49 4 28 b_ 0 2 [.int .i64 0, .slice none 0 0] hc (fun w6 hw => ?_)
           replace h := h w6 hw
           clear hw
           refine Zf P1 [(4, pv_ b_), (5, .int .i64 6)] ?_
           change WpE _ _ c10_28 _ _ _
           refine wpE_ret (by kernel_rfl) ?_
           obtain ⟨res2, hc_res2, h⟩ := h
           repeat (first | refine seqQ_ret ?_ | refine blockQ_ret ?_ | refine loopQ_ret ?_ | refine cutQ_ret ?_)
           exact retT (rs := [(ResultVar.cell 4 49), (ResultVar.tmp 5)]) (vs := [Value.agg #[Value.int .i64 res2.Number, sv_ res2.Writes], Value.int .i64 6]) (by kernel_rfl) (⟨b_, 0, [Value.int .i64 res2.Number, sv_ res2.Writes], by kernel_rfl, hc_res2, (sizeP_of (k := 2) (by kernel_rfl) (by kernel_rfl)), .inl ⟨by kernel_rfl, rfl⟩, ⟨by kernel_rfl, trivial⟩⟩) (by kernel_rfl) ⟨res2, 6, rfl, h⟩
         · replace h := h.2 hb
           refine wpE_skip (by kernel_rfl) ?_
           change WpE _ _ c10_30 _ _ _
           refine Zt r10_31 c10_33 ?_
           refine Zn P1 1 [(0, [], .pointer f), (4, [], pv_ b_), (29, [], .pointer f)] ?_
           obtain ⟨hp_6, h⟩ := h
           refine Zv (fun pp => [(0, [], .pointer f), (4, [], pv_ b_), (29, [], .pointer pp)]) hp_6 ?_
           refine Zn P1 2 [(0, [], .pointer f), (4, [], pv_ b_), (29, [], .pointer (some ⟨(pblk f), (poff f), none⟩)), (30, [], .pointer (some ⟨(pblk f), (poff f), none⟩))] ?_
           refine Zn P1 3 [(0, [], .pointer f), (4, [], pv_ b_), (31, [], .pointer (some ⟨(pblk f), (poff f) + 5, none⟩))] ?_
           obtain ⟨v32, hc, h⟩ := h
           refine Zl 100 31 (pblk f) ((poff f) + 5) 100 32 hc ?_
           refine Zn [] 4 [(0, [], .pointer f), (4, [], pv_ b_), (32, [], .pointer v32)] ?_
           obtain ⟨hp_7, h⟩ := h
           refine Zv (fun pp => [(0, [], .pointer f), (4, [], pv_ b_), (32, [], .pointer pp)]) hp_7 ?_
           refine Zn P1 5 [(0, [], .pointer f), (4, [], pv_ b_), (32, [], .pointer (some ⟨(pblk v32), (poff v32), none⟩)), (33, [], .pointer (some ⟨(pblk v32), (poff v32), none⟩))] ?_
           refine Zn [] 5 [(0, [], .pointer f), (4, [], pv_ b_), (33, [], .pointer (some ⟨(pblk v32), (poff v32), none⟩))] ?_
           obtain ⟨v34, hc, h⟩ := h
           refine reg_loadN (t := 49) (a := (Operand.tmp 33)) (b := (pblk v32)) (o := (poff v32)) (ty := 49) (dst := some 34) [Value.int .i64 v34.Number, sv_ v34.Writes] (by kernel_rfl) (by kernel_rfl) (by kernel_rfl) (k := 2) (by kernel_rfl) (by kernel_rfl) hc ?_
           refine Zn [] 6 [(0, [], .pointer f), (4, [], pv_ b_), (34, [], .agg #[.int .i64 v34.Number, sv_ v34.Writes])] ?_
           refine Zw (some 6) (fun bb => pv_ bb) (Obj.cells ([.int .i64 0, .slice none 0 0]).toArray ty_api_Txn (0, 0)) (fun b_1 w7 hb hw => ?_)
           replace h := h b_1 w7 hb hw
           clear hb hw
           refine Zn [] 7 [(0, [], .pointer f), (4, [], pv_ b_), (6, [], pv_ b_1), (34, [], .agg #[.int .i64 v34.Number, sv_ v34.Writes])] ?_
           obtain ⟨hc, h⟩ := h
           refine Zo 49 6 34 b_1 0 2 [.int .i64 v34.Number, sv_ v34.Writes] hc (fun w8 hw => ?_)
           replace h := h w8 hw
           clear hw
           refine Ze [(0, .pointer f), (4, pv_ b_), (6, pv_ b_1)] ?_
           change WpE _ _ c10_33 _ _ _
           refine Zt r10_34 c10_36 ?_
           refine Zn P1 1 [(4, [], pv_ b_), (6, [], pv_ b_1), (35, [], .pointer f)] ?_
           obtain ⟨hp_9, h⟩ := h
           refine Zv (fun pp => [(4, [], pv_ b_), (6, [], pv_ b_1), (35, [], .pointer pp)]) hp_9 ?_
           refine Zn P1 2 [(4, [], pv_ b_), (6, [], pv_ b_1), (35, [], .pointer (some ⟨(pblk f), (poff f), none⟩)), (36, [], .pointer (some ⟨(pblk f), (poff f), none⟩))] ?_
           refine Zn P1 3 [(4, [], pv_ b_), (6, [], pv_ b_1), (37, [], .pointer (some ⟨(pblk f), (poff f) + 5, none⟩))] ?_
           obtain ⟨hc, h⟩ := h
           refine reg_store (t := 100) (a := (Operand.tmp 37)) (x := (Operand.const (Value.pointer none))) (b := (pblk f)) (o := ((poff f) + 5)) (ty := 0) (dst := none) [Value.pointer none] (by kernel_rfl) (by kernel_rfl) (by kernel_rfl) (k := 1) (by kernel_rfl) (by kernel_rfl) (by kernel_rfl) hc (fun w9 hw => ?_)
           replace h := h w9 hw
           clear hw
           refine Ze [(4, pv_ b_), (6, pv_ b_1)] ?_
           change WpE _ _ c10_36 _ _ _
           refine Zt r10_37 c10_39 ?_
           refine Zn [] 0 [(4, [], pv_ b_), (6, [], pv_ b_1)] ?_
           obtain ⟨v38, hc, h⟩ := h
           refine reg_loadN (t := 49) (a := (Operand.tmp 6)) (b := b_1) (o := 0) (ty := 49) (dst := some 38) [Value.int .i64 v38.Number, sv_ v38.Writes] (by kernel_rfl) (by kernel_rfl) (by kernel_rfl) (k := 2) (by kernel_rfl) (by kernel_rfl) hc ?_
           refine Zn [] 1 [(4, [], pv_ b_), (38, [], .agg #[.int .i64 v38.Number, sv_ v38.Writes])] ?_
           obtain ⟨hc, h⟩ := h
           refine Zo 49 4 38 b_ 0 2 [.int .i64 v38.Number, sv_ v38.Writes] hc (fun w10 hw => ?_)
           replace h := h w10 hw
           clear hw
           refine Zf P1 [(4, pv_ b_), (5, .int .i64 0)] ?_
           change WpE _ _ c10_39 _ _ _
           refine wpE_ret (by kernel_rfl) ?_
           obtain ⟨res3, hc_res3, h⟩ := h
           repeat (first | refine seqQ_ret ?_ | refine blockQ_ret ?_ | refine loopQ_ret ?_ | refine cutQ_ret ?_)
           exact retT (rs := [(ResultVar.cell 4 49), (ResultVar.tmp 5)]) (vs := [Value.agg #[Value.int .i64 res3.Number, sv_ res3.Writes], Value.int .i64 0]) (by kernel_rfl) (⟨b_, 0, [Value.int .i64 res3.Number, sv_ res3.Writes], by kernel_rfl, hc_res3, (sizeP_of (k := 2) (by kernel_rfl) (by kernel_rfl)), .inl ⟨by kernel_rfl, rfl⟩, ⟨by kernel_rfl, trivial⟩⟩) (by kernel_rfl) ⟨res3, 0, rfl, h⟩
 · rintro e w' ⟨v, rfl, r0, r1, rfl, h⟩; exact ⟨r0, r1, rfl, h⟩

/-! ### (*towpath/feed.Feed).Can (function 29) -/
def c29_0 := cb_ Tryz.f29
def c29_3 := cr_ c29_0
def c29_4 := cl_ c29_3
def c29_5 := cl_ c29_4
def r29_5 := co_ c29_5
def c29_7 := cr_ c29_4
def c29_8 := cl_ c29_7
def c29_11 := cr_ c29_8
def c29_12 := cr_ c29_7
def c29_13 := cr_ c29_3
def c29_16 := cr_ c29_13
def c29_17 := cl_ c29_16
def c29_18 := cl_ c29_17
def c29_19 := cl_ c29_18
def c29_20 := cl_ c29_19
def c29_21 := cl_ c29_20
def c29_22 := cl_ c29_21
def c29_23 := cl_ c29_22
def c29_24 := cl_ c29_23
def c29_25 := cl_ c29_24
def c29_26 := cl_ c29_25
def c29_27 := cl_ c29_26
def c29_28 := cl_ c29_27
def c29_29 := cl_ c29_28
def c29_30 := cl_ c29_29
def r29_30 := co_ c29_30
def c29_32 := cr_ c29_29
def c29_33 := cl_ c29_32
def c29_34 := cr_ c29_32
def c29_35 := cr_ c29_28
def c29_36 := cl_ c29_35
def c29_37 := cl_ c29_36
def r29_37 := co_ c29_37
def c29_39 := cr_ c29_36
def c29_40 := cl_ c29_39
def c29_41 := cr_ c29_39
def c29_42 := cr_ c29_35
def c29_43 := cl_ c29_42
def c29_44 := cl_ c29_43
def c29_45 := cl_ c29_44
def r29_45 := co_ c29_45
def c29_47 := cr_ c29_44
def c29_48 := cl_ c29_47
def c29_49 := cr_ c29_47
def r29_49 := co_ c29_49
def c29_51 := cr_ c29_43
def c29_52 := cl_ c29_51
def c29_53 := cr_ c29_51
def c29_54 := cr_ c29_42
def c29_55 := cl_ c29_54
def r29_55 := co_ c29_55
def c29_57 := cr_ c29_54
def c29_58 := cl_ c29_57
def c29_59 := cr_ c29_57
def c29_60 := cr_ c29_27
def c29_61 := cr_ c29_25
def c29_64 := cr_ c29_61
def c29_65 := cr_ c29_23
def c29_68 := cr_ c29_65
def c29_69 := cr_ c29_20
def c29_70 := cl_ c29_69
def c29_73 := cr_ c29_70
def c29_74 := cr_ c29_69
def c29_75 := cr_ c29_18
def c29_78 := cr_ c29_75
def c29_79 := cr_ c29_16
def c29_82 := cr_ c29_79

theorem S_feed_Feed_Can {f : Option Addr} {mark : Int} {w : World} {R : Int → World → Prop} (h : F_feed_Feed_Can f mark R w) : C_feed_Feed_Can f mark w R := by
 unfold F_feed_Feed_Can at h
 unfold C_feed_Feed_Can
 refine Calls.mono (calls_of_wpE (args := [Value.pointer f, Value.int .i64 mark]) (R := fun v w' => ∃ (r0 : Int), v = Value.int .u8 r0 ∧ R r0 w') Tryz.func29 (c := c29_0) (by kernel_rfl) 51 (by kernel_rfl) (by kernel_rfl) [(0, Value.pointer f), (1, Value.int .i64 mark)] (by kernel_rfl) ?_) ?_
 · refine Zp c29_3 P1 [(0, .pointer f), (1, .int .i64 mark)] ?_
   refine Zs c29_4 c29_13 ?_
   refine Zt r29_5 c29_7 ?_
   refine Zn P1 1 [(0, [], .pointer f), (1, [], .int .i64 mark), (6, [], .pointer f)] ?_
   refine Zm 30 #[.pointer f] (some 7) (Calls.mono h ?_)
   rintro _ w1 ⟨v7, rfl, h⟩
   refine ⟨_, rfl, ?_⟩
   refine Zf P1 [(0, .pointer f), (1, .int .i64 mark), (8, .bool (!v7))] ?_
   change WpE _ _ c29_7 _ _ _
   refine Zc 8 (!v7) c29_8 c29_12 (fun hb => ?_) (fun hb => ?_)
   · replace h := h.1 hb
     refine Zp c29_11 P1 [(4, .int .u8 0)] ?_
     refine wpE_ret (by kernel_rfl) ?_
     repeat (first | refine seqQ_ret ?_ | refine blockQ_ret ?_ | refine loopQ_ret ?_ | refine cutQ_ret ?_)
     exact retS (rs := [(ResultVar.tmp 4)]) (v := Value.int .u8 0) (by kernel_rfl) (⟨by kernel_rfl, trivial⟩) ⟨0, rfl, h⟩
   · replace h := h.2 hb
     refine wpE_skip (by kernel_rfl) ?_
     change WpE _ _ c29_13 _ _ _
     refine Zp c29_16 P1 [(0, .pointer f), (1, .int .i64 mark)] ?_
     refine wpE_seq_cut (x := c29_17) (y := c29_79) (by kernel_rfl) (fun l w => ∃ (k_ : Int), l = [(5, Value.int .u8 k_)] ∧ F_feed_Feed_Can_k0 R k_ w) ?_ ?_
     · refine Zb 0 c29_18 ?_
       refine Zs c29_19 c29_75 ?_
       refine Zb 5 c29_20 ?_
       refine wpE_seq_cut (x := c29_21) (y := c29_69) (by kernel_rfl) (fun l w => l = [] ∧ F_feed_Feed_Can_k1 R w) ?_ ?_
       · refine Zb 4 c29_22 ?_
         refine Zb 3 c29_23 ?_
         refine Zs c29_24 c29_65 ?_
         refine Zb 2 c29_25 ?_
         refine Zs c29_26 c29_61 ?_
         refine Zb 1 c29_27 ?_
         refine Zs c29_28 c29_60 ?_
         refine Zs c29_29 c29_35 ?_
         refine wpE_seq_cut (x := c29_30) (y := c29_32) (by kernel_rfl) (fun l w => ∃ (t9 : Bool), l = [(0, Value.pointer f), (1, Value.int .i64 mark), (9, Value.bool t9)] ∧ F_feed_Feed_Can_k2 f mark R t9 w) ?_ ?_
         · refine Zr r29_30 ?_
           refine Zn P1 1 [(0, [], .pointer f), (1, [], .int .i64 mark), (10, [], .pointer f)] ?_
           obtain ⟨hp_1535, h⟩ := h
           refine Zv (fun pp => [(0, [], .pointer f), (1, [], .int .i64 mark), (10, [], .pointer pp)]) hp_1535 ?_
           refine Zn P1 2 [(0, [], .pointer f), (1, [], .int .i64 mark), (10, [], .pointer (some ⟨(pblk f), (poff f), none⟩)), (11, [], .pointer (some ⟨(pblk f), (poff f), none⟩))] ?_
           refine Zn P1 3 [(0, [], .pointer f), (1, [], .int .i64 mark), (12, [], .pointer (some ⟨(pblk f), (poff f) + 5, none⟩))] ?_
           obtain ⟨v13, hc, h⟩ := h
           refine Zl 100 12 (pblk f) ((poff f) + 5) 100 13 hc ?_
           refine Zn [] 4 [(0, [], .pointer f), (1, [], .int .i64 mark), (13, [], .pointer v13)] ?_
           refine reg_val (op := (Op.binOp BinOp.neq 100 (Operand.tmp 13) (Operand.const (Value.pointer none)) 100)) (ty := 4) (dst := some 14) (Value.bool (!v13.isNone)) (by kernel_rfl) (fun ww => run_ptr_neq_R (p := v13) (by kernel_rfl) (by kernel_rfl) (by kernel_rfl) ww) ?_
           refine Zn P2 7 [(0, [], .pointer f), (1, [], .int .i64 mark), (15, [], .bool (!v13.isNone)), (16, [(15, true)], .pointer f)] ?_
           refine reg_split 15 (!v13.isNone) (by kernel_rfl) (fun hb => ?_) (fun hb => ?_)
           · replace h := h.1 hb
             refine Zn [] 7 [(0, [], .pointer f), (1, [], .int .i64 mark), (15, [], .bool true), (16, [], .pointer f)] ?_
             refine Zn [] 7 [(0, [], .pointer f), (1, [], .int .i64 mark), (15, [], .bool true), (16, [], .pointer f)] ?_
             refine Zm 32 #[.pointer f] (some 17) (Calls.mono h ?_)
             rintro _ w9 ⟨v17, rfl, h⟩
             refine ⟨_, rfl, ?_⟩
             refine Zf P2 [(0, .pointer f), (1, .int .i64 mark), (9, .bool v17)] ?_
             exact ⟨[(0, Value.pointer f), (1, Value.int .i64 mark), (9, Value.bool v17)], Sub.mk (by kernel_rfl), v17, rfl, h⟩
           · replace h := h.2 hb
             refine Zn [] 7 [(0, [], .pointer f), (1, [], .int .i64 mark), (15, [], .bool false), (16, [], undef)] ?_
             refine Zf [.skip, .plain, .plain] [(0, .pointer f), (1, .int .i64 mark), (9, .bool false)] ?_
             exact ⟨[(0, Value.pointer f), (1, Value.int .i64 mark), (9, Value.bool false)], Sub.mk (by kernel_rfl), false, rfl, h⟩
         · rintro _ w4 ⟨t9, rfl, h⟩
           unfold F_feed_Feed_Can_k2 at h
           refine Zc 9 t9 c29_33 c29_34 (fun hb => ?_) (fun hb => ?_)
           · replace h := h.1 hb
             refine wpE_exit (id := 1) (by kernel_rfl) ?_
             change WpE _ _ c29_61 _ _ _
             refine Zp c29_64 P1 [(5, .int .u8 2)] ?_
             refine wpE_exit (id := 0) (by kernel_rfl) ?_
             exact ⟨[(5, Value.int .u8 2)], Sub.mk (by kernel_rfl), 2, rfl, h⟩
           · replace h := h.2 hb
             refine wpE_skip (by kernel_rfl) ?_
             change WpE _ _ c29_35 _ _ _
             refine Zs c29_36 c29_42 ?_
             refine wpE_seq_cut (x := c29_37) (y := c29_39) (by kernel_rfl) (fun l w => ∃ (t19 : Bool), l = [(0, Value.pointer f), (19, Value.bool t19)] ∧ F_feed_Feed_Can_k3 f R t19 w) ?_ ?_
             · refine Zr r29_37 ?_
               refine Zn P1 1 [(0, [], .pointer f), (1, [], .int .i64 mark), (20, [], .pointer f)] ?_
               obtain ⟨hp_1534, h⟩ := h
               refine Zv (fun pp => [(0, [], .pointer f), (1, [], .int .i64 mark), (20, [], .pointer pp)]) hp_1534 ?_
               refine Zn P1 2 [(0, [], .pointer f), (1, [], .int .i64 mark), (20, [], .pointer (some ⟨(pblk f), (poff f), none⟩)), (21, [], .pointer (some ⟨(pblk f), (poff f), none⟩))] ?_
               refine Zn P1 3 [(0, [], .pointer f), (1, [], .int .i64 mark), (22, [], .pointer (some ⟨(pblk f), (poff f) + 5, none⟩))] ?_
               obtain ⟨v23, hc, h⟩ := h
               refine Zl 100 22 (pblk f) ((poff f) + 5) 100 23 hc ?_
               refine Zn [] 4 [(0, [], .pointer f), (1, [], .int .i64 mark), (23, [], .pointer v23)] ?_
               refine reg_val (op := (Op.binOp BinOp.neq 100 (Operand.tmp 23) (Operand.const (Value.pointer none)) 100)) (ty := 4) (dst := some 24) (Value.bool (!v23.isNone)) (by kernel_rfl) (fun ww => run_ptr_neq_R (p := v23) (by kernel_rfl) (by kernel_rfl) (by kernel_rfl) ww) ?_
               refine Zn P3 8 [(0, [], .pointer f), (25, [], .bool (!v23.isNone)), (26, [(25, true)], .pointer f), (27, [(25, true)], .int .i64 mark)] ?_
               refine reg_split 25 (!v23.isNone) (by kernel_rfl) (fun hb => ?_) (fun hb => ?_)
               · replace h := h.1 hb
                 refine Zn [] 8 [(0, [], .pointer f), (25, [], .bool true), (26, [], .pointer f), (27, [], .int .i64 mark)] ?_
                 refine Zn [] 8 [(0, [], .pointer f), (25, [], .bool true), (26, [], .pointer f), (27, [], .int .i64 mark)] ?_
                 refine Zm 33 #[.pointer f, .int .i64 mark] (some 28) (Calls.mono h ?_)
                 rintro _ w8 ⟨v28, rfl, h⟩
                 refine ⟨_, rfl, ?_⟩
                 refine Zf P2 [(0, .pointer f), (19, .bool v28)] ?_
                 exact ⟨[(0, Value.pointer f), (19, Value.bool v28)], Sub.mk (by kernel_rfl), v28, rfl, h⟩
               · replace h := h.2 hb
                 refine Zn [] 8 [(0, [], .pointer f), (25, [], .bool false), (26, [], undef), (27, [], undef)] ?_
                 refine Zf [.skip, .plain, .plain] [(0, .pointer f), (19, .bool false)] ?_
                 exact ⟨[(0, Value.pointer f), (19, Value.bool false)], Sub.mk (by kernel_rfl), false, rfl, h⟩
             · rintro _ w5 ⟨t19, rfl, h⟩
               unfold F_feed_Feed_Can_k3 at h
               refine Zc 19 t19 c29_40 c29_41 (fun hb => ?_) (fun hb => ?_)
               · replace h := h.1 hb
                 refine wpE_exit (id := 2) (by kernel_rfl) ?_
                 change WpE _ _ c29_65 _ _ _
                 refine Zp c29_68 P1 [(5, .int .u8 3)] ?_
                 refine wpE_exit (id := 0) (by kernel_rfl) ?_
                 exact ⟨[(5, Value.int .u8 3)], Sub.mk (by kernel_rfl), 3, rfl, h⟩
               · replace h := h.2 hb
                 refine wpE_skip (by kernel_rfl) ?_
                 change WpE _ _ c29_42 _ _ _
                 refine Zs c29_43 c29_54 ?_
                 refine wpE_seq_cut (x := c29_44) (y := c29_51) (by kernel_rfl) (fun l w => ∃ (t30 : Bool), l = [(0, Value.pointer f), (30, Value.bool t30)] ∧ F_feed_Feed_Can_k4 f R t30 w) ?_ ?_
                 · refine Zt r29_45 c29_47 ?_
                   refine Zn P1 1 [(0, [], .pointer f), (31, [], .pointer f)] ?_
                   obtain ⟨hp_1532, h⟩ := h
                   refine Zv (fun pp => [(0, [], .pointer f), (31, [], .pointer pp)]) hp_1532 ?_
                   refine Zn P1 2 [(0, [], .pointer f), (31, [], .pointer (some ⟨(pblk f), (poff f), none⟩)), (32, [], .pointer (some ⟨(pblk f), (poff f), none⟩))] ?_
                   refine Zn P1 3 [(0, [], .pointer f), (33, [], .pointer (some ⟨(pblk f), (poff f) + 5, none⟩))] ?_
                   obtain ⟨v34, hc, h⟩ := h
                   refine Zl 100 33 (pblk f) ((poff f) + 5) 100 34 hc ?_
                   refine Zn [] 4 [(0, [], .pointer f), (34, [], .pointer v34)] ?_
                   refine reg_val (op := (Op.binOp BinOp.neq 100 (Operand.tmp 34) (Operand.const (Value.pointer none)) 100)) (ty := 4) (dst := some 35) (Value.bool (!v34.isNone)) (by kernel_rfl) (fun ww => run_ptr_neq_R (p := v34) (by kernel_rfl) (by kernel_rfl) (by kernel_rfl) ww) ?_
                   refine Zf P1 [(0, .pointer f), (30, .bool (!v34.isNone))] ?_
                   change WpE _ _ c29_47 _ _ _
                   refine Zc 30 (!v34.isNone) c29_48 c29_49 (fun hb => ?_) (fun hb => ?_)
                   · replace h := h.1 hb
                     refine wpE_skip (by kernel_rfl) ?_
                     exact ⟨[(0, Value.pointer f), (30, Value.bool (!v34.isNone))], Sub.mk (by kernel_rfl), (!v34.isNone), rfl, h⟩
                   · replace h := h.2 hb
                     refine Zr r29_49 ?_
                     refine Zn P1 1 [(0, [], .pointer f), (30, [], .bool (!v34.isNone)), (36, [], .pointer f)] ?_
                     obtain ⟨hp_1533, h⟩ := h
                     refine Zv (fun pp => [(0, [], .pointer f), (30, [], .bool (!v34.isNone)), (36, [], .pointer pp)]) hp_1533 ?_
                     refine Zn P1 2 [(0, [], .pointer f), (30, [], .bool (!v34.isNone)), (36, [], .pointer (some ⟨(pblk f), (poff f), none⟩)), (37, [], .pointer (some ⟨(pblk f), (poff f), none⟩))] ?_
                     refine Zn P1 3 [(0, [], .pointer f), (30, [], .bool (!v34.isNone)), (38, [], .pointer (some ⟨(pblk f), (poff f) + 6, none⟩))] ?_
                     obtain ⟨v39, hc, h⟩ := h
                     refine Zl 4 38 (pblk f) ((poff f) + 6) 4 39 hc ?_
                     refine Zf P1 [(0, .pointer f), (30, .bool v39)] ?_
                     exact ⟨[(0, Value.pointer f), (30, Value.bool v39)], Sub.mk (by kernel_rfl), v39, rfl, h⟩
                 · rintro _ w6 ⟨t30, rfl, h⟩
                   unfold F_feed_Feed_Can_k4 at h
                   refine Zc 30 t30 c29_52 c29_53 (fun hb => ?_) (fun hb => ?_)
                   · replace h := h.1 hb
                     refine wpE_exit (id := 3) (by kernel_rfl) ?_
                     exact ⟨[], Sub.mk (by kernel_rfl), rfl, h⟩
                   · replace h := h.2 hb
                     refine wpE_skip (by kernel_rfl) ?_
                     change WpE _ _ c29_54 _ _ _
                     refine Zs c29_55 c29_57 ?_
                     refine wpE_drawregion (id := 8) (ops := r29_55) (by kernel_rfl) (by kernel_rfl) (by kernel_rfl) ?_
                     refine qreg_run P1 1 [(0, [], Value.pointer f), (41, [], Value.pointer f)] (by kernel_rfl) (by kernel_rfl) ?_
                     obtain ⟨hp_1529, h⟩ := h
                     refine qreg_conv [(0, [], Value.pointer f), (41, [], Value.pointer (some ⟨(pblk f), (poff f), none⟩))] (congrArg (fun pp => ([(0, [], Value.pointer f), (41, [], Value.pointer pp)] : GEnv)) hp_1529) ?_
                     refine qreg_run P1 2 [(0, [], Value.pointer f), (41, [], Value.pointer (some ⟨(pblk f), (poff f), none⟩)), (42, [], Value.pointer (some ⟨(pblk f), (poff f), none⟩))] (by kernel_rfl) (by kernel_rfl) ?_
                     refine qreg_run P1 3 [(0, [], Value.pointer f), (43, [], Value.pointer (some ⟨(pblk f), (poff f) + 1, none⟩))] (by kernel_rfl) (by kernel_rfl) ?_
                     obtain ⟨v44, hc, h⟩ := h
                     refine qreg_load1 (t := 3) (a := (Operand.tmp 43)) (b := (pblk f)) (o := ((poff f) + 1)) (ty := 3) (dst := some 44) (by kernel_rfl) (by kernel_rfl) (by kernel_rfl) hc ?_
                     refine qreg_run P1 5 [(44, [], Value.int .i64 v44), (45, [], Value.pointer f)] (by kernel_rfl) (by kernel_rfl) ?_
                     obtain ⟨hp_1530, h⟩ := h
                     refine qreg_conv [(44, [], Value.int .i64 v44), (45, [], Value.pointer (some ⟨(pblk f), (poff f), none⟩))] (congrArg (fun pp => ([(44, [], Value.int .i64 v44), (45, [], Value.pointer pp)] : GEnv)) hp_1530) ?_
                     refine qreg_run P1 6 [(44, [], Value.int .i64 v44), (45, [], Value.pointer (some ⟨(pblk f), (poff f), none⟩)), (46, [], Value.pointer (some ⟨(pblk f), (poff f), none⟩))] (by kernel_rfl) (by kernel_rfl) ?_
                     refine qreg_run P1 7 [(44, [], Value.int .i64 v44), (47, [], Value.pointer (some ⟨(pblk f), (poff f) + 2, none⟩))] (by kernel_rfl) (by kernel_rfl) ?_
                     obtain ⟨v48, hc, h⟩ := h
                     refine qreg_load1 (t := 3) (a := (Operand.tmp 47)) (b := (pblk f)) (o := ((poff f) + 2)) (ty := 3) (dst := some 48) (by kernel_rfl) (by kernel_rfl) (by kernel_rfl) hc ?_
                     refine qreg_run P2 10 [(40, [], Value.bool (decide (v44 ≥ v48)))] (by kernel_rfl) (by kernel_rfl) ?_
                     refine qreg_end [(40, Value.bool (decide (v44 ≥ v48)))] (by kernel_rfl) (by kernel_rfl) (fun w7 hw => ?_)
                     replace h := h w7 hw
                     clear hw
                     change WpE _ _ c29_57 _ _ _
                     refine Zc 40 (decide (v44 ≥ v48)) c29_58 c29_59 (fun hb => ?_) (fun hb => ?_)
                     · replace h := h.1 hb
                       refine wpE_exit (id := 4) (by kernel_rfl) ?_
                       exact ⟨[], Sub.mk (by kernel_rfl), rfl, h⟩
                     · replace h := h.2 hb
                       refine wpE_skip (by kernel_rfl) ?_
                       change WpE _ _ c29_60 _ _ _
                       refine wpE_exit (id := 5) (by kernel_rfl) ?_
                       change WpE _ _ c29_75 _ _ _
                       refine Zp c29_78 P1 [(5, .int .u8 1)] ?_
                       refine wpE_exit (id := 0) (by kernel_rfl) ?_
                       exact ⟨[(5, Value.int .u8 1)], Sub.mk (by kernel_rfl), 1, rfl, h⟩
       · rintro _ w3 ⟨rfl, h⟩
         unfold F_feed_Feed_Can_k1 at h
         refine Zs c29_70 c29_74 ?_
         refine Zp c29_73 P1 [(4, .int .u8 0)] ?_
         refine wpE_ret (by kernel_rfl) ?_
         repeat (first | refine seqQ_ret ?_ | refine blockQ_ret ?_ | refine loopQ_ret ?_ | refine cutQ_ret ?_)
         exact retS (rs := [(ResultVar.tmp 4)]) (v := Value.int .u8 0) (by kernel_rfl) (⟨by kernel_rfl, trivial⟩) ⟨0, rfl, h⟩
     · rintro _ w2 ⟨k_, rfl, h⟩
       unfold F_feed_Feed_Can_k0 at h
       refine Zp c29_82 P2 [(4, .int .u8 k_)] ?_
       refine wpE_ret (by kernel_rfl) ?_
       repeat (first | refine seqQ_ret ?_ | refine blockQ_ret ?_ | refine loopQ_ret ?_ | refine cutQ_ret ?_)
       exact retS (rs := [(ResultVar.tmp 4)]) (v := Value.int .u8 k_) (by kernel_rfl) (⟨by kernel_rfl, trivial⟩) ⟨k_, rfl, h⟩
 · rintro e w' ⟨v, rfl, r0, rfl, h⟩; exact ⟨r0, rfl, h⟩

/-! ### (*towpath/feed.Feed).there (function 30) -/
def c30_0 := cb_ Tryz.f30
def c30_3 := cr_ c30_0
def c30_4 := cl_ c30_3
def r30_4 := co_ c30_4
def c30_6 := cr_ c30_3

theorem S_feed_Feed_there {f : Option Addr} {w : World} {R : Bool → World → Prop} (h : F_feed_Feed_there f R w) : C_feed_Feed_there f w R := by
 unfold F_feed_Feed_there at h
 unfold C_feed_Feed_there
 refine Calls.mono (calls_of_wpE (args := [Value.pointer f]) (R := fun v w' => ∃ (r0 : Bool), v = Value.bool r0 ∧ R r0 w') Tryz.func30 (c := c30_0) (by kernel_rfl) 12 (by kernel_rfl) (by kernel_rfl) [(0, Value.pointer f)] (by kernel_rfl) ?_) ?_
 · refine Zp c30_3 P1 [(0, .pointer f)] ?_
   refine Zt r30_4 c30_6 ?_
   refine Zn P1 1 [(0, [], .pointer f), (3, [], .pointer f)] ?_
   refine reg_val (op := (Op.binOp BinOp.neq 40 (Operand.tmp 3) (Operand.const (Value.pointer none)) 40)) (ty := 4) (dst := some 4) (Value.bool (!f.isNone)) (by kernel_rfl) (fun ww => run_ptr_neq_R (p := f) (by kernel_rfl) (by kernel_rfl) (by kernel_rfl) ww) ?_
   refine Zn P2 4 [(5, [], .bool (!f.isNone)), (6, [(5, true)], .pointer f)] ?_
   refine reg_split 5 (!f.isNone) (by kernel_rfl) (fun hb => ?_) (fun hb => ?_)
   · replace h := h.1 hb
     refine Zn [] 4 [(5, [], .bool true), (6, [], .pointer f)] ?_
     refine Zn [] 4 [(5, [], .bool true), (6, [], .pointer f)] ?_
     obtain ⟨hp_0, h⟩ := h
     refine Zv (fun pp => [(5, [], .bool true), (6, [], .pointer pp)]) hp_0 ?_
     refine Zn [.sure] 5 [(5, [], .bool true), (6, [], .pointer (some ⟨(pblk f), (poff f), none⟩)), (7, [], .pointer (some ⟨(pblk f), (poff f), none⟩))] ?_
     refine Zn [.sure] 6 [(5, [], .bool true), (8, [], .pointer (some ⟨(pblk f), (poff f), none⟩))] ?_
     obtain ⟨v9, hc, h⟩ := h
     refine Zl 36 8 (pblk f) (poff f) 36 9 hc ?_
     refine Zn [] 7 [(5, [], .bool true), (9, [], .pointer v9)] ?_
     refine reg_val (op := (Op.binOp BinOp.neq 36 (Operand.tmp 9) (Operand.const (Value.pointer none)) 36)) (ty := 4) (dst := some 10) (Value.bool (!v9.isNone)) (by kernel_rfl) (fun ww => run_ptr_neq_R (p := v9) (by kernel_rfl) (by kernel_rfl) (by kernel_rfl) ww) ?_
     refine Zf P2 [(2, .bool (!v9.isNone))] ?_
     change WpE _ _ c30_6 _ _ _
     refine wpE_ret (by kernel_rfl) ?_
     repeat (first | refine seqQ_ret ?_ | refine blockQ_ret ?_ | refine loopQ_ret ?_ | refine cutQ_ret ?_)
     exact retS (rs := [(ResultVar.tmp 2)]) (v := Value.bool (!v9.isNone)) (by kernel_rfl) (⟨by kernel_rfl, trivial⟩) ⟨(!v9.isNone), rfl, h⟩
   · replace h := h.2 hb
     refine Zn [] 4 [(5, [], .bool false), (6, [], undef)] ?_
     refine Zf [.skip, .skip, .skip, .skip, .plain, .plain] [(2, .bool false)] ?_
     change WpE _ _ c30_6 _ _ _
     refine wpE_ret (by kernel_rfl) ?_
     repeat (first | refine seqQ_ret ?_ | refine blockQ_ret ?_ | refine loopQ_ret ?_ | refine cutQ_ret ?_)
     exact retS (rs := [(ResultVar.tmp 2)]) (v := Value.bool false) (by kernel_rfl) (⟨by kernel_rfl, trivial⟩) ⟨false, rfl, h⟩
 · rintro e w' ⟨v, rfl, r0, rfl, h⟩; exact ⟨r0, rfl, h⟩
end
end Go.Proofs.YtpedclhflmhakaaGreatDoor
