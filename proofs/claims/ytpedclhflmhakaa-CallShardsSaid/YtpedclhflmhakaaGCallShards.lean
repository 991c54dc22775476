/- WRITTEN BY PROGRAM (dec.py): for each Go function the clean formula F, the call's contract C, and the proof S that F gives C. -/
import Derived.Test.YtpedclhflmhakaaRows
import Derived.Test.YtpedclhflmhakaaGF
namespace Go.Proofs.Ytpedclhflmhakaa
open Go
set_option linter.unusedVariables false
set_option maxRecDepth 100000
set_option maxHeartbeats 4000000
noncomputable section

/-! ### towpath/towpathlaw17.CallShards (function 8) -/
def c8_0 := cb_ Try.f8
def c8_1 := cl_ c8_0
def r8_1 := co_ c8_1
def c8_3 := cr_ c8_0
def c8_4 := cl_ c8_3
def r8_4 := co_ c8_4
def c8_6 := cr_ c8_3
def c8_7 := cl_ c8_6
def c8_8 := cl_ c8_7
def r8_8 := co_ c8_8
def c8_10 := cr_ c8_7
def c8_11 := cl_ c8_10
def c8_12 := cl_ c8_11
def r8_12 := co_ c8_12
def c8_14 := cr_ c8_11
def c8_15 := cr_ c8_10
def c8_16 := cr_ c8_6
def c8_19 := cr_ c8_16
def c8_20 := cl_ c8_19
def c8_23 := cr_ c8_20
def c8_24 := cl_ c8_23
def c8_25 := cl_ c8_24
def c8_26 := cl_ c8_25
def c8_29 := cr_ c8_26
def c8_30 := cl_ c8_29
def c8_31 := cr_ c8_29
def c8_32 := cr_ c8_25
def c8_33 := cl_ c8_32
def c8_34 := cl_ c8_33
def c8_35 := cl_ c8_34
def r8_35 := co_ c8_35
def c8_37 := cr_ c8_34
def c8_38 := cl_ c8_37
def r8_38 := co_ c8_38
def c8_40 := cr_ c8_37
def c8_41 := cl_ c8_40
def c8_42 := cl_ c8_41
def r8_42 := co_ c8_42
def c8_44 := cr_ c8_41
def c8_45 := cl_ c8_44
def c8_48 := cr_ c8_45
def c8_49 := cr_ c8_44
def c8_50 := cr_ c8_40
def c8_51 := cl_ c8_50
def c8_54 := cr_ c8_51
def c8_55 := cl_ c8_54
def c8_56 := cr_ c8_54
def c8_57 := cr_ c8_50
def c8_58 := cl_ c8_57
def c8_59 := cl_ c8_58
def r8_59 := co_ c8_59
def c8_61 := cr_ c8_58
def c8_62 := cl_ c8_61
def c8_65 := cr_ c8_62
def c8_66 := cr_ c8_61
def c8_67 := cr_ c8_57
def c8_70 := cr_ c8_67
def c8_71 := cl_ c8_70
def r8_71 := co_ c8_71
def c8_73 := cr_ c8_70
def c8_74 := cl_ c8_73
def c8_77 := cr_ c8_74
def c8_78 := cr_ c8_73
def c8_79 := cr_ c8_32
def r8_79 := co_ c8_79
def c8_81 := cr_ c8_19
def c8_82 := cl_ c8_81
def c8_83 := cl_ c8_82
def r8_83 := co_ c8_83
def c8_85 := cr_ c8_82
def c8_86 := cl_ c8_85
def c8_87 := cl_ c8_86
def r8_87 := co_ c8_87
def c8_89 := cr_ c8_86
def c8_90 := cr_ c8_85
def c8_91 := cr_ c8_81
def c8_92 := cl_ c8_91
def r8_92 := co_ c8_92
def c8_94 := cr_ c8_91

theorem S_towpathlaw17_CallShards {m_ : T_towpathlaw17_Made} {mark : Int} {w : World} {R : Bool → World → Prop} (h : F_towpathlaw17_CallShards m_ mark R w) : C_towpathlaw17_CallShards m_ mark w R := by
 unfold F_towpathlaw17_CallShards at h
 unfold C_towpathlaw17_CallShards
 refine Calls.mono (calls_of_wpE (args := [Value.agg #[Value.int .i64 m_.Number, Value.int .i64 m_.Config.Lanes, Value.int .i64 m_.Config.Shards, Value.int .i64 m_.Config.Window, Value.int .i64 m_.Config.Queue, Value.int .u8 m_.Call.Kind, Value.string m_.Call.Key, Value.string m_.Call.End], Value.int .i64 mark]) (R := fun v w' => ∃ (r0 : Bool), v = Value.bool r0 ∧ R r0 w') Try.func8 (c := c8_0) (by kernel_rfl) 126 (by kernel_rfl) (by kernel_rfl) [(0, Value.agg #[Value.int .i64 m_.Number, Value.int .i64 m_.Config.Lanes, Value.int .i64 m_.Config.Shards, Value.int .i64 m_.Config.Window, Value.int .i64 m_.Config.Queue, Value.int .u8 m_.Call.Kind, Value.string m_.Call.Key, Value.string m_.Call.End]), (1, Value.int .i64 mark)] (by kernel_rfl) ?_) ?_
 · refine Zt r8_1 c8_3 ?_
   refine Zn [] 0 [(0, [], .agg #[.int .i64 m_.Number, .int .i64 m_.Config.Lanes, .int .i64 m_.Config.Shards, .int .i64 m_.Config.Window, .int .i64 m_.Config.Queue, .int .u8 m_.Call.Kind, .string m_.Call.Key, .string m_.Call.End]), (1, [], .int .i64 mark)] ?_
   refine Zw (some 2) (fun bb => pv_ bb) (Obj.cells ([.int .i64 m_.Number, .int .i64 m_.Config.Lanes, .int .i64 m_.Config.Shards, .int .i64 m_.Config.Window, .int .i64 m_.Config.Queue, .int .u8 m_.Call.Kind, .string m_.Call.Key, .string m_.Call.End]).toArray ty_towpathlaw17_Made (0, 0)) (fun b_ w1 hb hw => ?_)
   replace h := h b_ w1 hb hw
   clear hb hw
   refine Zf P1 [(1, .int .i64 mark), (2, pv_ b_)] ?_
   change WpE _ _ c8_3 _ _ _
   refine Zt r8_4 c8_6 ?_
   refine Zn P1 1 [(1, [], .int .i64 mark), (2, [], pv_ b_), (16, [], pv_ b_)] ?_
   obtain ⟨v17, hc, h⟩ := h
   refine Zl 3 16 b_ 0 3 17 hc ?_
   refine Zn P1 3 [(1, [], .int .i64 mark), (2, [], pv_ b_), (17, [], .int .i64 v17), (18, [], .pointer (some ⟨b_, 1, none⟩))] ?_
   obtain ⟨v19, hc, h⟩ := h
   refine reg_loadN (t := 69) (a := (Operand.tmp 18)) (b := b_) (o := 1) (ty := 69) (dst := some 19) [Value.int .i64 v19.Lanes, Value.int .i64 v19.Shards, Value.int .i64 v19.Window, Value.int .i64 v19.Queue] (by kernel_rfl) (by kernel_rfl) (by kernel_rfl) (k := 4) (by kernel_rfl) (by kernel_rfl) hc ?_
   refine Zn P1 5 [(1, [], .int .i64 mark), (2, [], pv_ b_), (17, [], .int .i64 v17), (19, [], .agg #[.int .i64 v19.Lanes, .int .i64 v19.Shards, .int .i64 v19.Window, .int .i64 v19.Queue]), (20, [], .pointer (some ⟨b_, 5, none⟩))] ?_
   obtain ⟨v21, hc, h⟩ := h
   refine reg_loadN (t := 65) (a := (Operand.tmp 20)) (b := b_) (o := 5) (ty := 65) (dst := some 21) [Value.int .u8 v21.Kind, Value.string v21.Key, Value.string v21.End] (by kernel_rfl) (by kernel_rfl) (by kernel_rfl) (k := 3) (by kernel_rfl) (by kernel_rfl) hc ?_
   refine Zn [] 6 [(1, [], .int .i64 mark), (2, [], pv_ b_), (17, [], .int .i64 v17), (19, [], .agg #[.int .i64 v19.Lanes, .int .i64 v19.Shards, .int .i64 v19.Window, .int .i64 v19.Queue]), (21, [], .agg #[.int .u8 v21.Kind, .string v21.Key, .string v21.End])] ?_
   refine Zm 31 #[.int .i64 v17, .agg #[.int .i64 v19.Lanes, .int .i64 v19.Shards, .int .i64 v19.Window, .int .i64 v19.Queue], .agg #[.int .u8 v21.Kind, .string v21.Key, .string v21.End]] (some 22) (Calls.mono h ?_)
   rintro _ w2 ⟨t_, e, rfl, h⟩
   refine ⟨_, rfl, ?_⟩
   refine Zf (Pl 5) [(1, .int .i64 mark), (2, pv_ b_), (5, .pointer t_), (6, .int .i64 e)] ?_
   change WpE _ _ c8_6 _ _ _
   refine Zs c8_7 c8_16 ?_
   refine wpE_seq_cut (x := c8_8) (y := c8_10) (by kernel_rfl) (fun l w => ∃ (t33 : Bool), l = [(1, Value.int .i64 mark), (2, pv_ b_), (5, Value.pointer t_), (33, Value.bool t33)] ∧ F_towpathlaw17_CallShards_k0 mark R b_ t_ t33 w) ?_ ?_
   · refine Zr r8_8 ?_
     refine Zn (Pl 6) 6 [(1, [], .int .i64 mark), (2, [], pv_ b_), (5, [], .pointer t_), (27, [], .bool (e != 0)), (28, [(27, false)], .pointer t_), (29, [(27, false)], .int .i64 mark), (30, [(27, false)], .int .i64 mark)] ?_
     refine reg_split 27 (e != 0) (by kernel_rfl) (fun hb => ?_) (fun hb => ?_)
     · replace h := h.1 hb
       refine Zn [] 6 [(1, [], .int .i64 mark), (2, [], pv_ b_), (5, [], .pointer t_), (27, [], .bool true), (28, [], undef), (29, [], undef), (30, [], undef)] ?_
       refine Zf [.skip, .skip, .plain] [(1, .int .i64 mark), (2, pv_ b_), (5, .pointer t_), (33, .bool true)] ?_
       exact ⟨[(1, Value.int .i64 mark), (2, pv_ b_), (5, Value.pointer t_), (33, Value.bool true)], Sub.mk (by kernel_rfl), true, rfl, h⟩
     · replace h := h.2 hb
       refine Zn [] 6 [(1, [], .int .i64 mark), (2, [], pv_ b_), (5, [], .pointer t_), (27, [], .bool false), (28, [], .pointer t_), (29, [], .int .i64 mark), (30, [], .int .i64 mark)] ?_
       refine Zn [] 6 [(1, [], .int .i64 mark), (2, [], pv_ b_), (5, [], .pointer t_), (27, [], .bool false), (28, [], .pointer t_), (29, [], .int .i64 mark), (30, [], .int .i64 mark)] ?_
       refine Zm 32 #[.pointer t_, .int .i64 mark, .int .i64 mark, .slice none 0 0] (some 31) (Calls.mono h ?_)
       rintro _ w21 ⟨v31, rfl, h⟩
       refine ⟨_, rfl, ?_⟩
       refine Zf [.sure, .plain] [(1, .int .i64 mark), (2, pv_ b_), (5, .pointer t_), (33, .bool (v31 != 0))] ?_
       exact ⟨[(1, Value.int .i64 mark), (2, pv_ b_), (5, Value.pointer t_), (33, Value.bool (v31 != 0))], Sub.mk (by kernel_rfl), (v31 != 0), rfl, h⟩
   · rintro _ w3 ⟨t33, rfl, h⟩
     unfold F_towpathlaw17_CallShards_k0 at h
     refine Zc 33 t33 c8_11 c8_15 (fun hb => ?_) (fun hb => ?_)
     · replace h := h.1 hb
       refine Zt r8_12 c8_14 ?_
       refine Zn [] 0 [] ?_
       refine Zm 30 #[] (some 34) (Calls.mono h ?_)
       rintro _ w4 ⟨v34, rfl, h⟩
       refine ⟨_, rfl, ?_⟩
       refine Zf P1 [(4, .bool v34)] ?_
       change WpE _ _ c8_14 _ _ _
       refine wpE_ret (by kernel_rfl) ?_
       repeat (first | refine seqQ_ret ?_ | refine blockQ_ret ?_ | refine loopQ_ret ?_ | refine cutQ_ret ?_)
       exact retS (rs := [(ResultVar.tmp 4)]) (v := Value.bool v34) (by kernel_rfl) (⟨by kernel_rfl, trivial⟩) ⟨v34, rfl, h⟩
     · replace h := h.2 hb
       refine wpE_skip (by kernel_rfl) ?_
       change WpE _ _ c8_16 _ _ _
       refine Zp c8_19 P1 [(1, .int .i64 mark), (2, pv_ b_), (5, .pointer t_), (7, .int .i64 0)] ?_
       refine wpE_seq_cut (x := c8_20) (y := c8_81) (by kernel_rfl) (fun l w => ∃ (n_ : Int), l = [(2, pv_ b_), (7, Value.int .i64 n_)] ∧ F_towpathlaw17_CallShards_k1 R b_ n_ w) ?_ ?_
       · refine Zp c8_23 P1 [(1, .int .i64 mark), (2, pv_ b_), (5, .pointer t_), (7, .int .i64 0), (8, .int .i64 0)] ?_
         refine Zb 0 c8_24 ?_
         obtain ⟨I, μ, h0, hr⟩ := h
         refine wpE_loop (x := c8_25) (by kernel_rfl) (fun m l w => ∃ (n_1 : Int) (i : Int), l = [(1, Value.int .i64 mark), (2, pv_ b_), (5, Value.pointer t_), (7, Value.int .i64 n_1), (8, Value.int .i64 i)] ∧ I n_1 i w ∧ μ n_1 i w = m) (l' := [(1, Value.int .i64 mark), (2, pv_ b_), (5, Value.pointer t_), (7, Value.int .i64 0), (8, Value.int .i64 0)]) (Sub.mk (by kernel_rfl)) ⟨0, 0, rfl, h0, rfl⟩ ?_
         rintro _ _ w8 ⟨n_1, i, rfl, hI, rfl⟩
         obtain ⟨again_, again__h, h⟩ : ∃ again_ : Int → Int → World → Prop, (∀ n_1' i' w', again_ n_1' i' w' → I n_1' i' w' ∧ μ n_1' i' w' < μ n_1 i w8) ∧ F_towpathlaw17_CallShards_L2 mark R b_ t_ again_ n_1 i w8 := ⟨_, fun _ _ _ h => h, hr n_1 i w8 hI⟩
         clear h0 hI
         unfold F_towpathlaw17_CallShards_L2 at h
         refine Zs c8_26 c8_32 ?_
         refine Zp c8_29 P2 [(1, .int .i64 mark), (2, pv_ b_), (5, .pointer t_), (7, .int .i64 n_1), (8, .int .i64 i), (36, .bool (decide (i ≤ 16)))] ?_
         refine Zc 36 (decide (i ≤ 16)) c8_30 c8_31 (fun hb => ?_) (fun hb => ?_)
         · replace h := h.1 hb
           refine wpE_skip (by kernel_rfl) ?_
           change WpE _ _ c8_32 _ _ _
           refine Zs c8_33 c8_79 ?_
           refine Zb 1 c8_34 ?_
           refine Zt r8_35 c8_37 ?_
           refine Zn P1 1 [(1, [], .int .i64 mark), (2, [], pv_ b_), (5, [], .pointer t_), (7, [], .int .i64 n_1), (8, [], .int .i64 i), (40, [], .pointer t_)] ?_
           refine Zm 33 #[.pointer t_] (some 41) (Calls.mono h ?_)
           rintro _ w9 ⟨k_, v41_1, ok, rfl, h⟩
           refine ⟨_, rfl, ?_⟩
           refine Zn P4 6 [(1, [], .int .i64 mark), (2, [], pv_ b_), (5, [], .pointer t_), (7, [], .int .i64 n_1), (8, [], .int .i64 i), (42, [], .int .i64 k_), (43, [], .agg #[.int .u8 v41_1.Kind, .int .i64 v41_1.From, .int .i64 v41_1.Number, .string v41_1.Write.Key, .string v41_1.Write.Val, .bool v41_1.Write.Drop, .string v41_1.Key, .string v41_1.End, sv_ v41_1.Beyond]), (44, [], .bool ok)] ?_
           refine Zw (some 10) (fun bb => pv_ bb) (Obj.cells ([.int .u8 0, .int .i64 0, .int .i64 0, .string ByteArray.empty, .string ByteArray.empty, .bool false, .string ByteArray.empty, .string ByteArray.empty, .slice none 0 0]).toArray ty_api_Req (0, 0)) (fun b_1 w10 hb hw => ?_)
           replace h := h b_1 w10 hb hw
           clear hb hw
           refine Zn P1 8 [(1, [], .int .i64 mark), (2, [], pv_ b_), (5, [], .pointer t_), (7, [], .int .i64 n_1), (8, [], .int .i64 i), (9, [], .int .i64 k_), (10, [], pv_ b_1), (43, [], .agg #[.int .u8 v41_1.Kind, .int .i64 v41_1.From, .int .i64 v41_1.Number, .string v41_1.Write.Key, .string v41_1.Write.Val, .bool v41_1.Write.Drop, .string v41_1.Key, .string v41_1.End, sv_ v41_1.Beyond]), (44, [], .bool ok)] ?_
           obtain ⟨hc, h⟩ := h
           refine Zo 80 10 43 b_1 0 9 [.int .u8 v41_1.Kind, .int .i64 v41_1.From, .int .i64 v41_1.Number, .string v41_1.Write.Key, .string v41_1.Write.Val, .bool v41_1.Write.Drop, .string v41_1.Key, .string v41_1.End, sv_ v41_1.Beyond] hc (fun w11 hw => ?_)
           replace h := h w11 hw
           clear hw
           refine Zf P1 [(1, .int .i64 mark), (2, pv_ b_), (5, .pointer t_), (7, .int .i64 n_1), (8, .int .i64 i), (9, .int .i64 k_), (10, pv_ b_1), (11, .bool ok)] ?_
           change WpE _ _ c8_37 _ _ _
           refine Zt r8_38 c8_40 ?_
           refine Zn P1 1 [(1, [], .int .i64 mark), (2, [], pv_ b_), (5, [], .pointer t_), (7, [], .int .i64 n_1), (8, [], .int .i64 i), (9, [], .int .i64 k_), (10, [], pv_ b_1), (11, [], .bool ok), (46, [], .pointer t_)] ?_
           refine Zm 33 #[.pointer t_] (some 47) (Calls.mono h ?_)
           rintro _ w12 ⟨j, v47_1, is, rfl, h⟩
           refine ⟨_, rfl, ?_⟩
           refine Zn P4 6 [(1, [], .int .i64 mark), (2, [], pv_ b_), (5, [], .pointer t_), (7, [], .int .i64 n_1), (8, [], .int .i64 i), (9, [], .int .i64 k_), (10, [], pv_ b_1), (11, [], .bool ok), (48, [], .int .i64 j), (49, [], .agg #[.int .u8 v47_1.Kind, .int .i64 v47_1.From, .int .i64 v47_1.Number, .string v47_1.Write.Key, .string v47_1.Write.Val, .bool v47_1.Write.Drop, .string v47_1.Key, .string v47_1.End, sv_ v47_1.Beyond]), (50, [], .bool is)] ?_
           refine Zw (some 13) (fun bb => pv_ bb) (Obj.cells ([.int .u8 0, .int .i64 0, .int .i64 0, .string ByteArray.empty, .string ByteArray.empty, .bool false, .string ByteArray.empty, .string ByteArray.empty, .slice none 0 0]).toArray ty_api_Req (0, 0)) (fun b_2 w13 hb hw => ?_)
           replace h := h b_2 w13 hb hw
           clear hb hw
           refine Zn P1 8 [(1, [], .int .i64 mark), (2, [], pv_ b_), (5, [], .pointer t_), (7, [], .int .i64 n_1), (8, [], .int .i64 i), (9, [], .int .i64 k_), (10, [], pv_ b_1), (11, [], .bool ok), (12, [], .int .i64 j), (13, [], pv_ b_2), (49, [], .agg #[.int .u8 v47_1.Kind, .int .i64 v47_1.From, .int .i64 v47_1.Number, .string v47_1.Write.Key, .string v47_1.Write.Val, .bool v47_1.Write.Drop, .string v47_1.Key, .string v47_1.End, sv_ v47_1.Beyond]), (50, [], .bool is)] ?_
           obtain ⟨hc, h⟩ := h
           refine Zo 80 13 49 b_2 0 9 [.int .u8 v47_1.Kind, .int .i64 v47_1.From, .int .i64 v47_1.Number, .string v47_1.Write.Key, .string v47_1.Write.Val, .bool v47_1.Write.Drop, .string v47_1.Key, .string v47_1.End, sv_ v47_1.Beyond] hc (fun w14 hw => ?_)
           replace h := h w14 hw
           clear hw
           refine Zf P1 [(1, .int .i64 mark), (2, pv_ b_), (5, .pointer t_), (7, .int .i64 n_1), (8, .int .i64 i), (9, .int .i64 k_), (10, pv_ b_1), (11, .bool ok), (12, .int .i64 j), (13, pv_ b_2), (14, .bool is)] ?_
           change WpE _ _ c8_40 _ _ _
           refine Zs c8_41 c8_50 ?_
           refine wpE_seq_cut (x := c8_42) (y := c8_44) (by kernel_rfl) (fun l w => ∃ (t64 : Bool), l = [(1, Value.int .i64 mark), (2, pv_ b_), (5, Value.pointer t_), (7, Value.int .i64 n_1), (8, Value.int .i64 i), (9, Value.int .i64 k_), (10, pv_ b_1), (11, Value.bool ok), (64, Value.bool t64)] ∧ F_towpathlaw17_CallShards_k3 mark R b_ t_ n_1 i again_ k_ ok b_1 t64 w) ?_ ?_
           · refine Zr r8_42 ?_
             refine Zn [.plain, .plain, .plain, .plain, .plain, .plain, .plain, .pick, .plain] 9 [(1, [], .int .i64 mark), (2, [], pv_ b_), (5, [], .pointer t_), (7, [], .int .i64 n_1), (8, [], .int .i64 i), (9, [], .int .i64 k_), (10, [], pv_ b_1), (11, [], .bool ok), (13, [], pv_ b_2), (59, [], .bool ((k_ != j) || (!(ok == is))))] ?_
             refine reg_split 59 ((k_ != j) || (!(ok == is))) (by kernel_rfl) (fun hb => ?_) (fun hb => ?_)
             · replace h := h.1 hb
               refine Zn [] 9 [(1, [], .int .i64 mark), (2, [], pv_ b_), (5, [], .pointer t_), (7, [], .int .i64 n_1), (8, [], .int .i64 i), (9, [], .int .i64 k_), (10, [], pv_ b_1), (11, [], .bool ok), (13, [], pv_ b_2), (59, [], .bool true)] ?_
               refine Zf [.skip, .skip, .skip, .skip, .plain] [(1, .int .i64 mark), (2, pv_ b_), (5, .pointer t_), (7, .int .i64 n_1), (8, .int .i64 i), (9, .int .i64 k_), (10, pv_ b_1), (11, .bool ok), (64, .bool true)] ?_
               exact ⟨[(1, Value.int .i64 mark), (2, pv_ b_), (5, Value.pointer t_), (7, Value.int .i64 n_1), (8, Value.int .i64 i), (9, Value.int .i64 k_), (10, pv_ b_1), (11, Value.bool ok), (64, Value.bool true)], Sub.mk (by kernel_rfl), true, rfl, h⟩
             · replace h := h.2 hb
               refine Zn [] 9 [(1, [], .int .i64 mark), (2, [], pv_ b_), (5, [], .pointer t_), (7, [], .int .i64 n_1), (8, [], .int .i64 i), (9, [], .int .i64 k_), (10, [], pv_ b_1), (11, [], .bool ok), (13, [], pv_ b_2), (59, [], .bool false)] ?_
               refine Zn [] 9 [(1, [], .int .i64 mark), (2, [], pv_ b_), (5, [], .pointer t_), (7, [], .int .i64 n_1), (8, [], .int .i64 i), (9, [], .int .i64 k_), (10, [], pv_ b_1), (11, [], .bool ok), (13, [], pv_ b_2), (59, [], .bool false)] ?_
               obtain ⟨v60, hc, h⟩ := h
               refine reg_loadN (t := 80) (a := (Operand.tmp 10)) (b := b_1) (o := 0) (ty := 80) (dst := some 60) [Value.int .u8 v60.Kind, Value.int .i64 v60.From, Value.int .i64 v60.Number, Value.string v60.Write.Key, Value.string v60.Write.Val, Value.bool v60.Write.Drop, Value.string v60.Key, Value.string v60.End, sv_ v60.Beyond] (by kernel_rfl) (by kernel_rfl) (by kernel_rfl) (k := 9) (by kernel_rfl) (by kernel_rfl) hc ?_
               refine Zn [] 10 [(1, [], .int .i64 mark), (2, [], pv_ b_), (5, [], .pointer t_), (7, [], .int .i64 n_1), (8, [], .int .i64 i), (9, [], .int .i64 k_), (10, [], pv_ b_1), (11, [], .bool ok), (13, [], pv_ b_2), (59, [], .bool false), (60, [], .agg #[.int .u8 v60.Kind, .int .i64 v60.From, .int .i64 v60.Number, .string v60.Write.Key, .string v60.Write.Val, .bool v60.Write.Drop, .string v60.Key, .string v60.End, sv_ v60.Beyond])] ?_
               obtain ⟨v61, hc, h⟩ := h
               refine reg_loadN (t := 80) (a := (Operand.tmp 13)) (b := b_2) (o := 0) (ty := 80) (dst := some 61) [Value.int .u8 v61.Kind, Value.int .i64 v61.From, Value.int .i64 v61.Number, Value.string v61.Write.Key, Value.string v61.Write.Val, Value.bool v61.Write.Drop, Value.string v61.Key, Value.string v61.End, sv_ v61.Beyond] (by kernel_rfl) (by kernel_rfl) (by kernel_rfl) (k := 9) (by kernel_rfl) (by kernel_rfl) hc ?_
               refine Zn [] 11 [(1, [], .int .i64 mark), (2, [], pv_ b_), (5, [], .pointer t_), (7, [], .int .i64 n_1), (8, [], .int .i64 i), (9, [], .int .i64 k_), (10, [], pv_ b_1), (11, [], .bool ok), (59, [], .bool false), (60, [], .agg #[.int .u8 v60.Kind, .int .i64 v60.From, .int .i64 v60.Number, .string v60.Write.Key, .string v60.Write.Val, .bool v60.Write.Drop, .string v60.Key, .string v60.End, sv_ v60.Beyond]), (61, [], .agg #[.int .u8 v61.Kind, .int .i64 v61.From, .int .i64 v61.Number, .string v61.Write.Key, .string v61.Write.Val, .bool v61.Write.Drop, .string v61.Key, .string v61.End, sv_ v61.Beyond])] ?_
               refine Zm 34 #[.agg #[.int .u8 v60.Kind, .int .i64 v60.From, .int .i64 v60.Number, .string v60.Write.Key, .string v60.Write.Val, .bool v60.Write.Drop, .string v60.Key, .string v60.End, sv_ v60.Beyond], .agg #[.int .u8 v61.Kind, .int .i64 v61.From, .int .i64 v61.Number, .string v61.Write.Key, .string v61.Write.Val, .bool v61.Write.Drop, .string v61.Key, .string v61.End, sv_ v61.Beyond]] (some 62) (Calls.mono h ?_)
               rintro _ w20 ⟨v62, rfl, h⟩
               refine ⟨_, rfl, ?_⟩
               refine Zf [.sure, .plain] [(1, .int .i64 mark), (2, pv_ b_), (5, .pointer t_), (7, .int .i64 n_1), (8, .int .i64 i), (9, .int .i64 k_), (10, pv_ b_1), (11, .bool ok), (64, .bool (!v62))] ?_
               exact ⟨[(1, Value.int .i64 mark), (2, pv_ b_), (5, Value.pointer t_), (7, Value.int .i64 n_1), (8, Value.int .i64 i), (9, Value.int .i64 k_), (10, pv_ b_1), (11, Value.bool ok), (64, Value.bool (!v62))], Sub.mk (by kernel_rfl), (!v62), rfl, h⟩
           · rintro _ w15 ⟨t64, rfl, h⟩
             unfold F_towpathlaw17_CallShards_k3 at h
             refine Zc 64 t64 c8_45 c8_49 (fun hb => ?_) (fun hb => ?_)
             · replace h := h.1 hb
               refine Zp c8_48 P1 [(4, .bool false)] ?_
               refine wpE_ret (by kernel_rfl) ?_
               repeat (first | refine seqQ_ret ?_ | refine blockQ_ret ?_ | refine loopQ_ret ?_ | refine cutQ_ret ?_)
               exact retS (rs := [(ResultVar.tmp 4)]) (v := Value.bool false) (by kernel_rfl) (⟨by kernel_rfl, trivial⟩) ⟨false, rfl, h⟩
             · replace h := h.2 hb
               refine wpE_skip (by kernel_rfl) ?_
               change WpE _ _ c8_50 _ _ _
               refine Zs c8_51 c8_57 ?_
               refine Zp c8_54 P2 [(1, .int .i64 mark), (2, pv_ b_), (5, .pointer t_), (7, .int .i64 n_1), (8, .int .i64 i), (9, .int .i64 k_), (10, pv_ b_1), (66, .bool (!ok))] ?_
               refine Zc 66 (!ok) c8_55 c8_56 (fun hb => ?_) (fun hb => ?_)
               · replace h := h.1 hb
                 refine wpE_exit (id := 0) (by kernel_rfl) ?_
                 exact ⟨[(2, pv_ b_), (7, Value.int .i64 n_1)], Sub.mk (by kernel_rfl), n_1, rfl, h⟩
               · replace h := h.2 hb
                 refine wpE_skip (by kernel_rfl) ?_
                 change WpE _ _ c8_57 _ _ _
                 refine Zs c8_58 c8_67 ?_
                 refine wpE_seq_cut (x := c8_59) (y := c8_61) (by kernel_rfl) (fun l w => ∃ (t99 : Bool), l = [(1, Value.int .i64 mark), (2, pv_ b_), (5, Value.pointer t_), (7, Value.int .i64 n_1), (8, Value.int .i64 i), (99, Value.bool t99)] ∧ F_towpathlaw17_CallShards_k4 R t_ n_1 i again_ t99 w) ?_ ?_
                 · refine Zr r8_59 ?_
                   refine Zn (Pl 6) 6 [(1, [], .int .i64 mark), (2, [], pv_ b_), (5, [], .pointer t_), (7, [], .int .i64 n_1), (8, [], .int .i64 i), (9, [], .int .i64 k_), (10, [], pv_ b_1), (69, [], .bool (decide (k_ < 0))), (70, [(69, false)], .int .i64 k_), (72, [(69, false)], .pointer (some ⟨b_, 2, none⟩))] ?_
                   refine reg_split 69 (decide (k_ < 0)) (by kernel_rfl) (fun hb => ?_) (fun hb => ?_)
                   · replace h := h.1 hb
                     refine Zn [] 6 [(1, [], .int .i64 mark), (2, [], pv_ b_), (5, [], .pointer t_), (7, [], .int .i64 n_1), (8, [], .int .i64 i), (9, [], .int .i64 k_), (10, [], pv_ b_1), (69, [], .bool true), (70, [], undef), (72, [], undef)] ?_
                     refine Zf [.skip, .skip, .plain, .plain, .skip, .skip, .skip, .skip, .skip, .skip, .skip, .skip, .skip, .plain, .plain, .skip, .skip, .skip, .skip, .skip, .plain, .plain, .skip, .skip, .skip, .skip, .plain] [(1, .int .i64 mark), (2, pv_ b_), (5, .pointer t_), (7, .int .i64 n_1), (8, .int .i64 i), (99, .bool true)] ?_
                     exact ⟨[(1, Value.int .i64 mark), (2, pv_ b_), (5, Value.pointer t_), (7, Value.int .i64 n_1), (8, Value.int .i64 i), (99, Value.bool true)], Sub.mk (by kernel_rfl), true, rfl, h⟩
                   · replace h := h.2 hb
                     refine Zn [] 6 [(1, [], .int .i64 mark), (2, [], pv_ b_), (5, [], .pointer t_), (7, [], .int .i64 n_1), (8, [], .int .i64 i), (9, [], .int .i64 k_), (10, [], pv_ b_1), (69, [], .bool false), (70, [], .int .i64 k_), (72, [], .pointer (some ⟨b_, 2, none⟩))] ?_
                     refine Zn [] 6 [(1, [], .int .i64 mark), (2, [], pv_ b_), (5, [], .pointer t_), (7, [], .int .i64 n_1), (8, [], .int .i64 i), (9, [], .int .i64 k_), (10, [], pv_ b_1), (69, [], .bool false), (70, [], .int .i64 k_), (72, [], .pointer (some ⟨b_, 2, none⟩))] ?_
                     obtain ⟨v73, hc, h⟩ := h
                     refine Zl 3 72 b_ 2 3 73 hc ?_
                     refine Zn [.sure, .plain, .plain, .plain, .plain] 12 [(1, [], .int .i64 mark), (2, [], pv_ b_), (5, [], .pointer t_), (7, [], .int .i64 n_1), (8, [], .int .i64 i), (9, [], .int .i64 k_), (10, [], pv_ b_1), (76, [], .bool (decide (k_ ≥ v73))), (78, [(76, false)], .pointer (some ⟨b_, 5, none⟩))] ?_
                     refine reg_split 76 (decide (k_ ≥ v73)) (by kernel_rfl) (fun hb => ?_) (fun hb => ?_)
                     · replace h := h.1 hb
                       refine Zn [] 12 [(1, [], .int .i64 mark), (2, [], pv_ b_), (5, [], .pointer t_), (7, [], .int .i64 n_1), (8, [], .int .i64 i), (9, [], .int .i64 k_), (10, [], pv_ b_1), (76, [], .bool true), (78, [], undef)] ?_
                       refine Zf [.skip, .skip, .skip, .skip, .skip, .skip, .skip, .plain, .plain, .skip, .skip, .skip, .skip, .skip, .plain, .plain, .skip, .skip, .skip, .skip, .plain] [(1, .int .i64 mark), (2, pv_ b_), (5, .pointer t_), (7, .int .i64 n_1), (8, .int .i64 i), (99, .bool true)] ?_
                       exact ⟨[(1, Value.int .i64 mark), (2, pv_ b_), (5, Value.pointer t_), (7, Value.int .i64 n_1), (8, Value.int .i64 i), (99, Value.bool true)], Sub.mk (by kernel_rfl), true, rfl, h⟩
                     · replace h := h.2 hb
                       refine Zn [] 12 [(1, [], .int .i64 mark), (2, [], pv_ b_), (5, [], .pointer t_), (7, [], .int .i64 n_1), (8, [], .int .i64 i), (9, [], .int .i64 k_), (10, [], pv_ b_1), (76, [], .bool false), (78, [], .pointer (some ⟨b_, 5, none⟩))] ?_
                       refine Zn [] 12 [(1, [], .int .i64 mark), (2, [], pv_ b_), (5, [], .pointer t_), (7, [], .int .i64 n_1), (8, [], .int .i64 i), (9, [], .int .i64 k_), (10, [], pv_ b_1), (76, [], .bool false), (78, [], .pointer (some ⟨b_, 5, none⟩))] ?_
                       obtain ⟨v79, hc, h⟩ := h
                       refine Zl 63 78 b_ 5 63 79 hc ?_
                       refine Zn [.sure, .sure, .plain, .plain, .plain, .spick, .plain, .plain, .plain] 22 [(1, [], .int .i64 mark), (2, [], pv_ b_), (5, [], .pointer t_), (7, [], .int .i64 n_1), (8, [], .int .i64 i), (10, [], pv_ b_1), (87, [], .bool ((v79 != 1) && (k_ != n_1))), (88, [(87, false)], .pointer (some ⟨b_1, 1, none⟩))] ?_
                       refine reg_split 87 ((v79 != 1) && (k_ != n_1)) (by kernel_rfl) (fun hb => ?_) (fun hb => ?_)
                       · replace h := h.1 hb
                         refine Zn [] 22 [(1, [], .int .i64 mark), (2, [], pv_ b_), (5, [], .pointer t_), (7, [], .int .i64 n_1), (8, [], .int .i64 i), (10, [], pv_ b_1), (87, [], .bool true), (88, [], undef)] ?_
                         refine Zf [.skip, .skip, .skip, .skip, .plain, .plain, .skip, .skip, .skip, .skip, .plain] [(1, .int .i64 mark), (2, pv_ b_), (5, .pointer t_), (7, .int .i64 n_1), (8, .int .i64 i), (99, .bool true)] ?_
                         exact ⟨[(1, Value.int .i64 mark), (2, pv_ b_), (5, Value.pointer t_), (7, Value.int .i64 n_1), (8, Value.int .i64 i), (99, Value.bool true)], Sub.mk (by kernel_rfl), true, rfl, h⟩
                       · replace h := h.2 hb
                         refine Zn [] 22 [(1, [], .int .i64 mark), (2, [], pv_ b_), (5, [], .pointer t_), (7, [], .int .i64 n_1), (8, [], .int .i64 i), (10, [], pv_ b_1), (87, [], .bool false), (88, [], .pointer (some ⟨b_1, 1, none⟩))] ?_
                         refine Zn [] 22 [(1, [], .int .i64 mark), (2, [], pv_ b_), (5, [], .pointer t_), (7, [], .int .i64 n_1), (8, [], .int .i64 i), (10, [], pv_ b_1), (87, [], .bool false), (88, [], .pointer (some ⟨b_1, 1, none⟩))] ?_
                         obtain ⟨v89, hc, h⟩ := h
                         refine Zl 3 88 b_1 1 3 89 hc ?_
                         refine Zn [.sure] 24 [(1, [], .int .i64 mark), (2, [], pv_ b_), (5, [], .pointer t_), (7, [], .int .i64 n_1), (8, [], .int .i64 i), (10, [], pv_ b_1), (87, [], .bool false), (89, [], .int .i64 v89), (90, [], pv_ b_)] ?_
                         obtain ⟨v91, hc, h⟩ := h
                         refine Zl 3 90 b_ 0 3 91 hc ?_
                         refine Zn [.sure, .plain, .plain, .plain] 29 [(1, [], .int .i64 mark), (2, [], pv_ b_), (5, [], .pointer t_), (7, [], .int .i64 n_1), (8, [], .int .i64 i), (94, [], .bool (v89 != v91)), (95, [(94, false)], .pointer (some ⟨b_1, 2, none⟩))] ?_
                         refine reg_split 94 (v89 != v91) (by kernel_rfl) (fun hb => ?_) (fun hb => ?_)
                         · replace h := h.1 hb
                           refine Zn [] 29 [(1, [], .int .i64 mark), (2, [], pv_ b_), (5, [], .pointer t_), (7, [], .int .i64 n_1), (8, [], .int .i64 i), (94, [], .bool true), (95, [], undef)] ?_
                           refine Zf [.skip, .skip, .skip, .plain] [(1, .int .i64 mark), (2, pv_ b_), (5, .pointer t_), (7, .int .i64 n_1), (8, .int .i64 i), (99, .bool true)] ?_
                           exact ⟨[(1, Value.int .i64 mark), (2, pv_ b_), (5, Value.pointer t_), (7, Value.int .i64 n_1), (8, Value.int .i64 i), (99, Value.bool true)], Sub.mk (by kernel_rfl), true, rfl, h⟩
                         · replace h := h.2 hb
                           refine Zn [] 29 [(1, [], .int .i64 mark), (2, [], pv_ b_), (5, [], .pointer t_), (7, [], .int .i64 n_1), (8, [], .int .i64 i), (94, [], .bool false), (95, [], .pointer (some ⟨b_1, 2, none⟩))] ?_
                           refine Zn [] 29 [(1, [], .int .i64 mark), (2, [], pv_ b_), (5, [], .pointer t_), (7, [], .int .i64 n_1), (8, [], .int .i64 i), (94, [], .bool false), (95, [], .pointer (some ⟨b_1, 2, none⟩))] ?_
                           obtain ⟨v96, hc, h⟩ := h
                           refine Zl 3 95 b_1 2 3 96 hc ?_
                           refine Zf [.sure, .sure, .plain] [(1, .int .i64 mark), (2, pv_ b_), (5, .pointer t_), (7, .int .i64 n_1), (8, .int .i64 i), (99, .bool (v96 != mark))] ?_
                           exact ⟨[(1, Value.int .i64 mark), (2, pv_ b_), (5, Value.pointer t_), (7, Value.int .i64 n_1), (8, Value.int .i64 i), (99, Value.bool (v96 != mark))], Sub.mk (by kernel_rfl), (v96 != mark), rfl, h⟩
                 · rintro _ w16 ⟨t99, rfl, h⟩
                   unfold F_towpathlaw17_CallShards_k4 at h
                   refine Zc 99 t99 c8_62 c8_66 (fun hb => ?_) (fun hb => ?_)
                   · replace h := h.1 hb
                     refine Zp c8_65 P1 [(4, .bool false)] ?_
                     refine wpE_ret (by kernel_rfl) ?_
                     repeat (first | refine seqQ_ret ?_ | refine blockQ_ret ?_ | refine loopQ_ret ?_ | refine cutQ_ret ?_)
                     exact retS (rs := [(ResultVar.tmp 4)]) (v := Value.bool false) (by kernel_rfl) (⟨by kernel_rfl, trivial⟩) ⟨false, rfl, h⟩
                   · replace h := h.2 hb
                     refine wpE_skip (by kernel_rfl) ?_
                     change WpE _ _ c8_67 _ _ _
                     refine Zp c8_70 P3 [(1, .int .i64 mark), (2, pv_ b_), (5, .pointer t_), (7, .int .i64 (IntKind.i64.wrap (n_1 + 1))), (8, .int .i64 i)] ?_
                     refine wpE_seq_cut (x := c8_71) (y := c8_73) (by kernel_rfl) (fun l w => ∃ (t108 : Bool), l = [(1, Value.int .i64 mark), (2, pv_ b_), (5, Value.pointer t_), (7, Value.int .i64 (IntKind.i64.wrap (n_1 + 1))), (8, Value.int .i64 i), (108, Value.bool t108)] ∧ F_towpathlaw17_CallShards_k5 R n_1 i again_ t108 w) ?_ ?_
                     · refine Zr r8_71 ?_
                       refine Zn P1 1 [(1, [], .int .i64 mark), (2, [], pv_ b_), (5, [], .pointer t_), (7, [], .int .i64 (IntKind.i64.wrap (n_1 + 1))), (8, [], .int .i64 i), (102, [], .pointer t_)] ?_
                       refine Zm 35 #[.pointer t_] (some 103) (Calls.mono h ?_)
                       rintro _ w18 ⟨v103, rfl, h⟩
                       refine ⟨_, rfl, ?_⟩
                       refine Zn P2 4 [(1, [], .int .i64 mark), (2, [], pv_ b_), (5, [], .pointer t_), (7, [], .int .i64 (IntKind.i64.wrap (n_1 + 1))), (8, [], .int .i64 i), (104, [], .bool v103), (105, [(104, false)], .pointer t_)] ?_
                       refine reg_split 104 v103 (by kernel_rfl) (fun hb => ?_) (fun hb => ?_)
                       · replace h := h.1 hb
                         refine Zn [] 4 [(1, [], .int .i64 mark), (2, [], pv_ b_), (5, [], .pointer t_), (7, [], .int .i64 (IntKind.i64.wrap (n_1 + 1))), (8, [], .int .i64 i), (104, [], .bool true), (105, [], undef)] ?_
                         refine Zf [.skip, .skip, .plain] [(1, .int .i64 mark), (2, pv_ b_), (5, .pointer t_), (7, .int .i64 (IntKind.i64.wrap (n_1 + 1))), (8, .int .i64 i), (108, .bool true)] ?_
                         exact ⟨[(1, Value.int .i64 mark), (2, pv_ b_), (5, Value.pointer t_), (7, Value.int .i64 (IntKind.i64.wrap (n_1 + 1))), (8, Value.int .i64 i), (108, Value.bool true)], Sub.mk (by kernel_rfl), true, rfl, h⟩
                       · replace h := h.2 hb
                         refine Zn [] 4 [(1, [], .int .i64 mark), (2, [], pv_ b_), (5, [], .pointer t_), (7, [], .int .i64 (IntKind.i64.wrap (n_1 + 1))), (8, [], .int .i64 i), (104, [], .bool false), (105, [], .pointer t_)] ?_
                         refine Zn [] 4 [(1, [], .int .i64 mark), (2, [], pv_ b_), (5, [], .pointer t_), (7, [], .int .i64 (IntKind.i64.wrap (n_1 + 1))), (8, [], .int .i64 i), (104, [], .bool false), (105, [], .pointer t_)] ?_
                         refine Zm 36 #[.pointer t_] (some 106) (Calls.mono h ?_)
                         rintro _ w19 ⟨v106, rfl, h⟩
                         refine ⟨_, rfl, ?_⟩
                         refine Zf [.sure, .plain] [(1, .int .i64 mark), (2, pv_ b_), (5, .pointer t_), (7, .int .i64 (IntKind.i64.wrap (n_1 + 1))), (8, .int .i64 i), (108, .bool (v106 != 0))] ?_
                         exact ⟨[(1, Value.int .i64 mark), (2, pv_ b_), (5, Value.pointer t_), (7, Value.int .i64 (IntKind.i64.wrap (n_1 + 1))), (8, Value.int .i64 i), (108, Value.bool (v106 != 0))], Sub.mk (by kernel_rfl), (v106 != 0), rfl, h⟩
                     · rintro _ w17 ⟨t108, rfl, h⟩
                       unfold F_towpathlaw17_CallShards_k5 at h
                       refine Zc 108 t108 c8_74 c8_78 (fun hb => ?_) (fun hb => ?_)
                       · replace h := h.1 hb
                         refine Zp c8_77 P1 [(4, .bool false)] ?_
                         refine wpE_ret (by kernel_rfl) ?_
                         repeat (first | refine seqQ_ret ?_ | refine blockQ_ret ?_ | refine loopQ_ret ?_ | refine cutQ_ret ?_)
                         exact retS (rs := [(ResultVar.tmp 4)]) (v := Value.bool false) (by kernel_rfl) (⟨by kernel_rfl, trivial⟩) ⟨false, rfl, h⟩
                       · replace h := h.2 hb
                         refine wpE_skip (by kernel_rfl) ?_
                         change WpE _ _ c8_79 _ _ _
                         refine Zr r8_79 ?_
                         refine Zf P3 [(1, .int .i64 mark), (2, pv_ b_), (5, .pointer t_), (7, .int .i64 (IntKind.i64.wrap (n_1 + 1))), (8, .int .i64 (IntKind.i64.wrap (i + 1)))] ?_
                         have hb_ := again__h _ _ _ h
                         exact ⟨_, hb_.2, [(1, Value.int .i64 mark), (2, pv_ b_), (5, Value.pointer t_), (7, Value.int .i64 (IntKind.i64.wrap (n_1 + 1))), (8, Value.int .i64 (IntKind.i64.wrap (i + 1)))], Sub.mk (by kernel_rfl), (IntKind.i64.wrap (n_1 + 1)), (IntKind.i64.wrap (i + 1)), rfl, hb_.1, rfl⟩
         · replace h := h.2 hb
           refine wpE_exit (id := 0) (by kernel_rfl) ?_
           exact ⟨[(2, pv_ b_), (7, Value.int .i64 n_1)], Sub.mk (by kernel_rfl), n_1, rfl, h⟩
       · rintro _ w5 ⟨n_, rfl, h⟩
         unfold F_towpathlaw17_CallShards_k1 at h
         refine Zs c8_82 c8_91 ?_
         refine Zt r8_83 c8_85 ?_
         refine Zn P2 2 [(2, [], pv_ b_), (7, [], .int .i64 n_), (110, [], .pointer (some ⟨b_, 5, none⟩))] ?_
         obtain ⟨v111, hc, h⟩ := h
         refine Zl 63 110 b_ 5 63 111 hc ?_
         refine Zf P1 [(2, pv_ b_), (7, .int .i64 n_), (112, .bool (v111 == 1))] ?_
         change WpE _ _ c8_85 _ _ _
         refine Zc 112 (v111 == 1) c8_86 c8_90 (fun hb => ?_) (fun hb => ?_)
         · replace h := h.1 hb
           refine Zt r8_87 c8_89 ?_
           refine Zn P3 3 [(115, [], .bool (n_ == 1))] ?_
           refine reg_split 115 (n_ == 1) (by kernel_rfl) (fun hb => ?_) (fun hb => ?_)
           · replace h := h.1 hb
             refine Zn [] 3 [(115, [], .bool true)] ?_
             refine Zn [] 3 [(115, [], .bool true)] ?_
             refine Zm 30 #[] (some 116) (Calls.mono h ?_)
             rintro _ w6 ⟨v116, rfl, h⟩
             refine ⟨_, rfl, ?_⟩
             refine Zf P2 [(4, .bool v116)] ?_
             change WpE _ _ c8_89 _ _ _
             refine wpE_ret (by kernel_rfl) ?_
             repeat (first | refine seqQ_ret ?_ | refine blockQ_ret ?_ | refine loopQ_ret ?_ | refine cutQ_ret ?_)
             exact retS (rs := [(ResultVar.tmp 4)]) (v := Value.bool v116) (by kernel_rfl) (⟨by kernel_rfl, trivial⟩) ⟨v116, rfl, h⟩
           · replace h := h.2 hb
             refine Zn [] 3 [(115, [], .bool false)] ?_
             refine Zf [.skip, .plain, .plain] [(4, .bool false)] ?_
             change WpE _ _ c8_89 _ _ _
             refine wpE_ret (by kernel_rfl) ?_
             repeat (first | refine seqQ_ret ?_ | refine blockQ_ret ?_ | refine loopQ_ret ?_ | refine cutQ_ret ?_)
             exact retS (rs := [(ResultVar.tmp 4)]) (v := Value.bool false) (by kernel_rfl) (⟨by kernel_rfl, trivial⟩) ⟨false, rfl, h⟩
         · replace h := h.2 hb
           refine wpE_skip (by kernel_rfl) ?_
           change WpE _ _ c8_91 _ _ _
           refine Zt r8_92 c8_94 ?_
           refine Zn P3 3 [(118, [], .int .i64 n_), (120, [], .pointer (some ⟨b_, 2, none⟩))] ?_
           obtain ⟨v121, hc, h⟩ := h
           refine Zl 3 120 b_ 2 3 121 hc ?_
           refine Zn P2 6 [(123, [], .bool (n_ == v121))] ?_
           refine reg_split 123 (n_ == v121) (by kernel_rfl) (fun hb => ?_) (fun hb => ?_)
           · replace h := h.1 hb
             refine Zn [] 6 [(123, [], .bool true)] ?_
             refine Zn [] 6 [(123, [], .bool true)] ?_
             refine Zm 30 #[] (some 124) (Calls.mono h ?_)
             rintro _ w7 ⟨v124, rfl, h⟩
             refine ⟨_, rfl, ?_⟩
             refine Zf P2 [(4, .bool v124)] ?_
             change WpE _ _ c8_94 _ _ _
             refine wpE_ret (by kernel_rfl) ?_
             repeat (first | refine seqQ_ret ?_ | refine blockQ_ret ?_ | refine loopQ_ret ?_ | refine cutQ_ret ?_)
             exact retS (rs := [(ResultVar.tmp 4)]) (v := Value.bool v124) (by kernel_rfl) (⟨by kernel_rfl, trivial⟩) ⟨v124, rfl, h⟩
           · replace h := h.2 hb
             refine Zn [] 6 [(123, [], .bool false)] ?_
             refine Zf [.skip, .plain, .plain] [(4, .bool false)] ?_
             change WpE _ _ c8_94 _ _ _
             refine wpE_ret (by kernel_rfl) ?_
             repeat (first | refine seqQ_ret ?_ | refine blockQ_ret ?_ | refine loopQ_ret ?_ | refine cutQ_ret ?_)
             exact retS (rs := [(ResultVar.tmp 4)]) (v := Value.bool false) (by kernel_rfl) (⟨by kernel_rfl, trivial⟩) ⟨false, rfl, h⟩
 · rintro e w' ⟨v, rfl, r0, rfl, h⟩; exact ⟨r0, rfl, h⟩
end
end Go.Proofs.Ytpedclhflmhakaa
