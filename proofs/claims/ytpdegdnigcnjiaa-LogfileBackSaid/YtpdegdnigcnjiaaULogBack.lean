/- Chapter 06: law: reading leads back from encoding. -/
import Derived.Test.YtpdegdnigcnjiaaULogA
import Derived.Test.YtpdegdnigcnjiaaUCodecSB
import Derived.Test.YtpdegdnigcnjiaaUBeyS
import Derived.Test.YtpdegdnigcnjiaaUSizeT
import Derived.Test.YtpdegdnigcnjiaaULogU
import Derived.Test.YtpdegdnigcnjiaaULogPre
import Derived.Test.YtpdegdnigcnjiaaULogQ
import Derived.Test.YtpdegdnigcnjiaaUTwinO
import Derived.Test.YtpdegdnigcnjiaaGLogfileBack
namespace Go.Proofs.Ytpdegdnigcnjiaa
open Go
set_option linter.unusedVariables false
set_option linter.unusedSimpArgs false

theorem law_LogfileBack (x0 : Slc) (x1 : Int) (x2 : Slc) (w : World) (h0 : OkSl w x0 2 32 (fun es => ∃ e_ : T_api_Txn, es = txW e_.Number e_.Writes ∧ (Ok_T_api_Txn w e_))) (h1 : 0 ≤ x1 ∧ x1 ≤ 4294967295) (h2 : OkSl w x2 1 1 (fun es => ∃ e_ : Int, es = [Value.int .u8 e_] ∧ (0 ≤ e_ ∧ e_ ≤ 255))) :
    C_towpathlaw06_LogfileBack x0 x1 x2 w (fun b w' => b = true ∧ RowKit.Below w.heap.size w w') := by
  apply S_towpathlaw06_LogfileBack
  unfold F_towpathlaw06_LogfileBack
  obtain ⟨ts, sls, ha, hl, hcp0, hsm⟩ := lat_inS h0
  obtain ⟨ms, hms, hmcl, hmcap, hml⟩ := ok_bytes h2
  have hsl := ha.slen
  have st := St.start w
  refine sp_towpathlaw06_alive st fun w1 st => ⟨fun h => by simp at h, fun _ => ?_⟩
  refine sp_TxnsSizeX (ha.ext st.ext) hl hsm fun v w2 e2 hv0 hv1 hv2 b w3 hb hw => ?_
  have st := (st.keep e2).alloc hb hw
  refine sp_BeyondS2 hb hw hv0 hv1 (by omega) (by omega) fun v2 hbey => ?_
  unfold F_towpathlaw06_LogfileBack_k0
  refine ⟨fun _ => sp_towpathlaw06_alive st fun w4 st => ⟨rfl, st.below⟩, fun ht => ?_⟩
  have hmore : x2.len ≤ 1048576 := by have := hbey ht; omega
  generalize hfr : [(b, [Value.int .i64 v, Value.int .i64 ((x2.len : Nat) : Int)])] = fr at st
  refine sp_lf_Encode (sl := x0) (ts := ts) (sls := sls) st (fun l w' st' => ha.ext st'.ext) (by omega) (fun hc w4 st4 => ?_) fun hc s rb w4 r st4 hsl4 => ?_
  · exact ⟨fun _ => sp_lf_Check (ha.ext st4.ext) (by omega) fun w5 e5 => ⟨by simp, (st4.keep e5).below⟩, fun h => absurd (bne_eq_false_iff_eq.1 h) hc⟩
  refine ⟨fun h => by simp at h, fun _ => ?_⟩
  clear st hfr hb hw e2
  have htl := chkL_len hc
  have hel := encL_len (chkL_all hc)
  have hb36 : (encL ts).length ≤ 36020 * 65536 := by omega
  have hrc := r.cap_le
  refine sp_lf_Read (xs := encL ts) st4 (fun B l w' hB st' => r.src (l := l ++ fr) (st'.perm (perm_of_sum fun f_ => by simp only [List.map_append, List.map_cons, List.map_nil, List.sum_append, List.sum_cons, List.sum_nil, List.append_nil]; omega))) (by omega) fun ts1 rem1 f sl1 sls1 cs1 w5 hrd1 hlo1 hcp1 st5 => ?_
  obtain ⟨ys1, hy1, hr1⟩ := rd_put (more := []) hc (by rw [List.append_nil]; exact hrd1)
  obtain ⟨rfl, rfl, rfl⟩ := rd_nil hr1
  rw [List.append_nil] at hy1
  subst hy1
  have hsl1 := (hlo1 st5).slen
  have hg : (((encL ts1).length - ([] : List UInt8).length : Nat) : Int) = ((s.len : Nat) : Int) := by rw [List.length_nil]; omega
  rw [hg]
  refine ⟨fun h => by simp at h, fun _ => sp_SameTxnsL (hlo1 st5) (ha.ext st5.ext) (by omega) fun w6 e6 => ?_⟩
  have st6 : St ⟨w, []⟩ (rb ++ fr) w6 := (st5.keep e6).drop
  clear hrd1 hlo1 st5 e6 hr1
  unfold F_towpathlaw06_LogfileBack_k1
  refine ⟨fun h => by simp at h, fun _ => ?_⟩
  have wn : IntKind.i64.wrap (((s.len : Nat) : Int) + 1) = ((s.len + 1 : Nat) : Int) := by rw [i64_in _ (by omega) (by omega)]; omega
  have wc : IntKind.i64.wrap x1 = x1 := i64_in _ (by omega) (by omega)
  rw [wn, wc]
  obtain ⟨q, hq, hql⟩ := tmod_lt h1.1 (show 0 < s.len + 1 by omega)
  rw [hq]
  refine ⟨by omega, by omega, by omega, ?_⟩
  rw [Int.toNat_natCast]
  refine sp_lf_Read (xs := (encL ts1).take q) st6 (fun B l w' hB st' => ?_) (by show q ≤ _; omega) fun ts2 rem2 g sl2 sls2 cs2 w7 hrd2 hlo2 hcp2 st7 => ?_
  · have := (r.src (l := l ++ fr) (st'.perm (perm_of_sum fun f_ => by simp only [List.map_append, List.map_cons, List.map_nil, List.sum_append, List.sum_cons, List.sum_nil, List.append_nil]; omega))).pre (k := q) (by omega)
    rw [Nat.mul_one, ← List.map_take] at this
    exact this
  obtain ⟨hg05, m, hm⟩ := rd_cut hc hrd2
  obtain ⟨hc2, hx2, he2⟩ := rd_sound hrd2
  have hsl2 := (hlo2 st7).slen
  have hpre : ts2 = ts1.take ts2.length := List.prefix_iff_eq_take.1 (hm ▸ List.take_prefix m ts1)
  have hlen2 : ts2.length ≤ ts1.length := by have := congrArg List.length hpre; rw [List.length_take] at this; omega
  refine ⟨fun h => absurd (of_decide_eq_true h) (by omega), fun _ => ⟨by omega, by omega, ?_⟩⟩
  rw [Int.toNat_natCast]
  have hap := (ha.ext st7.ext).pre (k := sl2.len) (by omega)
  rw [hsl2, ← hpre, ← hsl2] at hap
  refine sp_SameTxnsL (hlo2 st7) hap (by omega) fun w8 e8 => ?_
  have st8 := st7.keep e8
  have hxl := congrArg List.length hx2
  rw [List.length_take, List.length_append, Nat.min_eq_left (by omega)] at hxl
  have hpart : ((((encL ts1).take q).length - rem2.length : Nat) : Int) = (((encL ts2).length : Nat) : Int) := by rw [List.length_take, Nat.min_eq_left (by omega)]; omega
  rw [hpart]
  have hif : (g = 0) ↔ ((((encL ts2).length : Nat) : Int) = ((q : Nat) : Int)) := by
    rw [he2]
    refine ⟨fun h => ?_, fun h => ?_⟩
    · rw [h, List.length_nil] at hxl; omega
    · exact List.eq_nil_of_length_eq_zero (by omega)
  have h5 : ((g != 0) && (g != 5)) = false := by rcases hg05 with rfl | rfl <;> rfl
  have hcond : ((((!true) || (!((g == 0) == ((((encL ts2).length : Nat) : Int) == ((q : Nat) : Int))))) || ((g != 0) && (g != 5))) || (decide ((((encL ts2).length : Nat) : Int) > ((q : Nat) : Int)))) = false := by
    rw [beq_intQ g, beq_intQ, beq_ofQ hif, h5, decide_eq_false (by omega)]; rfl
  rw [hcond]
  unfold F_towpathlaw06_LogfileBack_k2
  refine ⟨fun h => by simp at h, fun _ => ?_⟩
  refine sp_lf_Encode (sl := sl2) (ts := ts2) (sls := sls2) st8 (fun l w' st' => hlo2 (fr := l ++ (rb ++ fr)) (st'.perm (perm_of_sum fun f_ => by simp only [List.map_append, List.map_cons, List.map_nil, List.sum_append, List.sum_cons, List.sum_nil, List.append_nil]; omega))) (by omega) (fun h => absurd hc2 h) fun _ s3 rb3 w9 r3 st9 hsl3 => ?_
  refine ⟨fun h => by simp at h, fun _ => ⟨by omega, by omega, ?_⟩⟩
  rw [Int.toNat_natCast]
  have st9b : St ⟨w, []⟩ (rb ++ (rb3 ++ (cs2 ++ fr))) w9 := st9.perm (perm_of_sum fun f_ => by simp only [List.map_append, List.map_cons, List.map_nil, List.sum_append, List.sum_cons, List.sum_nil, List.append_nil]; omega)
  have hp := (r.src st9b).pre (k := (encL ts2).length) (by omega)
  have htk : (encL ts1).take (encL ts2).length = encL ts2 := by
    have e : (encL ts1).take (encL ts2).length = ((encL ts1).take q).take (encL ts2).length := by rw [List.take_take, Nat.min_eq_left (by omega)]
    rw [e, hx2, List.take_left]
  rw [Nat.mul_one, ← List.map_take, htk] at hp
  refine sp_SameBytes (r3.src st9) hp (by omega) fun w10 e10 => ?_
  rw [decide_eq_true (show encL ts2 = encL ts2 from rfl)]
  have st10 : St ⟨w, []⟩ (rb ++ fr) w10 := (st9.keep e10).weak (rb3 ++ cs2) (perm_of_sum fun f_ => by simp only [List.map_append, List.map_cons, List.map_nil, List.sum_append, List.sum_cons, List.sum_nil, List.append_nil]; omega)
  clear hp e10 st9b st9 r3 hlo2 hap st8 e8 hrd2 st7
  unfold F_towpathlaw06_LogfileBack_k3
  refine ⟨fun h => by simp at h, fun _ => ?_⟩
  refine sp_TwinO st10 (r.src st10) (by omega) (.inr fun l w' st' => r.src (l := l ++ fr) (st'.perm (perm_of_sum fun f_ => by simp only [List.map_append, List.map_cons, List.map_nil, List.sum_append, List.sum_cons, List.sum_nil, List.append_nil]; omega))) fun t rt w11 ht2 st11 => ?_
  have htlen := ht2.len
  refine ⟨ms.map bV, st11.ext.src hms, ht2.row.append st11 (by simp [hml]) (one_bV ms) rfl (by omega) fun d rd w12 rd12 st12 hld => ?_⟩
  rw [← List.map_append] at rd12
  refine sp_lf_Read (xs := encL ts1 ++ ms) st12 (fun B l w' hB st' => rd12.src (l := l ++ (rb ++ fr)) (st'.perm (perm_of_sum fun f_ => by simp only [List.map_append, List.map_cons, List.map_nil, List.sum_append, List.sum_cons, List.sum_nil, List.append_nil]; omega))) (by omega) fun ts4 rem4 e4 sl4 sls4 cs4 w13 hrd4 hlo4 hcp4 st13 => ?_
  obtain ⟨ys4, hy4, hr4⟩ := rd_put hc hrd4
  obtain ⟨hc4, hx4, he4⟩ := rd_sound hr4
  have hxl4 := congrArg List.length hx4
  rw [List.length_append] at hxl4
  have hsl4' := (hlo4 st13).slen
  have hl4 := congrArg List.length hy4
  rw [List.length_append] at hl4
  have hd : ((decide ((((encL ts1 ++ ms).length - rem4.length : Nat) : Int) ≥ ((s.len : Nat) : Int))) && (decide (((sl4.len : Nat) : Int) ≥ ((x0.len : Nat) : Int)))) = true := by
    rw [List.length_append, decide_eq_true (by omega), decide_eq_true (by omega)]; rfl
  rw [hd]
  refine ⟨fun _ => ⟨by omega, by omega, ?_⟩, fun h => by simp at h⟩
  rw [Int.toNat_natCast]
  have hz := (hlo4 st13).pre (k := x0.len) (by omega)
  have hzt : ts4.take x0.len = ts1 := by rw [hy4, List.take_left' hsl.symm]
  rw [hzt] at hz
  exact sp_SameTxnsL hz (ha.ext st13.ext) (by show x0.len ≤ _; omega) fun w14 e14 => ⟨rfl, (st13.keep e14).below⟩
end Go.Proofs.Ytpdegdnigcnjiaa
