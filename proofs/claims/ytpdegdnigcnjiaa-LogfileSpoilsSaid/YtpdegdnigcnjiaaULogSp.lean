/- Chapter 06: law: what a byte that is spoilt does to a log. -/
import Derived.Test.YtpdegdnigcnjiaaULogA
import Derived.Test.YtpdegdnigcnjiaaUBeyA
import Derived.Test.YtpdegdnigcnjiaaUSizeT
import Derived.Test.YtpdegdnigcnjiaaULogT
import Derived.Test.YtpdegdnigcnjiaaULogU
import Derived.Test.YtpdegdnigcnjiaaULogPre
import Derived.Test.YtpdegdnigcnjiaaULogQ
import Derived.Test.YtpdegdnigcnjiaaURowSet
import Derived.Test.YtpdegdnigcnjiaaGLogfileSpoils
namespace Go.Proofs.Ytpdegdnigcnjiaa
open Go
set_option linter.unusedVariables false
set_option linter.unusedSimpArgs false

theorem law_LogfileSpoils (x0 : Slc) (x1 x2 : Int) (w : World) (h0 : OkSl w x0 2 32 (fun es => ∃ e_ : T_api_Txn, es = txW e_.Number e_.Writes ∧ (Ok_T_api_Txn w e_))) (h1 : 0 ≤ x1 ∧ x1 ≤ 4294967295) (h2 : 0 ≤ x2 ∧ x2 ≤ 255) :
    C_towpathlaw06_LogfileSpoils x0 x1 x2 w (fun b w' => b = true ∧ RowKit.Below w.heap.size w w') := by
  apply S_towpathlaw06_LogfileSpoils
  unfold F_towpathlaw06_LogfileSpoils
  obtain ⟨ts, sls, ha, hl, hcp0, hsm⟩ := lat_inS h0
  obtain ⟨o, ho⟩ : ∃ o : UInt8, x2 = ((o.toNat : Nat) : Int) := ⟨UInt8.ofNat x2.toNat, by rw [UInt8.toNat_ofNat']; omega⟩
  have hsl := ha.slen
  have st := St.start w
  refine sp_towpathlaw06_alive st fun w1 st => ⟨fun h => by simp at h, fun _ => ?_⟩
  refine sp_TxnsSizeL (ha.ext st.ext) hl fun v w2 e2 b w3 hb hw => ?_
  have st := (st.keep e2).alloc hb hw
  refine sp_BeyondAny hb hw fun v2 => ?_
  unfold F_towpathlaw06_LogfileSpoils_k0
  refine ⟨fun _ => sp_towpathlaw06_alive st fun w4 st => ⟨rfl, st.below⟩, fun _ => ?_⟩
  generalize hfr : [(b, [Value.int .i64 v])] = fr at st
  refine sp_lf_Encode (sl := x0) (ts := ts) (sls := sls) st (fun l w' st' => ha.ext st'.ext) (by omega) (fun hc w4 st4 => ?_) fun hc s rb w4 r st4 hsl4 => ?_
  · refine ⟨fun _ => sp_lf_Check (ha.ext st4.ext) (by omega) fun w5 e5 => ⟨beq_self_eq_true _, (st4.keep e5).below⟩, fun h => ?_⟩
    simp only [Bool.or_eq_false_iff] at h
    exact absurd (bne_eq_false_iff_eq.1 h.1) hc
  clear st hfr hb hw e2
  refine ⟨fun _ => sp_lf_Check (ha.ext st4.ext) (by omega) fun w5 e5 => ⟨by rw [hc]; rfl, (st4.keep e5).below⟩, fun h => ?_⟩
  simp only [Bool.or_eq_false_iff] at h
  have hn0 : ((s.len : Nat) : Int) ≠ 0 := by have := h.2; simpa using this
  clear h
  have htl := chkL_len hc
  have hel := encL_len (chkL_all hc)
  have wc : IntKind.i64.wrap x1 = x1 := i64_in _ (by omega) (by omega)
  rw [wc]
  obtain ⟨q, hq, hql⟩ := tmod_lt h1.1 (show 0 < s.len by omega)
  rw [hq]
  obtain ⟨a, y, hy, hcy⟩ := SrcAt.get (r.src st4) (i := (q : Int)) (by omega) (by omega)
  refine ⟨hn0, a, by omega, by omega, ((y.toNat : Nat) : Int), hcy, fun _ => ⟨rfl, st4.below⟩, fun hne => ?_⟩
  rw [Int.toNat_natCast] at hy
  have hyo : (encL ts)[q]? ≠ some o := by
    intro e
    rw [hy] at e
    obtain rfl := Option.some.inj e
    rw [ho] at hne
    simp at hne
  have K1 : ∀ (p : Nat) (w5 : World), p < ts.length → (encL (ts.take p)).length ≤ q → q < (encL (ts.take (p + 1))).length → St ⟨w, []⟩ (rb ++ fr) w5 →
      F_towpathlaw06_LogfileSpoils_k1 x0 x1 x2 (fun b w' => b = true ∧ RowKit.Below w.heap.size w w') s (((encL (ts.take p)).length : Nat) : Int) (p : Int) w5 := fun p w5 hp g1 g2 st5 => by
    unfold F_towpathlaw06_LogfileSpoils_k1
    rw [wc, hq]
    obtain ⟨a1, wr1, set1⟩ := r.set (v := Value.int .u8 x2) (i := q) st5 hql
    refine ⟨a1, by omega, by omega, by rw [Int.toNat_natCast]; exact wr1, fun w6 hw6 => ?_⟩
    rw [Int.toNat_natCast] at hw6
    obtain ⟨rb6, r6, st6⟩ := set1 w6 hw6
    have hset : ((encL ts).map bV).set q (Value.int .u8 x2) = ((encL ts).set q o).map bV := by rw [List.map_set, ho]
    rw [hset] at r6
    have hl6 : ((encL ts).set q o).length = (encL ts).length := List.length_set ..
    refine sp_lf_Read (xs := (encL ts).set q o) st6 (fun B l w' hB st' => r6.src (l := l ++ fr) (st'.perm (perm_of_sum fun f_ => by simp only [List.map_append, List.map_cons, List.map_nil, List.sum_append, List.sum_cons, List.sum_nil, List.append_nil]; omega))) (by omega) fun ts2 rem2 e2 sl2 sls2 cs2 w7 hrd hlo hcp2 st7 w11 hw11 => ?_
    obtain ⟨ys, hys, hrem, hdiff⟩ := spoil_read hc hp g1 g2 hyo hrd
    have st11 := st7.drew hw11
    have hsl2 := (hlo st11).slen
    have hl2 := congrArg List.length hys
    rw [List.length_append, List.length_take, Nat.min_eq_left (by omega)] at hl2
    have hchk := (rd_sound hrd).1
    have htl2 := chkL_len hchk
    refine ⟨fun h => absurd (of_decide_eq_true h) (by omega), fun _ => ⟨by omega, by omega, by omega, by omega, ?_⟩⟩
    rw [Int.toNat_natCast]
    have hx := (hlo st11).pre (k := p) (by omega)
    have hxt : ts2.take p = ts.take p := by rw [hys, List.take_left' (by rw [List.length_take]; omega)]
    rw [hxt] at hx
    refine sp_SameTxnsL hx ((ha.ext st11.ext).pre (k := p) (by omega)) (by show p ≤ _; omega) fun w12 e12 => ?_
    have st12 := st11.keep e12
    have hcond : (((!true) || (decide ((((((encL ts).set q o).length - rem2.length : Nat)) : Int) < (((encL (ts.take p)).length : Nat) : Int)))) || (decide ((p : Int) ≥ ((x0.len : Nat) : Int)))) = false := by
      rw [hl6, decide_eq_false (by omega), decide_eq_false (by omega)]; rfl
    rw [hcond]
    unfold F_towpathlaw06_LogfileSpoils_k2
    refine ⟨fun h => by simp at h, fun _ w13 hw13 => ?_⟩
    have st13 := st12.drew hw13
    refine ⟨fun _ => ⟨rfl, st13.below⟩, fun hne2 => ?_⟩
    have hne2 : ((sl2.len : Nat) : Int) ≠ (p : Int) := by simpa using hne2
    obtain ⟨a3, t3, s3, ht3, hs3, hct3, hsr3, hcp31, hcp32⟩ := (hlo st13).get (p := p) (by omega)
    obtain ⟨a4, t4, s4, ht4, hs4, hct4, hsr4, hcp41, hcp42⟩ := (ha.ext st13.ext).get (p := p) (by omega)
    have hy0 : ys[0]? = some t3 := by
      rw [hys, List.getElem?_append_right (by rw [List.length_take]; omega), List.length_take, Nat.min_eq_left (by omega), Nat.sub_self] at ht3
      exact ht3
    have hdf : t3 ≠ t4 := fun e => hdiff t3 hy0 (by rw [ht4, e])
    refine ⟨a3, by omega, by omega, ⟨t3.1, s3⟩, by rw [Int.toNat_natCast]; exact hct3, a4, by omega, by omega, ⟨t4.1, s4⟩, by rw [Int.toNat_natCast]; exact hct4, ?_⟩
    refine sp_SameTxn (a := ⟨t3.1, s3⟩) (b := ⟨t4.1, s4⟩) (ws := t3.2) (us := t4.2) hsr3 hsr4 (by show s3.len ≤ _; omega) fun w14 e14 => ?_
    have hd : decide ((⟨t3.1, s3⟩ : T_api_Txn).Number = (⟨t4.1, s4⟩ : T_api_Txn).Number ∧ t3.2 = t4.2) = false := decide_eq_false fun h => hdf (Prod.ext h.1 h.2)
    rw [hd]
    exact ⟨rfl, (st13.keep e14).below⟩
  refine ⟨fun ends whole w' => ∃ p : Nat, whole = (p : Int) ∧ p ≤ ts.length ∧ ends = (((encL (ts.take p)).length : Nat) : Int) ∧ (encL (ts.take p)).length ≤ q ∧ St ⟨w, []⟩ (rb ++ fr) w', fun _ whole _ => ts.length - whole.toNat, ⟨0, rfl, by omega, rfl, by show 0 ≤ q; omega, st4⟩, ?_⟩
  clear st4 hcy
  rintro ends whole w5 ⟨p, rfl, hp, rfl, hpq, st5⟩
  unfold F_towpathlaw06_LogfileSpoils_L3
  have wp : IntKind.i64.wrap ((p : Int) + 1) = ((p + 1 : Nat) : Int) := by rw [i64_in _ (by omega) (by omega)]; omega
  rw [wp, wc, hq]
  refine ⟨fun hi => ?_, fun hi => ?_⟩
  · have hi := of_decide_eq_true hi
    refine ⟨by omega, by omega, ?_⟩
    rw [Int.toNat_natCast]
    refine sp_lf_Encode (sl := ⟨x0.ptr, p + 1, x0.cap⟩) (ts := ts.take (p + 1)) (sls := sls.take (p + 1)) st5 (fun l w' st' => (ha.ext st'.ext).pre (by omega)) (by show p + 1 ≤ _; omega) (fun h => absurd (chkL_take (p + 1) hc) h) fun _ s3 rb3 w6 r3 st6 hsl3 => ?_
    have st6 := st6.drop
    refine ⟨fun h => by simp at h, fun _ => ⟨fun h => ?_, fun h => ?_⟩⟩
    · have h := of_decide_eq_true h
      exact K1 p w6 (by omega) hpq (by omega) st6
    · have h := of_decide_eq_false h
      exact ⟨⟨p + 1, rfl, by omega, by rw [hsl3], by omega, st6⟩, by show _ - _ < _ - _; omega⟩
  · have hi := of_decide_eq_false hi
    have : p = ts.length := by omega
    subst this
    exact (spoil_end hpq (by omega)).elim
end Go.Proofs.Ytpdegdnigcnjiaa
