/- Chapter 06: law: what a source is asked it answers, and keeps. -/
import Derived.Test.YtpdegdnigcnjiaaULogA
import Derived.Test.YtpdegdnigcnjiaaUBeyA
import Derived.Test.YtpdegdnigcnjiaaULogT
import Derived.Test.YtpdegdnigcnjiaaULogSA
import Derived.Test.YtpdegdnigcnjiaaUSameI
import Derived.Test.YtpdegdnigcnjiaaULogI
import Derived.Test.YtpdegdnigcnjiaaGLogfileAsked
namespace Go.Proofs.Ytpdegdnigcnjiaa
open Go
set_option linter.unusedVariables false
set_option linter.unusedSimpArgs false

theorem law_LogfileAsked (x0 x1 : Slc) (w : World) (h0 : OkSl w x0 2 32 (fun es => ∃ e_ : T_api_Txn, es = txW e_.Number e_.Writes ∧ (Ok_T_api_Txn w e_))) (h1 : OkSl w x1 1 1 (fun es => ∃ e_ : Int, es = [Value.int .u8 e_] ∧ (0 ≤ e_ ∧ e_ ≤ 255))) :
    C_towpathlaw06_LogfileAsked x0 x1 w (fun b w' => b = true ∧ RowKit.Below w.heap.size w w') := by
  apply S_towpathlaw06_LogfileAsked
  unfold F_towpathlaw06_LogfileAsked
  obtain ⟨ts, sls, ha, hl⟩ := lat_in h0
  obtain ⟨xs, hs, hcl, hcap, hxl⟩ := ok_bytes h1
  have hsl := ha.slen
  have st := St.start w
  refine sp_towpathlaw06_alive st fun w1 st => ⟨fun h => by simp at h, fun _ => ?_⟩
  refine sp_TxnsSizeL (ha.ext st.ext) hl fun v w2 e2 b w3 hb hw => ?_
  have st := (st.keep e2).alloc hb hw
  refine sp_BeyondAny hb hw fun v2 => ?_
  unfold F_towpathlaw06_LogfileAsked_k0
  refine ⟨fun _ => sp_towpathlaw06_alive st fun w4 st => ⟨rfl, st.below⟩, fun ht => ?_⟩
  simp only [Bool.or_eq_false_iff, decide_eq_false_iff_not] at ht
  have h1000 : x1.len ≤ 1000 := by have := ht.2; omega
  generalize hfr : [(b, [Value.int .i64 v])] = fr at st
  refine sp_lf_New st ha (by omega) (fun hc w4 st4 => ?_) fun hc b1 cs w4 o st4 => ?_
  · exact ⟨fun _ => ⟨fun _ => sp_lf_Check (ha.ext st4.ext) (by omega) fun w5 e5 => ⟨beq_self_eq_true _, (st4.keep e5).below⟩, fun h => (by cases h)⟩, fun h => absurd (bne_eq_false_iff_eq.1 h) hc⟩
  refine ⟨fun h => by simp at h, fun _ => ?_⟩
  refine ⟨fun want i w' => ∃ (p : Nat) (ask : List Int) (rb cs : List Chunk), i = (p : Int) ∧ p ≤ x1.len ∧ ask.length ≤ p ∧ RowC 1 want (ask.map iV) rb ∧ want.len = ask.length ∧ SrcO b1 ts ask cs ∧ St ⟨w, []⟩ (rb ++ (cs ++ fr)) w', fun _ i _ => x1.len - i.toNat, ⟨0, [], [], cs, rfl, by omega, Nat.le_refl _, RowC.nil, rfl, o, st4⟩, ?_⟩
  clear o st4 st e2 hfr hb hw
  rintro want i w5 ⟨p, ask, rb, cs, rfl, hp, hal, rwt, hwl, o, st5⟩
  unfold F_towpathlaw06_LogfileAsked_L1
  have wp : IntKind.i64.wrap ((p : Int) + 1) = ((p + 1 : Nat) : Int) := by rw [i64_in _ (by omega) (by omega)]; omega
  refine ⟨fun hi => ?_, fun hi => ?_⟩
  · have hi := of_decide_eq_true hi
    obtain ⟨a, y, hy, hc2⟩ := SrcAt.get (st5.ext.src hs) (i := (p : Int)) (by omega) hi
    have hy8 := y.toNat_lt
    have wy : IntKind.i64.wrap ((y.toNat : Nat) : Int) = ((y.toNat : Nat) : Int) := i64_in _ (by omega) (by omega)
    refine ⟨a, by omega, hi, ((y.toNat : Nat) : Int), hc2, ?_⟩
    rw [wy]
    have st5 : St ⟨w, []⟩ (cs ++ (rb ++ fr)) w5 := st5.perm (perm_of_sum fun f_ => by simp only [List.map_append, List.map_cons, List.map_nil, List.sum_append, List.sum_cons, List.sum_nil, List.append_nil]; omega)
    refine sp_lf_Get o st5 (by omega) (by omega) (fun hg w6 st6 b2 w7 hb2 hw7 => ?_) fun q t hq ht s rb2 cs2 w6 r2 hl2 o2 st6 b2 w7 hb2 hw7 => ?_
    · have st7 : St ⟨w, []⟩ ((b2, txW 0 ⟨none, 0, 0⟩) :: (cs ++ (rb ++ fr))) w7 := st6.alloc hb2 hw7
      refine ⟨st7.writable 0 rfl (by decide), fun w8 hw8 => ⟨fun _ => ⟨fun h => by simp at h, fun _ => ?_⟩, fun h => ?_⟩⟩
      · have st8 : St ⟨w, []⟩ ((b2, txW 0 ⟨none, 0, 0⟩) :: (cs ++ (rb ++ fr))) w8 := st7.put0 hw8
        refine ⟨0, st8.cell 0 rfl rfl, ?_⟩
        unfold F_towpathlaw06_LogfileAsked_k3
        refine ⟨fun h => by simp at h, fun _ => ?_⟩
        unfold F_towpathlaw06_LogfileAsked_k2
        rw [wp]
        exact ⟨⟨p + 1, ask, rb, cs, rfl, by omega, by omega, rwt, hwl, o, st8.drop1.perm (perm_of_sum fun f_ => by simp only [List.map_append, List.map_cons, List.map_nil, List.sum_append, List.sum_cons, List.sum_nil, List.append_nil]; omega)⟩, by show _ - _ < _ - _; omega⟩
      · simp only [Bool.or_eq_false_iff, decide_eq_false_iff_not] at h
        exact absurd ⟨by omega, by omega⟩ hg
    · have hql := (List.getElem?_eq_some_iff.1 ht).1
      have st7 : St ⟨w, []⟩ ((b2, txW 0 ⟨none, 0, 0⟩) :: (rb2 ++ (cs2 ++ (rb ++ fr)))) w7 := st6.alloc hb2 hw7
      refine ⟨st7.writable 0 rfl (by decide), fun w8 hw8 => ⟨fun h => ?_, fun _ => fun w9 hw9 => ⟨fun h => by simp at h, fun _ => ?_⟩⟩⟩
      · simp only [Bool.or_eq_true, decide_eq_true_eq] at h
        omega
      have st8 : St ⟨w, []⟩ ((b2, txW t.1 s) :: (rb2 ++ (cs2 ++ (rb ++ fr)))) w8 := st7.put0 hw8
      have st9 := st8.drew hw9
      refine ⟨⟨t.1, s⟩, ⟨st9.cell 0 rfl rfl, st9.cell 0 rfl rfl, trivial⟩, ?_⟩
      have wq : IntKind.i64.wrap (((y.toNat : Nat) : Int) - 1) = (q : Int) := by rw [i64_in _ (by omega) (by omega)]; omega
      rw [wq]
      obtain ⟨a3, t3, s3, ht3, hs3, hct, hsr, hcp1, hcp2⟩ := (ha.ext st9.ext).get (p := q) (by omega)
      obtain rfl : t3 = t := by rw [ht3] at ht; exact Option.some.inj ht
      refine ⟨a3, by omega, by omega, ⟨t3.1, s3⟩, by rw [Int.toNat_natCast]; exact hct, ?_⟩
      have hws : s3.len = t3.2.length := wr_len hsr
      refine sp_SameTxn (a := ⟨t3.1, s⟩) (b := ⟨t3.1, s3⟩) (ws := t3.2) (us := t3.2) (r2.src st9.drop1) hsr (by show s.len ≤ _; omega) fun w10 e10 => ?_
      have hd : decide ((⟨t3.1, s⟩ : T_api_Txn).Number = (⟨t3.1, s3⟩ : T_api_Txn).Number ∧ t3.2 = t3.2) = true := decide_eq_true ⟨rfl, rfl⟩
      rw [hd]
      unfold F_towpathlaw06_LogfileAsked_k4
      refine ⟨fun h => by simp at h, fun _ b3 w11 hb3 hw11 => ?_⟩
      rw [wy] at hw11
      have st11 : St ⟨w, []⟩ ((b3, [iV ((y.toNat : Nat) : Int)]) :: (b2, txW t3.1 s) :: (rb2 ++ (cs2 ++ (rb ++ fr)))) w11 := (st9.keep e10).alloc hb3 hw11
      have st11 : St ⟨w, []⟩ (rb ++ (cs2 ++ fr)) w11 := st11.weak ((b3, [iV ((y.toNat : Nat) : Int)]) :: (b2, txW t3.1 s) :: rb2) (perm_of_sum fun f_ => by simp only [List.map_append, List.map_cons, List.map_nil, List.sum_append, List.sum_cons, List.sum_nil, List.append_nil]; omega)
      refine ⟨[iV ((y.toNat : Nat) : Int)], srcAt_newN hb3 hw11 rfl, rwt.append st11 rfl rfl rfl (by omega) fun want' rb' w12 rw' st12 hl12 => ?_⟩
      unfold F_towpathlaw06_LogfileAsked_k2
      rw [wp]
      refine ⟨⟨p + 1, ask ++ [((y.toNat : Nat) : Int)], rb', cs2, rfl, by omega, by simp; omega, by rw [List.map_append]; exact rw', by simp; omega, o2, st12⟩, by show _ - _ < _ - _; omega⟩
  · have st5 : St ⟨w, []⟩ (cs ++ (rb ++ fr)) w5 := st5.perm (perm_of_sum fun f_ => by simp only [List.map_append, List.map_cons, List.map_nil, List.sum_append, List.sum_cons, List.sum_nil, List.append_nil]; omega)
    refine sp_lf_Asked o st5 (by omega) fun s2 rb2 w6 r2 st6 hl2 => ?_
    have st6b : St ⟨w, []⟩ (rb ++ (rb2 ++ (cs ++ fr))) w6 := st6.perm (perm_of_sum fun f_ => by simp only [List.map_append, List.map_cons, List.map_nil, List.sum_append, List.sum_cons, List.sum_nil, List.append_nil]; omega)
    refine sp_SameInts (r2.src st6) (rwt.src st6b) (by omega) fun w7 e7 => ⟨fun _ => ?_, fun h => by cases h⟩
    have st7 : St ⟨w, []⟩ (cs ++ (rb2 ++ (rb ++ fr))) w7 := (st6.keep e7).perm (perm_of_sum fun f_ => by simp only [List.map_append, List.map_cons, List.map_nil, List.sum_append, List.sum_cons, List.sum_nil, List.append_nil]; omega)
    exact sp_lf_Last o st7 ⟨by rw [hsl]; exact beq_self_eq_true _, st7.below⟩
end Go.Proofs.Ytpdegdnigcnjiaa
