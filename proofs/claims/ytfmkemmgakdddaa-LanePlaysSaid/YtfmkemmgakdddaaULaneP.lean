/- Chapter 14: the law LanePlays. -/
import Derived.Test.YtfmkemmgakdddaaULaneA
import Derived.Test.YtfmkemmgakdddaaGLanePlays
namespace Go.Proofs.Ytfmkemmgakdddaa
open Go
set_option linter.unusedVariables false

theorem writes_in2 {w : World} {t : T_api_Txn} (h : Ok_T_api_Txn w t) : ∃ ws : List Wr, SrcAt w t.Writes 3 (ws.flatMap wV) ∧ t.Writes.len ≤ t.Writes.cap ∧ t.Writes.cap * 40 ≤ 140737488351232 ∧ ∀ x ∈ ws, x.Key.size ≤ 140737488351232 ∧ x.Val.size ≤ 140737488351232 := by
  obtain ⟨ws, h1, h2, h3, h4, h5⟩ := ok_list (f := wV) (Pr := fun x => x.Key.size ≤ 140737488351232 ∧ x.Val.size ≤ 140737488351232) h.2 (fun es ⟨e, h, h'⟩ => ⟨e, h, h'.1, h'.2.1⟩) (fun _ => rfl) (by decide)
  exact ⟨ws, h1, h2, h3, h5⟩
theorem sp_TxnSizeN {w : World} {t : T_api_Txn} {ws : List Wr} {R : Int → World → Prop} (hs : SrcAt w t.Writes 3 (ws.flatMap wV)) (hl : t.Writes.len ≤ 4398046511104) (hb : ∀ x ∈ ws, x.Key.size ≤ 140737488351232 ∧ x.Val.size ≤ 140737488351232)
    (k : ∀ (n : Nat) w', Ext w w' → t.Writes.len < n → n ≤ 1125899906842624 → R (n : Int) w') : C_towpathlaw01_TxnSize t w R := by
  apply S_towpathlaw01_TxnSize
  intro b w1 hb1 hw
  have e1 : Ext w w1 := Ext.new hw
  refine ⟨t.Writes, (Blk.new hb1 hw).cell rfl, ?_⟩
  apply S_towpathlaw01_WritesSize
  refine ⟨fun n i w' => Ext w w' ∧ ∃ p q : Nat, i = (p : Int) ∧ n = (q : Int) ∧ p ≤ t.Writes.len ∧ t.Writes.len ≤ q ∧ q ≤ 562949953421312, fun _ i _ => t.Writes.len - i.toNat, ⟨e1, 0, t.Writes.len, rfl, rfl, by omega, by omega, by omega⟩, ?_⟩
  rintro n i w2 ⟨e, p, q, rfl, rfl, hp, hq0, hq⟩
  unfold F_towpathlaw01_WritesSize_L0
  refine ⟨fun hi => ?_, fun hi => ?_⟩
  · simp only [Bool.and_eq_true, decide_eq_true_eq] at hi
    obtain ⟨pa, x, hx, hc⟩ := wr_atN (e.src hs) (i := p) (by omega)
    have hx' := hb x (List.mem_of_getElem? hx)
    have wp : IntKind.i64.wrap ((p : Int) + 1) = ((p + 1 : Nat) : Int) := by rw [i64_in _ (by omega) (by omega)]; omega
    have wn : IntKind.i64.wrap (IntKind.i64.wrap ((q : Int) + ((x.Key.size : Nat) : Int)) + ((x.Val.size : Nat) : Int)) = ((q + x.Key.size + x.Val.size : Nat) : Int) := by rw [i64_in ((q : Int) + _) (by omega) (by omega), i64_in _ (by omega) (by omega)]; omega
    refine ⟨pa, by omega, by omega, x.Key, by rw [Int.toNat_natCast]; exact hc.1, pa, by omega, by omega, x.Val, by rw [Int.toNat_natCast]; exact hc.2.1, fun w3 e3 => ?_⟩
    rw [wp, wn]
    exact ⟨⟨e.trans e3, p + 1, q + x.Key.size + x.Val.size, rfl, rfl, by omega, by omega, by omega⟩, by show _ - _ < _ - _; omega⟩
  · have := k (1 + q) w2 e (by omega) (by omega)
    show R (IntKind.i64.wrap (1 + (q : Int))) w2
    rw [i64_in _ (by omega) (by omega)]
    rw [show (1 : Int) + (q : Int) = ((1 + q : Nat) : Int) from by omega]
    exact this

abbrev opL (o : T_towpathlaw14_Op) : List Value := [Value.int .u8 o.Kind, Value.int .i64 o.Txn.Number, Value.slice o.Txn.Writes.ptr o.Txn.Writes.len o.Txn.Writes.cap]
theorem sp_beyondL {w0 w : World} {s : Slc} {ops : List T_towpathlaw14_Op} {R : Bool → World → Prop} (e0 : Ext w0 w) (hs : SrcAt w0 s 3 (ops.flatMap opL)) (hl : s.len ≤ 4398046511104) (hok : ∀ o ∈ ops, Ok_T_towpathlaw14_Op w0 o)
    (k1 : ∀ w', Ext w w' → R true w') (k0 : ∀ w', Ext w w' → s.len ≤ 1048576 → (∀ o ∈ ops, o.Txn.Writes.len ≤ 1048576) → R false w') : C_towpathlaw14_beyond s w R := by
  apply S_towpathlaw14_beyond
  have hsl : s.len = ops.length := by
    have := hs.1
    rw [flatMap_len (sz := 3) (fun _ => rfl)] at this
    omega
  refine ⟨fun n i w' => ∃ p q : Nat, i = (p : Int) ∧ n = (q : Int) ∧ p ≤ s.len ∧ p ≤ q ∧ q ≤ 1048576 ∧ (∀ o ∈ ops.take p, o.Txn.Writes.len ≤ 1048576) ∧ Ext w w', fun _ i _ => s.len - i.toNat, ⟨0, 0, rfl, rfl, by omega, by omega, by omega, by simp, Ext.refl _⟩, ?_⟩
  rintro n i w1 ⟨p, q, rfl, rfl, hp, hpq, hq, hg, e⟩
  unfold F_towpathlaw14_beyond_L0
  refine ⟨fun hi => ?_, fun hi => ?_⟩
  · have hi := of_decide_eq_true hi
    obtain ⟨a, o, ho, hc⟩ := SrcAt.getN ((e0.trans e).src hs) (fun _ => rfl) (by decide) (i := (p : Int)) (by omega) hi
    rw [Int.toNat_natCast] at ho
    obtain ⟨ws, hws, hwc, hwcap, hwk⟩ := writes_in2 (hok o (List.mem_of_getElem? ho)).2
    have wp : IntKind.i64.wrap ((p : Int) + 1) = ((p + 1 : Nat) : Int) := by rw [i64_in _ (by omega) (by omega)]; omega
    have wq : IntKind.i64.wrap ((q : Int) + 1) = ((q + 1 : Nat) : Int) := by rw [i64_in _ (by omega) (by omega)]; omega
    refine ⟨a, by omega, hi, o.Txn, ⟨cellsAt_iff.1 hc 1 _ rfl, cellsAt_iff.1 hc 2 _ rfl, trivial⟩, sp_TxnSizeN ((e0.trans e).src hws) (by omega) hwk fun v w2 e2 hv1 hv2 => ?_⟩
    have wv : IntKind.i64.wrap (((q + 1 : Nat) : Int) + (v : Int)) = ((q + 1 + v : Nat) : Int) := by rw [i64_in _ (by omega) (by omega)]; omega
    rw [wq, wv, wp]
    refine ⟨fun _ => k1 w2 (e.trans e2), fun h => ?_⟩
    have h := of_decide_eq_false h
    refine ⟨⟨p + 1, q + 1 + v, rfl, rfl, by omega, by omega, by omega, fun y hy => ?_, e.trans e2⟩, by show _ - _ < _ - _; omega⟩
    rw [List.take_add_one, ho] at hy
    rcases List.mem_append.1 hy with hy | hy
    · exact hg y hy
    · have : y = o := by simpa using hy
      subst this; omega
  · have hi := of_decide_eq_false hi
    rw [List.take_of_length_le (by omega)] at hg
    exact k0 w1 e (by omega) hg

theorem law_LanePlays (x0 : Int) (x1 : T_api_Config) (x2 : Slc) (w : World) (h0 : (-9223372036854775808) ≤ x0 ∧ x0 ≤ 9223372036854775807) (h1 : Ok_T_api_Config w x1) (h2 : OkSl w x2 3 40 (fun es => ∃ e_ : T_towpathlaw14_Op, es = opL e_ ∧ (Ok_T_towpathlaw14_Op w e_))) :
    C_towpathlaw14_LanePlays x0 x1 x2 w (fun b w' => b = true ∧ RowKit.Below w.heap.size w w') := by
  apply S_towpathlaw14_LanePlays
  unfold F_towpathlaw14_LanePlays
  obtain ⟨ops, hs, hcl, hcap, hlen, hok⟩ := ok_list (f := opL) h2 (fun es ⟨e, h, h'⟩ => ⟨e, h, h'⟩) (fun _ => rfl) (by decide)
  intro b w1 hb hw
  have st : St w ([(b, cfgV x1)] ++ []) w1 := (St.start w).alloc hb hw
  refine sp_beyondL st.ext hs (by omega) hok (fun w2 e2 => ⟨fun _ => ⟨rfl, (st.keep e2).below⟩, fun h => (by cases h)⟩) fun w2 e2 hsl hwl => ⟨fun h => (by cases h), fun _ => ?_⟩
  have st := st.keep e2
  refine ⟨x1, (st.get 0 rfl).all, sp_lane_New st fun g bl w3 oL hgn st => ⟨x1, (st.drop.get 0 rfl).all, sp_rl_New st fun r br w4 oR hrn st => ⟨fun h => by simp at h, fun _ => ?_⟩⟩⟩
  rw [hgn, hrn, beq_self_eq_true]
  generalize (newM x0 x1).1 = m at oL oR
  unfold F_towpathlaw14_LanePlays_k0
  refine ⟨fun h => (by cases h), fun _ b1 w6 hb1 hw6 => ?_⟩
  have st : St w ([(b1, laneC 0 ⟨0, 0, 0, 0⟩ .nilIface)] ++ (br ++ (bl ++ ([(b, cfgV x1)] ++ [])))) w6 := st.alloc hb1 hw6
  have st : St w (bl ++ (br ++ ([(b1, laneC 0 ⟨0, 0, 0, 0⟩ .nilIface)] ++ []))) w6 := by
    have h := (St.swap3 st)
    have h2 : St w ((bl ++ ([(b1, laneC 0 ⟨0, 0, 0, 0⟩ .nilIface)] ++ br)) ++ ([(b, cfgV x1)] ++ [])) w6 := by simpa using h
    have h3 : St w (bl ++ ([(b1, laneC 0 ⟨0, 0, 0, 0⟩ .nilIface)] ++ br)) w6 := h2.sub (List.sublist_append_left _ _)
    refine h3.perm ?_
    simp only [List.append_nil]
    exact List.Perm.append_left bl List.perm_append_comm
  refine ⟨fun i w' => ∃ (p : Nat) (m : Ln) (bl br zb : List Chunk), i = (p : Int) ∧ p ≤ x2.len ∧ LnO g m bl ∧ RfO r m br ∧ LnO (some ⟨b1, 0, none⟩) none zb ∧ St w (bl ++ (br ++ (zb ++ []))) w', fun i _ => x2.len - i.toNat, ⟨0, m, bl, br, _, rfl, by omega, oL, oR, .zero b1, st⟩, ?_⟩
  rintro i w7 ⟨p, m, bl, br, zb, rfl, hp, oL, oR, oZ, st⟩
  unfold F_towpathlaw14_LanePlays_L1
  refine ⟨fun hi => ?_, fun hi => ?_⟩
  · have hi := of_decide_eq_true hi
    have at_ : ∀ {l : List Chunk} {w' : World}, St w l w' → IsAt x2.ptr ∧ ∃ o, ops[p]? = some o ∧ CellsAt w' (pblk x2.ptr) (poff x2.ptr + ((p : Int)).toNat * 3) (opL o) := fun st => by
      obtain ⟨a, o, ho, hc⟩ := SrcAt.getN (st.ext.src hs) (fun _ => rfl) (by decide) (i := (p : Int)) (by omega) hi
      exact ⟨a, o, by rw [Int.toNat_natCast] at ho; exact ho, hc⟩
    have wp : IntKind.i64.wrap ((p : Int) + 1) = ((p + 1 : Nat) : Int) := by rw [i64_in _ (by omega) (by omega)]; omega
    obtain ⟨a, o, ho, hc⟩ := at_ st
    obtain ⟨ws, hws, hwc, hwcap, hwk⟩ := writes_in2 (hok o (List.mem_of_getElem? ho)).2
    have hwl' := hwl o (List.mem_of_getElem? ho)
    refine ⟨a, by omega, hi, o, hc, sp_asked oL oR st hws (by omega) hwc fun m' bl' br' w9 oL' oR' hm st => ⟨fun h => (by cases h), fun _ => ?_⟩⟩
    obtain ⟨a2, o2, ho2, hc2⟩ := at_ st
    obtain rfl : o = o2 := by rw [ho] at ho2; exact Option.some.inj ho2
    refine ⟨a2, by omega, hi, o, hc2, sp_asked (bl := zb) (br := []) (fr := bl' ++ (br' ++ [])) oZ .nil (St.swap3 (a := bl') (b := br') st) hws (by omega) hwc fun m2 zb' nb w10 oZ' oN hm2 st => ?_⟩
    unfold F_towpathlaw14_LanePlays_k2
    rw [wp]
    refine ⟨fun h => (by cases h), fun _ => ⟨⟨p + 1, m', bl', br', zb', rfl, by omega, oL', oR', ?_, ?_⟩, by show _ - _ < _ - _; omega⟩⟩
    · have : m2 = none := by cases m2 with
        | none => rfl
        | some x => cases hm2
      subst this; exact oZ'
    · have h : St w (zb' ++ (bl' ++ (br' ++ []))) w10 := (St.skip2 st)
      exact St.back3 (a := bl') (b := br') h
  · have hz : SrcAt w (Slc.mk none 0 0) 3 (([] : List Wr).flatMap wV) := ⟨rfl, .inl rfl⟩
    exact sp_asked oL oR st hz (by show 0 ≤ _; omega) (by show 0 ≤ 0; omega) fun m' bl' br' w9 oL' oR' hm st => ⟨rfl, st.below⟩
end Go.Proofs.Ytfmkemmgakdddaa
