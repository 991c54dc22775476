/- Chapter 08: the document's Dump. -/
import Derived.Test.YtcgfmkpddhhmgaaDoorURefChainN
import Derived.Test.YtcgfmkpddhhmgaaDoorUChainD
namespace Go.Proofs.YtcgfmkpddhhmgaaDoor
open Go
set_option linter.unusedVariables false

section
variable {w0 w : World} {fr : List Chunk}
theorem dumpR_in {l bey : Slc} {vs pre : List Ver} {ys : List Int} {p : Nat} {v : Ver} {out : Slc} {ob : List Chunk} {again_ : Slc → Int → World → Prop} (hv : vs[p]? = some v) (ro : RowC 3 out (pre.flatMap verC) ob) (st : St w0 (ob ++ fr) w) (hl : l.len ≤ 1099511627776) (hbl : bey.len ≤ 1099511627776) (hol : out.len ≤ 2199023255552)
    (hs : ∀ {l' : List Chunk} {w' : World}, St w0 (l' ++ fr) w' → SrcAt w' l 3 (vs.flatMap verC)) (hb : ∀ {l' : List Chunk} {w' : World}, St w0 (l' ++ fr) w' → SrcAt w' bey 1 (ys.map iV))
    (hag : ∀ out' ob' w', RowC 3 out' ((pre ++ [v].filter fun v => decide (v.Number ∈ ys)).flatMap verC) ob' → St w0 (ob' ++ fr) w' → out'.len ≤ out.len + 1 → again_ out' ((p + 1 : Nat) : Int) w') :
    ∃ (I : Slc → Int → World → Prop) (μ : Slc → Int → World → Nat), I out 0 w ∧ ∀ (out3 : Slc) (n_ : Int) w, I out3 n_ w → F_towpathref08_Dump_L3 l bey (p : Int) again_ (fun (out3' : Slc) (n_' : Int) w' => I out3' n_' w' ∧ μ out3' n_' w' < μ out3 n_ w) out3 n_ w := by
  have hsl := ver_len (hs st)
  have hbs := (hb st).len_eq
  have hpl := (List.getElem?_eq_some_iff.1 hv).1
  have wp : IntKind.i64.wrap ((p : Int) + 1) = ((p + 1 : Nat) : Int) := by rw [i64_in _ (by omega) (by omega)]; omega
  refine ⟨fun o n w' => o = out ∧ ∃ q : Nat, n = (q : Int) ∧ q ≤ bey.len ∧ v.Number ∉ ys.take q ∧ St w0 (ob ++ fr) w', fun _ n _ => bey.len - n.toNat, ⟨rfl, 0, rfl, by omega, by simp, st⟩, ?_⟩
  clear st
  rintro o n w1 ⟨rfl, q, rfl, hq, hno, st⟩
  unfold F_towpathref08_Dump_L3 F_towpathref08_Dump_k2
  rw [wp]
  refine ⟨fun hi => ?_, fun hi => ?_⟩
  · have hi := of_decide_eq_true hi
    obtain ⟨a, y, hy, hc⟩ := (hb st).get (i := (q : Int)) (by omega) hi
    rw [Int.toNat_natCast] at hy
    obtain ⟨a2, v2, hv2, hc2⟩ := ver_at (hs st) (i := p) (by omega)
    obtain rfl : v = v2 := by rw [hv] at hv2; exact Option.some.inj hv2
    have wq : IntKind.i64.wrap ((q : Int) + 1) = ((q + 1 : Nat) : Int) := by rw [i64_in _ (by omega) (by omega)]; omega
    rw [wq]
    refine ⟨a, by omega, hi, y, hc, a2, by omega, by omega, v.Number, by rw [Int.toNat_natCast]; exact cell0 hc2, fun w7 e7 => ⟨fun he => ?_, fun he => ?_⟩⟩
    · have he : y = v.Number := by simpa using he
      have st := st.keep e7
      obtain ⟨a3, v3, hv3, hc3⟩ := ver_at (hs st) (i := p) (by omega)
      obtain rfl : v = v3 := by rw [hv] at hv3; exact Option.some.inj hv3
      refine ⟨a3, by omega, by omega, v, by rw [Int.toNat_natCast]; exact hc3, fun b w8 hb8 hw8 => ⟨verC v, srcAt_newN hb8 hw8 rfl, ?_⟩⟩
      refine ro.append (st.keep (Ext.new hw8)) rfl rfl rfl (by show (_ + 1) * 32 ≤ _; omega) fun o' ob' w9 ro' st' hl' => ?_
      refine hag o' ob' w9 ?_ st' (by omega)
      rw [List.filter_cons, if_pos (decide_eq_true (he ▸ List.mem_of_getElem? hy)), List.filter_nil, List.flatMap_append, flatMap_1]
      exact ro'
    · have he : y ≠ v.Number := by simpa using he
      refine ⟨⟨rfl, q + 1, rfl, by omega, ?_, st.keep e7⟩, by show _ - _ < _ - _; omega⟩
      rw [List.take_add_one, hy, List.mem_append]
      rintro (h | h)
      · exact hno h
      · have h : v.Number = y := by simpa using h
        exact he h.symm
  · have hi := of_decide_eq_false hi
    rw [List.take_of_length_le (by omega)] at hno
    refine hag _ ob w1 ?_ st (by omega)
    rw [List.filter_cons, if_neg (by simpa using hno), List.filter_nil, List.append_nil]
    exact ro

theorem dumpR_loop {l bey : Slc} {at_ : Int} {vs out0 : List Ver} {ys : List Int} {out : Slc} {ob : List Chunk} {R : Slc → Int → World → Prop} (ro : RowC 3 out (out0.flatMap verC) ob) (st : St w0 (ob ++ fr) w) (hlen : l.len = vs.length) (hl : l.len ≤ 1099511627776) (hbl : bey.len ≤ 1099511627776) (hol : out.len ≤ 1)
    (hs : ∀ {l' : List Chunk} {w' : World}, St w0 (l' ++ fr) w' → SrcAt w' l 3 (vs.flatMap verC)) (hb : ∀ {l' : List Chunk} {w' : World}, St w0 (l' ++ fr) w' → SrcAt w' bey 1 (ys.map iV))
    (k : ∀ s rb w', RowC 3 s ((out0 ++ (vs.drop (upF at_ vs)).filter fun v => decide (v.Number ∈ ys)).flatMap verC) rb → St w0 (rb ++ fr) w' → s.len ≤ vs.length + 1 → R s 0 w') : F_towpathref08_Dump_k0 l bey R (((upF at_ vs : Nat) : Int) - 1) out w := by
  have hu := upF_le at_ vs
  unfold F_towpathref08_Dump_k0
  rw [show IntKind.i64.wrap ((((upF at_ vs : Nat) : Int) - 1) + 1) = ((upF at_ vs : Nat) : Int) from by rw [i64_in _ (by omega) (by omega)]; omega]
  refine ⟨fun out i w' => ∃ (q : Nat) (ob : List Chunk), i = ((upF at_ vs + q : Nat) : Int) ∧ upF at_ vs + q ≤ l.len ∧ out.len ≤ 1 + q ∧ RowC 3 out ((out0 ++ ((vs.drop (upF at_ vs)).take q).filter fun v => decide (v.Number ∈ ys)).flatMap verC) ob ∧ St w0 (ob ++ fr) w', fun _ i _ => l.len - i.toNat, ⟨0, ob, rfl, by omega, by omega, by simpa using ro, st⟩, ?_⟩
  clear st ro
  rintro out1 i w1 ⟨q, ob, rfl, hq, hol, ro, st⟩
  unfold F_towpathref08_Dump_L1
  refine ⟨fun hi => ?_, fun hi => ?_⟩
  · have hi := of_decide_eq_true hi
    obtain ⟨v, hv⟩ : ∃ v, vs[upF at_ vs + q]? = some v := ⟨_, List.getElem?_eq_getElem (by omega)⟩
    refine dumpR_in hv ro st hl hbl (by omega) hs hb fun out' ob' w' ro' st' hl' => ?_
    refine ⟨⟨q + 1, ob', rfl, by omega, by omega, ?_, st'⟩, by show _ - _ < _ - _; omega⟩
    rw [List.take_add_one, List.getElem?_drop, hv, show (some v).toList = [v] from rfl, List.filter_append, ← List.append_assoc]
    exact ro'
  · have hi := of_decide_eq_false hi
    rw [List.take_of_length_le (by rw [List.length_drop]; omega)] at ro
    exact k out1 ob w1 ro st (by omega)

theorem sp_ref_Dump {l bey : Slc} {at_ : Int} {vs : List Ver} {ys : List Int} {R : Slc → Int → World → Prop} (st : St w0 fr w) (hl : l.len ≤ 1099511627776) (hbl : bey.len ≤ 1099511627776)
    (hs : ∀ {l' : List Chunk} {w' : World}, St w0 (l' ++ fr) w' → SrcAt w' l 3 (vs.flatMap verC)) (hb : ∀ {l' : List Chunk} {w' : World}, St w0 (l' ++ fr) w' → SrcAt w' bey 1 (ys.map iV))
    (k0 : okC 0 vs = false → ∀ w', St w0 fr w' → R ⟨none, 0, 0⟩ 1 w')
    (k1 : okC 0 vs = true → ∀ s rb w', RowC 3 s ((dumpV at_ ys vs).flatMap verC) rb → St w0 (rb ++ fr) w' → s.len ≤ vs.length + 1 → R s 0 w') : C_towpathref08_Dump l at_ bey w R := by
  apply S_towpathref08_Dump
  unfold F_towpathref08_Dump
  have hsl := ver_len (hs (l' := []) st)
  refine sp_ref_Check (hs (l' := []) st) (by omega) fun w2 e2 => ?_
  have st := st.keep e2
  cases hok : okC 0 vs with
  | false => exact ⟨fun _ => k0 hok w2 st, fun h => by simp at h⟩
  | true =>
    have hr := (okC_iff.1 hok).1
    have hu := upF_le at_ vs
    have k1 := k1 hok
    refine ⟨fun h => by simp at h, fun _ => sp_ref_newest (hs (l' := []) st) (by omega) hr ?_⟩
    have empty : headV at_ vs = [] → F_towpathref08_Dump_k4 l bey R (((upF at_ vs : Nat) : Int) - 1) false w2 := fun he => by
      unfold F_towpathref08_Dump_k4
      refine ⟨fun h => (by cases h), fun _ => dumpR_loop (out0 := []) (ob := []) RowC.nil st (by omega) hl hbl (by show 0 ≤ 1; omega) hs hb fun s rb w' ro st hl' => k1 s rb w' ?_ st hl'⟩
      unfold dumpV; rw [he]; exact ro
    refine ⟨fun h => ?_, fun h => ?_⟩
    · have h := of_decide_eq_true h
      obtain ⟨a, u, hv, hc⟩ := ver_at (hs (l' := []) st) (i := upF at_ vs - 1) (by omega)
      have hat : atV at_ vs = some u := by unfold atV; rw [if_neg (by omega), hv]
      have tn : (((upF at_ vs : Nat) : Int) - 1).toNat = upF at_ vs - 1 := by omega
      refine ⟨a, by omega, by omega, u.Drop, by rw [tn]; exact cellsAt_iff.1 hc 2 _ rfl, ?_⟩
      cases hd : u.Drop with
      | true => exact empty (by unfold headV; simp [hat, hd])
      | false =>
        unfold F_towpathref08_Dump_k4
        refine ⟨fun _ => ?_, fun h => (by cases h)⟩
        refine ⟨a, by omega, by omega, u, by rw [tn]; exact hc, fun b2 w12 hb2 hw12 => ⟨_, srcAt_newN hb2 hw12 rfl, ?_⟩⟩
        have st : St w0 fr w12 := st.keep (Ext.new hw12)
        refine RowC.nil.append (l := fr) st rfl rfl rfl (by show (0 + 1) * 32 ≤ _; omega) fun out2 ob2 w10 ro2 st hl2 => ?_
        have hl2 : out2.len = 1 := hl2
        refine dumpR_loop (out0 := [u]) (by rw [flatMap_1]; exact ro2) st (by omega) hl hbl (by omega) hs hb fun s rb w' ro st hl' => k1 s rb w' ?_ st hl'
        have : headV at_ vs = [u] := by unfold headV; simp [hat, hd]
        unfold dumpV; rw [this]; exact ro
    · have h := of_decide_eq_false h
      exact empty (by unfold headV atV; rw [if_pos (by omega)])
end
end Go.Proofs.YtcgfmkpddhhmgaaDoor
