/- The verifier's book of lists: Version. Each list is of memory of its own: marks are written into all, more is put behind each, and each reads as it should. -/
import Derived.Test.YtcgfmkpddhhmgaaDoorUBookBase
import Derived.Test.YtcgfmkpddhhmgaaDoorGtowpathlaw01
namespace Go.Proofs.YtcgfmkpddhhmgaaDoor
open Go
set_option linter.unusedVariables false
abbrev cel_Version (v : T_api_Version) : List Value := [iV v.Number, Value.string v.Val, Value.bool v.Drop]
abbrev markV_Version (n : Int) : T_api_Version := ⟨IntKind.i64.wrap ((-1000) - n), ByteArray.empty, false⟩
theorem cel_Version_len (x : T_api_Version) : (cel_Version x).length = 3 := rfl

/-! ### Version -/
def Kept_Version (it : Item) : Prop := it.l.len ≤ 1099511627776 ∧ ∃ xs, RowC 3 it.l xs it.cs
def Filled_Version (it : Item) : Prop := it.l.len ≤ 1099511627776 ∧ RowC 3 it.l ((List.replicate it.l.len (markV_Version it.n)).flatMap cel_Version) it.cs
def Grown_Version (k : Nat) (it : Item) (long : Slc) : Prop :=
  it.l.len ≤ 1099511627776 ∧ long.len = it.l.len + k ∧ ∃ c1 c2, it.cs = c1 ++ c2 ∧ RowC 3 long ((List.replicate (it.l.len + k) (markV_Version it.n)).flatMap cel_Version) c1 ∧
    (long.ptr = it.l.ptr ∨ ∀ w0 l w, St w0 (c2 ++ l) w → SrcAt w it.l 3 ((List.replicate it.l.len (markV_Version it.n)).flatMap cel_Version))
def Long_Version (it : Item) : Prop := Grown_Version 70 it it.long
section
variable {w0 w : World} {l cs : List Chunk} {C : List Value} {b : Nat} {n : Int} {t : Slc} {its : List Item}

theorem sp_mark_Version {R : T_api_Version → World → Prop} (k : ∀ w', Ext w w' → R (markV_Version n) w') : C_towpathlaw01_markVersion n w R := by
  apply S_towpathlaw01_markVersion
  unfold F_towpathlaw01_markVersion
  intro b w1 hb hw
  have st := (St.start w).alloc hb hw
  refine ⟨st.writable 0 rfl (by simp), fun w2 hw2 => ?_⟩
  have st : St w [(b, cel_Version (markV_Version n))] w2 := st.put0 hw2
  exact ⟨markV_Version n, (st.get 0 rfl).all, k w2 st.ext⟩
theorem sp_is_Version : C_towpathlaw01_isVersion (markV_Version n) n w (fun (v44' : Bool) w'' => v44' = true ∧ Ext w w'') := by
  apply S_towpathlaw01_isVersion
  unfold F_towpathlaw01_isVersion
  intro b w1 hb hw
  have st := (St.start w).alloc hb hw
  refine ⟨markV_Version n, (st.get 0 rfl).all, ?_, st.ext⟩
  simp
  decide

theorem sp_keep_Version {s : Slc} {xs : List Value} {sc : List Chunk} {R : World → Prop} (o : KindO t its Kept_Version cs) (r : RowC 3 s xs sc) (st : St w0 ((b, C) :: (cs ++ (sc ++ l))) w) (hC0 : C[0]? = some (iV n)) (hCt : C[6]? = some (slV t))
    (hn : 0 ≤ n ∧ n ≤ 2000000) (hl : its.length ≤ 2000000) (hs : s.len ≤ 1099511627776) (k : ∀ t' its' cs' w', KindO t' its' Kept_Version cs' → its'.length = its.length + 1 → St w0 ((b, (C.set 0 (iV (n + 1))).set 6 (slV t')) :: (cs' ++ l)) w' → R w') : C_towpathlaw01_Book_keepVersion (some ⟨b, 0, none⟩) s w R := by
  apply S_towpathlaw01_Book_keepVersion
  unfold F_towpathlaw01_Book_keepVersion
  have htl := o.len
  obtain ⟨tb, ro, rfl, hph⟩ := o
  have wn : IntKind.i64.wrap (n + 1) = n + 1 := i64_in _ (by omega) (by omega)
  have hCl : 6 < C.length := (List.getElem?_eq_some_iff.1 hCt).1
  refine ⟨rfl, n, st.cell 0 rfl hC0, st.writable 0 rfl (by show 0 + 1 ≤ _; omega), fun w1 hw1 w2 e2 => ?_⟩
  rw [wn] at hw1
  have st := (st.put0 hw1).drew e2
  have e0 : putL (poff (some ⟨b, 0, none⟩ : Option Addr)) [iV (n + 1)] C = C.set 0 (iV (n + 1)) := putL_one ..
  rw [e0] at st
  have hCt' : (C.set 0 (iV (n + 1)))[6]? = some (slV t) := by rw [List.getElem?_set_ne (by decide)]; exact hCt
  have hC0' : (C.set 0 (iV (n + 1)))[0]? = some (iV (n + 1)) := List.getElem?_set_self (by omega)
  have hCt'' : (C.set 0 (iV (n + 1)))[0 + 6]? = some (slV t) := by rw [Nat.zero_add]; exact hCt'
  refine ⟨rfl, t, st.cell 0 rfl hCt'', rfl, n + 1, st.cell 0 rfl hC0', fun b1 w3 hb1 hw3 => ?_⟩
  have st := st.alloc hb1 hw3
  refine ⟨st.cell 1 rfl hCt'', _, srcAt_newN hb1 hw3 rfl, ?_⟩
  have st : St w0 (tb ++ ((b, C.set 0 (iV (n + 1))) :: (itsC its ++ (sc ++ l)))) w3 := by
    have h : St w0 ((b, C.set 0 (iV (n + 1))) :: (tb ++ (itsC its ++ (sc ++ l)))) w3 := by have := st.drop1; simpa using this
    exact h.mid
  refine ro.append st rfl rfl rfl (by rw [htl]; omega) fun t' tb' w4 ro' st hlen => ?_
  have st := st.unmid
  refine ⟨rfl, st.writable 0 rfl (by rw [List.length_set]; show 0 + 6 + 1 ≤ _; omega), fun w5 hw5 => ?_⟩
  have st := st.put0 hw5
  have e1 : putL (poff (some ⟨b, 0, none⟩ : Option Addr) + 6) [slV t'] (C.set 0 (iV (n + 1))) = (C.set 0 (iV (n + 1))).set 6 (slV t') := by rw [putL_one]; rw [show poff (some ⟨b, 0, none⟩ : Option Addr) + 6 = 6 from Nat.zero_add _]
  rw [e1] at st
  refine k t' (its ++ [⟨s, ⟨none, 0, 0⟩, n + 1, sc⟩]) (tb' ++ itsC (its ++ [⟨s, ⟨none, 0, 0⟩, n + 1, sc⟩])) w5 ⟨tb', ?_, rfl, fun it hit => ?_⟩ (by simp) ?_
  · rw [List.flatMap_append]; exact ro'
  · rcases List.mem_append.1 hit with hit | hit
    · exact hph it hit
    · rw [List.mem_singleton] at hit
      rw [hit]
      exact ⟨hs, xs, r⟩
  · rw [itsC_mid its _ []]
    unfold itsC at st ⊢
    simpa using st

theorem sp_fill_Version {R : World → Prop} (o : KindO t its Kept_Version cs) (st : St w0 ((b, C) :: (cs ++ l)) w) (hCt : C[0 + 6]? = some (slV t)) (hm : its.length ≤ 2000000)
    (k : ∀ its' cs' w', KindO t its' Filled_Version cs' → its'.length = its.length → St w0 ((b, C) :: (cs' ++ l)) w' → R w') : C_towpathlaw01_Book_fillVersion (some ⟨b, 0, none⟩) w R := by
  apply S_towpathlaw01_Book_fillVersion
  unfold F_towpathlaw01_Book_fillVersion
  generalize hml : its.length = m at *
  refine ⟨fun i w' => ∃ (j : Nat) (cs : List Chunk), i = (j : Int) ∧ j ≤ m ∧ KindI t m j Kept_Version Filled_Version cs ∧ St w0 ((b, C) :: (cs ++ l)) w', fun i _ => m - i.toNat, ⟨0, cs, rfl, by omega, by rw [← hml]; exact KindI.start o, st⟩, ?_⟩
  clear o st
  rintro i w1 ⟨j, cs, rfl, hj, o, st⟩
  unfold F_towpathlaw01_Book_fillVersion_L0
  have htl := o.len
  refine ⟨rfl, t, st.cell 0 rfl hCt, fun h => ?_, fun h => ?_⟩
  · have h := of_decide_eq_true h
    obtain ⟨d, it, r, tb, h1, h2, ro, h3, ⟨hlen, xs, hx⟩, h4, ha, hc, sti⟩ := o.at_ st (by omega)
    refine ⟨rfl, t, st.cell 0 rfl hCt, ha, by omega, h, ⟨it.l, it.long, it.n⟩, ?_, fun b1 w2 hb1 hw2 => ?_⟩
    · rw [Int.toNat_natCast]; exact hc
    have st := sti.alloc hb1 hw2
    clear sti
    refine ⟨st.writable 0 rfl (by simp), fun w3 hw3 => ?_⟩
    have st := st.put0 hw3
    have st : St w0 ((b1, itemCells it) :: (it.cs ++ (((b, C) :: tb) ++ ((itsC d ++ itsC r) ++ l)))) w3 := st
    refine ⟨fun k w' => ∃ (q : Nat) (ys : List Value) (cs : List Chunk), k = (q : Int) ∧ q ≤ it.l.len ∧ RowC 3 it.l ((List.replicate q (markV_Version it.n)).flatMap cel_Version ++ ys) cs ∧ St w0 ((b1, itemCells it) :: (cs ++ (((b, C) :: tb) ++ ((itsC d ++ itsC r) ++ l)))) w', fun k _ => it.l.len - k.toNat, ⟨0, xs, it.cs, rfl, by omega, by simpa using hx, st⟩, ?_⟩
    clear st
    rintro k4 w4 ⟨q, ys, cs, rfl, hq, hr, st⟩
    unfold F_towpathlaw01_Book_fillVersion_L1
    refine ⟨it.l, st.cell 0 rfl rfl, fun hk => ?_, fun hk => ?_⟩
    · have hk := of_decide_eq_true hk
      intro w5 e5
      have st := st.drew e5
      refine ⟨it.l, st.cell 0 rfl rfl, it.n, st.cell 0 rfl rfl, sp_mark_Version fun w6 e6 => ?_⟩
      have st := st.keep e6
      refine ⟨st.cell 0 rfl rfl, ?_⟩
      have hqs : (q + 1) * 3 ≤ it.l.len * 3 := Nat.mul_le_mul_right _ (by omega)
      obtain ⟨a, wr, hset⟩ := hr.putN (l := (b1, itemCells it) :: (((b, C) :: tb) ++ ((itsC d ++ itsC r) ++ l))) (vs := cel_Version (markV_Version it.n)) (i := q * 3) st.mid (by rw [cel_Version_len]; decide) (by rw [cel_Version_len]; omega)
      rw [cel_Version_len] at wr hset
      skip
      refine ⟨a, by omega, hk, ?_, fun w7 hw7 => ?_⟩
      · rw [Int.toNat_natCast]; exact wr
      rw [Int.toNat_natCast] at hw7
      obtain ⟨cs', hr', st⟩ := hset w7 hw7
      have wq : IntKind.i64.wrap ((q : Int) + 1) = ((q + 1 : Nat) : Int) := by rw [i64_in _ (by omega) (by omega)]; omega
      rw [wq]
      have hrl : ((List.replicate q (markV_Version it.n)).flatMap cel_Version).length = q * 3 := rep_len cel_Version_len q _
      refine ⟨⟨q + 1, ys.drop 3, cs', rfl, by omega, ?_, st.unmid⟩, by show _ - _ < _ - _; omega⟩
      skip
      rw [List.take_left' hrl, rep_succ, List.drop_append, hrl, List.drop_eq_nil_of_le (by omega), List.nil_append, show q * 3 + 3 - q * 3 = 3 from by omega] at hr'
      exact hr'
    · have hk := of_decide_eq_false hk
      have hqe : q = it.l.len := by omega
      subst hqe
      have hr := hr.trimB (rep_len cel_Version_len _ _)
      have wj : IntKind.i64.wrap ((j : Int) + 1) = ((j + 1 : Nat) : Int) := by rw [i64_in _ (by omega) (by omega)]; omega
      rw [wj]
      obtain ⟨cs', o', st'⟩ := KindI.next (it := ⟨it.l, it.long, it.n, cs⟩) (Ph := Kept_Version) (Ph' := Filled_Version) h1 h2 (by simpa [itemCells] using ro) h3 ⟨hlen, hr⟩ h4 st.drop1
      exact ⟨⟨j + 1, cs', rfl, by omega, o', st'⟩, by show _ - _ < _ - _; omega⟩
  · have h := of_decide_eq_false h
    have : j = m := by omega
    subst this
    obtain ⟨its', hl', o'⟩ := o.done
    exact k its' cs _ o' hl' st

theorem sp_grow_Version {R : World → Prop} (o : KindO t its Filled_Version cs) (st : St w0 ((b, C) :: (cs ++ l)) w) (hCt : C[0 + 6]? = some (slV t)) (hm : its.length ≤ 2000000)
    (k : ∀ its' cs' w', KindO t its' Long_Version cs' → its'.length = its.length → St w0 ((b, C) :: (cs' ++ l)) w' → R w') : C_towpathlaw01_Book_growVersion (some ⟨b, 0, none⟩) w R := by
  apply S_towpathlaw01_Book_growVersion
  unfold F_towpathlaw01_Book_growVersion
  generalize hml : its.length = m at *
  refine ⟨fun i w' => ∃ (j : Nat) (cs : List Chunk), i = (j : Int) ∧ j ≤ m ∧ KindI t m j Filled_Version Long_Version cs ∧ St w0 ((b, C) :: (cs ++ l)) w', fun i _ => m - i.toNat, ⟨0, cs, rfl, by omega, by rw [← hml]; exact KindI.start o, st⟩, ?_⟩
  clear o st
  rintro i w1 ⟨j, cs, rfl, hj, o, st⟩
  unfold F_towpathlaw01_Book_growVersion_L0
  have htl := o.len
  refine ⟨rfl, t, st.cell 0 rfl hCt, fun h => ?_, fun h => ?_⟩
  · have h := of_decide_eq_true h
    obtain ⟨d, it, r, tb, h1, h2, ro, h3, ⟨hlen, hx⟩, h4, ha, hc, sti⟩ := o.at_ st (by omega)
    refine ⟨rfl, t, st.cell 0 rfl hCt, ha, by omega, h, ⟨it.l, it.long, it.n⟩, ?_, fun b1 w2 hb1 hw2 => ?_⟩
    · rw [Int.toNat_natCast]; exact hc
    have st := sti.alloc hb1 hw2
    clear sti
    refine ⟨st.writable 0 rfl (by simp), fun w3 hw3 => ?_⟩
    have st := st.put0 hw3
    have st : St w0 ((b1, itemCells it) :: (it.cs ++ (((b, C) :: tb) ++ ((itsC d ++ itsC r) ++ l)))) w3 := st
    refine ⟨it.l, st.cell 0 rfl rfl, fun long k w' => ∃ (q : Nat) (cs : List Chunk), k = (q : Int) ∧ q ≤ 70 ∧ Grown_Version q ⟨it.l, long, it.n, cs⟩ long ∧ St w0 ((b1, itemCells it) :: (cs ++ (((b, C) :: tb) ++ ((itsC d ++ itsC r) ++ l)))) w', fun _ k _ => 70 - k.toNat, ⟨0, it.cs, rfl, by omega, ⟨hlen, rfl, it.cs, [], by simp, hx, .inl rfl⟩, st⟩, ?_⟩
    clear st
    rintro long k4 w4 ⟨q, cs, rfl, hq, hg, st⟩
    unfold F_towpathlaw01_Book_growVersion_L1
    refine ⟨fun hk => ?_, fun hk => ?_⟩
    · have hk := of_decide_eq_true hk
      refine ⟨it.n, st.cell 0 rfl rfl, sp_mark_Version fun w5 e5 b2 w6 hb2 hw6 => ?_⟩
      have st := ((st.keep e5).alloc hb2 hw6).drop1
      refine ⟨_, srcAt_newN hb2 hw6 rfl, ?_⟩
      have wq : IntKind.i64.wrap ((q : Int) + 1) = ((q + 1 : Nat) : Int) := by rw [i64_in _ (by omega) (by omega)]; omega
      rw [wq]
      obtain ⟨_, hll, c1, c2, hcs, hg, hor⟩ := hg
      have hll : long.len = it.l.len + q := hll
      have hcs : cs = c1 ++ c2 := hcs
      subst hcs
      have st : St w0 (c1 ++ (c2 ++ ((b1, itemCells it) :: (((b, C) :: tb) ++ ((itsC d ++ itsC r) ++ l))))) w6 := by have := st.mid; rwa [List.append_assoc] at this
      refine hg.appendK (by_ := 32) st rfl (by omega) rfl rfl (by rw [hll]; omega) fun s' bs' l' w7 hr7 st hl7 hcase => ?_
      have hr7 : RowC 3 s' ((List.replicate (it.l.len + q) (markV_Version it.n)).flatMap cel_Version ++ cel_Version (markV_Version it.n)) bs' := hr7
      rw [rep_succ] at hr7
      have st : St w0 ((b1, itemCells it) :: ((bs' ++ (l' ++ c2)) ++ (((b, C) :: tb) ++ ((itsC d ++ itsC r) ++ l)))) w7 := by
        refine St.unmid ?_
        simpa only [List.append_assoc] using st
      refine ⟨⟨q + 1, bs' ++ (l' ++ c2), rfl, by omega, ⟨hlen, by show s'.len = it.l.len + (q + 1); omega, bs', l' ++ c2, rfl, hr7, ?_⟩, st⟩, by show _ - _ < _ - _; omega⟩
      rcases hcase with ⟨hp7, rfl⟩ | hb7
      · rcases hor with hp | hsrc
        · exact .inl (hp7.trans hp)
        · exact .inr hsrc
      · have hb7' : l' = c1 := hb7
        subst hb7'
        refine .inr fun w0 l w st => ?_
        rw [List.append_assoc] at st
        rcases hor with hp | hsrc
        · exact rep_src cel_Version_len (hg.src st) hp rfl (by show it.l.len ≤ it.l.len + q; omega) hll
        · exact hsrc w0 l w st.drop
    · have hk := of_decide_eq_false hk
      obtain rfl : q = 70 := by omega
      have hcell : w4.cell? ⟨b, 0 + 6, none⟩ = some (slV t) := st.drop1.drop.cell 0 rfl hCt
      have st : St w0 (tb ++ ((b, C) :: (cs ++ ((itsC d ++ itsC r) ++ l)))) w4 := by
        have h := st.drop1.swap
        exact St.mid h
      have hlt : j * 3 + 1 < t.len * 3 := by omega
      obtain ⟨a, wr, hset⟩ := ro.setN (v := slV long) (i := j * 3 + 1) st hlt
      refine ⟨rfl, t, hcell, a, by omega, h, ?_, fun w8 hw8 => ?_⟩
      · rw [Int.toNat_natCast, Nat.add_assoc]; exact wr
      rw [Int.toNat_natCast, Nat.add_assoc] at hw8
      obtain ⟨tb', ro', st⟩ := hset w8 hw8
      rw [tab_set (cs := cs) h1] at ro'
      have wj : IntKind.i64.wrap ((j : Int) + 1) = ((j + 1 : Nat) : Int) := by rw [i64_in _ (by omega) (by omega)]; omega
      rw [wj]
      have st : St w0 (cs ++ (((b, C) :: tb') ++ ((itsC d ++ itsC r) ++ l))) w8 := by
        have h : St w0 (((b, C) :: tb') ++ (cs ++ ((itsC d ++ itsC r) ++ l))) w8 := St.unmid st
        exact h.swap
      obtain ⟨cs', o', st'⟩ := KindI.next (it := ⟨it.l, long, it.n, cs⟩) (Ph := Filled_Version) (Ph' := Long_Version) h1 h2 ro' h3 hg h4 st
      exact ⟨⟨j + 1, cs', rfl, by omega, o', st'⟩, by show _ - _ < _ - _; omega⟩
  · have h := of_decide_eq_false h
    have : j = m := by omega
    subst this
    obtain ⟨its', hl', o'⟩ := o.done
    exact k its' cs _ o' hl' st

theorem sp_look_Version {R : Bool → World → Prop} (o : KindO t its Long_Version cs) (st : St w0 ((b, C) :: (cs ++ l)) w) (hCt : C[0 + 6]? = some (slV t)) (hm : its.length ≤ 2000000)
    (k : ∀ w', St w0 ((b, C) :: (cs ++ l)) w' → R true w') : C_towpathlaw01_Book_lookVersion (some ⟨b, 0, none⟩) w R := by
  apply S_towpathlaw01_Book_lookVersion
  unfold F_towpathlaw01_Book_lookVersion
  generalize hml : its.length = m at *
  have hI : ∀ j, j ≤ m → KindI t m j Long_Version Long_Version cs := fun j hj => by
    obtain ⟨tb, ro, rfl, hph⟩ := o
    refine ⟨its.take j, its.drop j, tb, by rw [List.length_take]; omega, by rw [List.length_take, List.length_drop]; omega, by rw [List.take_append_drop]; exact ro, by rw [List.take_append_drop], fun it hit => hph it (List.mem_of_mem_take hit), fun it hit => hph it (List.mem_of_mem_drop hit)⟩
  refine ⟨fun i w' => ∃ (j : Nat), i = (j : Int) ∧ j ≤ m ∧ St w0 ((b, C) :: (cs ++ l)) w', fun i _ => m - i.toNat, ⟨0, rfl, by omega, st⟩, ?_⟩
  clear st
  rintro i w1 ⟨j, rfl, hj, st⟩
  unfold F_towpathlaw01_Book_lookVersion_L0
  have o := hI j hj
  have htl := o.len
  refine ⟨rfl, t, st.cell 0 rfl hCt, fun h => ?_, fun h => ?_⟩
  · have h := of_decide_eq_true h
    obtain ⟨d, it, r, tb, h1, h2, ro, h3, ⟨hlen, hll, c1, c2, hcs, hg, hor⟩, h4, ha, hc, sti⟩ := o.at_ st (by omega)
    refine ⟨rfl, t, st.cell 0 rfl hCt, ha, by omega, h, ⟨it.l, it.long, it.n⟩, ?_, fun b1 w2 hb1 hw2 => ?_⟩
    · rw [Int.toNat_natCast]; exact hc
    have sto := st.alloc hb1 hw2
    have st := sti.alloc hb1 hw2
    clear sti
    refine ⟨st.writable 0 rfl (by simp), fun w3 hw3 => ?_⟩
    have sto : St w0 ((b1, itemCells it) :: ((b, C) :: (cs ++ l))) w3 := sto.put0 hw3
    have st : St w0 ((b1, itemCells it) :: (it.cs ++ (((b, C) :: tb) ++ ((itsC d ++ itsC r) ++ l)))) w3 := st.put0 hw3
    refine ⟨it.long, st.cell 0 rfl rfl, it.l, st.cell 0 rfl rfl, fun hne => ?_, fun _ => ?_⟩
    · exfalso
      rw [hll, i64_in _ (by omega) (by omega)] at hne
      simp at hne
    refine ⟨fun k w' => ∃ (q : Nat), k = (q : Int) ∧ q ≤ it.long.len ∧ St w0 ((b1, itemCells it) :: ((b, C) :: (cs ++ l))) w' ∧ St w0 ((b1, itemCells it) :: (it.cs ++ (((b, C) :: tb) ++ ((itsC d ++ itsC r) ++ l)))) w', fun k _ => it.long.len - k.toNat, ⟨0, rfl, by omega, sto, st⟩, ?_⟩
    clear st sto
    rintro k4 w4 ⟨q, rfl, hq, sto, st⟩
    have hsrc : SrcAt w4 it.long 3 ((List.replicate (it.l.len + 70) (markV_Version it.n)).flatMap cel_Version) ∧ SrcAt w4 it.l 3 ((List.replicate it.l.len (markV_Version it.n)).flatMap cel_Version) := by
      have s1 := st.drop1
      rw [hcs, List.append_assoc] at s1
      refine ⟨hg.src s1, ?_⟩
      rcases hor with hp | hsrc
      · exact rep_src cel_Version_len (hg.src s1) hp rfl (by omega) hll
      · exact hsrc _ _ _ s1.drop
    have rep : ∀ (s : Slc) (p i : Nat), SrcAt w4 s 3 ((List.replicate p (markV_Version it.n)).flatMap cel_Version) → i < s.len → IsAt s.ptr ∧ CellsAt w4 (pblk s.ptr) (poff s.ptr + i * 3) (cel_Version (markV_Version it.n)) := fun s p i hs hi => by
      obtain ⟨a, x, hx, hc⟩ := SrcAt.getN hs cel_Version_len (by decide) (i := (i : Int)) (by omega) (by omega)
      rw [Int.toNat_natCast] at hx hc
      rw [(List.mem_replicate.1 (List.mem_of_getElem? hx)).2] at hc
      exact ⟨a, hc⟩
    unfold F_towpathlaw01_Book_lookVersion_L1
    refine ⟨it.long, st.cell 0 rfl rfl, fun hk => ?_, fun hk => ?_⟩
    · have hk := of_decide_eq_true hk
      obtain ⟨a, hc1⟩ := rep it.long _ q hsrc.1 (by omega)
      refine ⟨it.long, st.cell 0 rfl rfl, a, by omega, hk, markV_Version it.n, by rw [Int.toNat_natCast]; exact hc1, it.n, st.cell 0 rfl rfl, true, fun w' e => sp_is_Version, fun hh => (by cases hh), fun _ => ?_⟩
      have wq : IntKind.i64.wrap ((q : Int) + 1) = ((q + 1 : Nat) : Int) := by rw [i64_in _ (by omega) (by omega)]; omega
      have fin : ∀ w', Ext w4 w' → (∃ (q' : Nat), ((q + 1 : Nat) : Int) = (q' : Int) ∧ q' ≤ it.long.len ∧ St w0 ((b1, itemCells it) :: ((b, C) :: (cs ++ l))) w' ∧ St w0 ((b1, itemCells it) :: (it.cs ++ (((b, C) :: tb) ++ ((itsC d ++ itsC r) ++ l)))) w') := fun w' e => ⟨q + 1, rfl, by omega, sto.keep e, st.keep e⟩
      refine ⟨it.l, st.cell 0 rfl rfl, fun hk2 => ?_, fun hk2 w10 e10 => ?_⟩
      · have hk2 := of_decide_eq_true hk2
        obtain ⟨a2, hc2⟩ := rep it.l _ q hsrc.2 (by omega)
        refine ⟨it.l, st.cell 0 rfl rfl, a2, by omega, hk2, markV_Version it.n, by rw [Int.toNat_natCast]; exact hc2, it.n, st.cell 0 rfl rfl, true, fun w' e => sp_is_Version, fun w9 e9 => ?_⟩
        unfold F_towpathlaw01_Book_lookVersion_k2
        refine ⟨fun hh => (by cases hh), fun _ => ?_⟩
        rw [wq]
        exact ⟨fin _ e9, by show _ - _ < _ - _; omega⟩
      · unfold F_towpathlaw01_Book_lookVersion_k2
        refine ⟨fun hh => (by cases hh), fun _ => ?_⟩
        rw [wq]
        exact ⟨fin _ e10, by show _ - _ < _ - _; omega⟩
    · have wj : IntKind.i64.wrap ((j : Int) + 1) = ((j + 1 : Nat) : Int) := by rw [i64_in _ (by omega) (by omega)]; omega
      rw [wj]
      exact ⟨⟨j + 1, rfl, by omega, sto.drop1⟩, by show _ - _ < _ - _; omega⟩
  · exact k _ st
end
section
variable {w0 w : World} {l : List Chunk} {C : List Value} {b : Nat}
theorem sp_fill_Byte {R : World → Prop} (st : St w0 ((b, C) :: l) w) (hC : C[0 + 1]? = some (slV ⟨none, 0, 0⟩)) (k : R w) : C_towpathlaw01_Book_fillByte (some ⟨b, 0, none⟩) w R := by
  apply S_towpathlaw01_Book_fillByte
  unfold F_towpathlaw01_Book_fillByte
  refine ⟨fun i w' => i = 0 ∧ w' = w, fun _ _ => 0, ⟨rfl, rfl⟩, ?_⟩
  rintro i w' ⟨rfl, rfl⟩
  unfold F_towpathlaw01_Book_fillByte_L0
  exact ⟨rfl, ⟨none, 0, 0⟩, st.cell 0 rfl hC, fun h => (by simp at h), fun _ => k⟩
theorem sp_grow_Byte {R : World → Prop} (st : St w0 ((b, C) :: l) w) (hC : C[0 + 1]? = some (slV ⟨none, 0, 0⟩)) (k : R w) : C_towpathlaw01_Book_growByte (some ⟨b, 0, none⟩) w R := by
  apply S_towpathlaw01_Book_growByte
  unfold F_towpathlaw01_Book_growByte
  refine ⟨fun i w' => i = 0 ∧ w' = w, fun _ _ => 0, ⟨rfl, rfl⟩, ?_⟩
  rintro i w' ⟨rfl, rfl⟩
  unfold F_towpathlaw01_Book_growByte_L0
  exact ⟨rfl, ⟨none, 0, 0⟩, st.cell 0 rfl hC, fun h => (by simp at h), fun _ => k⟩
theorem sp_look_Byte {R : Bool → World → Prop} (st : St w0 ((b, C) :: l) w) (hC : C[0 + 1]? = some (slV ⟨none, 0, 0⟩)) (k : R true w) : C_towpathlaw01_Book_lookByte (some ⟨b, 0, none⟩) w R := by
  apply S_towpathlaw01_Book_lookByte
  unfold F_towpathlaw01_Book_lookByte
  refine ⟨fun i w' => i = 0 ∧ w' = w, fun _ _ => 0, ⟨rfl, rfl⟩, ?_⟩
  rintro i w' ⟨rfl, rfl⟩
  unfold F_towpathlaw01_Book_lookByte_L0
  exact ⟨rfl, ⟨none, 0, 0⟩, st.cell 0 rfl hC, fun h => (by simp at h), fun _ => k⟩
theorem sp_fill_Int {R : World → Prop} (st : St w0 ((b, C) :: l) w) (hC : C[0 + 2]? = some (slV ⟨none, 0, 0⟩)) (k : R w) : C_towpathlaw01_Book_fillInt (some ⟨b, 0, none⟩) w R := by
  apply S_towpathlaw01_Book_fillInt
  unfold F_towpathlaw01_Book_fillInt
  refine ⟨fun i w' => i = 0 ∧ w' = w, fun _ _ => 0, ⟨rfl, rfl⟩, ?_⟩
  rintro i w' ⟨rfl, rfl⟩
  unfold F_towpathlaw01_Book_fillInt_L0
  exact ⟨rfl, ⟨none, 0, 0⟩, st.cell 0 rfl hC, fun h => (by simp at h), fun _ => k⟩
theorem sp_grow_Int {R : World → Prop} (st : St w0 ((b, C) :: l) w) (hC : C[0 + 2]? = some (slV ⟨none, 0, 0⟩)) (k : R w) : C_towpathlaw01_Book_growInt (some ⟨b, 0, none⟩) w R := by
  apply S_towpathlaw01_Book_growInt
  unfold F_towpathlaw01_Book_growInt
  refine ⟨fun i w' => i = 0 ∧ w' = w, fun _ _ => 0, ⟨rfl, rfl⟩, ?_⟩
  rintro i w' ⟨rfl, rfl⟩
  unfold F_towpathlaw01_Book_growInt_L0
  exact ⟨rfl, ⟨none, 0, 0⟩, st.cell 0 rfl hC, fun h => (by simp at h), fun _ => k⟩
theorem sp_look_Int {R : Bool → World → Prop} (st : St w0 ((b, C) :: l) w) (hC : C[0 + 2]? = some (slV ⟨none, 0, 0⟩)) (k : R true w) : C_towpathlaw01_Book_lookInt (some ⟨b, 0, none⟩) w R := by
  apply S_towpathlaw01_Book_lookInt
  unfold F_towpathlaw01_Book_lookInt
  refine ⟨fun i w' => i = 0 ∧ w' = w, fun _ _ => 0, ⟨rfl, rfl⟩, ?_⟩
  rintro i w' ⟨rfl, rfl⟩
  unfold F_towpathlaw01_Book_lookInt_L0
  exact ⟨rfl, ⟨none, 0, 0⟩, st.cell 0 rfl hC, fun h => (by simp at h), fun _ => k⟩
theorem sp_fill_Text {R : World → Prop} (st : St w0 ((b, C) :: l) w) (hC : C[0 + 3]? = some (slV ⟨none, 0, 0⟩)) (k : R w) : C_towpathlaw01_Book_fillText (some ⟨b, 0, none⟩) w R := by
  apply S_towpathlaw01_Book_fillText
  unfold F_towpathlaw01_Book_fillText
  refine ⟨fun i w' => i = 0 ∧ w' = w, fun _ _ => 0, ⟨rfl, rfl⟩, ?_⟩
  rintro i w' ⟨rfl, rfl⟩
  unfold F_towpathlaw01_Book_fillText_L0
  exact ⟨rfl, ⟨none, 0, 0⟩, st.cell 0 rfl hC, fun h => (by simp at h), fun _ => k⟩
theorem sp_grow_Text {R : World → Prop} (st : St w0 ((b, C) :: l) w) (hC : C[0 + 3]? = some (slV ⟨none, 0, 0⟩)) (k : R w) : C_towpathlaw01_Book_growText (some ⟨b, 0, none⟩) w R := by
  apply S_towpathlaw01_Book_growText
  unfold F_towpathlaw01_Book_growText
  refine ⟨fun i w' => i = 0 ∧ w' = w, fun _ _ => 0, ⟨rfl, rfl⟩, ?_⟩
  rintro i w' ⟨rfl, rfl⟩
  unfold F_towpathlaw01_Book_growText_L0
  exact ⟨rfl, ⟨none, 0, 0⟩, st.cell 0 rfl hC, fun h => (by simp at h), fun _ => k⟩
theorem sp_look_Text {R : Bool → World → Prop} (st : St w0 ((b, C) :: l) w) (hC : C[0 + 3]? = some (slV ⟨none, 0, 0⟩)) (k : R true w) : C_towpathlaw01_Book_lookText (some ⟨b, 0, none⟩) w R := by
  apply S_towpathlaw01_Book_lookText
  unfold F_towpathlaw01_Book_lookText
  refine ⟨fun i w' => i = 0 ∧ w' = w, fun _ _ => 0, ⟨rfl, rfl⟩, ?_⟩
  rintro i w' ⟨rfl, rfl⟩
  unfold F_towpathlaw01_Book_lookText_L0
  exact ⟨rfl, ⟨none, 0, 0⟩, st.cell 0 rfl hC, fun h => (by simp at h), fun _ => k⟩
theorem sp_fill_Write {R : World → Prop} (st : St w0 ((b, C) :: l) w) (hC : C[0 + 4]? = some (slV ⟨none, 0, 0⟩)) (k : R w) : C_towpathlaw01_Book_fillWrite (some ⟨b, 0, none⟩) w R := by
  apply S_towpathlaw01_Book_fillWrite
  unfold F_towpathlaw01_Book_fillWrite
  refine ⟨fun i w' => i = 0 ∧ w' = w, fun _ _ => 0, ⟨rfl, rfl⟩, ?_⟩
  rintro i w' ⟨rfl, rfl⟩
  unfold F_towpathlaw01_Book_fillWrite_L0
  exact ⟨rfl, ⟨none, 0, 0⟩, st.cell 0 rfl hC, fun h => (by simp at h), fun _ => k⟩
theorem sp_grow_Write {R : World → Prop} (st : St w0 ((b, C) :: l) w) (hC : C[0 + 4]? = some (slV ⟨none, 0, 0⟩)) (k : R w) : C_towpathlaw01_Book_growWrite (some ⟨b, 0, none⟩) w R := by
  apply S_towpathlaw01_Book_growWrite
  unfold F_towpathlaw01_Book_growWrite
  refine ⟨fun i w' => i = 0 ∧ w' = w, fun _ _ => 0, ⟨rfl, rfl⟩, ?_⟩
  rintro i w' ⟨rfl, rfl⟩
  unfold F_towpathlaw01_Book_growWrite_L0
  exact ⟨rfl, ⟨none, 0, 0⟩, st.cell 0 rfl hC, fun h => (by simp at h), fun _ => k⟩
theorem sp_look_Write {R : Bool → World → Prop} (st : St w0 ((b, C) :: l) w) (hC : C[0 + 4]? = some (slV ⟨none, 0, 0⟩)) (k : R true w) : C_towpathlaw01_Book_lookWrite (some ⟨b, 0, none⟩) w R := by
  apply S_towpathlaw01_Book_lookWrite
  unfold F_towpathlaw01_Book_lookWrite
  refine ⟨fun i w' => i = 0 ∧ w' = w, fun _ _ => 0, ⟨rfl, rfl⟩, ?_⟩
  rintro i w' ⟨rfl, rfl⟩
  unfold F_towpathlaw01_Book_lookWrite_L0
  exact ⟨rfl, ⟨none, 0, 0⟩, st.cell 0 rfl hC, fun h => (by simp at h), fun _ => k⟩
theorem sp_fill_Entry {R : World → Prop} (st : St w0 ((b, C) :: l) w) (hC : C[0 + 5]? = some (slV ⟨none, 0, 0⟩)) (k : R w) : C_towpathlaw01_Book_fillEntry (some ⟨b, 0, none⟩) w R := by
  apply S_towpathlaw01_Book_fillEntry
  unfold F_towpathlaw01_Book_fillEntry
  refine ⟨fun i w' => i = 0 ∧ w' = w, fun _ _ => 0, ⟨rfl, rfl⟩, ?_⟩
  rintro i w' ⟨rfl, rfl⟩
  unfold F_towpathlaw01_Book_fillEntry_L0
  exact ⟨rfl, ⟨none, 0, 0⟩, st.cell 0 rfl hC, fun h => (by simp at h), fun _ => k⟩
theorem sp_grow_Entry {R : World → Prop} (st : St w0 ((b, C) :: l) w) (hC : C[0 + 5]? = some (slV ⟨none, 0, 0⟩)) (k : R w) : C_towpathlaw01_Book_growEntry (some ⟨b, 0, none⟩) w R := by
  apply S_towpathlaw01_Book_growEntry
  unfold F_towpathlaw01_Book_growEntry
  refine ⟨fun i w' => i = 0 ∧ w' = w, fun _ _ => 0, ⟨rfl, rfl⟩, ?_⟩
  rintro i w' ⟨rfl, rfl⟩
  unfold F_towpathlaw01_Book_growEntry_L0
  exact ⟨rfl, ⟨none, 0, 0⟩, st.cell 0 rfl hC, fun h => (by simp at h), fun _ => k⟩
theorem sp_look_Entry {R : Bool → World → Prop} (st : St w0 ((b, C) :: l) w) (hC : C[0 + 5]? = some (slV ⟨none, 0, 0⟩)) (k : R true w) : C_towpathlaw01_Book_lookEntry (some ⟨b, 0, none⟩) w R := by
  apply S_towpathlaw01_Book_lookEntry
  unfold F_towpathlaw01_Book_lookEntry
  refine ⟨fun i w' => i = 0 ∧ w' = w, fun _ _ => 0, ⟨rfl, rfl⟩, ?_⟩
  rintro i w' ⟨rfl, rfl⟩
  unfold F_towpathlaw01_Book_lookEntry_L0
  exact ⟨rfl, ⟨none, 0, 0⟩, st.cell 0 rfl hC, fun h => (by simp at h), fun _ => k⟩
theorem sp_fill_Txn {R : World → Prop} (st : St w0 ((b, C) :: l) w) (hC : C[0 + 7]? = some (slV ⟨none, 0, 0⟩)) (k : R w) : C_towpathlaw01_Book_fillTxn (some ⟨b, 0, none⟩) w R := by
  apply S_towpathlaw01_Book_fillTxn
  unfold F_towpathlaw01_Book_fillTxn
  refine ⟨fun i w' => i = 0 ∧ w' = w, fun _ _ => 0, ⟨rfl, rfl⟩, ?_⟩
  rintro i w' ⟨rfl, rfl⟩
  unfold F_towpathlaw01_Book_fillTxn_L0
  exact ⟨rfl, ⟨none, 0, 0⟩, st.cell 0 rfl hC, fun h => (by simp at h), fun _ => k⟩
theorem sp_grow_Txn {R : World → Prop} (st : St w0 ((b, C) :: l) w) (hC : C[0 + 7]? = some (slV ⟨none, 0, 0⟩)) (k : R w) : C_towpathlaw01_Book_growTxn (some ⟨b, 0, none⟩) w R := by
  apply S_towpathlaw01_Book_growTxn
  unfold F_towpathlaw01_Book_growTxn
  refine ⟨fun i w' => i = 0 ∧ w' = w, fun _ _ => 0, ⟨rfl, rfl⟩, ?_⟩
  rintro i w' ⟨rfl, rfl⟩
  unfold F_towpathlaw01_Book_growTxn_L0
  exact ⟨rfl, ⟨none, 0, 0⟩, st.cell 0 rfl hC, fun h => (by simp at h), fun _ => k⟩
theorem sp_look_Txn {R : Bool → World → Prop} (st : St w0 ((b, C) :: l) w) (hC : C[0 + 7]? = some (slV ⟨none, 0, 0⟩)) (k : R true w) : C_towpathlaw01_Book_lookTxn (some ⟨b, 0, none⟩) w R := by
  apply S_towpathlaw01_Book_lookTxn
  unfold F_towpathlaw01_Book_lookTxn
  refine ⟨fun i w' => i = 0 ∧ w' = w, fun _ _ => 0, ⟨rfl, rfl⟩, ?_⟩
  rintro i w' ⟨rfl, rfl⟩
  unfold F_towpathlaw01_Book_lookTxn_L0
  exact ⟨rfl, ⟨none, 0, 0⟩, st.cell 0 rfl hC, fun h => (by simp at h), fun _ => k⟩
theorem sp_fill_Held {R : World → Prop} (st : St w0 ((b, C) :: l) w) (hC : C[0 + 8]? = some (slV ⟨none, 0, 0⟩)) (k : R w) : C_towpathlaw01_Book_fillHeld (some ⟨b, 0, none⟩) w R := by
  apply S_towpathlaw01_Book_fillHeld
  unfold F_towpathlaw01_Book_fillHeld
  refine ⟨fun i w' => i = 0 ∧ w' = w, fun _ _ => 0, ⟨rfl, rfl⟩, ?_⟩
  rintro i w' ⟨rfl, rfl⟩
  unfold F_towpathlaw01_Book_fillHeld_L0
  exact ⟨rfl, ⟨none, 0, 0⟩, st.cell 0 rfl hC, fun h => (by simp at h), fun _ => k⟩
theorem sp_grow_Held {R : World → Prop} (st : St w0 ((b, C) :: l) w) (hC : C[0 + 8]? = some (slV ⟨none, 0, 0⟩)) (k : R w) : C_towpathlaw01_Book_growHeld (some ⟨b, 0, none⟩) w R := by
  apply S_towpathlaw01_Book_growHeld
  unfold F_towpathlaw01_Book_growHeld
  refine ⟨fun i w' => i = 0 ∧ w' = w, fun _ _ => 0, ⟨rfl, rfl⟩, ?_⟩
  rintro i w' ⟨rfl, rfl⟩
  unfold F_towpathlaw01_Book_growHeld_L0
  exact ⟨rfl, ⟨none, 0, 0⟩, st.cell 0 rfl hC, fun h => (by simp at h), fun _ => k⟩
theorem sp_look_Held {R : Bool → World → Prop} (st : St w0 ((b, C) :: l) w) (hC : C[0 + 8]? = some (slV ⟨none, 0, 0⟩)) (k : R true w) : C_towpathlaw01_Book_lookHeld (some ⟨b, 0, none⟩) w R := by
  apply S_towpathlaw01_Book_lookHeld
  unfold F_towpathlaw01_Book_lookHeld
  refine ⟨fun i w' => i = 0 ∧ w' = w, fun _ _ => 0, ⟨rfl, rfl⟩, ?_⟩
  rintro i w' ⟨rfl, rfl⟩
  unfold F_towpathlaw01_Book_lookHeld_L0
  exact ⟨rfl, ⟨none, 0, 0⟩, st.cell 0 rfl hC, fun h => (by simp at h), fun _ => k⟩
theorem sp_fill_HeldList {R : World → Prop} (st : St w0 ((b, C) :: l) w) (hC : C[0 + 9]? = some (slV ⟨none, 0, 0⟩)) (k : R w) : C_towpathlaw01_Book_fillHeldList (some ⟨b, 0, none⟩) w R := by
  apply S_towpathlaw01_Book_fillHeldList
  unfold F_towpathlaw01_Book_fillHeldList
  refine ⟨fun i w' => i = 0 ∧ w' = w, fun _ _ => 0, ⟨rfl, rfl⟩, ?_⟩
  rintro i w' ⟨rfl, rfl⟩
  unfold F_towpathlaw01_Book_fillHeldList_L0
  exact ⟨rfl, ⟨none, 0, 0⟩, st.cell 0 rfl hC, fun h => (by simp at h), fun _ => k⟩
theorem sp_grow_HeldList {R : World → Prop} (st : St w0 ((b, C) :: l) w) (hC : C[0 + 9]? = some (slV ⟨none, 0, 0⟩)) (k : R w) : C_towpathlaw01_Book_growHeldList (some ⟨b, 0, none⟩) w R := by
  apply S_towpathlaw01_Book_growHeldList
  unfold F_towpathlaw01_Book_growHeldList
  refine ⟨fun i w' => i = 0 ∧ w' = w, fun _ _ => 0, ⟨rfl, rfl⟩, ?_⟩
  rintro i w' ⟨rfl, rfl⟩
  unfold F_towpathlaw01_Book_growHeldList_L0
  exact ⟨rfl, ⟨none, 0, 0⟩, st.cell 0 rfl hC, fun h => (by simp at h), fun _ => k⟩
theorem sp_look_HeldList {R : Bool → World → Prop} (st : St w0 ((b, C) :: l) w) (hC : C[0 + 9]? = some (slV ⟨none, 0, 0⟩)) (k : R true w) : C_towpathlaw01_Book_lookHeldList (some ⟨b, 0, none⟩) w R := by
  apply S_towpathlaw01_Book_lookHeldList
  unfold F_towpathlaw01_Book_lookHeldList
  refine ⟨fun i w' => i = 0 ∧ w' = w, fun _ _ => 0, ⟨rfl, rfl⟩, ?_⟩
  rintro i w' ⟨rfl, rfl⟩
  unfold F_towpathlaw01_Book_lookHeldList_L0
  exact ⟨rfl, ⟨none, 0, 0⟩, st.cell 0 rfl hC, fun h => (by simp at h), fun _ => k⟩
theorem sp_fill_Event {R : World → Prop} (st : St w0 ((b, C) :: l) w) (hC : C[0 + 10]? = some (slV ⟨none, 0, 0⟩)) (k : R w) : C_towpathlaw01_Book_fillEvent (some ⟨b, 0, none⟩) w R := by
  apply S_towpathlaw01_Book_fillEvent
  unfold F_towpathlaw01_Book_fillEvent
  refine ⟨fun i w' => i = 0 ∧ w' = w, fun _ _ => 0, ⟨rfl, rfl⟩, ?_⟩
  rintro i w' ⟨rfl, rfl⟩
  unfold F_towpathlaw01_Book_fillEvent_L0
  exact ⟨rfl, ⟨none, 0, 0⟩, st.cell 0 rfl hC, fun h => (by simp at h), fun _ => k⟩
theorem sp_grow_Event {R : World → Prop} (st : St w0 ((b, C) :: l) w) (hC : C[0 + 10]? = some (slV ⟨none, 0, 0⟩)) (k : R w) : C_towpathlaw01_Book_growEvent (some ⟨b, 0, none⟩) w R := by
  apply S_towpathlaw01_Book_growEvent
  unfold F_towpathlaw01_Book_growEvent
  refine ⟨fun i w' => i = 0 ∧ w' = w, fun _ _ => 0, ⟨rfl, rfl⟩, ?_⟩
  rintro i w' ⟨rfl, rfl⟩
  unfold F_towpathlaw01_Book_growEvent_L0
  exact ⟨rfl, ⟨none, 0, 0⟩, st.cell 0 rfl hC, fun h => (by simp at h), fun _ => k⟩
theorem sp_look_Event {R : Bool → World → Prop} (st : St w0 ((b, C) :: l) w) (hC : C[0 + 10]? = some (slV ⟨none, 0, 0⟩)) (k : R true w) : C_towpathlaw01_Book_lookEvent (some ⟨b, 0, none⟩) w R := by
  apply S_towpathlaw01_Book_lookEvent
  unfold F_towpathlaw01_Book_lookEvent
  refine ⟨fun i w' => i = 0 ∧ w' = w, fun _ _ => 0, ⟨rfl, rfl⟩, ?_⟩
  rintro i w' ⟨rfl, rfl⟩
  unfold F_towpathlaw01_Book_lookEvent_L0
  exact ⟨rfl, ⟨none, 0, 0⟩, st.cell 0 rfl hC, fun h => (by simp at h), fun _ => k⟩
theorem sp_fill_Answer {R : World → Prop} (st : St w0 ((b, C) :: l) w) (hC : C[0 + 11]? = some (slV ⟨none, 0, 0⟩)) (k : R w) : C_towpathlaw01_Book_fillAnswer (some ⟨b, 0, none⟩) w R := by
  apply S_towpathlaw01_Book_fillAnswer
  unfold F_towpathlaw01_Book_fillAnswer
  refine ⟨fun i w' => i = 0 ∧ w' = w, fun _ _ => 0, ⟨rfl, rfl⟩, ?_⟩
  rintro i w' ⟨rfl, rfl⟩
  unfold F_towpathlaw01_Book_fillAnswer_L0
  exact ⟨rfl, ⟨none, 0, 0⟩, st.cell 0 rfl hC, fun h => (by simp at h), fun _ => k⟩
theorem sp_grow_Answer {R : World → Prop} (st : St w0 ((b, C) :: l) w) (hC : C[0 + 11]? = some (slV ⟨none, 0, 0⟩)) (k : R w) : C_towpathlaw01_Book_growAnswer (some ⟨b, 0, none⟩) w R := by
  apply S_towpathlaw01_Book_growAnswer
  unfold F_towpathlaw01_Book_growAnswer
  refine ⟨fun i w' => i = 0 ∧ w' = w, fun _ _ => 0, ⟨rfl, rfl⟩, ?_⟩
  rintro i w' ⟨rfl, rfl⟩
  unfold F_towpathlaw01_Book_growAnswer_L0
  exact ⟨rfl, ⟨none, 0, 0⟩, st.cell 0 rfl hC, fun h => (by simp at h), fun _ => k⟩
theorem sp_look_Answer {R : Bool → World → Prop} (st : St w0 ((b, C) :: l) w) (hC : C[0 + 11]? = some (slV ⟨none, 0, 0⟩)) (k : R true w) : C_towpathlaw01_Book_lookAnswer (some ⟨b, 0, none⟩) w R := by
  apply S_towpathlaw01_Book_lookAnswer
  unfold F_towpathlaw01_Book_lookAnswer
  refine ⟨fun i w' => i = 0 ∧ w' = w, fun _ _ => 0, ⟨rfl, rfl⟩, ?_⟩
  rintro i w' ⟨rfl, rfl⟩
  unfold F_towpathlaw01_Book_lookAnswer_L0
  exact ⟨rfl, ⟨none, 0, 0⟩, st.cell 0 rfl hC, fun h => (by simp at h), fun _ => k⟩
end
def bookC (n : Int) (t0 : Slc) : List Value := [iV n, slV ⟨none, 0, 0⟩, slV ⟨none, 0, 0⟩, slV ⟨none, 0, 0⟩, slV ⟨none, 0, 0⟩, slV ⟨none, 0, 0⟩, slV t0, slV ⟨none, 0, 0⟩, slV ⟨none, 0, 0⟩, slV ⟨none, 0, 0⟩, slV ⟨none, 0, 0⟩, slV ⟨none, 0, 0⟩]
theorem sp_KINDs_Version {w0 w : World} {l sc cs : List Chunk} {C : List Value} {b : Nat} {n : Int} {t s : Slc} {its : List Item} {xs : List Value} {R : World → Prop} (o : KindO t its Kept_Version cs) (r : RowC 3 s xs sc) (st : St w0 ((b, C) :: (cs ++ (sc ++ l))) w) (hC0 : C[0]? = some (iV n)) (hCt : C[6]? = some (slV t)) (hn : 0 ≤ n ∧ n ≤ 2000000) (hl : its.length ≤ 2000000) (hs : s.len ≤ 1099511627776)
    (k : ∀ t' its' cs' w', KindO t' its' Kept_Version cs' → its'.length = its.length + 1 → St w0 ((b, (C.set 0 (iV (n + 1))).set 6 (slV t')) :: (cs' ++ l)) w' → R w') : C_towpathlaw01_Book_Versions (some ⟨b, 0, none⟩) s w R := by
  apply S_towpathlaw01_Book_Versions
  unfold F_towpathlaw01_Book_Versions
  exact sp_keep_Version o r st hC0 hCt hn hl hs k
theorem sp_Apart {w0 w : World} {l cs0 : List Chunk} {b : Nat} {n : Int} {t0 : Slc} {its0 : List Item} {R : Bool → World → Prop} (o0 : KindO t0 its0 Kept_Version cs0) (hm0 : its0.length ≤ 2000000) (st : St w0 ((b, bookC n t0) :: (cs0 ++ l)) w)
    (k : ∀ cs0 w', St w0 ((b, bookC n t0) :: (cs0 ++ l)) w' → R true w') : C_towpathlaw01_Book_Apart (some ⟨b, 0, none⟩) w R := by
  apply S_towpathlaw01_Book_Apart
  unfold F_towpathlaw01_Book_Apart
  refine sp_fill_Byte st rfl ?_
  refine sp_fill_Int st rfl ?_
  refine sp_fill_Text st rfl ?_
  refine sp_fill_Write st rfl ?_
  refine sp_fill_Entry st rfl ?_
  refine sp_fill_Version o0 st rfl (by omega) fun its0 cs0 w o0 hl0 st => ?_
  have hm0 : its0.length ≤ 2000000 := by omega
  refine sp_fill_Txn st rfl ?_
  refine sp_fill_Held st rfl ?_
  refine sp_fill_HeldList st rfl ?_
  refine sp_fill_Event st rfl ?_
  refine sp_fill_Answer st rfl ?_
  refine sp_grow_Byte st rfl ?_
  refine sp_grow_Int st rfl ?_
  refine sp_grow_Text st rfl ?_
  refine sp_grow_Write st rfl ?_
  refine sp_grow_Entry st rfl ?_
  refine sp_grow_Version o0 st rfl (by omega) fun its0 cs0 w o0 hl0 st => ?_
  have hm0 : its0.length ≤ 2000000 := by omega
  refine sp_grow_Txn st rfl ?_
  refine sp_grow_Held st rfl ?_
  refine sp_grow_HeldList st rfl ?_
  refine sp_grow_Event st rfl ?_
  refine sp_grow_Answer st rfl ?_
  refine sp_look_Byte st rfl ?_
  refine ⟨fun _ => ?_, fun h => (by cases h)⟩
  refine sp_look_Int st rfl ?_
  refine ⟨fun _ => ?_, fun h => (by cases h)⟩
  refine sp_look_Text st rfl ?_
  refine ⟨fun _ => ?_, fun h => (by cases h)⟩
  refine sp_look_Write st rfl ?_
  refine ⟨fun _ => ?_, fun h => (by cases h)⟩
  refine sp_look_Entry st rfl ?_
  refine ⟨fun _ => ?_, fun h => (by cases h)⟩
  refine sp_look_Version o0 st rfl (by omega) fun w st => ?_
  refine ⟨fun _ => ?_, fun h => (by cases h)⟩
  refine sp_look_Txn st rfl ?_
  refine ⟨fun _ => ?_, fun h => (by cases h)⟩
  refine sp_look_Held st rfl ?_
  refine ⟨fun _ => ?_, fun h => (by cases h)⟩
  refine sp_look_HeldList st rfl ?_
  refine ⟨fun _ => ?_, fun h => (by cases h)⟩
  refine sp_look_Event st rfl ?_
  refine ⟨fun _ => ?_, fun h => (by cases h)⟩
  refine sp_look_Answer st rfl ?_
  exact k _ _ st
end Go.Proofs.YtcgfmkpddhhmgaaDoor
