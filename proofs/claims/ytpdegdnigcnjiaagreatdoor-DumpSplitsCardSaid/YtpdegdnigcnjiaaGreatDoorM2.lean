/- What the law of chapter 18 on Split says: the program's parts are the document's, in memory of their own; the checkpoint stays as it was. -/
import Derived.Test.YtpdegdnigcnjiaaGreatDoorM1
import Derived.Test.YtpdegdnigcnjiaaGreatDoorGtowpathlaw01
import Derived.Test.YtpdegdnigcnjiaaGreatDoorGDumpSplits
namespace Go.Proofs.YtpdegdnigcnjiaaGreatDoor
open Go
set_option linter.unusedVariables false
set_option linter.unusedSimpArgs false
abbrev cel_Int (x : Int) : List Value := [Value.int .i64 x]
abbrev markV_Int (n : Int) : Int := IntKind.i64.wrap ((-1000) - n)
theorem cel_Int_len (x : Int) : (cel_Int x).length = 1 := rfl

/-! ### Int -/
def Kept_Int (it : Item) : Prop := OkN it.n ∧ it.l.len ≤ 1099511627776 ∧ ∃ xs, RowC 1 it.l xs it.cs
def Filled_Int (it : Item) : Prop := OkN it.n ∧ it.l.len ≤ 1099511627776 ∧ RowC 1 it.l ((List.replicate it.l.len (markV_Int it.n)).flatMap cel_Int) it.cs
def Grown_Int (k : Nat) (it : Item) (long : Slc) : Prop :=
  OkN it.n ∧ it.l.len ≤ 1099511627776 ∧ long.len = it.l.len + k ∧ ∃ c1 c2, it.cs = c1 ++ c2 ∧ RowC 1 long ((List.replicate (it.l.len + k) (markV_Int it.n)).flatMap cel_Int) c1 ∧
    (long.ptr = it.l.ptr ∨ ∀ w0 l w, St w0 (c2 ++ l) w → SrcAt w it.l 1 ((List.replicate it.l.len (markV_Int it.n)).flatMap cel_Int))
def Long_Int (it : Item) : Prop := Grown_Int 70 it it.long
section
variable {w0 : Base} {w : World} {l cs : List Chunk} {C : List Value} {b : Nat} {n : Int} {t : Slc} {its : List Item}

theorem sp_mark_Int {R : Int → World → Prop} (hn : OkN n) (ht : Tab w) (k : ∀ w', Ext w w' → R (markV_Int n) w') : C_towpathlaw01_markInt n w R := by
  apply S_towpathlaw01_markInt
  unfold F_towpathlaw01_markInt
  exact k w (Ext.refl _)
theorem sp_is_Int (hn : OkN n) (ht : Tab w) : C_towpathlaw01_isInt (markV_Int n) n w (fun (v44' : Bool) w'' => v44' = true ∧ Ext w w'') := by
  apply S_towpathlaw01_isInt
  unfold F_towpathlaw01_isInt
  exact ⟨beq_self_eq_true _, Ext.refl _⟩

theorem sp_keep_Int {s : Slc} {xs : List Value} {sc : List Chunk} {R : World → Prop} (o : KindO t its Kept_Int cs) (r : RowC 1 s xs sc) (st : St w0 ((b, C) :: (cs ++ (sc ++ l))) w) (hC0 : C[0]? = some (iV n)) (hCt : C[2]? = some (slV t))
    (hn : 0 ≤ n ∧ n ≤ 2000000000) (hl : its.length ≤ 2000000000) (hs : s.len ≤ 1099511627776) (k : ∀ t' its' cs' w', KindO t' its' Kept_Int cs' → its'.length = its.length + 1 → St w0 ((b, (C.set 0 (iV (n + 1))).set 2 (slV t')) :: (cs' ++ l)) w' → R w') : C_towpathlaw01_Book_keepInt (some ⟨b, 0, none⟩) s w R := by
  apply S_towpathlaw01_Book_keepInt
  unfold F_towpathlaw01_Book_keepInt
  have htl := o.len
  obtain ⟨tb, ro, rfl, hph⟩ := o
  have wn : IntKind.i64.wrap (n + 1) = n + 1 := i64_in _ (by omega) (by omega)
  have hCl : 2 < C.length := (List.getElem?_eq_some_iff.1 hCt).1
  refine ⟨rfl, n, st.cell 0 rfl hC0, st.writable 0 rfl (by show 0 + 1 ≤ _; omega), fun w1 hw1 w2 e2 => ?_⟩
  rw [wn] at hw1
  have st := (st.put0 hw1).drew e2
  have e0 : putL (poff (some ⟨b, 0, none⟩ : Option Addr)) [iV (n + 1)] C = C.set 0 (iV (n + 1)) := putL_one ..
  rw [e0] at st
  have hCt' : (C.set 0 (iV (n + 1)))[2]? = some (slV t) := by rw [List.getElem?_set_ne (by decide)]; exact hCt
  have hC0' : (C.set 0 (iV (n + 1)))[0]? = some (iV (n + 1)) := List.getElem?_set_self (by omega)
  have hCt'' : (C.set 0 (iV (n + 1)))[0 + 2]? = some (slV t) := by rw [Nat.zero_add]; exact hCt'
  refine ⟨rfl, t, st.cell 0 rfl hCt'', rfl, n + 1, st.cell 0 rfl hC0', fun b1 w3 hb1 hw3 => ?_⟩
  have st := st.alloc hb1 hw3
  refine ⟨st.cell 1 rfl hCt'', _, srcAt_newN hb1 hw3 rfl, ?_⟩
  have st : St w0 (tb ++ ((b, C.set 0 (iV (n + 1))) :: (itsC its ++ (sc ++ l)))) w3 := by
    have h : St w0 ((b, C.set 0 (iV (n + 1))) :: (tb ++ (itsC its ++ (sc ++ l)))) w3 := by have := st.drop1; simpa using this
    exact h.mid
  refine ro.append st rfl rfl rfl (by rw [htl]; omega) fun t' tb' w4 ro' st hlen => ?_
  have st := st.unmid
  refine ⟨rfl, st.writable 0 rfl (by rw [List.length_set]; show 0 + 2 + 1 ≤ _; omega), fun w5 hw5 => ?_⟩
  have st := st.put0 hw5
  have e1 : putL (poff (some ⟨b, 0, none⟩ : Option Addr) + 2) [slV t'] (C.set 0 (iV (n + 1))) = (C.set 0 (iV (n + 1))).set 2 (slV t') := by rw [putL_one]; rw [show poff (some ⟨b, 0, none⟩ : Option Addr) + 2 = 2 from Nat.zero_add _]
  rw [e1] at st
  refine k t' (its ++ [⟨s, ⟨none, 0, 0⟩, n + 1, sc⟩]) (tb' ++ itsC (its ++ [⟨s, ⟨none, 0, 0⟩, n + 1, sc⟩])) w5 ⟨tb', ?_, rfl, fun it hit => ?_⟩ (by simp) ?_
  · rw [List.flatMap_append]; exact ro'
  · rcases List.mem_append.1 hit with hit | hit
    · exact hph it hit
    · rw [List.mem_singleton] at hit
      rw [hit]
      exact ⟨⟨by show 0 ≤ n + 1; omega, by show n + 1 ≤ 9000000000; omega⟩, hs, xs, r⟩
  · rw [itsC_mid its _ []]
    unfold itsC at st ⊢
    simpa using st

theorem sp_fill_Int {R : World → Prop} (ht : Tab w0.w) (o : KindO t its Kept_Int cs) (st : St w0 ((b, C) :: (cs ++ l)) w) (hCt : C[0 + 2]? = some (slV t)) (hm : its.length ≤ 2000000000)
    (k : ∀ its' cs' w', KindO t its' Filled_Int cs' → its'.length = its.length → St w0 ((b, C) :: (cs' ++ l)) w' → R w') : C_towpathlaw01_Book_fillInt (some ⟨b, 0, none⟩) w R := by
  apply S_towpathlaw01_Book_fillInt
  unfold F_towpathlaw01_Book_fillInt
  generalize hml : its.length = m at *
  refine ⟨fun i w' => ∃ (j : Nat) (cs : List Chunk), i = (j : Int) ∧ j ≤ m ∧ KindI t m j Kept_Int Filled_Int cs ∧ St w0 ((b, C) :: (cs ++ l)) w', fun i _ => m - i.toNat, ⟨0, cs, rfl, by omega, by rw [← hml]; exact KindI.start o, st⟩, ?_⟩
  clear o st
  rintro i w1 ⟨j, cs, rfl, hj, o, st⟩
  unfold F_towpathlaw01_Book_fillInt_L0
  have htl := o.len
  refine ⟨rfl, t, st.cell 0 rfl hCt, fun h => ?_, fun h => ?_⟩
  · have h := of_decide_eq_true h
    obtain ⟨d, it, r, tb, h1, h2, ro, h3, ⟨hN, hlen, xs, hx⟩, h4, ha, hc, sti⟩ := o.at_ st (by omega)
    refine ⟨rfl, t, st.cell 0 rfl hCt, ha, by omega, h, ⟨it.l, it.long, it.n⟩, ?_, fun b1 w2 hb1 hw2 => ?_⟩
    · rw [Int.toNat_natCast]; exact hc
    have st := sti.alloc hb1 hw2
    clear sti
    refine ⟨st.writable 0 rfl (by simp), fun w3 hw3 => ?_⟩
    have st := st.put0 hw3
    have st : St w0 ((b1, itemCells it) :: (it.cs ++ (((b, C) :: tb) ++ ((itsC d ++ itsC r) ++ l)))) w3 := st
    refine ⟨fun k w' => ∃ (q : Nat) (ys : List Value) (cs : List Chunk), k = (q : Int) ∧ q ≤ it.l.len ∧ RowC 1 it.l ((List.replicate q (markV_Int it.n)).flatMap cel_Int ++ ys) cs ∧ St w0 ((b1, itemCells it) :: (cs ++ (((b, C) :: tb) ++ ((itsC d ++ itsC r) ++ l)))) w', fun k _ => it.l.len - k.toNat, ⟨0, xs, it.cs, rfl, by omega, by simpa using hx, st⟩, ?_⟩
    clear st
    rintro k4 w4 ⟨q, ys, cs, rfl, hq, hr, st⟩
    unfold F_towpathlaw01_Book_fillInt_L1
    refine ⟨it.l, st.cell 0 rfl rfl, fun hk => ?_, fun hk => ?_⟩
    · have hk := of_decide_eq_true hk
      intro w5 e5
      have st := st.drew e5
      refine ⟨it.l, st.cell 0 rfl rfl, it.n, st.cell 0 rfl rfl, sp_mark_Int hN (ht.ext st.ext) fun w6 e6 => ?_⟩
      have st := st.keep e6
      refine ⟨st.cell 0 rfl rfl, ?_⟩
      have hqs : (q + 1) * 1 ≤ it.l.len * 1 := Nat.mul_le_mul_right _ (by omega)
      obtain ⟨a, wr, hset⟩ := hr.putN (l := (b1, itemCells it) :: (((b, C) :: tb) ++ ((itsC d ++ itsC r) ++ l))) (vs := cel_Int (markV_Int it.n)) (i := q * 1) st.mid (by rw [cel_Int_len]; decide) (by rw [cel_Int_len]; omega)
      rw [cel_Int_len] at wr hset
      simp only [Nat.mul_one] at wr hset
      refine ⟨a, by omega, hk, ?_, fun w7 hw7 => ?_⟩
      · rw [Int.toNat_natCast]; exact wr
      rw [Int.toNat_natCast] at hw7
      obtain ⟨cs', hr', st⟩ := hset w7 hw7
      have wq : IntKind.i64.wrap ((q : Int) + 1) = ((q + 1 : Nat) : Int) := by rw [i64_in _ (by omega) (by omega)]; omega
      rw [wq]
      have hrl : ((List.replicate q (markV_Int it.n)).flatMap cel_Int).length = q * 1 := rep_len cel_Int_len q _
      refine ⟨⟨q + 1, ys.drop 1, cs', rfl, by omega, ?_, st.unmid⟩, by show _ - _ < _ - _; omega⟩
      have hrl1 : ((List.replicate q (markV_Int it.n)).flatMap cel_Int).length = q := by rw [hrl, Nat.mul_one]
      rw [List.take_left' hrl1, rep_succ, List.drop_append, hrl1, List.drop_eq_nil_of_le (by omega), List.nil_append, show q + 1 - q = 1 from by omega] at hr'
      exact hr'
    · have hk := of_decide_eq_false hk
      have hqe : q = it.l.len := by omega
      subst hqe
      have hr := hr.trimB (rep_len cel_Int_len _ _)
      have wj : IntKind.i64.wrap ((j : Int) + 1) = ((j + 1 : Nat) : Int) := by rw [i64_in _ (by omega) (by omega)]; omega
      rw [wj]
      obtain ⟨cs', o', st'⟩ := KindI.next (it := ⟨it.l, it.long, it.n, cs⟩) (Ph := Kept_Int) (Ph' := Filled_Int) h1 h2 (by simpa [itemCells] using ro) h3 ⟨hN, hlen, hr⟩ h4 st.drop1
      exact ⟨⟨j + 1, cs', rfl, by omega, o', st'⟩, by show _ - _ < _ - _; omega⟩
  · have h := of_decide_eq_false h
    have : j = m := by omega
    subst this
    obtain ⟨its', hl', o'⟩ := o.done
    exact k its' cs _ o' hl' st

theorem sp_grow_Int {R : World → Prop} (ht : Tab w0.w) (o : KindO t its Filled_Int cs) (st : St w0 ((b, C) :: (cs ++ l)) w) (hCt : C[0 + 2]? = some (slV t)) (hm : its.length ≤ 2000000000)
    (k : ∀ its' cs' w', KindO t its' Long_Int cs' → its'.length = its.length → St w0 ((b, C) :: (cs' ++ l)) w' → R w') : C_towpathlaw01_Book_growInt (some ⟨b, 0, none⟩) w R := by
  apply S_towpathlaw01_Book_growInt
  unfold F_towpathlaw01_Book_growInt
  generalize hml : its.length = m at *
  refine ⟨fun i w' => ∃ (j : Nat) (cs : List Chunk), i = (j : Int) ∧ j ≤ m ∧ KindI t m j Filled_Int Long_Int cs ∧ St w0 ((b, C) :: (cs ++ l)) w', fun i _ => m - i.toNat, ⟨0, cs, rfl, by omega, by rw [← hml]; exact KindI.start o, st⟩, ?_⟩
  clear o st
  rintro i w1 ⟨j, cs, rfl, hj, o, st⟩
  unfold F_towpathlaw01_Book_growInt_L0
  have htl := o.len
  refine ⟨rfl, t, st.cell 0 rfl hCt, fun h => ?_, fun h => ?_⟩
  · have h := of_decide_eq_true h
    obtain ⟨d, it, r, tb, h1, h2, ro, h3, ⟨hN, hlen, hx⟩, h4, ha, hc, sti⟩ := o.at_ st (by omega)
    refine ⟨rfl, t, st.cell 0 rfl hCt, ha, by omega, h, ⟨it.l, it.long, it.n⟩, ?_, fun b1 w2 hb1 hw2 => ?_⟩
    · rw [Int.toNat_natCast]; exact hc
    have st := sti.alloc hb1 hw2
    clear sti
    refine ⟨st.writable 0 rfl (by simp), fun w3 hw3 => ?_⟩
    have st := st.put0 hw3
    have st : St w0 ((b1, itemCells it) :: (it.cs ++ (((b, C) :: tb) ++ ((itsC d ++ itsC r) ++ l)))) w3 := st
    refine ⟨it.l, st.cell 0 rfl rfl, fun long k w' => ∃ (q : Nat) (cs : List Chunk), k = (q : Int) ∧ q ≤ 70 ∧ Grown_Int q ⟨it.l, long, it.n, cs⟩ long ∧ St w0 ((b1, itemCells it) :: (cs ++ (((b, C) :: tb) ++ ((itsC d ++ itsC r) ++ l)))) w', fun _ k _ => 70 - k.toNat, ⟨0, it.cs, rfl, by omega, ⟨hN, hlen, rfl, it.cs, [], by simp, hx, .inl rfl⟩, st⟩, ?_⟩
    clear st
    rintro long k4 w4 ⟨q, cs, rfl, hq, hg, st⟩
    unfold F_towpathlaw01_Book_growInt_L1
    refine ⟨fun hk => ?_, fun hk => ?_⟩
    · have hk := of_decide_eq_true hk
      refine ⟨it.n, st.cell 0 rfl rfl, sp_mark_Int hN (ht.ext st.ext) fun w5 e5 b2 w6 hb2 hw6 => ?_⟩
      have st := ((st.keep e5).alloc hb2 hw6).drop1
      refine ⟨_, srcAt_newN hb2 hw6 rfl, ?_⟩
      have wq : IntKind.i64.wrap ((q : Int) + 1) = ((q + 1 : Nat) : Int) := by rw [i64_in _ (by omega) (by omega)]; omega
      rw [wq]
      obtain ⟨_, _, hll, c1, c2, hcs, hg, hor⟩ := hg
      have hll : long.len = it.l.len + q := hll
      have hcs : cs = c1 ++ c2 := hcs
      subst hcs
      have st : St w0 (c1 ++ (c2 ++ ((b1, itemCells it) :: (((b, C) :: tb) ++ ((itsC d ++ itsC r) ++ l))))) w6 := by have := st.mid; rwa [List.append_assoc] at this
      refine hg.appendK (by_ := 8) st rfl (by omega) rfl rfl (by rw [hll]; omega) fun s' bs' l' w7 hr7 st hl7 hcase => ?_
      have hr7 : RowC 1 s' ((List.replicate (it.l.len + q) (markV_Int it.n)).flatMap cel_Int ++ cel_Int (markV_Int it.n)) bs' := hr7
      rw [rep_succ] at hr7
      have st : St w0 ((b1, itemCells it) :: ((bs' ++ (l' ++ c2)) ++ (((b, C) :: tb) ++ ((itsC d ++ itsC r) ++ l)))) w7 := by
        refine St.unmid ?_
        simpa only [List.append_assoc] using st
      refine ⟨⟨q + 1, bs' ++ (l' ++ c2), rfl, by omega, ⟨hN, hlen, by show s'.len = it.l.len + (q + 1); omega, bs', l' ++ c2, rfl, hr7, ?_⟩, st⟩, by show _ - _ < _ - _; omega⟩
      rcases hcase with ⟨hp7, rfl⟩ | hb7
      · rcases hor with hp | hsrc
        · exact .inl (hp7.trans hp)
        · exact .inr hsrc
      · have hb7' : l' = c1 := hb7
        subst hb7'
        refine .inr fun w0 l w st => ?_
        rw [List.append_assoc] at st
        rcases hor with hp | hsrc
        · exact rep_src cel_Int_len (hg.src st) hp rfl (by show it.l.len ≤ it.l.len + q; omega) hll
        · exact hsrc w0 l w st.drop
    · have hk := of_decide_eq_false hk
      obtain rfl : q = 70 := by omega
      have hcell : w4.cell? ⟨b, 0 + 2, none⟩ = some (slV t) := st.drop1.drop.cell 0 rfl hCt
      have st : St w0 (tb ++ ((b, C) :: (cs ++ ((itsC d ++ itsC r) ++ l)))) w4 := by
        have h := st.drop1.swap
        exact St.mid h
      have hlt : j * 3 + 1 < t.len * 3 := by omega
      obtain ⟨a, wr, hset⟩ := ro.setN (v := slV long) (i := j * 3 + 1) st hlt
      refine ⟨rfl, t, hcell, a, by omega, h, ?_, fun w8 hw8 => ?_⟩
      · rw [Int.toNat_natCast, Nat.add_assoc]; exact wr
      rw [Int.toNat_natCast, Nat.add_assoc] at hw8
      obtain ⟨tb', ro', st⟩ := hset w8 hw8
      rw [tab_set (cs := cs) h1] at ro'
      have wj : IntKind.i64.wrap ((j : Int) + 1) = ((j + 1 : Nat) : Int) := by rw [i64_in _ (by omega) (by omega)]; omega
      rw [wj]
      have st : St w0 (cs ++ (((b, C) :: tb') ++ ((itsC d ++ itsC r) ++ l))) w8 := by
        have h : St w0 (((b, C) :: tb') ++ (cs ++ ((itsC d ++ itsC r) ++ l))) w8 := St.unmid st
        exact h.swap
      obtain ⟨cs', o', st'⟩ := KindI.next (it := ⟨it.l, long, it.n, cs⟩) (Ph := Filled_Int) (Ph' := Long_Int) h1 h2 ro' h3 hg h4 st
      exact ⟨⟨j + 1, cs', rfl, by omega, o', st'⟩, by show _ - _ < _ - _; omega⟩
  · have h := of_decide_eq_false h
    have : j = m := by omega
    subst this
    obtain ⟨its', hl', o'⟩ := o.done
    exact k its' cs _ o' hl' st

theorem sp_look_Int {R : Bool → World → Prop} (ht : Tab w0.w) (o : KindO t its Long_Int cs) (st : St w0 ((b, C) :: (cs ++ l)) w) (hCt : C[0 + 2]? = some (slV t)) (hm : its.length ≤ 2000000000)
    (k : ∀ w', St w0 ((b, C) :: (cs ++ l)) w' → R true w') : C_towpathlaw01_Book_lookInt (some ⟨b, 0, none⟩) w R := by
  apply S_towpathlaw01_Book_lookInt
  unfold F_towpathlaw01_Book_lookInt
  generalize hml : its.length = m at *
  have hI : ∀ j, j ≤ m → KindI t m j Long_Int Long_Int cs := fun j hj => by
    obtain ⟨tb, ro, rfl, hph⟩ := o
    refine ⟨its.take j, its.drop j, tb, by rw [List.length_take]; omega, by rw [List.length_take, List.length_drop]; omega, by rw [List.take_append_drop]; exact ro, by rw [List.take_append_drop], fun it hit => hph it (List.mem_of_mem_take hit), fun it hit => hph it (List.mem_of_mem_drop hit)⟩
  refine ⟨fun i w' => ∃ (j : Nat), i = (j : Int) ∧ j ≤ m ∧ St w0 ((b, C) :: (cs ++ l)) w', fun i _ => m - i.toNat, ⟨0, rfl, by omega, st⟩, ?_⟩
  clear st
  rintro i w1 ⟨j, rfl, hj, st⟩
  unfold F_towpathlaw01_Book_lookInt_L0
  have o := hI j hj
  have htl := o.len
  refine ⟨rfl, t, st.cell 0 rfl hCt, fun h => ?_, fun h => ?_⟩
  · have h := of_decide_eq_true h
    obtain ⟨d, it, r, tb, h1, h2, ro, h3, ⟨hN, hlen, hll, c1, c2, hcs, hg, hor⟩, h4, ha, hc, sti⟩ := o.at_ st (by omega)
    refine ⟨rfl, t, st.cell 0 rfl hCt, ha, by omega, h, ⟨it.l, it.long, it.n⟩, ?_, fun b1 w2 hb1 hw2 => ?_⟩
    · rw [Int.toNat_natCast]; exact hc
    have sto := st.alloc hb1 hw2
    have st := sti.alloc hb1 hw2
    clear sti
    refine ⟨st.writable 0 rfl (by simp), fun w3 hw3 => ?_⟩
    have sto : St w0 ((b1, itemCells it) :: ((b, C) :: (cs ++ l))) w3 := sto.put0 hw3
    have st : St w0 ((b1, itemCells it) :: (it.cs ++ (((b, C) :: tb) ++ ((itsC d ++ itsC r) ++ l)))) w3 := st.put0 hw3
    refine ⟨it.long, st.cell 0 rfl rfl, it.l, st.cell 0 rfl rfl, fun hne => ?_, fun _ => ?_⟩
    · exfalso
      rw [hll, i64_in _ (by omega) (by omega)] at hne
      simp at hne
    refine ⟨fun k w' => ∃ (q : Nat), k = (q : Int) ∧ q ≤ it.long.len ∧ St w0 ((b1, itemCells it) :: ((b, C) :: (cs ++ l))) w' ∧ St w0 ((b1, itemCells it) :: (it.cs ++ (((b, C) :: tb) ++ ((itsC d ++ itsC r) ++ l)))) w', fun k _ => it.long.len - k.toNat, ⟨0, rfl, by omega, sto, st⟩, ?_⟩
    clear st sto
    rintro k4 w4 ⟨q, rfl, hq, sto, st⟩
    have hsrc : SrcAt w4 it.long 1 ((List.replicate (it.l.len + 70) (markV_Int it.n)).flatMap cel_Int) ∧ SrcAt w4 it.l 1 ((List.replicate it.l.len (markV_Int it.n)).flatMap cel_Int) := by
      have s1 := st.drop1
      rw [hcs, List.append_assoc] at s1
      refine ⟨hg.src s1, ?_⟩
      rcases hor with hp | hsrc
      · exact rep_src cel_Int_len (hg.src s1) hp rfl (by omega) hll
      · exact hsrc _ _ _ s1.drop
    have rep : ∀ (s : Slc) (p i : Nat), SrcAt w4 s 1 ((List.replicate p (markV_Int it.n)).flatMap cel_Int) → i < s.len → IsAt s.ptr ∧ CellsAt w4 (pblk s.ptr) (poff s.ptr + i * 1) (cel_Int (markV_Int it.n)) := fun s p i hs hi => by
      obtain ⟨a, x, hx, hc⟩ := SrcAt.getN hs cel_Int_len (by decide) (i := (i : Int)) (by omega) (by omega)
      rw [Int.toNat_natCast] at hx hc
      rw [(List.mem_replicate.1 (List.mem_of_getElem? hx)).2] at hc
      exact ⟨a, hc⟩
    unfold F_towpathlaw01_Book_lookInt_L1
    refine ⟨it.long, st.cell 0 rfl rfl, fun hk => ?_, fun hk => ?_⟩
    · have hk := of_decide_eq_true hk
      obtain ⟨a, hc1⟩ := rep it.long _ q hsrc.1 (by omega)
      refine ⟨it.long, st.cell 0 rfl rfl, a, by omega, hk, markV_Int it.n, by have h0 := cellsAt_iff.1 hc1 0 _ rfl; simpa using h0, it.n, st.cell 0 rfl rfl, true, fun w' e => sp_is_Int hN (ht.ext (st.ext.trans e)), fun hh => (by cases hh), fun _ => ?_⟩
      have wq : IntKind.i64.wrap ((q : Int) + 1) = ((q + 1 : Nat) : Int) := by rw [i64_in _ (by omega) (by omega)]; omega
      have fin : ∀ w', Ext w4 w' → (∃ (q' : Nat), ((q + 1 : Nat) : Int) = (q' : Int) ∧ q' ≤ it.long.len ∧ St w0 ((b1, itemCells it) :: ((b, C) :: (cs ++ l))) w' ∧ St w0 ((b1, itemCells it) :: (it.cs ++ (((b, C) :: tb) ++ ((itsC d ++ itsC r) ++ l)))) w') := fun w' e => ⟨q + 1, rfl, by omega, sto.keep e, st.keep e⟩
      refine ⟨it.l, st.cell 0 rfl rfl, fun hk2 => ?_, fun hk2 w10 e10 => ?_⟩
      · have hk2 := of_decide_eq_true hk2
        obtain ⟨a2, hc2⟩ := rep it.l _ q hsrc.2 (by omega)
        refine ⟨it.l, st.cell 0 rfl rfl, a2, by omega, hk2, markV_Int it.n, by have h0 := cellsAt_iff.1 hc2 0 _ rfl; simpa using h0, it.n, st.cell 0 rfl rfl, true, fun w' e => sp_is_Int hN (ht.ext (st.ext.trans e)), fun w9 e9 => ?_⟩
        unfold F_towpathlaw01_Book_lookInt_k2
        refine ⟨fun hh => (by cases hh), fun _ => ?_⟩
        rw [wq]
        exact ⟨fin _ e9, by show _ - _ < _ - _; omega⟩
      · unfold F_towpathlaw01_Book_lookInt_k2
        refine ⟨fun hh => (by cases hh), fun _ => ?_⟩
        rw [wq]
        exact ⟨fin _ e10, by show _ - _ < _ - _; omega⟩
    · have wj : IntKind.i64.wrap ((j : Int) + 1) = ((j + 1 : Nat) : Int) := by rw [i64_in _ (by omega) (by omega)]; omega
      rw [wj]
      exact ⟨⟨j + 1, rfl, by omega, sto.drop1⟩, by show _ - _ < _ - _; omega⟩
  · exact k _ st
end
theorem sp_KINDs_Int {w0 : Base} {w : World} {l sc cs : List Chunk} {C : List Value} {b : Nat} {n : Int} {t s : Slc} {its : List Item} {xs : List Value} {R : World → Prop} (o : KindO t its Kept_Int cs) (r : RowC 1 s xs sc) (st : St w0 ((b, C) :: (cs ++ (sc ++ l))) w) (hC0 : C[0]? = some (iV n)) (hCt : C[2]? = some (slV t)) (hn : 0 ≤ n ∧ n ≤ 2000000000) (hl : its.length ≤ 2000000000) (hs : s.len ≤ 1099511627776)
    (k : ∀ t' its' cs' w', KindO t' its' Kept_Int cs' → its'.length = its.length + 1 → St w0 ((b, (C.set 0 (iV (n + 1))).set 2 (slV t')) :: (cs' ++ l)) w' → R w') : C_towpathlaw01_Book_Ints (some ⟨b, 0, none⟩) s w R := by
  apply S_towpathlaw01_Book_Ints
  unfold F_towpathlaw01_Book_Ints
  exact sp_keep_Int o r st hC0 hCt hn hl hs k
end Go.Proofs.YtpdegdnigcnjiaaGreatDoor

namespace Go.Proofs.YtpdegdnigcnjiaaGreatDoor
open Go
set_option linter.unusedVariables false
set_option linter.unusedSimpArgs false
abbrev cel_Version (v : T_api_Version) : List Value := [iV v.Number, Value.string v.Val, Value.bool v.Drop]
abbrev markV_Version (n : Int) : T_api_Version := ⟨IntKind.i64.wrap ((-1000) - n), ByteArray.empty, false⟩
theorem cel_Version_len (x : T_api_Version) : (cel_Version x).length = 3 := rfl

/-! ### Version -/
def Kept_Version (it : Item) : Prop := OkN it.n ∧ it.l.len ≤ 1099511627776 ∧ ∃ xs, RowC 3 it.l xs it.cs
def Filled_Version (it : Item) : Prop := OkN it.n ∧ it.l.len ≤ 1099511627776 ∧ RowC 3 it.l ((List.replicate it.l.len (markV_Version it.n)).flatMap cel_Version) it.cs
def Grown_Version (k : Nat) (it : Item) (long : Slc) : Prop :=
  OkN it.n ∧ it.l.len ≤ 1099511627776 ∧ long.len = it.l.len + k ∧ ∃ c1 c2, it.cs = c1 ++ c2 ∧ RowC 3 long ((List.replicate (it.l.len + k) (markV_Version it.n)).flatMap cel_Version) c1 ∧
    (long.ptr = it.l.ptr ∨ ∀ w0 l w, St w0 (c2 ++ l) w → SrcAt w it.l 3 ((List.replicate it.l.len (markV_Version it.n)).flatMap cel_Version))
def Long_Version (it : Item) : Prop := Grown_Version 70 it it.long
section
variable {w0 : Base} {w : World} {l cs : List Chunk} {C : List Value} {b : Nat} {n : Int} {t : Slc} {its : List Item}

theorem sp_mark_Version {R : T_api_Version → World → Prop} (hn : OkN n) (ht : Tab w) (k : ∀ w', Ext w w' → R (markV_Version n) w') : C_towpathlaw01_markVersion n w R := by
  apply S_towpathlaw01_markVersion
  unfold F_towpathlaw01_markVersion
  intro b w1 hb hw
  have st := (St.start w).alloc hb hw
  refine ⟨st.writable 0 rfl (by simp), fun w2 hw2 => ?_⟩
  have st : St ⟨w, []⟩ [(b, cel_Version (markV_Version n))] w2 := st.put0 hw2
  exact ⟨markV_Version n, (st.get 0 rfl).all, k w2 st.ext⟩
theorem sp_is_Version (hn : OkN n) (ht : Tab w) : C_towpathlaw01_isVersion (markV_Version n) n w (fun (v44' : Bool) w'' => v44' = true ∧ Ext w w'') := by
  apply S_towpathlaw01_isVersion
  unfold F_towpathlaw01_isVersion
  intro b w1 hb hw
  have st := (St.start w).alloc hb hw
  refine ⟨markV_Version n, (st.get 0 rfl).all, ?_, st.ext⟩
  rw [beq_self_eq_true, show (markV_Version n).Val = ByteArray.empty from rfl, ba_reflB]; rfl


theorem sp_keep_Version {s : Slc} {xs : List Value} {sc : List Chunk} {R : World → Prop} (o : KindO t its Kept_Version cs) (r : RowC 3 s xs sc) (st : St w0 ((b, C) :: (cs ++ (sc ++ l))) w) (hC0 : C[0]? = some (iV n)) (hCt : C[6]? = some (slV t))
    (hn : 0 ≤ n ∧ n ≤ 2000000000) (hl : its.length ≤ 2000000000) (hs : s.len ≤ 1099511627776) (k : ∀ t' its' cs' w', KindO t' its' Kept_Version cs' → its'.length = its.length + 1 → St w0 ((b, (C.set 0 (iV (n + 1))).set 6 (slV t')) :: (cs' ++ l)) w' → R w') : C_towpathlaw01_Book_keepVersion (some ⟨b, 0, none⟩) s w R := by
  apply S_towpathlaw01_Book_keepVersion
  unfold F_towpathlaw01_Book_keepVersion
  have htl := o.len
  obtain ⟨tb, ro, rfl, hph⟩ := o
  have wn : IntKind.i64.wrap (n + 1) = n + 1 := i64_in _ (by omega) (by omega)
  have hCl : 6 < C.length := (List.getElem?_eq_some_iff.1 hCt).1
  refine ⟨rfl, n, st.cell 0 rfl hC0, st.writable 0 rfl (by show 0 + 1 ≤ _; omega), fun w1 hw1 w2 e2 => ?_⟩
  rw [wn] at hw1
  have st := (st.put0 hw1).drew e2
  have e0 : putL (poff (some ⟨b, 0, none⟩ : Option Addr)) [iV (n + 1)] C = C.set 0 (iV (n + 1)) := putL_one ..
  rw [e0] at st
  have hCt' : (C.set 0 (iV (n + 1)))[6]? = some (slV t) := by rw [List.getElem?_set_ne (by decide)]; exact hCt
  have hC0' : (C.set 0 (iV (n + 1)))[0]? = some (iV (n + 1)) := List.getElem?_set_self (by omega)
  have hCt'' : (C.set 0 (iV (n + 1)))[0 + 6]? = some (slV t) := by rw [Nat.zero_add]; exact hCt'
  refine ⟨rfl, t, st.cell 0 rfl hCt'', rfl, n + 1, st.cell 0 rfl hC0', fun b1 w3 hb1 hw3 => ?_⟩
  have st := st.alloc hb1 hw3
  refine ⟨st.cell 1 rfl hCt'', _, srcAt_newN hb1 hw3 rfl, ?_⟩
  have st : St w0 (tb ++ ((b, C.set 0 (iV (n + 1))) :: (itsC its ++ (sc ++ l)))) w3 := by
    have h : St w0 ((b, C.set 0 (iV (n + 1))) :: (tb ++ (itsC its ++ (sc ++ l)))) w3 := by have := st.drop1; simpa using this
    exact h.mid
  refine ro.append st rfl rfl rfl (by rw [htl]; omega) fun t' tb' w4 ro' st hlen => ?_
  have st := st.unmid
  refine ⟨rfl, st.writable 0 rfl (by rw [List.length_set]; show 0 + 6 + 1 ≤ _; omega), fun w5 hw5 => ?_⟩
  have st := st.put0 hw5
  have e1 : putL (poff (some ⟨b, 0, none⟩ : Option Addr) + 6) [slV t'] (C.set 0 (iV (n + 1))) = (C.set 0 (iV (n + 1))).set 6 (slV t') := by rw [putL_one]; rw [show poff (some ⟨b, 0, none⟩ : Option Addr) + 6 = 6 from Nat.zero_add _]
  rw [e1] at st
  refine k t' (its ++ [⟨s, ⟨none, 0, 0⟩, n + 1, sc⟩]) (tb' ++ itsC (its ++ [⟨s, ⟨none, 0, 0⟩, n + 1, sc⟩])) w5 ⟨tb', ?_, rfl, fun it hit => ?_⟩ (by simp) ?_
  · rw [List.flatMap_append]; exact ro'
  · rcases List.mem_append.1 hit with hit | hit
    · exact hph it hit
    · rw [List.mem_singleton] at hit
      rw [hit]
      exact ⟨⟨by show 0 ≤ n + 1; omega, by show n + 1 ≤ 9000000000; omega⟩, hs, xs, r⟩
  · rw [itsC_mid its _ []]
    unfold itsC at st ⊢
    simpa using st

theorem sp_fill_Version {R : World → Prop} (ht : Tab w0.w) (o : KindO t its Kept_Version cs) (st : St w0 ((b, C) :: (cs ++ l)) w) (hCt : C[0 + 6]? = some (slV t)) (hm : its.length ≤ 2000000000)
    (k : ∀ its' cs' w', KindO t its' Filled_Version cs' → its'.length = its.length → St w0 ((b, C) :: (cs' ++ l)) w' → R w') : C_towpathlaw01_Book_fillVersion (some ⟨b, 0, none⟩) w R := by
  apply S_towpathlaw01_Book_fillVersion
  unfold F_towpathlaw01_Book_fillVersion
  generalize hml : its.length = m at *
  refine ⟨fun i w' => ∃ (j : Nat) (cs : List Chunk), i = (j : Int) ∧ j ≤ m ∧ KindI t m j Kept_Version Filled_Version cs ∧ St w0 ((b, C) :: (cs ++ l)) w', fun i _ => m - i.toNat, ⟨0, cs, rfl, by omega, by rw [← hml]; exact KindI.start o, st⟩, ?_⟩
  clear o st
  rintro i w1 ⟨j, cs, rfl, hj, o, st⟩
  unfold F_towpathlaw01_Book_fillVersion_L0
  have htl := o.len
  refine ⟨rfl, t, st.cell 0 rfl hCt, fun h => ?_, fun h => ?_⟩
  · have h := of_decide_eq_true h
    obtain ⟨d, it, r, tb, h1, h2, ro, h3, ⟨hN, hlen, xs, hx⟩, h4, ha, hc, sti⟩ := o.at_ st (by omega)
    refine ⟨rfl, t, st.cell 0 rfl hCt, ha, by omega, h, ⟨it.l, it.long, it.n⟩, ?_, fun b1 w2 hb1 hw2 => ?_⟩
    · rw [Int.toNat_natCast]; exact hc
    have st := sti.alloc hb1 hw2
    clear sti
    refine ⟨st.writable 0 rfl (by simp), fun w3 hw3 => ?_⟩
    have st := st.put0 hw3
    have st : St w0 ((b1, itemCells it) :: (it.cs ++ (((b, C) :: tb) ++ ((itsC d ++ itsC r) ++ l)))) w3 := st
    refine ⟨fun k w' => ∃ (q : Nat) (ys : List Value) (cs : List Chunk), k = (q : Int) ∧ q ≤ it.l.len ∧ RowC 3 it.l ((List.replicate q (markV_Version it.n)).flatMap cel_Version ++ ys) cs ∧ St w0 ((b1, itemCells it) :: (cs ++ (((b, C) :: tb) ++ ((itsC d ++ itsC r) ++ l)))) w', fun k _ => it.l.len - k.toNat, ⟨0, xs, it.cs, rfl, by omega, by simpa using hx, st⟩, ?_⟩
    clear st
    rintro k4 w4 ⟨q, ys, cs, rfl, hq, hr, st⟩
    unfold F_towpathlaw01_Book_fillVersion_L1
    refine ⟨it.l, st.cell 0 rfl rfl, fun hk => ?_, fun hk => ?_⟩
    · have hk := of_decide_eq_true hk
      intro w5 e5
      have st := st.drew e5
      refine ⟨it.l, st.cell 0 rfl rfl, it.n, st.cell 0 rfl rfl, sp_mark_Version hN (ht.ext st.ext) fun w6 e6 => ?_⟩
      have st := st.keep e6
      refine ⟨st.cell 0 rfl rfl, ?_⟩
      have hqs : (q + 1) * 3 ≤ it.l.len * 3 := Nat.mul_le_mul_right _ (by omega)
      obtain ⟨a, wr, hset⟩ := hr.putN (l := (b1, itemCells it) :: (((b, C) :: tb) ++ ((itsC d ++ itsC r) ++ l))) (vs := cel_Version (markV_Version it.n)) (i := q * 3) st.mid (by rw [cel_Version_len]; decide) (by rw [cel_Version_len]; omega)
      rw [cel_Version_len] at wr hset
      skip
      refine ⟨a, by omega, hk, ?_, fun w7 hw7 => ?_⟩
      · rw [Int.toNat_natCast]; exact wr
      rw [Int.toNat_natCast] at hw7
      obtain ⟨cs', hr', st⟩ := hset w7 hw7
      have wq : IntKind.i64.wrap ((q : Int) + 1) = ((q + 1 : Nat) : Int) := by rw [i64_in _ (by omega) (by omega)]; omega
      rw [wq]
      have hrl : ((List.replicate q (markV_Version it.n)).flatMap cel_Version).length = q * 3 := rep_len cel_Version_len q _
      refine ⟨⟨q + 1, ys.drop 3, cs', rfl, by omega, ?_, st.unmid⟩, by show _ - _ < _ - _; omega⟩
      skip
      rw [List.take_left' hrl, rep_succ, List.drop_append, hrl, List.drop_eq_nil_of_le (by omega), List.nil_append, show q * 3 + 3 - q * 3 = 3 from by omega] at hr'
      exact hr'
    · have hk := of_decide_eq_false hk
      have hqe : q = it.l.len := by omega
      subst hqe
      have hr := hr.trimB (rep_len cel_Version_len _ _)
      have wj : IntKind.i64.wrap ((j : Int) + 1) = ((j + 1 : Nat) : Int) := by rw [i64_in _ (by omega) (by omega)]; omega
      rw [wj]
      obtain ⟨cs', o', st'⟩ := KindI.next (it := ⟨it.l, it.long, it.n, cs⟩) (Ph := Kept_Version) (Ph' := Filled_Version) h1 h2 (by simpa [itemCells] using ro) h3 ⟨hN, hlen, hr⟩ h4 st.drop1
      exact ⟨⟨j + 1, cs', rfl, by omega, o', st'⟩, by show _ - _ < _ - _; omega⟩
  · have h := of_decide_eq_false h
    have : j = m := by omega
    subst this
    obtain ⟨its', hl', o'⟩ := o.done
    exact k its' cs _ o' hl' st

theorem sp_grow_Version {R : World → Prop} (ht : Tab w0.w) (o : KindO t its Filled_Version cs) (st : St w0 ((b, C) :: (cs ++ l)) w) (hCt : C[0 + 6]? = some (slV t)) (hm : its.length ≤ 2000000000)
    (k : ∀ its' cs' w', KindO t its' Long_Version cs' → its'.length = its.length → St w0 ((b, C) :: (cs' ++ l)) w' → R w') : C_towpathlaw01_Book_growVersion (some ⟨b, 0, none⟩) w R := by
  apply S_towpathlaw01_Book_growVersion
  unfold F_towpathlaw01_Book_growVersion
  generalize hml : its.length = m at *
  refine ⟨fun i w' => ∃ (j : Nat) (cs : List Chunk), i = (j : Int) ∧ j ≤ m ∧ KindI t m j Filled_Version Long_Version cs ∧ St w0 ((b, C) :: (cs ++ l)) w', fun i _ => m - i.toNat, ⟨0, cs, rfl, by omega, by rw [← hml]; exact KindI.start o, st⟩, ?_⟩
  clear o st
  rintro i w1 ⟨j, cs, rfl, hj, o, st⟩
  unfold F_towpathlaw01_Book_growVersion_L0
  have htl := o.len
  refine ⟨rfl, t, st.cell 0 rfl hCt, fun h => ?_, fun h => ?_⟩
  · have h := of_decide_eq_true h
    obtain ⟨d, it, r, tb, h1, h2, ro, h3, ⟨hN, hlen, hx⟩, h4, ha, hc, sti⟩ := o.at_ st (by omega)
    refine ⟨rfl, t, st.cell 0 rfl hCt, ha, by omega, h, ⟨it.l, it.long, it.n⟩, ?_, fun b1 w2 hb1 hw2 => ?_⟩
    · rw [Int.toNat_natCast]; exact hc
    have st := sti.alloc hb1 hw2
    clear sti
    refine ⟨st.writable 0 rfl (by simp), fun w3 hw3 => ?_⟩
    have st := st.put0 hw3
    have st : St w0 ((b1, itemCells it) :: (it.cs ++ (((b, C) :: tb) ++ ((itsC d ++ itsC r) ++ l)))) w3 := st
    refine ⟨it.l, st.cell 0 rfl rfl, fun long k w' => ∃ (q : Nat) (cs : List Chunk), k = (q : Int) ∧ q ≤ 70 ∧ Grown_Version q ⟨it.l, long, it.n, cs⟩ long ∧ St w0 ((b1, itemCells it) :: (cs ++ (((b, C) :: tb) ++ ((itsC d ++ itsC r) ++ l)))) w', fun _ k _ => 70 - k.toNat, ⟨0, it.cs, rfl, by omega, ⟨hN, hlen, rfl, it.cs, [], by simp, hx, .inl rfl⟩, st⟩, ?_⟩
    clear st
    rintro long k4 w4 ⟨q, cs, rfl, hq, hg, st⟩
    unfold F_towpathlaw01_Book_growVersion_L1
    refine ⟨fun hk => ?_, fun hk => ?_⟩
    · have hk := of_decide_eq_true hk
      refine ⟨it.n, st.cell 0 rfl rfl, sp_mark_Version hN (ht.ext st.ext) fun w5 e5 b2 w6 hb2 hw6 => ?_⟩
      have st := ((st.keep e5).alloc hb2 hw6).drop1
      refine ⟨_, srcAt_newN hb2 hw6 rfl, ?_⟩
      have wq : IntKind.i64.wrap ((q : Int) + 1) = ((q + 1 : Nat) : Int) := by rw [i64_in _ (by omega) (by omega)]; omega
      rw [wq]
      obtain ⟨_, _, hll, c1, c2, hcs, hg, hor⟩ := hg
      have hll : long.len = it.l.len + q := hll
      have hcs : cs = c1 ++ c2 := hcs
      subst hcs
      have st : St w0 (c1 ++ (c2 ++ ((b1, itemCells it) :: (((b, C) :: tb) ++ ((itsC d ++ itsC r) ++ l))))) w6 := by have := st.mid; rwa [List.append_assoc] at this
      refine hg.appendK (by_ := 32) st rfl (by omega) rfl rfl (by rw [hll]; omega) fun s' bs' l' w7 hr7 st hl7 hcase => ?_
      have hr7 : RowC 3 s' ((List.replicate (it.l.len + q) (markV_Version it.n)).flatMap cel_Version ++ cel_Version (markV_Version it.n)) bs' := hr7
      rw [rep_succ] at hr7
      have st : St w0 ((b1, itemCells it) :: ((bs' ++ (l' ++ c2)) ++ (((b, C) :: tb) ++ ((itsC d ++ itsC r) ++ l)))) w7 := by
        refine St.unmid ?_
        simpa only [List.append_assoc] using st
      refine ⟨⟨q + 1, bs' ++ (l' ++ c2), rfl, by omega, ⟨hN, hlen, by show s'.len = it.l.len + (q + 1); omega, bs', l' ++ c2, rfl, hr7, ?_⟩, st⟩, by show _ - _ < _ - _; omega⟩
      rcases hcase with ⟨hp7, rfl⟩ | hb7
      · rcases hor with hp | hsrc
        · exact .inl (hp7.trans hp)
        · exact .inr hsrc
      · have hb7' : l' = c1 := hb7
        subst hb7'
        refine .inr fun w0 l w st => ?_
        rw [List.append_assoc] at st
        rcases hor with hp | hsrc
        · exact rep_src cel_Version_len (hg.src st) hp rfl (by show it.l.len ≤ it.l.len + q; omega) hll
        · exact hsrc w0 l w st.drop
    · have hk := of_decide_eq_false hk
      obtain rfl : q = 70 := by omega
      have hcell : w4.cell? ⟨b, 0 + 6, none⟩ = some (slV t) := st.drop1.drop.cell 0 rfl hCt
      have st : St w0 (tb ++ ((b, C) :: (cs ++ ((itsC d ++ itsC r) ++ l)))) w4 := by
        have h := st.drop1.swap
        exact St.mid h
      have hlt : j * 3 + 1 < t.len * 3 := by omega
      obtain ⟨a, wr, hset⟩ := ro.setN (v := slV long) (i := j * 3 + 1) st hlt
      refine ⟨rfl, t, hcell, a, by omega, h, ?_, fun w8 hw8 => ?_⟩
      · rw [Int.toNat_natCast, Nat.add_assoc]; exact wr
      rw [Int.toNat_natCast, Nat.add_assoc] at hw8
      obtain ⟨tb', ro', st⟩ := hset w8 hw8
      rw [tab_set (cs := cs) h1] at ro'
      have wj : IntKind.i64.wrap ((j : Int) + 1) = ((j + 1 : Nat) : Int) := by rw [i64_in _ (by omega) (by omega)]; omega
      rw [wj]
      have st : St w0 (cs ++ (((b, C) :: tb') ++ ((itsC d ++ itsC r) ++ l))) w8 := by
        have h : St w0 (((b, C) :: tb') ++ (cs ++ ((itsC d ++ itsC r) ++ l))) w8 := St.unmid st
        exact h.swap
      obtain ⟨cs', o', st'⟩ := KindI.next (it := ⟨it.l, long, it.n, cs⟩) (Ph := Filled_Version) (Ph' := Long_Version) h1 h2 ro' h3 hg h4 st
      exact ⟨⟨j + 1, cs', rfl, by omega, o', st'⟩, by show _ - _ < _ - _; omega⟩
  · have h := of_decide_eq_false h
    have : j = m := by omega
    subst this
    obtain ⟨its', hl', o'⟩ := o.done
    exact k its' cs _ o' hl' st

theorem sp_look_Version {R : Bool → World → Prop} (ht : Tab w0.w) (o : KindO t its Long_Version cs) (st : St w0 ((b, C) :: (cs ++ l)) w) (hCt : C[0 + 6]? = some (slV t)) (hm : its.length ≤ 2000000000)
    (k : ∀ w', St w0 ((b, C) :: (cs ++ l)) w' → R true w') : C_towpathlaw01_Book_lookVersion (some ⟨b, 0, none⟩) w R := by
  apply S_towpathlaw01_Book_lookVersion
  unfold F_towpathlaw01_Book_lookVersion
  generalize hml : its.length = m at *
  have hI : ∀ j, j ≤ m → KindI t m j Long_Version Long_Version cs := fun j hj => by
    obtain ⟨tb, ro, rfl, hph⟩ := o
    refine ⟨its.take j, its.drop j, tb, by rw [List.length_take]; omega, by rw [List.length_take, List.length_drop]; omega, by rw [List.take_append_drop]; exact ro, by rw [List.take_append_drop], fun it hit => hph it (List.mem_of_mem_take hit), fun it hit => hph it (List.mem_of_mem_drop hit)⟩
  refine ⟨fun i w' => ∃ (j : Nat), i = (j : Int) ∧ j ≤ m ∧ St w0 ((b, C) :: (cs ++ l)) w', fun i _ => m - i.toNat, ⟨0, rfl, by omega, st⟩, ?_⟩
  clear st
  rintro i w1 ⟨j, rfl, hj, st⟩
  unfold F_towpathlaw01_Book_lookVersion_L0
  have o := hI j hj
  have htl := o.len
  refine ⟨rfl, t, st.cell 0 rfl hCt, fun h => ?_, fun h => ?_⟩
  · have h := of_decide_eq_true h
    obtain ⟨d, it, r, tb, h1, h2, ro, h3, ⟨hN, hlen, hll, c1, c2, hcs, hg, hor⟩, h4, ha, hc, sti⟩ := o.at_ st (by omega)
    refine ⟨rfl, t, st.cell 0 rfl hCt, ha, by omega, h, ⟨it.l, it.long, it.n⟩, ?_, fun b1 w2 hb1 hw2 => ?_⟩
    · rw [Int.toNat_natCast]; exact hc
    have sto := st.alloc hb1 hw2
    have st := sti.alloc hb1 hw2
    clear sti
    refine ⟨st.writable 0 rfl (by simp), fun w3 hw3 => ?_⟩
    have sto : St w0 ((b1, itemCells it) :: ((b, C) :: (cs ++ l))) w3 := sto.put0 hw3
    have st : St w0 ((b1, itemCells it) :: (it.cs ++ (((b, C) :: tb) ++ ((itsC d ++ itsC r) ++ l)))) w3 := st.put0 hw3
    refine ⟨it.long, st.cell 0 rfl rfl, it.l, st.cell 0 rfl rfl, fun hne => ?_, fun _ => ?_⟩
    · exfalso
      rw [hll, i64_in _ (by omega) (by omega)] at hne
      simp at hne
    refine ⟨fun k w' => ∃ (q : Nat), k = (q : Int) ∧ q ≤ it.long.len ∧ St w0 ((b1, itemCells it) :: ((b, C) :: (cs ++ l))) w' ∧ St w0 ((b1, itemCells it) :: (it.cs ++ (((b, C) :: tb) ++ ((itsC d ++ itsC r) ++ l)))) w', fun k _ => it.long.len - k.toNat, ⟨0, rfl, by omega, sto, st⟩, ?_⟩
    clear st sto
    rintro k4 w4 ⟨q, rfl, hq, sto, st⟩
    have hsrc : SrcAt w4 it.long 3 ((List.replicate (it.l.len + 70) (markV_Version it.n)).flatMap cel_Version) ∧ SrcAt w4 it.l 3 ((List.replicate it.l.len (markV_Version it.n)).flatMap cel_Version) := by
      have s1 := st.drop1
      rw [hcs, List.append_assoc] at s1
      refine ⟨hg.src s1, ?_⟩
      rcases hor with hp | hsrc
      · exact rep_src cel_Version_len (hg.src s1) hp rfl (by omega) hll
      · exact hsrc _ _ _ s1.drop
    have rep : ∀ (s : Slc) (p i : Nat), SrcAt w4 s 3 ((List.replicate p (markV_Version it.n)).flatMap cel_Version) → i < s.len → IsAt s.ptr ∧ CellsAt w4 (pblk s.ptr) (poff s.ptr + i * 3) (cel_Version (markV_Version it.n)) := fun s p i hs hi => by
      obtain ⟨a, x, hx, hc⟩ := SrcAt.getN hs cel_Version_len (by decide) (i := (i : Int)) (by omega) (by omega)
      rw [Int.toNat_natCast] at hx hc
      rw [(List.mem_replicate.1 (List.mem_of_getElem? hx)).2] at hc
      exact ⟨a, hc⟩
    unfold F_towpathlaw01_Book_lookVersion_L1
    refine ⟨it.long, st.cell 0 rfl rfl, fun hk => ?_, fun hk => ?_⟩
    · have hk := of_decide_eq_true hk
      obtain ⟨a, hc1⟩ := rep it.long _ q hsrc.1 (by omega)
      refine ⟨it.long, st.cell 0 rfl rfl, a, by omega, hk, markV_Version it.n, by rw [Int.toNat_natCast]; exact hc1, it.n, st.cell 0 rfl rfl, true, fun w' e => sp_is_Version hN (ht.ext (st.ext.trans e)), fun hh => (by cases hh), fun _ => ?_⟩
      have wq : IntKind.i64.wrap ((q : Int) + 1) = ((q + 1 : Nat) : Int) := by rw [i64_in _ (by omega) (by omega)]; omega
      have fin : ∀ w', Ext w4 w' → (∃ (q' : Nat), ((q + 1 : Nat) : Int) = (q' : Int) ∧ q' ≤ it.long.len ∧ St w0 ((b1, itemCells it) :: ((b, C) :: (cs ++ l))) w' ∧ St w0 ((b1, itemCells it) :: (it.cs ++ (((b, C) :: tb) ++ ((itsC d ++ itsC r) ++ l)))) w') := fun w' e => ⟨q + 1, rfl, by omega, sto.keep e, st.keep e⟩
      refine ⟨it.l, st.cell 0 rfl rfl, fun hk2 => ?_, fun hk2 w10 e10 => ?_⟩
      · have hk2 := of_decide_eq_true hk2
        obtain ⟨a2, hc2⟩ := rep it.l _ q hsrc.2 (by omega)
        refine ⟨it.l, st.cell 0 rfl rfl, a2, by omega, hk2, markV_Version it.n, by rw [Int.toNat_natCast]; exact hc2, it.n, st.cell 0 rfl rfl, true, fun w' e => sp_is_Version hN (ht.ext (st.ext.trans e)), fun w9 e9 => ?_⟩
        unfold F_towpathlaw01_Book_lookVersion_k2
        refine ⟨fun hh => (by cases hh), fun _ => ?_⟩
        rw [wq]
        exact ⟨fin _ e9, by show _ - _ < _ - _; omega⟩
      · unfold F_towpathlaw01_Book_lookVersion_k2
        refine ⟨fun hh => (by cases hh), fun _ => ?_⟩
        rw [wq]
        exact ⟨fin _ e10, by show _ - _ < _ - _; omega⟩
    · have wj : IntKind.i64.wrap ((j : Int) + 1) = ((j + 1 : Nat) : Int) := by rw [i64_in _ (by omega) (by omega)]; omega
      rw [wj]
      exact ⟨⟨j + 1, rfl, by omega, sto.drop1⟩, by show _ - _ < _ - _; omega⟩
  · exact k _ st
end
theorem sp_KINDs_Version {w0 : Base} {w : World} {l sc cs : List Chunk} {C : List Value} {b : Nat} {n : Int} {t s : Slc} {its : List Item} {xs : List Value} {R : World → Prop} (o : KindO t its Kept_Version cs) (r : RowC 3 s xs sc) (st : St w0 ((b, C) :: (cs ++ (sc ++ l))) w) (hC0 : C[0]? = some (iV n)) (hCt : C[6]? = some (slV t)) (hn : 0 ≤ n ∧ n ≤ 2000000000) (hl : its.length ≤ 2000000000) (hs : s.len ≤ 1099511627776)
    (k : ∀ t' its' cs' w', KindO t' its' Kept_Version cs' → its'.length = its.length + 1 → St w0 ((b, (C.set 0 (iV (n + 1))).set 6 (slV t')) :: (cs' ++ l)) w' → R w') : C_towpathlaw01_Book_Versions (some ⟨b, 0, none⟩) s w R := by
  apply S_towpathlaw01_Book_Versions
  unfold F_towpathlaw01_Book_Versions
  exact sp_keep_Version o r st hC0 hCt hn hl hs k
end Go.Proofs.YtpdegdnigcnjiaaGreatDoor

namespace Go.Proofs.YtpdegdnigcnjiaaGreatDoor
open Go
set_option linter.unusedVariables false
set_option linter.unusedSimpArgs false
abbrev cel_Held (v : T_api_Held) : List Value := [Value.string v.Key, slV v.Versions]
abbrev markV_Held (n : Int) : T_api_Held := ⟨wordV n, ⟨none, 0, 0⟩⟩
theorem cel_Held_len (x : T_api_Held) : (cel_Held x).length = 2 := rfl

/-! ### Held -/
def Kept_Held (it : Item) : Prop := OkN it.n ∧ it.l.len ≤ 1099511627776 ∧ ∃ xs, RowC 2 it.l xs it.cs
def Filled_Held (it : Item) : Prop := OkN it.n ∧ it.l.len ≤ 1099511627776 ∧ RowC 2 it.l ((List.replicate it.l.len (markV_Held it.n)).flatMap cel_Held) it.cs
def Grown_Held (k : Nat) (it : Item) (long : Slc) : Prop :=
  OkN it.n ∧ it.l.len ≤ 1099511627776 ∧ long.len = it.l.len + k ∧ ∃ c1 c2, it.cs = c1 ++ c2 ∧ RowC 2 long ((List.replicate (it.l.len + k) (markV_Held it.n)).flatMap cel_Held) c1 ∧
    (long.ptr = it.l.ptr ∨ ∀ w0 l w, St w0 (c2 ++ l) w → SrcAt w it.l 2 ((List.replicate it.l.len (markV_Held it.n)).flatMap cel_Held))
def Long_Held (it : Item) : Prop := Grown_Held 70 it it.long
section
variable {w0 : Base} {w : World} {l cs : List Chunk} {C : List Value} {b : Nat} {n : Int} {t : Slc} {its : List Item}

theorem sp_mark_Held {R : T_api_Held → World → Prop} (hn : OkN n) (ht : Tab w) (k : ∀ w', Ext w w' → R (markV_Held n) w') : C_towpathlaw01_markHeld n w R := by
  apply S_towpathlaw01_markHeld
  unfold F_towpathlaw01_markHeld
  intro b w1 hb hw
  have st := (St.start w).alloc hb hw
  refine sp_word hn (ht.ext st.ext) fun w2 e2 => ?_
  have st := st.keep e2
  refine ⟨st.writable 0 rfl (by simp), fun w2 hw2 => ?_⟩
  have st : St ⟨w, []⟩ [(b, cel_Held (markV_Held n))] w2 := st.put0 hw2
  exact ⟨markV_Held n, (st.get 0 rfl).all, k w2 st.ext⟩
theorem sp_is_Held (hn : OkN n) (ht : Tab w) : C_towpathlaw01_isHeld (markV_Held n) n w (fun (v44' : Bool) w'' => v44' = true ∧ Ext w w'') := by
  apply S_towpathlaw01_isHeld
  unfold F_towpathlaw01_isHeld
  intro b w1 hb hw w2 hd
  have st : St ⟨w, []⟩ [(b, cel_Held (markV_Held n))] w2 := ((St.start w).alloc hb hw).drew hd
  refine ⟨wordV n, st.cell 0 rfl rfl, sp_word hn (ht.ext st.ext) fun w3 e3 => ?_⟩
  have st := st.keep e3
  refine ⟨st.cell 0 rfl rfl, fun _ => ⟨⟨none, 0, 0⟩, st.cell 0 rfl rfl, rfl, st.ext⟩, fun h => ?_⟩
  rw [beq_self_eq_true] at h; cases h
theorem sp_isK_Held {R : Bool → World → Prop} (hn : OkN n) (ht : Tab w) (k : ∀ w', Ext w w' → R true w') : C_towpathlaw01_isHeld (markV_Held n) n w R :=
  Calls.mono (sp_is_Held hn ht) (by rintro e w' ⟨r, rfl, rfl, h⟩; exact ⟨true, rfl, k w' h⟩)

theorem sp_keep_Held {s : Slc} {xs : List Value} {sc : List Chunk} {R : World → Prop} (o : KindO t its Kept_Held cs) (r : RowC 2 s xs sc) (st : St w0 ((b, C) :: (cs ++ (sc ++ l))) w) (hC0 : C[0]? = some (iV n)) (hCt : C[8]? = some (slV t))
    (hn : 0 ≤ n ∧ n ≤ 2000000000) (hl : its.length ≤ 2000000000) (hs : s.len ≤ 1099511627776) (k : ∀ t' its' cs' w', KindO t' its' Kept_Held cs' → its'.length = its.length + 1 → St w0 ((b, (C.set 0 (iV (n + 1))).set 8 (slV t')) :: (cs' ++ l)) w' → R w') : C_towpathlaw01_Book_keepHeld (some ⟨b, 0, none⟩) s w R := by
  apply S_towpathlaw01_Book_keepHeld
  unfold F_towpathlaw01_Book_keepHeld
  have htl := o.len
  obtain ⟨tb, ro, rfl, hph⟩ := o
  have wn : IntKind.i64.wrap (n + 1) = n + 1 := i64_in _ (by omega) (by omega)
  have hCl : 8 < C.length := (List.getElem?_eq_some_iff.1 hCt).1
  refine ⟨rfl, n, st.cell 0 rfl hC0, st.writable 0 rfl (by show 0 + 1 ≤ _; omega), fun w1 hw1 w2 e2 => ?_⟩
  rw [wn] at hw1
  have st := (st.put0 hw1).drew e2
  have e0 : putL (poff (some ⟨b, 0, none⟩ : Option Addr)) [iV (n + 1)] C = C.set 0 (iV (n + 1)) := putL_one ..
  rw [e0] at st
  have hCt' : (C.set 0 (iV (n + 1)))[8]? = some (slV t) := by rw [List.getElem?_set_ne (by decide)]; exact hCt
  have hC0' : (C.set 0 (iV (n + 1)))[0]? = some (iV (n + 1)) := List.getElem?_set_self (by omega)
  have hCt'' : (C.set 0 (iV (n + 1)))[0 + 8]? = some (slV t) := by rw [Nat.zero_add]; exact hCt'
  refine ⟨rfl, t, st.cell 0 rfl hCt'', rfl, n + 1, st.cell 0 rfl hC0', fun b1 w3 hb1 hw3 => ?_⟩
  have st := st.alloc hb1 hw3
  refine ⟨st.cell 1 rfl hCt'', _, srcAt_newN hb1 hw3 rfl, ?_⟩
  have st : St w0 (tb ++ ((b, C.set 0 (iV (n + 1))) :: (itsC its ++ (sc ++ l)))) w3 := by
    have h : St w0 ((b, C.set 0 (iV (n + 1))) :: (tb ++ (itsC its ++ (sc ++ l)))) w3 := by have := st.drop1; simpa using this
    exact h.mid
  refine ro.append st rfl rfl rfl (by rw [htl]; omega) fun t' tb' w4 ro' st hlen => ?_
  have st := st.unmid
  refine ⟨rfl, st.writable 0 rfl (by rw [List.length_set]; show 0 + 8 + 1 ≤ _; omega), fun w5 hw5 => ?_⟩
  have st := st.put0 hw5
  have e1 : putL (poff (some ⟨b, 0, none⟩ : Option Addr) + 8) [slV t'] (C.set 0 (iV (n + 1))) = (C.set 0 (iV (n + 1))).set 8 (slV t') := by rw [putL_one]; rw [show poff (some ⟨b, 0, none⟩ : Option Addr) + 8 = 8 from Nat.zero_add _]
  rw [e1] at st
  refine k t' (its ++ [⟨s, ⟨none, 0, 0⟩, n + 1, sc⟩]) (tb' ++ itsC (its ++ [⟨s, ⟨none, 0, 0⟩, n + 1, sc⟩])) w5 ⟨tb', ?_, rfl, fun it hit => ?_⟩ (by simp) ?_
  · rw [List.flatMap_append]; exact ro'
  · rcases List.mem_append.1 hit with hit | hit
    · exact hph it hit
    · rw [List.mem_singleton] at hit
      rw [hit]
      exact ⟨⟨by show 0 ≤ n + 1; omega, by show n + 1 ≤ 9000000000; omega⟩, hs, xs, r⟩
  · rw [itsC_mid its _ []]
    unfold itsC at st ⊢
    simpa using st

theorem sp_fill_Held {R : World → Prop} (ht : Tab w0.w) (o : KindO t its Kept_Held cs) (st : St w0 ((b, C) :: (cs ++ l)) w) (hCt : C[0 + 8]? = some (slV t)) (hm : its.length ≤ 2000000000)
    (k : ∀ its' cs' w', KindO t its' Filled_Held cs' → its'.length = its.length → St w0 ((b, C) :: (cs' ++ l)) w' → R w') : C_towpathlaw01_Book_fillHeld (some ⟨b, 0, none⟩) w R := by
  apply S_towpathlaw01_Book_fillHeld
  unfold F_towpathlaw01_Book_fillHeld
  generalize hml : its.length = m at *
  refine ⟨fun i w' => ∃ (j : Nat) (cs : List Chunk), i = (j : Int) ∧ j ≤ m ∧ KindI t m j Kept_Held Filled_Held cs ∧ St w0 ((b, C) :: (cs ++ l)) w', fun i _ => m - i.toNat, ⟨0, cs, rfl, by omega, by rw [← hml]; exact KindI.start o, st⟩, ?_⟩
  clear o st
  rintro i w1 ⟨j, cs, rfl, hj, o, st⟩
  unfold F_towpathlaw01_Book_fillHeld_L0
  have htl := o.len
  refine ⟨rfl, t, st.cell 0 rfl hCt, fun h => ?_, fun h => ?_⟩
  · have h := of_decide_eq_true h
    obtain ⟨d, it, r, tb, h1, h2, ro, h3, ⟨hN, hlen, xs, hx⟩, h4, ha, hc, sti⟩ := o.at_ st (by omega)
    refine ⟨rfl, t, st.cell 0 rfl hCt, ha, by omega, h, ⟨it.l, it.long, it.n⟩, ?_, fun b1 w2 hb1 hw2 => ?_⟩
    · rw [Int.toNat_natCast]; exact hc
    have st := sti.alloc hb1 hw2
    clear sti
    refine ⟨st.writable 0 rfl (by simp), fun w3 hw3 => ?_⟩
    have st := st.put0 hw3
    have st : St w0 ((b1, itemCells it) :: (it.cs ++ (((b, C) :: tb) ++ ((itsC d ++ itsC r) ++ l)))) w3 := st
    refine ⟨fun k w' => ∃ (q : Nat) (ys : List Value) (cs : List Chunk), k = (q : Int) ∧ q ≤ it.l.len ∧ RowC 2 it.l ((List.replicate q (markV_Held it.n)).flatMap cel_Held ++ ys) cs ∧ St w0 ((b1, itemCells it) :: (cs ++ (((b, C) :: tb) ++ ((itsC d ++ itsC r) ++ l)))) w', fun k _ => it.l.len - k.toNat, ⟨0, xs, it.cs, rfl, by omega, by simpa using hx, st⟩, ?_⟩
    clear st
    rintro k4 w4 ⟨q, ys, cs, rfl, hq, hr, st⟩
    unfold F_towpathlaw01_Book_fillHeld_L1
    refine ⟨it.l, st.cell 0 rfl rfl, fun hk => ?_, fun hk => ?_⟩
    · have hk := of_decide_eq_true hk
      intro w5 e5
      have st := st.drew e5
      refine ⟨it.l, st.cell 0 rfl rfl, it.n, st.cell 0 rfl rfl, sp_mark_Held hN (ht.ext st.ext) fun w6 e6 => ?_⟩
      have st := st.keep e6
      refine ⟨st.cell 0 rfl rfl, ?_⟩
      have hqs : (q + 1) * 2 ≤ it.l.len * 2 := Nat.mul_le_mul_right _ (by omega)
      obtain ⟨a, wr, hset⟩ := hr.putN (l := (b1, itemCells it) :: (((b, C) :: tb) ++ ((itsC d ++ itsC r) ++ l))) (vs := cel_Held (markV_Held it.n)) (i := q * 2) st.mid (by rw [cel_Held_len]; decide) (by rw [cel_Held_len]; omega)
      rw [cel_Held_len] at wr hset
      skip
      refine ⟨a, by omega, hk, ?_, fun w7 hw7 => ?_⟩
      · rw [Int.toNat_natCast]; exact wr
      rw [Int.toNat_natCast] at hw7
      obtain ⟨cs', hr', st⟩ := hset w7 hw7
      have wq : IntKind.i64.wrap ((q : Int) + 1) = ((q + 1 : Nat) : Int) := by rw [i64_in _ (by omega) (by omega)]; omega
      rw [wq]
      have hrl : ((List.replicate q (markV_Held it.n)).flatMap cel_Held).length = q * 2 := rep_len cel_Held_len q _
      refine ⟨⟨q + 1, ys.drop 2, cs', rfl, by omega, ?_, st.unmid⟩, by show _ - _ < _ - _; omega⟩
      skip
      rw [List.take_left' hrl, rep_succ, List.drop_append, hrl, List.drop_eq_nil_of_le (by omega), List.nil_append, show q * 2 + 2 - q * 2 = 2 from by omega] at hr'
      exact hr'
    · have hk := of_decide_eq_false hk
      have hqe : q = it.l.len := by omega
      subst hqe
      have hr := hr.trimB (rep_len cel_Held_len _ _)
      have wj : IntKind.i64.wrap ((j : Int) + 1) = ((j + 1 : Nat) : Int) := by rw [i64_in _ (by omega) (by omega)]; omega
      rw [wj]
      obtain ⟨cs', o', st'⟩ := KindI.next (it := ⟨it.l, it.long, it.n, cs⟩) (Ph := Kept_Held) (Ph' := Filled_Held) h1 h2 (by simpa [itemCells] using ro) h3 ⟨hN, hlen, hr⟩ h4 st.drop1
      exact ⟨⟨j + 1, cs', rfl, by omega, o', st'⟩, by show _ - _ < _ - _; omega⟩
  · have h := of_decide_eq_false h
    have : j = m := by omega
    subst this
    obtain ⟨its', hl', o'⟩ := o.done
    exact k its' cs _ o' hl' st

theorem sp_grow_Held {R : World → Prop} (ht : Tab w0.w) (o : KindO t its Filled_Held cs) (st : St w0 ((b, C) :: (cs ++ l)) w) (hCt : C[0 + 8]? = some (slV t)) (hm : its.length ≤ 2000000000)
    (k : ∀ its' cs' w', KindO t its' Long_Held cs' → its'.length = its.length → St w0 ((b, C) :: (cs' ++ l)) w' → R w') : C_towpathlaw01_Book_growHeld (some ⟨b, 0, none⟩) w R := by
  apply S_towpathlaw01_Book_growHeld
  unfold F_towpathlaw01_Book_growHeld
  generalize hml : its.length = m at *
  refine ⟨fun i w' => ∃ (j : Nat) (cs : List Chunk), i = (j : Int) ∧ j ≤ m ∧ KindI t m j Filled_Held Long_Held cs ∧ St w0 ((b, C) :: (cs ++ l)) w', fun i _ => m - i.toNat, ⟨0, cs, rfl, by omega, by rw [← hml]; exact KindI.start o, st⟩, ?_⟩
  clear o st
  rintro i w1 ⟨j, cs, rfl, hj, o, st⟩
  unfold F_towpathlaw01_Book_growHeld_L0
  have htl := o.len
  refine ⟨rfl, t, st.cell 0 rfl hCt, fun h => ?_, fun h => ?_⟩
  · have h := of_decide_eq_true h
    obtain ⟨d, it, r, tb, h1, h2, ro, h3, ⟨hN, hlen, hx⟩, h4, ha, hc, sti⟩ := o.at_ st (by omega)
    refine ⟨rfl, t, st.cell 0 rfl hCt, ha, by omega, h, ⟨it.l, it.long, it.n⟩, ?_, fun b1 w2 hb1 hw2 => ?_⟩
    · rw [Int.toNat_natCast]; exact hc
    have st := sti.alloc hb1 hw2
    clear sti
    refine ⟨st.writable 0 rfl (by simp), fun w3 hw3 => ?_⟩
    have st := st.put0 hw3
    have st : St w0 ((b1, itemCells it) :: (it.cs ++ (((b, C) :: tb) ++ ((itsC d ++ itsC r) ++ l)))) w3 := st
    refine ⟨it.l, st.cell 0 rfl rfl, fun long k w' => ∃ (q : Nat) (cs : List Chunk), k = (q : Int) ∧ q ≤ 70 ∧ Grown_Held q ⟨it.l, long, it.n, cs⟩ long ∧ St w0 ((b1, itemCells it) :: (cs ++ (((b, C) :: tb) ++ ((itsC d ++ itsC r) ++ l)))) w', fun _ k _ => 70 - k.toNat, ⟨0, it.cs, rfl, by omega, ⟨hN, hlen, rfl, it.cs, [], by simp, hx, .inl rfl⟩, st⟩, ?_⟩
    clear st
    rintro long k4 w4 ⟨q, cs, rfl, hq, hg, st⟩
    unfold F_towpathlaw01_Book_growHeld_L1
    refine ⟨fun hk => ?_, fun hk => ?_⟩
    · have hk := of_decide_eq_true hk
      refine ⟨it.n, st.cell 0 rfl rfl, sp_mark_Held hN (ht.ext st.ext) fun w5 e5 b2 w6 hb2 hw6 => ?_⟩
      have st := ((st.keep e5).alloc hb2 hw6).drop1
      refine ⟨_, srcAt_newN hb2 hw6 rfl, ?_⟩
      have wq : IntKind.i64.wrap ((q : Int) + 1) = ((q + 1 : Nat) : Int) := by rw [i64_in _ (by omega) (by omega)]; omega
      rw [wq]
      obtain ⟨_, _, hll, c1, c2, hcs, hg, hor⟩ := hg
      have hll : long.len = it.l.len + q := hll
      have hcs : cs = c1 ++ c2 := hcs
      subst hcs
      have st : St w0 (c1 ++ (c2 ++ ((b1, itemCells it) :: (((b, C) :: tb) ++ ((itsC d ++ itsC r) ++ l))))) w6 := by have := st.mid; rwa [List.append_assoc] at this
      refine hg.appendK (by_ := 40) st rfl (by omega) rfl rfl (by rw [hll]; omega) fun s' bs' l' w7 hr7 st hl7 hcase => ?_
      have hr7 : RowC 2 s' ((List.replicate (it.l.len + q) (markV_Held it.n)).flatMap cel_Held ++ cel_Held (markV_Held it.n)) bs' := hr7
      rw [rep_succ] at hr7
      have st : St w0 ((b1, itemCells it) :: ((bs' ++ (l' ++ c2)) ++ (((b, C) :: tb) ++ ((itsC d ++ itsC r) ++ l)))) w7 := by
        refine St.unmid ?_
        simpa only [List.append_assoc] using st
      refine ⟨⟨q + 1, bs' ++ (l' ++ c2), rfl, by omega, ⟨hN, hlen, by show s'.len = it.l.len + (q + 1); omega, bs', l' ++ c2, rfl, hr7, ?_⟩, st⟩, by show _ - _ < _ - _; omega⟩
      rcases hcase with ⟨hp7, rfl⟩ | hb7
      · rcases hor with hp | hsrc
        · exact .inl (hp7.trans hp)
        · exact .inr hsrc
      · have hb7' : l' = c1 := hb7
        subst hb7'
        refine .inr fun w0 l w st => ?_
        rw [List.append_assoc] at st
        rcases hor with hp | hsrc
        · exact rep_src cel_Held_len (hg.src st) hp rfl (by show it.l.len ≤ it.l.len + q; omega) hll
        · exact hsrc w0 l w st.drop
    · have hk := of_decide_eq_false hk
      obtain rfl : q = 70 := by omega
      have hcell : w4.cell? ⟨b, 0 + 8, none⟩ = some (slV t) := st.drop1.drop.cell 0 rfl hCt
      have st : St w0 (tb ++ ((b, C) :: (cs ++ ((itsC d ++ itsC r) ++ l)))) w4 := by
        have h := st.drop1.swap
        exact St.mid h
      have hlt : j * 3 + 1 < t.len * 3 := by omega
      obtain ⟨a, wr, hset⟩ := ro.setN (v := slV long) (i := j * 3 + 1) st hlt
      refine ⟨rfl, t, hcell, a, by omega, h, ?_, fun w8 hw8 => ?_⟩
      · rw [Int.toNat_natCast, Nat.add_assoc]; exact wr
      rw [Int.toNat_natCast, Nat.add_assoc] at hw8
      obtain ⟨tb', ro', st⟩ := hset w8 hw8
      rw [tab_set (cs := cs) h1] at ro'
      have wj : IntKind.i64.wrap ((j : Int) + 1) = ((j + 1 : Nat) : Int) := by rw [i64_in _ (by omega) (by omega)]; omega
      rw [wj]
      have st : St w0 (cs ++ (((b, C) :: tb') ++ ((itsC d ++ itsC r) ++ l))) w8 := by
        have h : St w0 (((b, C) :: tb') ++ (cs ++ ((itsC d ++ itsC r) ++ l))) w8 := St.unmid st
        exact h.swap
      obtain ⟨cs', o', st'⟩ := KindI.next (it := ⟨it.l, long, it.n, cs⟩) (Ph := Filled_Held) (Ph' := Long_Held) h1 h2 ro' h3 hg h4 st
      exact ⟨⟨j + 1, cs', rfl, by omega, o', st'⟩, by show _ - _ < _ - _; omega⟩
  · have h := of_decide_eq_false h
    have : j = m := by omega
    subst this
    obtain ⟨its', hl', o'⟩ := o.done
    exact k its' cs _ o' hl' st

theorem sp_look_Held {R : Bool → World → Prop} (ht : Tab w0.w) (o : KindO t its Long_Held cs) (st : St w0 ((b, C) :: (cs ++ l)) w) (hCt : C[0 + 8]? = some (slV t)) (hm : its.length ≤ 2000000000)
    (k : ∀ w', St w0 ((b, C) :: (cs ++ l)) w' → R true w') : C_towpathlaw01_Book_lookHeld (some ⟨b, 0, none⟩) w R := by
  apply S_towpathlaw01_Book_lookHeld
  unfold F_towpathlaw01_Book_lookHeld
  generalize hml : its.length = m at *
  have hI : ∀ j, j ≤ m → KindI t m j Long_Held Long_Held cs := fun j hj => by
    obtain ⟨tb, ro, rfl, hph⟩ := o
    refine ⟨its.take j, its.drop j, tb, by rw [List.length_take]; omega, by rw [List.length_take, List.length_drop]; omega, by rw [List.take_append_drop]; exact ro, by rw [List.take_append_drop], fun it hit => hph it (List.mem_of_mem_take hit), fun it hit => hph it (List.mem_of_mem_drop hit)⟩
  refine ⟨fun i w' => ∃ (j : Nat), i = (j : Int) ∧ j ≤ m ∧ St w0 ((b, C) :: (cs ++ l)) w', fun i _ => m - i.toNat, ⟨0, rfl, by omega, st⟩, ?_⟩
  clear st
  rintro i w1 ⟨j, rfl, hj, st⟩
  unfold F_towpathlaw01_Book_lookHeld_L0
  have o := hI j hj
  have htl := o.len
  refine ⟨rfl, t, st.cell 0 rfl hCt, fun h => ?_, fun h => ?_⟩
  · have h := of_decide_eq_true h
    obtain ⟨d, it, r, tb, h1, h2, ro, h3, ⟨hN, hlen, hll, c1, c2, hcs, hg, hor⟩, h4, ha, hc, sti⟩ := o.at_ st (by omega)
    refine ⟨rfl, t, st.cell 0 rfl hCt, ha, by omega, h, ⟨it.l, it.long, it.n⟩, ?_, fun b1 w2 hb1 hw2 => ?_⟩
    · rw [Int.toNat_natCast]; exact hc
    have sto := st.alloc hb1 hw2
    have st := sti.alloc hb1 hw2
    clear sti
    refine ⟨st.writable 0 rfl (by simp), fun w3 hw3 => ?_⟩
    have sto : St w0 ((b1, itemCells it) :: ((b, C) :: (cs ++ l))) w3 := sto.put0 hw3
    have st : St w0 ((b1, itemCells it) :: (it.cs ++ (((b, C) :: tb) ++ ((itsC d ++ itsC r) ++ l)))) w3 := st.put0 hw3
    refine ⟨it.long, st.cell 0 rfl rfl, it.l, st.cell 0 rfl rfl, fun hne => ?_, fun _ => ?_⟩
    · exfalso
      rw [hll, i64_in _ (by omega) (by omega)] at hne
      simp at hne
    refine ⟨fun k w' => ∃ (q : Nat), k = (q : Int) ∧ q ≤ it.long.len ∧ St w0 ((b1, itemCells it) :: ((b, C) :: (cs ++ l))) w' ∧ St w0 ((b1, itemCells it) :: (it.cs ++ (((b, C) :: tb) ++ ((itsC d ++ itsC r) ++ l)))) w', fun k _ => it.long.len - k.toNat, ⟨0, rfl, by omega, sto, st⟩, ?_⟩
    clear st sto
    rintro k4 w4 ⟨q, rfl, hq, sto, st⟩
    have hsrc : SrcAt w4 it.long 2 ((List.replicate (it.l.len + 70) (markV_Held it.n)).flatMap cel_Held) ∧ SrcAt w4 it.l 2 ((List.replicate it.l.len (markV_Held it.n)).flatMap cel_Held) := by
      have s1 := st.drop1
      rw [hcs, List.append_assoc] at s1
      refine ⟨hg.src s1, ?_⟩
      rcases hor with hp | hsrc
      · exact rep_src cel_Held_len (hg.src s1) hp rfl (by omega) hll
      · exact hsrc _ _ _ s1.drop
    have rep : ∀ (s : Slc) (p i : Nat), SrcAt w4 s 2 ((List.replicate p (markV_Held it.n)).flatMap cel_Held) → i < s.len → IsAt s.ptr ∧ CellsAt w4 (pblk s.ptr) (poff s.ptr + i * 2) (cel_Held (markV_Held it.n)) := fun s p i hs hi => by
      obtain ⟨a, x, hx, hc⟩ := SrcAt.getN hs cel_Held_len (by decide) (i := (i : Int)) (by omega) (by omega)
      rw [Int.toNat_natCast] at hx hc
      rw [(List.mem_replicate.1 (List.mem_of_getElem? hx)).2] at hc
      exact ⟨a, hc⟩
    unfold F_towpathlaw01_Book_lookHeld_L1
    refine ⟨it.long, st.cell 0 rfl rfl, fun hk => ?_, fun hk => ?_⟩
    · have hk := of_decide_eq_true hk
      obtain ⟨a, hc1⟩ := rep it.long _ q hsrc.1 (by omega)
      have wq : IntKind.i64.wrap ((q : Int) + 1) = ((q + 1 : Nat) : Int) := by rw [i64_in _ (by omega) (by omega)]; omega
      have fin : ∀ w', Ext w4 w' → (∃ (q' : Nat), ((q + 1 : Nat) : Int) = (q' : Int) ∧ q' ≤ it.long.len ∧ St w0 ((b1, itemCells it) :: ((b, C) :: (cs ++ l))) w' ∧ St w0 ((b1, itemCells it) :: (it.cs ++ (((b, C) :: tb) ++ ((itsC d ++ itsC r) ++ l)))) w') := fun w' e => ⟨q + 1, rfl, by omega, sto.keep e, st.keep e⟩
      intro w6 hd6
      have e6 : Ext w4 w6 := Qt.ext hd6
      have st6 := st.keep e6
      refine ⟨it.long, st6.cell 0 rfl rfl, a, by omega, hk, markV_Held it.n, by rw [Int.toNat_natCast]; exact e6.cells hc1, it.n, st6.cell 0 rfl rfl, sp_isK_Held hN (ht.ext st6.ext) fun w7 e7 => ⟨fun hh => (by cases hh), fun _ => ?_⟩⟩
      have st7 := st6.keep e7
      refine ⟨it.l, st7.cell 0 rfl rfl, fun hk2 => ?_, fun hk2 => ?_⟩
      · have hk2 := of_decide_eq_true hk2
        obtain ⟨a2, hc2⟩ := rep it.l _ q hsrc.2 (by omega)
        refine ⟨it.l, st7.cell 0 rfl rfl, a2, by omega, hk2, markV_Held it.n, by rw [Int.toNat_natCast]; exact (e6.trans e7).cells hc2, it.n, st7.cell 0 rfl rfl, sp_isK_Held hN (ht.ext st7.ext) fun w9 e9 => ?_⟩
        unfold F_towpathlaw01_Book_lookHeld_k2
        refine ⟨fun hh => (by cases hh), fun _ => ?_⟩
        rw [wq]
        exact ⟨fin _ ((e6.trans e7).trans e9), by show _ - _ < _ - _; omega⟩
      · unfold F_towpathlaw01_Book_lookHeld_k2
        refine ⟨fun hh => (by cases hh), fun _ => ?_⟩
        rw [wq]
        exact ⟨fin _ (e6.trans e7), by show _ - _ < _ - _; omega⟩
    · have wj : IntKind.i64.wrap ((j : Int) + 1) = ((j + 1 : Nat) : Int) := by rw [i64_in _ (by omega) (by omega)]; omega
      rw [wj]
      exact ⟨⟨j + 1, rfl, by omega, sto.drop1⟩, by show _ - _ < _ - _; omega⟩
  · exact k _ st
end
end Go.Proofs.YtpdegdnigcnjiaaGreatDoor

namespace Go.Proofs.YtpdegdnigcnjiaaGreatDoor
open Go
set_option linter.unusedVariables false
set_option linter.unusedSimpArgs false
abbrev mkS (b : Nat) : Slc := ⟨some ⟨b, 0, none⟩, 1, 1⟩
abbrev cel_HeldList (b : Nat) : List Value := [slV (mkS b)]
abbrev mkC (n : Int) (b : Nat) : Chunk := (b, [Value.string (wordV n), slV ⟨none, 0, 0⟩])
theorem cel_HeldList_len (x : Nat) : (cel_HeldList x).length = 1 := rfl
theorem hl_len (ms : List Nat) : (ms.flatMap cel_HeldList).length = ms.length := by rw [flatMap_len cel_HeldList_len, Nat.mul_one]

/-! ### HeldList -/
def Kept_HeldList (it : Item) : Prop := OkN it.n ∧ it.l.len ≤ 1099511627776 ∧ ∃ xs, RowC 1 it.l xs it.cs
def Filled_HeldList (it : Item) : Prop := OkN it.n ∧ it.l.len ≤ 1099511627776 ∧ ∃ (ms : List Nat) (rb : List Chunk), ms.length = it.l.len ∧ it.cs = rb ++ ms.map (mkC it.n) ∧ RowC 1 it.l (ms.flatMap cel_HeldList) rb
def Grown_HeldList (k : Nat) (it : Item) (long : Slc) : Prop :=
  OkN it.n ∧ it.l.len ≤ 1099511627776 ∧ long.len = it.l.len + k ∧ ∃ (ms : List Nat) (c1 c2 : List Chunk), ms.length = it.l.len + k ∧ it.cs = c1 ++ (c2 ++ ms.map (mkC it.n)) ∧ RowC 1 long (ms.flatMap cel_HeldList) c1 ∧
    (long.ptr = it.l.ptr ∨ ∀ w0 l w, St w0 (c2 ++ l) w → SrcAt w it.l 1 ((ms.take it.l.len).flatMap cel_HeldList))
def Long_HeldList (it : Item) : Prop := Grown_HeldList 70 it it.long
theorem hl_src {ms : List Nat} {s t : Slc} {w : World} (h : SrcAt w s 1 (ms.flatMap cel_HeldList)) (hp : s.ptr = t.ptr) (hk : t.len ≤ s.len) : SrcAt w t 1 ((ms.take t.len).flatMap cel_HeldList) := by
  obtain ⟨h1, h2⟩ := h.pre (k := t.len) hk
  have e : (ms.flatMap cel_HeldList).take (t.len * 1) = (ms.take t.len).flatMap cel_HeldList := by
    conv => lhs; rw [← List.take_append_drop t.len ms, List.flatMap_append]
    have hml : ms.length = s.len := by have := h.1; rw [hl_len, Nat.mul_one] at this; exact this
    rw [List.take_left' (by rw [hl_len, List.length_take]; omega)]
  rw [e] at h1 h2
  refine ⟨h1, ?_⟩
  rcases h2 with h0 | h0
  · exact .inl h0
  · refine .inr ?_
    have h0' : IsAt s.ptr ∧ CellsAt w (pblk s.ptr) (poff s.ptr) ((ms.take t.len).flatMap cel_HeldList) := h0
    rw [hp] at h0'; exact h0'
section
variable {w0 : Base} {w : World} {l cs : List Chunk} {C : List Value} {b : Nat} {n : Int} {t : Slc} {its : List Item}

theorem sp_mark_HeldList {R : Slc → World → Prop} (hn : OkN n) (ht : Tab w0.w) (st : St w0 l w) (k : ∀ m w', St w0 (mkC n m :: l) w' → R (mkS m) w') : C_towpathlaw01_markHeldList n w R := by
  apply S_towpathlaw01_markHeldList
  unfold F_towpathlaw01_markHeldList
  refine sp_word hn (ht.ext st.ext) fun w1 e1 m w2 hm hw2 => ?_
  exact k m w2 ((st.keep e1).alloc hm hw2)
theorem sp_is_HeldList {m : Nat} {R : Bool → World → Prop} (hn : OkN n) (ht : Tab w) (hm : w.cell? ⟨m, 0, none⟩ = some (Value.string (wordV n))) (k : ∀ w', Ext w w' → R true w') : C_towpathlaw01_isHeldList (mkS m) n w R := by
  apply S_towpathlaw01_isHeldList
  unfold F_towpathlaw01_isHeldList
  intro w1 hd
  have e1 : Ext w w1 := Qt.ext hd
  refine ⟨fun _ => ⟨rfl, by decide, by show (0 : Int) < ((1 : Nat) : Int); decide, wordV n, e1.cell hm, sp_word hn (ht.ext e1) fun w2 e2 => ⟨(e1.trans e2).cell hm, ?_⟩⟩, fun h => (by simp at h)⟩
  have := k w2 (e1.trans e2)
  simpa using this

theorem sp_keep_HeldList {s : Slc} {xs : List Value} {sc : List Chunk} {R : World → Prop} (o : KindO t its Kept_HeldList cs) (r : RowC 1 s xs sc) (st : St w0 ((b, C) :: (cs ++ (sc ++ l))) w) (hC0 : C[0]? = some (iV n)) (hCt : C[9]? = some (slV t))
    (hn : 0 ≤ n ∧ n ≤ 2000000000) (hl : its.length ≤ 2000000000) (hs : s.len ≤ 1099511627776) (k : ∀ t' its' cs' w', KindO t' its' Kept_HeldList cs' → its'.length = its.length + 1 → St w0 ((b, (C.set 0 (iV (n + 1))).set 9 (slV t')) :: (cs' ++ l)) w' → R w') : C_towpathlaw01_Book_keepHeldList (some ⟨b, 0, none⟩) s w R := by
  apply S_towpathlaw01_Book_keepHeldList
  unfold F_towpathlaw01_Book_keepHeldList
  have htl := o.len
  obtain ⟨tb, ro, rfl, hph⟩ := o
  have wn : IntKind.i64.wrap (n + 1) = n + 1 := i64_in _ (by omega) (by omega)
  have hCl : 9 < C.length := (List.getElem?_eq_some_iff.1 hCt).1
  refine ⟨rfl, n, st.cell 0 rfl hC0, st.writable 0 rfl (by show 0 + 1 ≤ _; omega), fun w1 hw1 w2 e2 => ?_⟩
  rw [wn] at hw1
  have st := (st.put0 hw1).drew e2
  have e0 : putL (poff (some ⟨b, 0, none⟩ : Option Addr)) [iV (n + 1)] C = C.set 0 (iV (n + 1)) := putL_one ..
  rw [e0] at st
  have hCt' : (C.set 0 (iV (n + 1)))[9]? = some (slV t) := by rw [List.getElem?_set_ne (by decide)]; exact hCt
  have hC0' : (C.set 0 (iV (n + 1)))[0]? = some (iV (n + 1)) := List.getElem?_set_self (by omega)
  have hCt'' : (C.set 0 (iV (n + 1)))[0 + 9]? = some (slV t) := by rw [Nat.zero_add]; exact hCt'
  refine ⟨rfl, t, st.cell 0 rfl hCt'', rfl, n + 1, st.cell 0 rfl hC0', fun b1 w3 hb1 hw3 => ?_⟩
  have st := st.alloc hb1 hw3
  refine ⟨st.cell 1 rfl hCt'', _, srcAt_newN hb1 hw3 rfl, ?_⟩
  have st : St w0 (tb ++ ((b, C.set 0 (iV (n + 1))) :: (itsC its ++ (sc ++ l)))) w3 := by
    have h : St w0 ((b, C.set 0 (iV (n + 1))) :: (tb ++ (itsC its ++ (sc ++ l)))) w3 := by have := st.drop1; simpa using this
    exact h.mid
  refine ro.append st rfl rfl rfl (by rw [htl]; omega) fun t' tb' w4 ro' st hlen => ?_
  have st := st.unmid
  refine ⟨rfl, st.writable 0 rfl (by rw [List.length_set]; show 0 + 9 + 1 ≤ _; omega), fun w5 hw5 => ?_⟩
  have st := st.put0 hw5
  have e1 : putL (poff (some ⟨b, 0, none⟩ : Option Addr) + 9) [slV t'] (C.set 0 (iV (n + 1))) = (C.set 0 (iV (n + 1))).set 9 (slV t') := by rw [putL_one]; rw [show poff (some ⟨b, 0, none⟩ : Option Addr) + 9 = 9 from Nat.zero_add _]
  rw [e1] at st
  refine k t' (its ++ [⟨s, ⟨none, 0, 0⟩, n + 1, sc⟩]) (tb' ++ itsC (its ++ [⟨s, ⟨none, 0, 0⟩, n + 1, sc⟩])) w5 ⟨tb', ?_, rfl, fun it hit => ?_⟩ (by simp) ?_
  · rw [List.flatMap_append]; exact ro'
  · rcases List.mem_append.1 hit with hit | hit
    · exact hph it hit
    · rw [List.mem_singleton] at hit
      rw [hit]
      exact ⟨⟨by show 0 ≤ n + 1; omega, by show n + 1 ≤ 9000000000; omega⟩, hs, xs, r⟩
  · rw [itsC_mid its _ []]
    unfold itsC at st ⊢
    simpa using st

theorem sp_fill_HeldList {R : World → Prop} (ht : Tab w0.w) (o : KindO t its Kept_HeldList cs) (st : St w0 ((b, C) :: (cs ++ l)) w) (hCt : C[0 + 9]? = some (slV t)) (hm : its.length ≤ 2000000000)
    (k : ∀ its' cs' w', KindO t its' Filled_HeldList cs' → its'.length = its.length → St w0 ((b, C) :: (cs' ++ l)) w' → R w') : C_towpathlaw01_Book_fillHeldList (some ⟨b, 0, none⟩) w R := by
  apply S_towpathlaw01_Book_fillHeldList
  unfold F_towpathlaw01_Book_fillHeldList
  generalize hml : its.length = m at *
  refine ⟨fun i w' => ∃ (j : Nat) (cs : List Chunk), i = (j : Int) ∧ j ≤ m ∧ KindI t m j Kept_HeldList Filled_HeldList cs ∧ St w0 ((b, C) :: (cs ++ l)) w', fun i _ => m - i.toNat, ⟨0, cs, rfl, by omega, by rw [← hml]; exact KindI.start o, st⟩, ?_⟩
  clear o st
  rintro i w1 ⟨j, cs, rfl, hj, o, st⟩
  unfold F_towpathlaw01_Book_fillHeldList_L0
  have htl := o.len
  refine ⟨rfl, t, st.cell 0 rfl hCt, fun h => ?_, fun h => ?_⟩
  · have h := of_decide_eq_true h
    obtain ⟨d, it, r, tb, h1, h2, ro, h3, ⟨hN, hlen, xs, hx⟩, h4, ha, hc, sti⟩ := o.at_ st (by omega)
    refine ⟨rfl, t, st.cell 0 rfl hCt, ha, by omega, h, ⟨it.l, it.long, it.n⟩, ?_, fun b1 w2 hb1 hw2 => ?_⟩
    · rw [Int.toNat_natCast]; exact hc
    have st := sti.alloc hb1 hw2
    clear sti
    refine ⟨st.writable 0 rfl (by simp), fun w3 hw3 => ?_⟩
    have st := st.put0 hw3
    have st : St w0 ((b1, itemCells it) :: (it.cs ++ (((b, C) :: tb) ++ ((itsC d ++ itsC r) ++ l)))) w3 := st
    refine ⟨fun k w' => ∃ (ms : List Nat) (ys : List Value) (rb : List Chunk), k = (ms.length : Int) ∧ ms.length ≤ it.l.len ∧ RowC 1 it.l (ms.flatMap cel_HeldList ++ ys) rb ∧ St w0 ((b1, itemCells it) :: (rb ++ (ms.map (mkC it.n) ++ (((b, C) :: tb) ++ ((itsC d ++ itsC r) ++ l))))) w', fun k _ => it.l.len - k.toNat, ⟨[], xs, it.cs, rfl, by simp, by simpa using hx, by simpa using st⟩, ?_⟩
    clear st
    rintro k4 w4 ⟨ms, ys, rb, rfl, hq, hr, st⟩
    unfold F_towpathlaw01_Book_fillHeldList_L1
    refine ⟨it.l, st.cell 0 rfl rfl, fun hk => ?_, fun hk => ?_⟩
    · have hk := of_decide_eq_true hk
      intro w5 e5
      have st := st.drew e5
      refine ⟨it.l, st.cell 0 rfl rfl, it.n, st.cell 0 rfl rfl, sp_mark_HeldList hN ht st fun m' w6 st => ?_⟩
      refine ⟨st.cell 1 rfl rfl, ?_⟩
      have st : St w0 (rb ++ ((b1, itemCells it) :: (mkC it.n m' :: (ms.map (mkC it.n) ++ (((b, C) :: tb) ++ ((itsC d ++ itsC r) ++ l)))))) w6 := st.perm (perm_of_sum fun f_ => by simp <;> omega)
      obtain ⟨a, wr, hset⟩ := hr.putN (vs := cel_HeldList m') (i := ms.length) st (by rw [cel_HeldList_len]; decide) (by rw [cel_HeldList_len]; omega)
      rw [cel_HeldList_len] at wr hset
      refine ⟨a, by omega, hk, ?_, fun w7 hw7 => ?_⟩
      · rw [Int.toNat_natCast]; exact wr
      rw [Int.toNat_natCast] at hw7
      obtain ⟨cs', hr', st⟩ := hset w7 hw7
      have wq : IntKind.i64.wrap ((ms.length : Int) + 1) = (((ms ++ [m']).length : Nat) : Int) := by rw [i64_in _ (by omega) (by omega), List.length_append]; simp
      rw [wq]
      rw [List.take_left' (hl_len ms), List.drop_append, hl_len, List.drop_eq_nil_of_le (by rw [hl_len]; omega), List.nil_append, show ms.length + 1 - ms.length = 1 from by omega] at hr'
      refine ⟨⟨ms ++ [m'], ys.drop 1, cs', rfl, by rw [List.length_append]; simp; omega, ?_, ?_⟩, by show _ - _ < _ - _; rw [Int.toNat_natCast, Int.toNat_natCast, List.length_append]; simp; omega⟩
      · rw [List.flatMap_append, List.flatMap_cons, List.flatMap_nil, List.append_nil]; exact hr'
      · rw [List.map_append, List.map_cons, List.map_nil]
        exact st.perm (perm_of_sum fun f_ => by simp <;> omega)
    · have hk := of_decide_eq_false hk
      have hqe : ms.length = it.l.len := by omega
      have hr := hr.trimB (by rw [hl_len, hqe, Nat.mul_one])
      have wj : IntKind.i64.wrap ((j : Int) + 1) = ((j + 1 : Nat) : Int) := by rw [i64_in _ (by omega) (by omega)]; omega
      rw [wj]
      have st : St w0 ((rb ++ ms.map (mkC it.n)) ++ (((b, C) :: tb) ++ ((itsC d ++ itsC r) ++ l))) w4 := by rw [List.append_assoc]; exact st.drop1
      obtain ⟨cs', o', st'⟩ := KindI.next (it := ⟨it.l, it.long, it.n, rb ++ ms.map (mkC it.n)⟩) (Ph := Kept_HeldList) (Ph' := Filled_HeldList) h1 h2 (by simpa [itemCells] using ro) h3 ⟨hN, hlen, ms, rb, hqe, rfl, hr⟩ h4 st
      exact ⟨⟨j + 1, cs', rfl, by omega, o', st'⟩, by show _ - _ < _ - _; omega⟩
  · have h := of_decide_eq_false h
    have : j = m := by omega
    subst this
    obtain ⟨its', hl', o'⟩ := o.done
    exact k its' cs _ o' hl' st

theorem sp_grow_HeldList {R : World → Prop} (ht : Tab w0.w) (o : KindO t its Filled_HeldList cs) (st : St w0 ((b, C) :: (cs ++ l)) w) (hCt : C[0 + 9]? = some (slV t)) (hm : its.length ≤ 2000000000)
    (k : ∀ its' cs' w', KindO t its' Long_HeldList cs' → its'.length = its.length → St w0 ((b, C) :: (cs' ++ l)) w' → R w') : C_towpathlaw01_Book_growHeldList (some ⟨b, 0, none⟩) w R := by
  apply S_towpathlaw01_Book_growHeldList
  unfold F_towpathlaw01_Book_growHeldList
  generalize hml : its.length = m at *
  refine ⟨fun i w' => ∃ (j : Nat) (cs : List Chunk), i = (j : Int) ∧ j ≤ m ∧ KindI t m j Filled_HeldList Long_HeldList cs ∧ St w0 ((b, C) :: (cs ++ l)) w', fun i _ => m - i.toNat, ⟨0, cs, rfl, by omega, by rw [← hml]; exact KindI.start o, st⟩, ?_⟩
  clear o st
  rintro i w1 ⟨j, cs, rfl, hj, o, st⟩
  unfold F_towpathlaw01_Book_growHeldList_L0
  have htl := o.len
  refine ⟨rfl, t, st.cell 0 rfl hCt, fun h => ?_, fun h => ?_⟩
  · have h := of_decide_eq_true h
    obtain ⟨d, it, r, tb, h1, h2, ro, h3, ⟨hN, hlen, ms0, rb0, hm0, hc0, hx⟩, h4, ha, hc, sti⟩ := o.at_ st (by omega)
    refine ⟨rfl, t, st.cell 0 rfl hCt, ha, by omega, h, ⟨it.l, it.long, it.n⟩, ?_, fun b1 w2 hb1 hw2 => ?_⟩
    · rw [Int.toNat_natCast]; exact hc
    have st := sti.alloc hb1 hw2
    clear sti
    refine ⟨st.writable 0 rfl (by simp), fun w3 hw3 => ?_⟩
    have st := st.put0 hw3
    have st : St w0 ((b1, itemCells it) :: (it.cs ++ (((b, C) :: tb) ++ ((itsC d ++ itsC r) ++ l)))) w3 := st
    refine ⟨it.l, st.cell 0 rfl rfl, fun long k w' => ∃ (q : Nat) (cs : List Chunk), k = (q : Int) ∧ q ≤ 70 ∧ Grown_HeldList q ⟨it.l, long, it.n, cs⟩ long ∧ St w0 ((b1, itemCells it) :: (cs ++ (((b, C) :: tb) ++ ((itsC d ++ itsC r) ++ l)))) w', fun _ k _ => 70 - k.toNat, ⟨0, it.cs, rfl, by omega, ⟨hN, hlen, rfl, ms0, rb0, [], by simpa using hm0, by simpa using hc0, hx, .inl rfl⟩, st⟩, ?_⟩
    clear st
    rintro long k4 w4 ⟨q, cs, rfl, hq, hg, st⟩
    unfold F_towpathlaw01_Book_growHeldList_L1
    refine ⟨fun hk => ?_, fun hk => ?_⟩
    · have hk := of_decide_eq_true hk
      refine ⟨it.n, st.cell 0 rfl rfl, sp_mark_HeldList hN ht st fun m' w5 st b2 w6 hb2 hw6 => ?_⟩
      have st := (st.alloc (cs := cel_HeldList m') hb2 hw6).drop1
      refine ⟨_, srcAt_newN hb2 hw6 rfl, ?_⟩
      have wq : IntKind.i64.wrap ((q : Int) + 1) = ((q + 1 : Nat) : Int) := by rw [i64_in _ (by omega) (by omega)]; omega
      rw [wq]
      obtain ⟨_, _, hll, ms, c1, c2, hml2, hcs, hg, hor⟩ := hg
      have hll : long.len = it.l.len + q := hll
      have hml2 : ms.length = it.l.len + q := hml2
      have hcs : cs = c1 ++ (c2 ++ ms.map (mkC it.n)) := hcs
      subst hcs
      have st : St w0 (c1 ++ (c2 ++ ((b1, itemCells it) :: (ms.map (mkC it.n) ++ (mkC it.n m' :: (((b, C) :: tb) ++ ((itsC d ++ itsC r) ++ l))))))) w6 := st.perm (perm_of_sum fun f_ => by simp <;> omega)
      refine hg.appendK (by_ := 24) st rfl (by omega) rfl rfl (by rw [hll]; omega) fun s' bs' l' w7 hr7 st hl7 hcase => ?_
      have hr7 : RowC 1 s' ((ms ++ [m']).flatMap cel_HeldList) bs' := by rw [List.flatMap_append, List.flatMap_cons, List.flatMap_nil, List.append_nil]; exact hr7
      have st : St w0 ((b1, itemCells it) :: ((bs' ++ ((l' ++ c2) ++ (ms ++ [m']).map (mkC it.n))) ++ (((b, C) :: tb) ++ ((itsC d ++ itsC r) ++ l)))) w7 := by
        rw [List.map_append, List.map_cons, List.map_nil]
        exact st.perm (perm_of_sum fun f_ => by simp <;> omega)
      refine ⟨⟨q + 1, bs' ++ ((l' ++ c2) ++ (ms ++ [m']).map (mkC it.n)), rfl, by omega, ⟨hN, hlen, by show s'.len = it.l.len + (q + 1); omega, ms ++ [m'], bs', l' ++ c2, by rw [List.length_append, hml2]; rfl, rfl, hr7, ?_⟩, st⟩, by show _ - _ < _ - _; omega⟩
      have etk : (ms ++ [m']).take it.l.len = ms.take it.l.len := List.take_append_of_le_length (by omega)
      show s'.ptr = it.l.ptr ∨ ∀ w0 l w, St w0 (l' ++ c2 ++ l) w → SrcAt w it.l 1 (((ms ++ [m']).take it.l.len).flatMap cel_HeldList)
      rw [etk]
      rcases hcase with ⟨hp7, rfl⟩ | hb7
      · rcases hor with hp | hsrc
        · exact .inl (hp7.trans hp)
        · exact .inr hsrc
      · have hb7' : l' = c1 := hb7
        subst hb7'
        refine .inr fun w0 l w st => ?_
        rw [List.append_assoc] at st
        rcases hor with hp | hsrc
        · exact hl_src (hg.src st) hp (by show it.l.len ≤ long.len; omega)
        · exact hsrc w0 l w st.drop
    · have hk := of_decide_eq_false hk
      obtain rfl : q = 70 := by omega
      have hcell : w4.cell? ⟨b, 0 + 9, none⟩ = some (slV t) := st.drop1.drop.cell 0 rfl hCt
      have st : St w0 (tb ++ ((b, C) :: (cs ++ ((itsC d ++ itsC r) ++ l)))) w4 := by
        have h := st.drop1.swap
        exact St.mid h
      have hlt : j * 3 + 1 < t.len * 3 := by omega
      obtain ⟨a, wr, hset⟩ := ro.setN (v := slV long) (i := j * 3 + 1) st hlt
      refine ⟨rfl, t, hcell, a, by omega, h, ?_, fun w8 hw8 => ?_⟩
      · rw [Int.toNat_natCast, Nat.add_assoc]; exact wr
      rw [Int.toNat_natCast, Nat.add_assoc] at hw8
      obtain ⟨tb', ro', st⟩ := hset w8 hw8
      rw [tab_set (cs := cs) h1] at ro'
      have wj : IntKind.i64.wrap ((j : Int) + 1) = ((j + 1 : Nat) : Int) := by rw [i64_in _ (by omega) (by omega)]; omega
      rw [wj]
      have st : St w0 (cs ++ (((b, C) :: tb') ++ ((itsC d ++ itsC r) ++ l))) w8 := by
        have h : St w0 (((b, C) :: tb') ++ (cs ++ ((itsC d ++ itsC r) ++ l))) w8 := St.unmid st
        exact h.swap
      obtain ⟨cs', o', st'⟩ := KindI.next (it := ⟨it.l, long, it.n, cs⟩) (Ph := Filled_HeldList) (Ph' := Long_HeldList) h1 h2 ro' h3 hg h4 st
      exact ⟨⟨j + 1, cs', rfl, by omega, o', st'⟩, by show _ - _ < _ - _; omega⟩
  · have h := of_decide_eq_false h
    have : j = m := by omega
    subst this
    obtain ⟨its', hl', o'⟩ := o.done
    exact k its' cs _ o' hl' st

theorem sp_look_HeldList {R : Bool → World → Prop} (ht : Tab w0.w) (o : KindO t its Long_HeldList cs) (st : St w0 ((b, C) :: (cs ++ l)) w) (hCt : C[0 + 9]? = some (slV t)) (hm : its.length ≤ 2000000000)
    (k : ∀ w', St w0 ((b, C) :: (cs ++ l)) w' → R true w') : C_towpathlaw01_Book_lookHeldList (some ⟨b, 0, none⟩) w R := by
  apply S_towpathlaw01_Book_lookHeldList
  unfold F_towpathlaw01_Book_lookHeldList
  generalize hml : its.length = m at *
  have hI : ∀ j, j ≤ m → KindI t m j Long_HeldList Long_HeldList cs := fun j hj => by
    obtain ⟨tb, ro, rfl, hph⟩ := o
    refine ⟨its.take j, its.drop j, tb, by rw [List.length_take]; omega, by rw [List.length_take, List.length_drop]; omega, by rw [List.take_append_drop]; exact ro, by rw [List.take_append_drop], fun it hit => hph it (List.mem_of_mem_take hit), fun it hit => hph it (List.mem_of_mem_drop hit)⟩
  refine ⟨fun i w' => ∃ (j : Nat), i = (j : Int) ∧ j ≤ m ∧ St w0 ((b, C) :: (cs ++ l)) w', fun i _ => m - i.toNat, ⟨0, rfl, by omega, st⟩, ?_⟩
  clear st
  rintro i w1 ⟨j, rfl, hj, st⟩
  unfold F_towpathlaw01_Book_lookHeldList_L0
  have o := hI j hj
  have htl := o.len
  refine ⟨rfl, t, st.cell 0 rfl hCt, fun h => ?_, fun h => ?_⟩
  · have h := of_decide_eq_true h
    obtain ⟨d, it, r, tb, h1, h2, ro, h3, ⟨hN, hlen, hll, ms, c1, c2, hms, hcs, hg, hor⟩, h4, ha, hc, sti⟩ := o.at_ st (by omega)
    refine ⟨rfl, t, st.cell 0 rfl hCt, ha, by omega, h, ⟨it.l, it.long, it.n⟩, ?_, fun b1 w2 hb1 hw2 => ?_⟩
    · rw [Int.toNat_natCast]; exact hc
    have sto := st.alloc hb1 hw2
    have st := sti.alloc hb1 hw2
    clear sti
    refine ⟨st.writable 0 rfl (by simp), fun w3 hw3 => ?_⟩
    have sto : St w0 ((b1, itemCells it) :: ((b, C) :: (cs ++ l))) w3 := sto.put0 hw3
    have st : St w0 ((b1, itemCells it) :: (it.cs ++ (((b, C) :: tb) ++ ((itsC d ++ itsC r) ++ l)))) w3 := st.put0 hw3
    refine ⟨it.long, st.cell 0 rfl rfl, it.l, st.cell 0 rfl rfl, fun hne => ?_, fun _ => ?_⟩
    · exfalso
      rw [hll, i64_in _ (by omega) (by omega)] at hne
      simp at hne
    refine ⟨fun k w' => ∃ (q : Nat), k = (q : Int) ∧ q ≤ it.long.len ∧ St w0 ((b1, itemCells it) :: ((b, C) :: (cs ++ l))) w' ∧ St w0 ((b1, itemCells it) :: (it.cs ++ (((b, C) :: tb) ++ ((itsC d ++ itsC r) ++ l)))) w', fun k _ => it.long.len - k.toNat, ⟨0, rfl, by omega, sto, st⟩, ?_⟩
    clear st sto
    rintro k4 w4 ⟨q, rfl, hq, sto, st⟩
    have hsrc : SrcAt w4 it.long 1 (ms.flatMap cel_HeldList) ∧ SrcAt w4 it.l 1 ((ms.take it.l.len).flatMap cel_HeldList) ∧ ∀ m ∈ ms, w4.cell? ⟨m, 0, none⟩ = some (Value.string (wordV it.n)) := by
      have s1 := st.drop1
      rw [hcs, List.append_assoc, List.append_assoc] at s1
      refine ⟨hg.src s1, ?_, fun m hm => ?_⟩
      · rcases hor with hp | hsrc
        · exact hl_src (hg.src s1) hp (by omega)
        · exact hsrc _ _ _ s1.drop
      · have s2 := s1.drop.drop
        have hmem : mkC it.n m ∈ ms.map (mkC it.n) ++ (((b, C) :: tb) ++ ((itsC d ++ itsC r) ++ l)) := List.mem_append_left _ (List.mem_map.2 ⟨m, hm, rfl⟩)
        exact (s2.blk _ hmem).cell rfl
    have rep : ∀ (s : Slc) (ys : List Nat) (i : Nat), SrcAt w4 s 1 (ys.flatMap cel_HeldList) → i < s.len → IsAt s.ptr ∧ ∃ m ∈ ys, w4.cell? ⟨pblk s.ptr, poff s.ptr + i, none⟩ = some (slV (mkS m)) := fun s ys i hs hi => by
      obtain ⟨a, x, hx, hc⟩ := SrcAt.getN hs cel_HeldList_len (by decide) (i := (i : Int)) (by omega) (by omega)
      rw [Int.toNat_natCast] at hx hc
      rw [Nat.mul_one] at hc
      exact ⟨a, x, List.mem_of_getElem? hx, hc.1⟩
    unfold F_towpathlaw01_Book_lookHeldList_L1
    refine ⟨it.long, st.cell 0 rfl rfl, fun hk => ?_, fun hk => ?_⟩
    · have hk := of_decide_eq_true hk
      obtain ⟨a, m1, hm1, hc1⟩ := rep it.long _ q hsrc.1 (by omega)
      have wq : IntKind.i64.wrap ((q : Int) + 1) = ((q + 1 : Nat) : Int) := by rw [i64_in _ (by omega) (by omega)]; omega
      have fin : ∀ w', Ext w4 w' → (∃ (q' : Nat), ((q + 1 : Nat) : Int) = (q' : Int) ∧ q' ≤ it.long.len ∧ St w0 ((b1, itemCells it) :: ((b, C) :: (cs ++ l))) w' ∧ St w0 ((b1, itemCells it) :: (it.cs ++ (((b, C) :: tb) ++ ((itsC d ++ itsC r) ++ l)))) w') := fun w' e => ⟨q + 1, rfl, by omega, sto.keep e, st.keep e⟩
      intro w6 hd6
      have e6 : Ext w4 w6 := Qt.ext hd6
      have st6 := st.keep e6
      refine ⟨it.long, st6.cell 0 rfl rfl, a, by omega, hk, mkS m1, by rw [Int.toNat_natCast]; exact e6.cell hc1, it.n, st6.cell 0 rfl rfl, sp_is_HeldList hN (ht.ext st6.ext) (e6.cell (hsrc.2.2 m1 hm1)) fun w7 e7 => ⟨fun hh => (by cases hh), fun _ => ?_⟩⟩
      have st7 := st6.keep e7
      refine ⟨it.l, st7.cell 0 rfl rfl, fun hk2 => ?_, fun hk2 => ?_⟩
      · have hk2 := of_decide_eq_true hk2
        obtain ⟨a2, m2, hm2, hc2⟩ := rep it.l _ q hsrc.2.1 (by omega)
        refine ⟨it.l, st7.cell 0 rfl rfl, a2, by omega, hk2, mkS m2, by rw [Int.toNat_natCast]; exact (e6.trans e7).cell hc2, it.n, st7.cell 0 rfl rfl, sp_is_HeldList hN (ht.ext st7.ext) ((e6.trans e7).cell (hsrc.2.2 m2 (List.mem_of_mem_take hm2))) fun w9 e9 => ?_⟩
        unfold F_towpathlaw01_Book_lookHeldList_k2
        refine ⟨fun hh => (by cases hh), fun _ => ?_⟩
        rw [wq]
        exact ⟨fin _ ((e6.trans e7).trans e9), by show _ - _ < _ - _; omega⟩
      · unfold F_towpathlaw01_Book_lookHeldList_k2
        refine ⟨fun hh => (by cases hh), fun _ => ?_⟩
        rw [wq]
        exact ⟨fin _ (e6.trans e7), by show _ - _ < _ - _; omega⟩
    · have wj : IntKind.i64.wrap ((j : Int) + 1) = ((j + 1 : Nat) : Int) := by rw [i64_in _ (by omega) (by omega)]; omega
      rw [wj]
      exact ⟨⟨j + 1, rfl, by omega, sto.drop1⟩, by show _ - _ < _ - _; omega⟩
  · exact k _ st
end
end Go.Proofs.YtpdegdnigcnjiaaGreatDoor

namespace Go.Proofs.YtpdegdnigcnjiaaGreatDoor
open Go
set_option linter.unusedVariables false
set_option linter.unusedSimpArgs false
section
variable {w0 : Base} {w : World} {l : List Chunk} {C : List Value} {b : Nat}
theorem sp_fill_Byte {R : World → Prop} (st : St w0 ((b, C) :: l) w) (hC : C[0 + 1]? = some (slV ⟨none, 0, 0⟩)) (k : R w) : C_towpathlaw01_Book_fillByte (some ⟨b, 0, none⟩) w R := by
  apply S_towpathlaw01_Book_fillByte
  unfold F_towpathlaw01_Book_fillByte
  refine ⟨fun i w' => i = 0 ∧ w' = w, fun _ _ => 0, ⟨rfl, rfl⟩, ?_⟩
  rintro i w' ⟨rfl, rfl⟩
  unfold F_towpathlaw01_Book_fillByte_L0
  exact ⟨rfl, ⟨none, 0, 0⟩, st.cell 0 rfl hC, fun h => (by simp at h), fun _ => k⟩
theorem sp_grow_Byte {R : World → Prop} (st : St w0 ((b, C) :: l) w) (hC : C[0 + 1]? = some (slV ⟨none, 0, 0⟩)) (k : R w) : C_towpathlaw01_Book_growByte (some ⟨b, 0, none⟩) w R := by
  apply S_towpathlaw01_Book_growByte
  unfold F_towpathlaw01_Book_growByte
  refine ⟨fun i w' => i = 0 ∧ w' = w, fun _ _ => 0, ⟨rfl, rfl⟩, ?_⟩
  rintro i w' ⟨rfl, rfl⟩
  unfold F_towpathlaw01_Book_growByte_L0
  exact ⟨rfl, ⟨none, 0, 0⟩, st.cell 0 rfl hC, fun h => (by simp at h), fun _ => k⟩
theorem sp_look_Byte {R : Bool → World → Prop} (st : St w0 ((b, C) :: l) w) (hC : C[0 + 1]? = some (slV ⟨none, 0, 0⟩)) (k : R true w) : C_towpathlaw01_Book_lookByte (some ⟨b, 0, none⟩) w R := by
  apply S_towpathlaw01_Book_lookByte
  unfold F_towpathlaw01_Book_lookByte
  refine ⟨fun i w' => i = 0 ∧ w' = w, fun _ _ => 0, ⟨rfl, rfl⟩, ?_⟩
  rintro i w' ⟨rfl, rfl⟩
  unfold F_towpathlaw01_Book_lookByte_L0
  exact ⟨rfl, ⟨none, 0, 0⟩, st.cell 0 rfl hC, fun h => (by simp at h), fun _ => k⟩
theorem sp_fill_Text {R : World → Prop} (st : St w0 ((b, C) :: l) w) (hC : C[0 + 3]? = some (slV ⟨none, 0, 0⟩)) (k : R w) : C_towpathlaw01_Book_fillText (some ⟨b, 0, none⟩) w R := by
  apply S_towpathlaw01_Book_fillText
  unfold F_towpathlaw01_Book_fillText
  refine ⟨fun i w' => i = 0 ∧ w' = w, fun _ _ => 0, ⟨rfl, rfl⟩, ?_⟩
  rintro i w' ⟨rfl, rfl⟩
  unfold F_towpathlaw01_Book_fillText_L0
  exact ⟨rfl, ⟨none, 0, 0⟩, st.cell 0 rfl hC, fun h => (by simp at h), fun _ => k⟩
theorem sp_grow_Text {R : World → Prop} (st : St w0 ((b, C) :: l) w) (hC : C[0 + 3]? = some (slV ⟨none, 0, 0⟩)) (k : R w) : C_towpathlaw01_Book_growText (some ⟨b, 0, none⟩) w R := by
  apply S_towpathlaw01_Book_growText
  unfold F_towpathlaw01_Book_growText
  refine ⟨fun i w' => i = 0 ∧ w' = w, fun _ _ => 0, ⟨rfl, rfl⟩, ?_⟩
  rintro i w' ⟨rfl, rfl⟩
  unfold F_towpathlaw01_Book_growText_L0
  exact ⟨rfl, ⟨none, 0, 0⟩, st.cell 0 rfl hC, fun h => (by simp at h), fun _ => k⟩
theorem sp_look_Text {R : Bool → World → Prop} (st : St w0 ((b, C) :: l) w) (hC : C[0 + 3]? = some (slV ⟨none, 0, 0⟩)) (k : R true w) : C_towpathlaw01_Book_lookText (some ⟨b, 0, none⟩) w R := by
  apply S_towpathlaw01_Book_lookText
  unfold F_towpathlaw01_Book_lookText
  refine ⟨fun i w' => i = 0 ∧ w' = w, fun _ _ => 0, ⟨rfl, rfl⟩, ?_⟩
  rintro i w' ⟨rfl, rfl⟩
  unfold F_towpathlaw01_Book_lookText_L0
  exact ⟨rfl, ⟨none, 0, 0⟩, st.cell 0 rfl hC, fun h => (by simp at h), fun _ => k⟩
theorem sp_fill_Write {R : World → Prop} (st : St w0 ((b, C) :: l) w) (hC : C[0 + 4]? = some (slV ⟨none, 0, 0⟩)) (k : R w) : C_towpathlaw01_Book_fillWrite (some ⟨b, 0, none⟩) w R := by
  apply S_towpathlaw01_Book_fillWrite
  unfold F_towpathlaw01_Book_fillWrite
  refine ⟨fun i w' => i = 0 ∧ w' = w, fun _ _ => 0, ⟨rfl, rfl⟩, ?_⟩
  rintro i w' ⟨rfl, rfl⟩
  unfold F_towpathlaw01_Book_fillWrite_L0
  exact ⟨rfl, ⟨none, 0, 0⟩, st.cell 0 rfl hC, fun h => (by simp at h), fun _ => k⟩
theorem sp_grow_Write {R : World → Prop} (st : St w0 ((b, C) :: l) w) (hC : C[0 + 4]? = some (slV ⟨none, 0, 0⟩)) (k : R w) : C_towpathlaw01_Book_growWrite (some ⟨b, 0, none⟩) w R := by
  apply S_towpathlaw01_Book_growWrite
  unfold F_towpathlaw01_Book_growWrite
  refine ⟨fun i w' => i = 0 ∧ w' = w, fun _ _ => 0, ⟨rfl, rfl⟩, ?_⟩
  rintro i w' ⟨rfl, rfl⟩
  unfold F_towpathlaw01_Book_growWrite_L0
  exact ⟨rfl, ⟨none, 0, 0⟩, st.cell 0 rfl hC, fun h => (by simp at h), fun _ => k⟩
theorem sp_look_Write {R : Bool → World → Prop} (st : St w0 ((b, C) :: l) w) (hC : C[0 + 4]? = some (slV ⟨none, 0, 0⟩)) (k : R true w) : C_towpathlaw01_Book_lookWrite (some ⟨b, 0, none⟩) w R := by
  apply S_towpathlaw01_Book_lookWrite
  unfold F_towpathlaw01_Book_lookWrite
  refine ⟨fun i w' => i = 0 ∧ w' = w, fun _ _ => 0, ⟨rfl, rfl⟩, ?_⟩
  rintro i w' ⟨rfl, rfl⟩
  unfold F_towpathlaw01_Book_lookWrite_L0
  exact ⟨rfl, ⟨none, 0, 0⟩, st.cell 0 rfl hC, fun h => (by simp at h), fun _ => k⟩
theorem sp_fill_Entry {R : World → Prop} (st : St w0 ((b, C) :: l) w) (hC : C[0 + 5]? = some (slV ⟨none, 0, 0⟩)) (k : R w) : C_towpathlaw01_Book_fillEntry (some ⟨b, 0, none⟩) w R := by
  apply S_towpathlaw01_Book_fillEntry
  unfold F_towpathlaw01_Book_fillEntry
  refine ⟨fun i w' => i = 0 ∧ w' = w, fun _ _ => 0, ⟨rfl, rfl⟩, ?_⟩
  rintro i w' ⟨rfl, rfl⟩
  unfold F_towpathlaw01_Book_fillEntry_L0
  exact ⟨rfl, ⟨none, 0, 0⟩, st.cell 0 rfl hC, fun h => (by simp at h), fun _ => k⟩
theorem sp_grow_Entry {R : World → Prop} (st : St w0 ((b, C) :: l) w) (hC : C[0 + 5]? = some (slV ⟨none, 0, 0⟩)) (k : R w) : C_towpathlaw01_Book_growEntry (some ⟨b, 0, none⟩) w R := by
  apply S_towpathlaw01_Book_growEntry
  unfold F_towpathlaw01_Book_growEntry
  refine ⟨fun i w' => i = 0 ∧ w' = w, fun _ _ => 0, ⟨rfl, rfl⟩, ?_⟩
  rintro i w' ⟨rfl, rfl⟩
  unfold F_towpathlaw01_Book_growEntry_L0
  exact ⟨rfl, ⟨none, 0, 0⟩, st.cell 0 rfl hC, fun h => (by simp at h), fun _ => k⟩
theorem sp_look_Entry {R : Bool → World → Prop} (st : St w0 ((b, C) :: l) w) (hC : C[0 + 5]? = some (slV ⟨none, 0, 0⟩)) (k : R true w) : C_towpathlaw01_Book_lookEntry (some ⟨b, 0, none⟩) w R := by
  apply S_towpathlaw01_Book_lookEntry
  unfold F_towpathlaw01_Book_lookEntry
  refine ⟨fun i w' => i = 0 ∧ w' = w, fun _ _ => 0, ⟨rfl, rfl⟩, ?_⟩
  rintro i w' ⟨rfl, rfl⟩
  unfold F_towpathlaw01_Book_lookEntry_L0
  exact ⟨rfl, ⟨none, 0, 0⟩, st.cell 0 rfl hC, fun h => (by simp at h), fun _ => k⟩
theorem sp_fill_Txn {R : World → Prop} (st : St w0 ((b, C) :: l) w) (hC : C[0 + 7]? = some (slV ⟨none, 0, 0⟩)) (k : R w) : C_towpathlaw01_Book_fillTxn (some ⟨b, 0, none⟩) w R := by
  apply S_towpathlaw01_Book_fillTxn
  unfold F_towpathlaw01_Book_fillTxn
  refine ⟨fun i w' => i = 0 ∧ w' = w, fun _ _ => 0, ⟨rfl, rfl⟩, ?_⟩
  rintro i w' ⟨rfl, rfl⟩
  unfold F_towpathlaw01_Book_fillTxn_L0
  exact ⟨rfl, ⟨none, 0, 0⟩, st.cell 0 rfl hC, fun h => (by simp at h), fun _ => k⟩
theorem sp_grow_Txn {R : World → Prop} (st : St w0 ((b, C) :: l) w) (hC : C[0 + 7]? = some (slV ⟨none, 0, 0⟩)) (k : R w) : C_towpathlaw01_Book_growTxn (some ⟨b, 0, none⟩) w R := by
  apply S_towpathlaw01_Book_growTxn
  unfold F_towpathlaw01_Book_growTxn
  refine ⟨fun i w' => i = 0 ∧ w' = w, fun _ _ => 0, ⟨rfl, rfl⟩, ?_⟩
  rintro i w' ⟨rfl, rfl⟩
  unfold F_towpathlaw01_Book_growTxn_L0
  exact ⟨rfl, ⟨none, 0, 0⟩, st.cell 0 rfl hC, fun h => (by simp at h), fun _ => k⟩
theorem sp_look_Txn {R : Bool → World → Prop} (st : St w0 ((b, C) :: l) w) (hC : C[0 + 7]? = some (slV ⟨none, 0, 0⟩)) (k : R true w) : C_towpathlaw01_Book_lookTxn (some ⟨b, 0, none⟩) w R := by
  apply S_towpathlaw01_Book_lookTxn
  unfold F_towpathlaw01_Book_lookTxn
  refine ⟨fun i w' => i = 0 ∧ w' = w, fun _ _ => 0, ⟨rfl, rfl⟩, ?_⟩
  rintro i w' ⟨rfl, rfl⟩
  unfold F_towpathlaw01_Book_lookTxn_L0
  exact ⟨rfl, ⟨none, 0, 0⟩, st.cell 0 rfl hC, fun h => (by simp at h), fun _ => k⟩
theorem sp_fill_Event {R : World → Prop} (st : St w0 ((b, C) :: l) w) (hC : C[0 + 10]? = some (slV ⟨none, 0, 0⟩)) (k : R w) : C_towpathlaw01_Book_fillEvent (some ⟨b, 0, none⟩) w R := by
  apply S_towpathlaw01_Book_fillEvent
  unfold F_towpathlaw01_Book_fillEvent
  refine ⟨fun i w' => i = 0 ∧ w' = w, fun _ _ => 0, ⟨rfl, rfl⟩, ?_⟩
  rintro i w' ⟨rfl, rfl⟩
  unfold F_towpathlaw01_Book_fillEvent_L0
  exact ⟨rfl, ⟨none, 0, 0⟩, st.cell 0 rfl hC, fun h => (by simp at h), fun _ => k⟩
theorem sp_grow_Event {R : World → Prop} (st : St w0 ((b, C) :: l) w) (hC : C[0 + 10]? = some (slV ⟨none, 0, 0⟩)) (k : R w) : C_towpathlaw01_Book_growEvent (some ⟨b, 0, none⟩) w R := by
  apply S_towpathlaw01_Book_growEvent
  unfold F_towpathlaw01_Book_growEvent
  refine ⟨fun i w' => i = 0 ∧ w' = w, fun _ _ => 0, ⟨rfl, rfl⟩, ?_⟩
  rintro i w' ⟨rfl, rfl⟩
  unfold F_towpathlaw01_Book_growEvent_L0
  exact ⟨rfl, ⟨none, 0, 0⟩, st.cell 0 rfl hC, fun h => (by simp at h), fun _ => k⟩
theorem sp_look_Event {R : Bool → World → Prop} (st : St w0 ((b, C) :: l) w) (hC : C[0 + 10]? = some (slV ⟨none, 0, 0⟩)) (k : R true w) : C_towpathlaw01_Book_lookEvent (some ⟨b, 0, none⟩) w R := by
  apply S_towpathlaw01_Book_lookEvent
  unfold F_towpathlaw01_Book_lookEvent
  refine ⟨fun i w' => i = 0 ∧ w' = w, fun _ _ => 0, ⟨rfl, rfl⟩, ?_⟩
  rintro i w' ⟨rfl, rfl⟩
  unfold F_towpathlaw01_Book_lookEvent_L0
  exact ⟨rfl, ⟨none, 0, 0⟩, st.cell 0 rfl hC, fun h => (by simp at h), fun _ => k⟩
theorem sp_fill_Answer {R : World → Prop} (st : St w0 ((b, C) :: l) w) (hC : C[0 + 11]? = some (slV ⟨none, 0, 0⟩)) (k : R w) : C_towpathlaw01_Book_fillAnswer (some ⟨b, 0, none⟩) w R := by
  apply S_towpathlaw01_Book_fillAnswer
  unfold F_towpathlaw01_Book_fillAnswer
  refine ⟨fun i w' => i = 0 ∧ w' = w, fun _ _ => 0, ⟨rfl, rfl⟩, ?_⟩
  rintro i w' ⟨rfl, rfl⟩
  unfold F_towpathlaw01_Book_fillAnswer_L0
  exact ⟨rfl, ⟨none, 0, 0⟩, st.cell 0 rfl hC, fun h => (by simp at h), fun _ => k⟩
theorem sp_grow_Answer {R : World → Prop} (st : St w0 ((b, C) :: l) w) (hC : C[0 + 11]? = some (slV ⟨none, 0, 0⟩)) (k : R w) : C_towpathlaw01_Book_growAnswer (some ⟨b, 0, none⟩) w R := by
  apply S_towpathlaw01_Book_growAnswer
  unfold F_towpathlaw01_Book_growAnswer
  refine ⟨fun i w' => i = 0 ∧ w' = w, fun _ _ => 0, ⟨rfl, rfl⟩, ?_⟩
  rintro i w' ⟨rfl, rfl⟩
  unfold F_towpathlaw01_Book_growAnswer_L0
  exact ⟨rfl, ⟨none, 0, 0⟩, st.cell 0 rfl hC, fun h => (by simp at h), fun _ => k⟩
theorem sp_look_Answer {R : Bool → World → Prop} (st : St w0 ((b, C) :: l) w) (hC : C[0 + 11]? = some (slV ⟨none, 0, 0⟩)) (k : R true w) : C_towpathlaw01_Book_lookAnswer (some ⟨b, 0, none⟩) w R := by
  apply S_towpathlaw01_Book_lookAnswer
  unfold F_towpathlaw01_Book_lookAnswer
  refine ⟨fun i w' => i = 0 ∧ w' = w, fun _ _ => 0, ⟨rfl, rfl⟩, ?_⟩
  rintro i w' ⟨rfl, rfl⟩
  unfold F_towpathlaw01_Book_lookAnswer_L0
  exact ⟨rfl, ⟨none, 0, 0⟩, st.cell 0 rfl hC, fun h => (by simp at h), fun _ => k⟩
end
def bookC (n : Int) (t0 t1 t2 t3 : Slc) : List Value := [iV n, slV ⟨none, 0, 0⟩, slV t0, slV ⟨none, 0, 0⟩, slV ⟨none, 0, 0⟩, slV ⟨none, 0, 0⟩, slV t1, slV ⟨none, 0, 0⟩, slV t2, slV t3, slV ⟨none, 0, 0⟩, slV ⟨none, 0, 0⟩]
theorem sp_Apart {w0 : Base} {w : World} {l cs0 cs1 cs2 cs3 : List Chunk} {b : Nat} {n : Int} {t0 t1 t2 t3 : Slc} {its0 its1 its2 its3 : List Item} {R : Bool → World → Prop} (ht : Tab w0.w) (o0 : KindO t0 its0 Kept_Int cs0) (hm0 : its0.length ≤ 2000000000) (o1 : KindO t1 its1 Kept_Version cs1) (hm1 : its1.length ≤ 2000000000) (o2 : KindO t2 its2 Kept_Held cs2) (hm2 : its2.length ≤ 2000000000) (o3 : KindO t3 its3 Kept_HeldList cs3) (hm3 : its3.length ≤ 2000000000) (st : St w0 ((b, bookC n t0 t1 t2 t3) :: (cs0 ++ (cs1 ++ (cs2 ++ (cs3 ++ l))))) w)
    (k : ∀ cs0 cs1 cs2 cs3 w', St w0 ((b, bookC n t0 t1 t2 t3) :: (cs0 ++ (cs1 ++ (cs2 ++ (cs3 ++ l))))) w' → R true w') : C_towpathlaw01_Book_Apart (some ⟨b, 0, none⟩) w R := by
  apply S_towpathlaw01_Book_Apart
  unfold F_towpathlaw01_Book_Apart
  refine sp_fill_Byte st rfl ?_
  refine sp_fill_Int ht o0 st rfl (by omega) fun its0 cs0 w o0 hl0 st => ?_
  have hm0 : its0.length ≤ 2000000000 := by omega
  refine sp_fill_Text st rfl ?_
  refine sp_fill_Write st rfl ?_
  refine sp_fill_Entry st rfl ?_
  have st : St w0 ((b, bookC n t0 t1 t2 t3) :: (cs1 ++ (cs0 ++ (cs2 ++ (cs3 ++ l))))) w := st.perm (perm_of_sum fun f_ => by simp <;> omega)
  refine sp_fill_Version ht o1 st rfl (by omega) fun its1 cs1 w o1 hl1 st => ?_
  have hm1 : its1.length ≤ 2000000000 := by omega
  have st : St w0 ((b, bookC n t0 t1 t2 t3) :: (cs0 ++ (cs1 ++ (cs2 ++ (cs3 ++ l))))) w := st.perm (perm_of_sum fun f_ => by simp <;> omega)
  refine sp_fill_Txn st rfl ?_
  have st : St w0 ((b, bookC n t0 t1 t2 t3) :: (cs2 ++ (cs0 ++ (cs1 ++ (cs3 ++ l))))) w := st.perm (perm_of_sum fun f_ => by simp <;> omega)
  refine sp_fill_Held ht o2 st rfl (by omega) fun its2 cs2 w o2 hl2 st => ?_
  have hm2 : its2.length ≤ 2000000000 := by omega
  have st : St w0 ((b, bookC n t0 t1 t2 t3) :: (cs0 ++ (cs1 ++ (cs2 ++ (cs3 ++ l))))) w := st.perm (perm_of_sum fun f_ => by simp <;> omega)
  have st : St w0 ((b, bookC n t0 t1 t2 t3) :: (cs3 ++ (cs0 ++ (cs1 ++ (cs2 ++ l))))) w := st.perm (perm_of_sum fun f_ => by simp <;> omega)
  refine sp_fill_HeldList ht o3 st rfl (by omega) fun its3 cs3 w o3 hl3 st => ?_
  have hm3 : its3.length ≤ 2000000000 := by omega
  have st : St w0 ((b, bookC n t0 t1 t2 t3) :: (cs0 ++ (cs1 ++ (cs2 ++ (cs3 ++ l))))) w := st.perm (perm_of_sum fun f_ => by simp <;> omega)
  refine sp_fill_Event st rfl ?_
  refine sp_fill_Answer st rfl ?_
  refine sp_grow_Byte st rfl ?_
  refine sp_grow_Int ht o0 st rfl (by omega) fun its0 cs0 w o0 hl0 st => ?_
  have hm0 : its0.length ≤ 2000000000 := by omega
  refine sp_grow_Text st rfl ?_
  refine sp_grow_Write st rfl ?_
  refine sp_grow_Entry st rfl ?_
  have st : St w0 ((b, bookC n t0 t1 t2 t3) :: (cs1 ++ (cs0 ++ (cs2 ++ (cs3 ++ l))))) w := st.perm (perm_of_sum fun f_ => by simp <;> omega)
  refine sp_grow_Version ht o1 st rfl (by omega) fun its1 cs1 w o1 hl1 st => ?_
  have hm1 : its1.length ≤ 2000000000 := by omega
  have st : St w0 ((b, bookC n t0 t1 t2 t3) :: (cs0 ++ (cs1 ++ (cs2 ++ (cs3 ++ l))))) w := st.perm (perm_of_sum fun f_ => by simp <;> omega)
  refine sp_grow_Txn st rfl ?_
  have st : St w0 ((b, bookC n t0 t1 t2 t3) :: (cs2 ++ (cs0 ++ (cs1 ++ (cs3 ++ l))))) w := st.perm (perm_of_sum fun f_ => by simp <;> omega)
  refine sp_grow_Held ht o2 st rfl (by omega) fun its2 cs2 w o2 hl2 st => ?_
  have hm2 : its2.length ≤ 2000000000 := by omega
  have st : St w0 ((b, bookC n t0 t1 t2 t3) :: (cs0 ++ (cs1 ++ (cs2 ++ (cs3 ++ l))))) w := st.perm (perm_of_sum fun f_ => by simp <;> omega)
  have st : St w0 ((b, bookC n t0 t1 t2 t3) :: (cs3 ++ (cs0 ++ (cs1 ++ (cs2 ++ l))))) w := st.perm (perm_of_sum fun f_ => by simp <;> omega)
  refine sp_grow_HeldList ht o3 st rfl (by omega) fun its3 cs3 w o3 hl3 st => ?_
  have hm3 : its3.length ≤ 2000000000 := by omega
  have st : St w0 ((b, bookC n t0 t1 t2 t3) :: (cs0 ++ (cs1 ++ (cs2 ++ (cs3 ++ l))))) w := st.perm (perm_of_sum fun f_ => by simp <;> omega)
  refine sp_grow_Event st rfl ?_
  refine sp_grow_Answer st rfl ?_
  refine sp_look_Byte st rfl ?_
  refine ⟨fun _ => ?_, fun h => (by cases h)⟩
  refine sp_look_Int ht o0 st rfl (by omega) fun w st => ?_
  refine ⟨fun _ => ?_, fun h => (by cases h)⟩
  refine sp_look_Text st rfl ?_
  refine ⟨fun _ => ?_, fun h => (by cases h)⟩
  refine sp_look_Write st rfl ?_
  refine ⟨fun _ => ?_, fun h => (by cases h)⟩
  refine sp_look_Entry st rfl ?_
  refine ⟨fun _ => ?_, fun h => (by cases h)⟩
  have st : St w0 ((b, bookC n t0 t1 t2 t3) :: (cs1 ++ (cs0 ++ (cs2 ++ (cs3 ++ l))))) w := st.perm (perm_of_sum fun f_ => by simp <;> omega)
  refine sp_look_Version ht o1 st rfl (by omega) fun w st => ?_
  have st : St w0 ((b, bookC n t0 t1 t2 t3) :: (cs0 ++ (cs1 ++ (cs2 ++ (cs3 ++ l))))) w := st.perm (perm_of_sum fun f_ => by simp <;> omega)
  refine ⟨fun _ => ?_, fun h => (by cases h)⟩
  refine sp_look_Txn st rfl ?_
  refine ⟨fun _ => ?_, fun h => (by cases h)⟩
  have st : St w0 ((b, bookC n t0 t1 t2 t3) :: (cs2 ++ (cs0 ++ (cs1 ++ (cs3 ++ l))))) w := st.perm (perm_of_sum fun f_ => by simp <;> omega)
  refine sp_look_Held ht o2 st rfl (by omega) fun w st => ?_
  have st : St w0 ((b, bookC n t0 t1 t2 t3) :: (cs0 ++ (cs1 ++ (cs2 ++ (cs3 ++ l))))) w := st.perm (perm_of_sum fun f_ => by simp <;> omega)
  refine ⟨fun _ => ?_, fun h => (by cases h)⟩
  have st : St w0 ((b, bookC n t0 t1 t2 t3) :: (cs3 ++ (cs0 ++ (cs1 ++ (cs2 ++ l))))) w := st.perm (perm_of_sum fun f_ => by simp <;> omega)
  refine sp_look_HeldList ht o3 st rfl (by omega) fun w st => ?_
  have st : St w0 ((b, bookC n t0 t1 t2 t3) :: (cs0 ++ (cs1 ++ (cs2 ++ (cs3 ++ l))))) w := st.perm (perm_of_sum fun f_ => by simp <;> omega)
  refine ⟨fun _ => ?_, fun h => (by cases h)⟩
  refine sp_look_Event st rfl ?_
  refine ⟨fun _ => ?_, fun h => (by cases h)⟩
  refine sp_look_Answer st rfl ?_
  exact k _ _ _ _ _ st
end Go.Proofs.YtpdegdnigcnjiaaGreatDoor

namespace Go.Proofs.YtpdegdnigcnjiaaGreatDoor
open Go
set_option linter.unusedVariables false
set_option linter.unusedSimpArgs false

theorem flat1S : ∀ sls : List Slc, (sls.flatMap fun s => [slV s]) = sls.map slV
  | [] => rfl
  | a :: r => by rw [List.flatMap_cons, List.map_cons, flat1S r]; rfl
section
variable {w0 : Base} {w : World} {l : List Chunk} {b : Nat} {n : Int} {t0 t1 t2 t3 : Slc} {its0 its1 its2 its3 : List Item} {cs0 cs1 cs2 cs3 : List Chunk} {R : World → Prop}
theorem sp_Book_HeldsV {sl : Slc} {hs : List Hd} {hc : List Chunk} (o1 : KindO t1 its1 Kept_Version cs1) (o2 : KindO t2 its2 Kept_Held cs2) (hh : HdsO sl hs hc)
    (st : St w0 ((b, bookC n t0 t1 t2 t3) :: (cs1 ++ (cs2 ++ (hc ++ l)))) w) (hn : 0 ≤ n ∧ n + hs.length ≤ 1999999999) (h1 : its1.length + hs.length ≤ 1999999999) (h2 : its2.length ≤ 1999999999) (hb : ∀ h ∈ hs, h.2.length ≤ 1048576) (hl : hs.length ≤ 16777216)
    (k : ∀ t1' its1' cs1' t2' its2' cs2' w', KindO t1' its1' Kept_Version cs1' → its1'.length = its1.length + hs.length → KindO t2' its2' Kept_Held cs2' → its2'.length = its2.length + 1 → St w0 ((b, bookC (n + hs.length + 1) t0 t1' t2' t3) :: (cs1' ++ (cs2' ++ l))) w' → R w') : C_towpathlaw01_Book_Helds (some ⟨b, 0, none⟩) sl w R := by
  apply S_towpathlaw01_Book_Helds
  obtain ⟨vsl, tb, wb, rfl, r, ps⟩ := hh
  have hll := ps.len
  have hzl : (hs.zip vsl).length = hs.length := by rw [List.length_zip, hll, Nat.min_self]
  have hsl : sl.len = hs.length := by have := r.len; rw [flatMap_len (sz := 2) (fun _ => rfl), hzl] at this; omega
  refine ⟨fun i w' => ∃ (p : Nat) (t1 : Slc) (its1' : List Item) (cs1 wb : List Chunk), i = (p : Int) ∧ p ≤ sl.len ∧ KindO t1 its1' Kept_Version cs1 ∧ its1'.length = its1.length + p ∧ Parts InV (hs.drop p) (vsl.drop p) wb ∧ St w0 ((b, bookC (n + p) t0 t1 t2 t3) :: (cs1 ++ (cs2 ++ (tb ++ (wb ++ l))))) w', fun i _ => sl.len - i.toNat, ⟨0, t1, its1, cs1, wb, rfl, by omega, o1, rfl, by simpa using ps, by simpa using st⟩, ?_⟩
  clear st o1 ps
  rintro i w1 ⟨p, t1, its1', cs1, wb, rfl, hp, o1, hl1, ps, st⟩
  unfold F_towpathlaw01_Book_Helds_L0
  refine ⟨fun hi => ?_, fun hi => ?_⟩
  · have hi := of_decide_eq_true hi
    have hpl : p < hs.length := by omega
    have st' : St w0 (tb ++ ((b, bookC (n + p) t0 t1 t2 t3) :: (cs1 ++ (cs2 ++ (wb ++ l))))) w1 := st.perm (perm_of_sum fun f_ => by simp <;> omega)
    obtain ⟨a, x, hx, hc⟩ := SrcAt.getN (r.src st') (fun _ => rfl) (by decide) (i := (p : Int)) (by omega) (by omega)
    rw [Int.toNat_natCast] at hx hc
    obtain ⟨hx1, hx2⟩ := List.getElem?_zip_eq_some.1 hx
    obtain ⟨g1, g1'⟩ := List.getElem?_eq_some_iff.1 hx1
    obtain ⟨g2, g2'⟩ := List.getElem?_eq_some_iff.1 hx2
    rw [List.drop_eq_getElem_cons g1, List.drop_eq_getElem_cons g2, g1', g2'] at ps
    obtain ⟨c, wb', rfl, hi2, ps⟩ := ps.cons
    have wp : IntKind.i64.wrap ((p : Int) + 1) = ((p + 1 : Nat) : Int) := by rw [i64_in _ (by omega) (by omega)]; omega
    have hsm := hb _ (List.mem_of_getElem? hx1)
    have hi2 : RowC 3 x.2 (x.1.2.flatMap verV) c := hi2
    have htw : x.2.len = x.1.2.length := by have := hi2.len; rw [flatMap_len (sz := 3) (fun _ => rfl)] at this; omega
    refine ⟨a, by omega, hi, x.2, by rw [Int.toNat_natCast]; exact hc.2.1, ?_⟩
    have st2 : St w0 ((b, bookC (n + p) t0 t1 t2 t3) :: (cs1 ++ (c ++ (cs2 ++ (tb ++ (wb' ++ l)))))) w1 := st.perm (perm_of_sum fun f_ => by simp <;> omega)
    refine sp_KINDs_Version o1 hi2 st2 rfl rfl (by omega) (by omega) (by omega) fun t1' its1'' cs1' w2 o1' hl1' st3 => ?_
    have st3 : St w0 ((b, bookC (n + p + 1) t0 t1' t2 t3) :: (cs1' ++ (cs2 ++ (tb ++ (wb' ++ l))))) w2 := st3
    rw [wp]
    have e : n + ((p + 1 : Nat) : Int) = n + p + 1 := by omega
    exact ⟨⟨p + 1, t1', its1'', cs1', wb', rfl, by omega, o1', by omega, ps, by rw [e]; exact st3⟩, by show _ - _ < _ - _; omega⟩
  · have hi := of_decide_eq_false hi
    obtain rfl : p = hs.length := by omega
    rw [List.drop_length, List.drop_of_length_le (by omega)] at ps
    obtain rfl : wb = [] := ps
    have st2 : St w0 ((b, bookC (n + hs.length) t0 t1 t2 t3) :: (cs2 ++ (tb ++ (cs1 ++ l)))) w1 := st.perm (perm_of_sum fun f_ => by simp <;> omega)
    refine sp_keep_Held o2 r st2 rfl rfl (by omega) (by omega) (by omega) fun t2' its2' cs2' w2 o2' hl2 st3 => ?_
    have st3 : St w0 ((b, bookC (n + hs.length + 1) t0 t1 t2' t3) :: (cs2' ++ (cs1 ++ l))) w2 := st3
    exact k t1 its1' cs1 t2' its2' cs2' w2 o1 hl1 o2' hl2 (st3.perm (perm_of_sum fun f_ => by simp <;> omega))
theorem sp_Book_SavedV {sv : T_api_Saved} {xs : List Value} {hs : List Hd} {rb hc : List Chunk} (o0 : KindO t0 its0 Kept_Int cs0) (o1 : KindO t1 its1 Kept_Version cs1) (o2 : KindO t2 its2 Kept_Held cs2) (ri : RowC 1 sv.Beyond xs rb) (hh : HdsO sv.Held hs hc)
    (st : St w0 ((b, bookC n t0 t1 t2 t3) :: (cs0 ++ (cs1 ++ (cs2 ++ (rb ++ (hc ++ l)))))) w) (hn : 0 ≤ n ∧ n + hs.length ≤ 1999999998) (h0 : its0.length ≤ 1999999999) (h1 : its1.length + hs.length ≤ 1999999999) (h2 : its2.length ≤ 1999999999) (hbl : sv.Beyond.len ≤ 1099511627776) (hb : ∀ h ∈ hs, h.2.length ≤ 1048576) (hl : hs.length ≤ 16777216)
    (k : ∀ t0' its0' cs0' t1' its1' cs1' t2' its2' cs2' w', KindO t0' its0' Kept_Int cs0' → its0'.length = its0.length + 1 → KindO t1' its1' Kept_Version cs1' → its1'.length = its1.length + hs.length → KindO t2' its2' Kept_Held cs2' → its2'.length = its2.length + 1 → St w0 ((b, bookC (n + 1 + hs.length + 1) t0' t1' t2' t3) :: (cs0' ++ (cs1' ++ (cs2' ++ l)))) w' → R w') : C_towpathlaw01_Book_Saved (some ⟨b, 0, none⟩) sv w R := by
  apply S_towpathlaw01_Book_Saved
  unfold F_towpathlaw01_Book_Saved
  intro b5 w1 hb5 hw1
  have st1 := st.alloc (cs := svT sv) hb5 hw1
  refine ⟨sv.Beyond, st1.cell 0 rfl rfl, ?_⟩
  have st1 : St w0 ((b, bookC n t0 t1 t2 t3) :: (cs0 ++ (rb ++ ((b5, svT sv) :: (cs1 ++ (cs2 ++ (hc ++ l))))))) w1 := st1.perm (perm_of_sum fun f_ => by simp <;> omega)
  refine sp_KINDs_Int o0 ri st1 rfl rfl (by omega) (by omega) hbl fun t0' its0' cs0' w2 o0' hl0 st2 => ?_
  have st2 : St w0 ((b, bookC (n + 1) t0' t1 t2 t3) :: (cs0' ++ ((b5, svT sv) :: (cs1 ++ (cs2 ++ (hc ++ l)))))) w2 := st2
  have st2 : St w0 ((b5, svT sv) :: (b, bookC (n + 1) t0' t1 t2 t3) :: (cs1 ++ (cs2 ++ (hc ++ (cs0' ++ l))))) w2 := st2.perm (perm_of_sum fun f_ => by simp <;> omega)
  refine ⟨sv.Held, st2.cell 0 rfl rfl, ?_⟩
  refine sp_Book_HeldsV o1 o2 hh st2.drop1 (by omega) h1 h2 hb hl fun t1' its1' cs1' t2' its2' cs2' w3 o1' hl1 o2' hl2 st3 => ?_
  exact k t0' its0' cs0' t1' its1' cs1' t2' its2' cs2' w3 o0' hl0 o1' hl1 o2' hl2 (st3.perm (perm_of_sum fun f_ => by simp <;> omega))
theorem sp_Book_HeldListsV {sl : Slc} {ls : List (List Hd)} {oc : List Chunk} (o1 : KindO t1 its1 Kept_Version cs1) (o2 : KindO t2 its2 Kept_Held cs2) (o3 : KindO t3 its3 Kept_HeldList cs3) (oO : OutO sl ls oc)
    (st : St w0 ((b, bookC n t0 t1 t2 t3) :: (cs1 ++ (cs2 ++ (cs3 ++ (oc ++ l))))) w) (hn : 0 ≤ n ∧ n ≤ 99999999) (h1 : its1.length ≤ 99999999) (h2 : its2.length ≤ 99999999) (h3 : its3.length ≤ 99999999) (hll : ls.length ≤ 16) (hb : ∀ hs ∈ ls, hs.length ≤ 1048576 ∧ ∀ h ∈ hs, h.2.length ≤ 1048576)
    (k : ∀ n' t1' its1' cs1' t2' its2' cs2' t3' its3' cs3' w', KindO t1' its1' Kept_Version cs1' → its1'.length ≤ its1.length + 16777216 → KindO t2' its2' Kept_Held cs2' → its2'.length ≤ its2.length + 16 → KindO t3' its3' Kept_HeldList cs3' → its3'.length = its3.length + 1 → St w0 ((b, bookC n' t0 t1' t2' t3') :: (cs1' ++ (cs2' ++ (cs3' ++ l)))) w' → R w') : C_towpathlaw01_Book_HeldLists (some ⟨b, 0, none⟩) sl w R := by
  apply S_towpathlaw01_Book_HeldLists
  obtain ⟨sls, tb, wb, rfl, r, ps⟩ := oO
  have hpl := ps.len
  have hsl : sl.len = ls.length := by have := r.len; rw [List.length_map, Nat.mul_one, hpl] at this; omega
  refine ⟨fun i w' => ∃ (p : Nat) (n' : Int) (t1 : Slc) (its1' : List Item) (cs1 : List Chunk) (t2 : Slc) (its2' : List Item) (cs2 wb : List Chunk), i = (p : Int) ∧ p ≤ sl.len ∧ KindO t1 its1' Kept_Version cs1 ∧ its1'.length ≤ its1.length + 1048576 * p ∧ KindO t2 its2' Kept_Held cs2 ∧ its2'.length = its2.length + p ∧ (0 ≤ n' ∧ n' ≤ n + 1048577 * p) ∧ Parts InL (ls.drop p) (sls.drop p) wb ∧ St w0 ((b, bookC n' t0 t1 t2 t3) :: (cs1 ++ (cs2 ++ (cs3 ++ (tb ++ (wb ++ l)))))) w', fun i _ => sl.len - i.toNat, ⟨0, n, t1, its1, cs1, t2, its2, cs2, wb, rfl, by omega, o1, by omega, o2, rfl, by omega, by simpa using ps, by simpa using st⟩, ?_⟩
  clear st o1 o2 ps
  rintro i w1 ⟨p, n', t1, its1', cs1, t2, its2', cs2, wb, rfl, hp, o1, hl1, o2, hl2, hn', ps, st⟩
  unfold F_towpathlaw01_Book_HeldLists_L0
  refine ⟨fun hi => ?_, fun hi => ?_⟩
  · have hi := of_decide_eq_true hi
    have hplt : p < ls.length := by omega
    have st' : St w0 (tb ++ ((b, bookC n' t0 t1 t2 t3) :: (cs1 ++ (cs2 ++ (cs3 ++ (wb ++ l)))))) w1 := st.perm (perm_of_sum fun f_ => by simp <;> omega)
    have hsrc : SrcAt w1 sl 1 (sls.flatMap fun s => [slV s]) := by
      rw [flat1S]; exact r.src st'
    obtain ⟨a, x, hx, hc⟩ := SrcAt.getN hsrc (fun _ => rfl) (by decide) (i := (p : Int)) (by omega) (by omega)
    rw [Int.toNat_natCast, Nat.mul_one] at hc
    rw [Int.toNat_natCast] at hx
    have hx1 : ls[p]? = some ls[p] := List.getElem?_eq_getElem hplt
    obtain ⟨g2, g2'⟩ := List.getElem?_eq_some_iff.1 hx
    rw [List.drop_eq_getElem_cons hplt, List.drop_eq_getElem_cons g2, g2'] at ps
    obtain ⟨c, wb', rfl, hi2, ps⟩ := ps.cons
    have wp : IntKind.i64.wrap ((p : Int) + 1) = ((p + 1 : Nat) : Int) := by rw [i64_in _ (by omega) (by omega)]; omega
    obtain ⟨hm1, hm2⟩ := hb _ (List.mem_of_getElem? hx1)
    have hi2 : HdsO x ls[p] c := hi2
    refine ⟨a, by omega, hi, x, by rw [Int.toNat_natCast]; exact hc.1, ?_⟩
    have st2 : St w0 ((b, bookC n' t0 t1 t2 t3) :: (cs1 ++ (cs2 ++ (c ++ (cs3 ++ (tb ++ (wb' ++ l))))))) w1 := st.perm (perm_of_sum fun f_ => by simp <;> omega)
    refine sp_Book_HeldsV o1 o2 hi2 st2 (by omega) (by omega) (by omega) hm2 (by omega) fun t1' its1'' cs1' t2' its2'' cs2' w2 o1' hl1' o2' hl2' st3 => ?_
    rw [wp]
    exact ⟨⟨p + 1, n' + ls[p].length + 1, t1', its1'', cs1', t2', its2'', cs2', wb', rfl, by omega, o1', by omega, o2', by omega, by omega, ps, st3.perm (perm_of_sum fun f_ => by simp <;> omega)⟩, by show _ - _ < _ - _; omega⟩
  · have hi := of_decide_eq_false hi
    obtain rfl : p = ls.length := by omega
    rw [List.drop_length, List.drop_of_length_le (by omega)] at ps
    obtain rfl : wb = [] := ps
    have st2 : St w0 ((b, bookC n' t0 t1 t2 t3) :: (cs3 ++ (tb ++ (cs1 ++ (cs2 ++ l))))) w1 := st.perm (perm_of_sum fun f_ => by simp <;> omega)
    refine sp_keep_HeldList o3 r st2 rfl rfl (by omega) (by omega) (by omega) fun t3' its3' cs3' w2 o3' hl3 st3 => ?_
    have st3 : St w0 ((b, bookC (n' + 1) t0 t1 t2 t3') :: (cs3' ++ (cs1 ++ (cs2 ++ l)))) w2 := st3
    exact k (n' + 1) t1 its1' cs1 t2 its2' cs2 t3' its3' cs3' w2 o1 (by omega) o2 (by omega) o3' hl3 (st3.perm (perm_of_sum fun f_ => by simp <;> omega))
end
end Go.Proofs.YtpdegdnigcnjiaaGreatDoor

namespace Go.Proofs.YtpdegdnigcnjiaaGreatDoor
open Go
set_option linter.unusedVariables false
set_option linter.unusedSimpArgs false

theorem sp_SameHldsO {w : World} {a b : Slc} {hs : List Hd} {ca cb la lb : List Chunk} {wa wb : Base} {R : Bool → World → Prop} (oa : HdsO a hs ca) (ob : HdsO b hs cb) (sa : St wa (ca ++ la) w) (sb : St wb (cb ++ lb) w) (hl : hs.length ≤ 4611686018427387904) (hv : ∀ h ∈ hs, h.2.length ≤ 4611686018427387904)
    (k : ∀ w', Ext w w' → R true w') : C_towpathlaw01_SameHelds a b w R := by
  obtain ⟨va, ta, pa, rfl, ra, psa⟩ := oa
  obtain ⟨vb, tb, pb, rfl, rb, psb⟩ := ob
  have la1 := psa.len
  have lb1 := psb.len
  have za : ((hs.zip va).flatMap fun p => hdV p.1.1 p.2) = ((hs.zip va).map fun p => (p.1.1, p.2)).flatMap hldT := by rw [List.flatMap_map]
  have zb : ((hs.zip vb).flatMap fun p => hdV p.1.1 p.2) = ((hs.zip vb).map fun p => (p.1.1, p.2)).flatMap hldT := by rw [List.flatMap_map]
  have sra := ra.src (show St wa (ta ++ (pa ++ la)) w from sa.perm (perm_of_sum fun f_ => by simp <;> omega))
  have srb := rb.src (show St wb (tb ++ (pb ++ lb)) w from sb.perm (perm_of_sum fun f_ => by simp <;> omega))
  rw [za] at sra
  rw [zb] at srb
  have hal : a.len = hs.length := by have := sra.1; rw [flatMap_len (sz := 2) (fun _ => rfl), List.length_map, List.length_zip, la1, Nat.min_self] at this; omega
  refine sp_SameHldsT sra srb (by omega) (by rw [List.length_map, List.length_map, List.length_zip, List.length_zip, la1, lb1]) (fun i x y hx hy => ?_) k
  rw [List.getElem?_map, Option.map_eq_some_iff] at hx hy
  obtain ⟨p, hp, rfl⟩ := hx
  obtain ⟨q, hq, rfl⟩ := hy
  obtain ⟨p1, p2⟩ := List.getElem?_zip_eq_some.1 hp
  obtain ⟨q1, q2⟩ := List.getElem?_zip_eq_some.1 hq
  have e : p.1 = q.1 := by rw [p1] at q1; exact Option.some.inj q1
  obtain ⟨xa, ca, ya, ea, ia⟩ := psa.at_ p1 p2
  obtain ⟨xb, cb, yb, eb, ib⟩ := psb.at_ q1 q2
  subst ea eb
  have ia : RowC 3 p.2 (p.1.2.flatMap verV) ca := ia
  have ib : RowC 3 q.2 (q.1.2.flatMap verV) cb := ib
  have hpl : p.2.len = p.1.2.length := by have := ia.len; rw [flatMap_len (sz := 3) (fun _ => rfl)] at this; omega
  refine ⟨congrArg (·.1) e, by have := hv p.1 (List.mem_of_getElem? p1); show p.2.len ≤ _; omega, p.1.2, ia.src (show St wa (ca ++ (ta ++ (xa ++ (ya ++ la)))) w from sa.perm (perm_of_sum fun f_ => by simp <;> omega)), ?_⟩
  rw [e]
  exact ib.src (show St wb (cb ++ (tb ++ (xb ++ (yb ++ lb)))) w from sb.perm (perm_of_sum fun f_ => by simp <;> omega))
theorem sp_SameHLs {w : World} {a b : Slc} {ls : List (List Hd)} {ca cb la lb : List Chunk} {wa wb : Base} {R : Bool → World → Prop} (oa : OutO a ls ca) (ob : OutO b ls cb) (sa : St wa (ca ++ la) w) (sb : St wb (cb ++ lb) w) (hl : ls.length ≤ 65536) (hv : ∀ hs ∈ ls, hs.length ≤ 1048576 ∧ ∀ h ∈ hs, h.2.length ≤ 1048576)
    (k : ∀ w', Ext w w' → R true w') : C_towpathlaw01_SameHeldLists a b w R := by
  apply S_towpathlaw01_SameHeldLists
  unfold F_towpathlaw01_SameHeldLists
  obtain ⟨va, ta, pa, rfl, ra, psa⟩ := oa
  obtain ⟨vb, tb, pb, rfl, rb, psb⟩ := ob
  have la1 := psa.len
  have lb1 := psb.len
  have hal : a.len = ls.length := by have := ra.len; rw [List.length_map, Nat.mul_one] at this; omega
  have hbl : b.len = ls.length := by have := rb.len; rw [List.length_map, Nat.mul_one] at this; omega
  refine ⟨fun h => absurd h (by rw [bne_iff_ne]; omega), fun _ => ?_⟩
  refine ⟨fun i w' => Ext w w' ∧ ∃ p : Nat, i = (p : Int) ∧ p ≤ a.len, fun i _ => a.len - i.toNat, ⟨Ext.refl _, 0, rfl, by omega⟩, ?_⟩
  rintro i w1 ⟨e, p, rfl, h1⟩
  unfold F_towpathlaw01_SameHeldLists_L0
  refine ⟨fun hi => ?_, fun _ => k w1 e⟩
  have hi := of_decide_eq_true hi
  have sra := ra.src (show St wa (ta ++ (pa ++ la)) w from sa.perm (perm_of_sum fun f_ => by simp <;> omega))
  have srb := rb.src (show St wb (tb ++ (pb ++ lb)) w from sb.perm (perm_of_sum fun f_ => by simp <;> omega))
  rw [← flat1S] at sra srb
  obtain ⟨aa, x, hx, hc⟩ := SrcAt.getN (e.src sra) (fun _ => rfl) (by decide) (i := (p : Int)) (by omega) (by omega)
  obtain ⟨ab, y, hy, hd⟩ := SrcAt.getN (e.src srb) (fun _ => rfl) (by decide) (i := (p : Int)) (by omega) (by omega)
  rw [Int.toNat_natCast] at hx hy
  rw [Int.toNat_natCast, Nat.mul_one] at hc hd
  have hls : ls[p]? = some ls[p] := List.getElem?_eq_getElem (by omega)
  obtain ⟨m1, m2⟩ := hv _ (List.mem_of_getElem? hls)
  obtain ⟨xa, ca, ya, ea, ia⟩ := psa.at_ hls hx
  obtain ⟨xb, cb, yb, eb, ib⟩ := psb.at_ hls hy
  subst ea eb
  have sa' : St wa (ca ++ (ta ++ (xa ++ (ya ++ la)))) w := sa.perm (perm_of_sum fun f_ => by simp <;> omega)
  have sb' : St wb (cb ++ (tb ++ (xb ++ (yb ++ lb)))) w := sb.perm (perm_of_sum fun f_ => by simp <;> omega)
  have wi : IntKind.i64.wrap ((p : Int) + 1) = ((p + 1 : Nat) : Int) := by rw [i64_in _ (by omega) (by omega)]; omega
  refine ⟨aa, by omega, hi, x, by rw [Int.toNat_natCast]; exact hc.1, ab, by omega, by omega, y, by rw [Int.toNat_natCast]; exact hd.1, true, fun w' e' => ?_, fun w3 e3 => ⟨fun h => (by cases h), fun _ => ?_⟩⟩
  · exact sp_SameHldsO ia ib (sa'.keep (e.trans e')) (sb'.keep (e.trans e')) (by omega) (fun h hh => by have := m2 h hh; omega) fun w'' e'' => ⟨rfl, e''⟩
  · rw [wi]
    exact ⟨⟨e.trans e3, p + 1, rfl, by omega⟩, by show _ - _ < _ - _; omega⟩
theorem splitM_small {c : Cfg} {hs : List Hd} (h1 : hs.length ≤ 1048576) (h2 : ∀ h ∈ hs, h.2.length ≤ 1048576) : ∀ l ∈ splitM c hs, l.length ≤ 1048576 ∧ ∀ h ∈ l, h.2.length ≤ 1048576 := fun l hl => by
  unfold splitM at hl
  obtain ⟨n, _, rfl⟩ := List.mem_map.1 hl
  refine ⟨Nat.le_trans (List.length_filter_le ..) h1, fun h hh => h2 h (List.mem_filter.1 hh).1⟩
theorem outO_nil : OutO ⟨none, 0, 0⟩ [] [] := ⟨[], [], [], rfl, RowC.nil, Parts.nil⟩

theorem law_DumpSplits (x0 : T_api_Config) (x1 : T_api_Saved) (w : World) (h0 : Ok_T_api_Config w x0) (h1 : Ok_T_api_Saved w x1) (hT : Tab w) : C_towpathlaw18_DumpSplits x0 x1 w (fun b w' => b = true ∧ RowKit.Below w.heap.size w w') := by
  obtain ⟨m, os, ha, hz⟩ := sv_in h1
  apply S_towpathlaw18_DumpSplits
  unfold F_towpathlaw18_DumpSplits
  intro b w1 hb hw1 b1 w2 hb1 hw2
  have st1 : St ⟨w, []⟩ [(b, cfgV x0)] w1 := (St.start w).alloc hb hw1
  have st2 : St ⟨w, []⟩ [(b1, svT x1), (b, cfgV x0)] w2 := st1.alloc hb1 hw2
  refine ⟨x1, (st2.get 0 rfl).all, sp_SavedSizeN (ha.ext st2.ext) hz fun w3 e3 hbig b2 w4 hb2 hw4 => ?_⟩
  have st4 : St ⟨w, []⟩ [(b1, svT x1), (b, cfgV x0)] w4 := ((st2.keep e3).alloc (cs := [iV ((x1.Beyond.len + hsS os : Nat) : Int)]) hb2 hw4).drop1
  refine sp_BeyondS1z hb2 hw4 (by omega) (by omega) fun v hv => ⟨fun _ => ⟨rfl, st4.below⟩, fun hv0 => ?_⟩
  have hsm := hv hv0
  have hol := ha.held.slen
  obtain ⟨z1, z2, z3⟩ := hsS_small (os := os) (by omega)
  have hmb : m.bey.length = x1.Beyond.len := by have := ha.bey.len_eq; omega
  have hmh : m.held.length = os.length := by rw [← ha.hos, List.length_map]
  have hmv : ∀ h ∈ m.held, h.2.length ≤ 1048576 := fun h hh => by
    rw [← ha.hos] at hh
    obtain ⟨o, ho, rfl⟩ := List.mem_map.1 hh
    exact (z2 o ho).2
  refine ⟨x1, (st4.get 0 rfl).all, sp_TwinSaved st4 ha (by omega) (by omega) fun tw ts rb tb vb w6 tS st6 b3 w7 hb3 hw7 => ?_⟩
  have st7 := st6.alloc (cs := svT ⟨0, ⟨none, 0, 0⟩, ⟨none, 0, 0⟩⟩) hb3 hw7
  refine ⟨st7.writable 0 rfl (by decide), fun w8 hw8 => ?_⟩
  have st8 : St ⟨w, []⟩ ((b3, svT tw) :: (rb ++ (tb ++ (vb ++ [(b1, svT x1), (b, cfgV x0)])))) w8 := st7.put0 hw8
  have st8b : St ⟨w, []⟩ ((b, cfgV x0) :: (b1, svT x1) :: (b3, svT tw) :: (rb ++ (tb ++ vb))) w8 := st8.perm (perm_of_sum fun f_ => by simp <;> omega)
  have twA : ∀ {l : List Chunk} {w' : World}, St ⟨w, []⟩ (rb ++ (tb ++ (vb ++ l))) w' → SvAt w' tw m (twO os ts) := fun {l w'} st' => tS.svA st' ha.hos (by omega) z1 fun o ho => (z2 o ho).2
  have tw8 : SvAt w8 tw m (twO os ts) := twA (l := [(b3, svT tw), (b1, svT x1), (b, cfgV x0)]) (st8.perm (perm_of_sum fun f_ => by simp <;> omega))
  refine ⟨x0, (st8b.get 0 rfl).all, tw, (st8b.get 2 rfl).all, ?_⟩
  have hO : ∀ (ls : List (List Hd)) (code : Int), (∀ hs ∈ ls, hs.length ≤ 1048576 ∧ ∀ h ∈ hs, h.2.length ≤ 1048576) → ls.length ≤ 16 → ∀ sl cs w9, OutO sl ls cs → St ⟨w8, []⟩ cs w9 → ∀ slr csr w10, OutO slr ls csr → St ⟨w9, []⟩ csr w10 →
      ((code != code) = true → F_towpathlaw18_DumpSplits_k0 (fun b w' => b = true ∧ RowKit.Below w.heap.size w w') b3 sl true w10) ∧
      ((code != code) = false → C_towpathlaw01_SameHeldLists sl slr w10 (fun (v35 : Bool) w17 => ((!v35) = true → F_towpathlaw18_DumpSplits_k0 (fun b w' => b = true ∧ RowKit.Below w.heap.size w w') b3 sl true w17) ∧
        ((!v35) = false → ∃ (v39 : T_api_Saved), CellsAt w17 b3 0 (svT v39) ∧ ∃ (v40 : T_api_Saved), CellsAt w17 b1 0 (svT v40) ∧ C_towpathlaw01_LeftSaved v39 v40 w17 (fun (v41 : Bool) w18 => F_towpathlaw18_DumpSplits_k0 (fun b w' => b = true ∧ RowKit.Below w.heap.size w w') b3 sl (!v41) w18)))) := by
    intro ls code hsmall h16 sl cs w9 oP st9 slr csr w10 oR st10
    refine ⟨fun h => (by simp at h), fun _ => ?_⟩
    have st9' := st8.more st9
    have st10' := st9'.more st10
    refine sp_SameHLs (la := (b3, svT tw) :: (rb ++ (tb ++ (vb ++ [(b1, svT x1), (b, cfgV x0)])))) (lb := []) oP oR (st9'.keep st10.ext) (by simpa using st10) (by omega) hsmall fun w17 e17 => ⟨fun h => (by cases h), fun _ => ?_⟩
    have st17 := st10'.keep e17
    have st17b : St ⟨w, []⟩ ((b3, svT tw) :: (b1, svT x1) :: (rb ++ (tb ++ (vb ++ (cs ++ (csr ++ [(b, cfgV x0)])))))) w17 := st17.perm (perm_of_sum fun f_ => by simp <;> omega)
    refine ⟨tw, (st17b.get 0 rfl).all, x1, (st17b.get 1 rfl).all, ?_⟩
    have st17c : St ⟨w, []⟩ (rb ++ (tb ++ (vb ++ ((b3, svT tw) :: (b1, svT x1) :: (cs ++ (csr ++ [(b, cfgV x0)])))))) w17 := st17.perm (perm_of_sum fun f_ => by simp <;> omega)
    refine sp_LeftSaved tS st17c ha (by omega) (by omega) fun w18 st18 => ?_
    unfold F_towpathlaw18_DumpSplits_k0
    refine ⟨fun h => (by cases h), fun _ b4 w12 hb4 hw12 => ?_⟩
    have st12 := st18.alloc (cs := bookC 0 ⟨none, 0, 0⟩ ⟨none, 0, 0⟩ ⟨none, 0, 0⟩ ⟨none, 0, 0⟩) hb4 hw12
    refine ⟨st12.writable 0 rfl (by decide), fun w13 hw13 => ?_⟩
    have st13 : St ⟨w, []⟩ ((b4, bookC 0 ⟨none, 0, 0⟩ ⟨none, 0, 0⟩ ⟨none, 0, 0⟩ ⟨none, 0, 0⟩) :: (rb ++ (tb ++ (vb ++ ((b3, svT tw) :: (b1, svT x1) :: (cs ++ (csr ++ [(b, cfgV x0)]))))))) w13 := st12.put0 hw13
    have st13b : St ⟨w, []⟩ ((b3, svT tw) :: (b4, bookC 0 ⟨none, 0, 0⟩ ⟨none, 0, 0⟩ ⟨none, 0, 0⟩ ⟨none, 0, 0⟩) :: ([] ++ ([] ++ ([] ++ (rb ++ ((tb ++ vb) ++ ((b1, svT x1) :: (cs ++ (csr ++ [(b, cfgV x0)]))))))))) w13 := st13.perm (perm_of_sum fun f_ => by simp <;> omega)
    refine ⟨tw, (st13b.get 0 rfl).all, ?_⟩
    have hbl : tw.Beyond.len = m.bey.length := tS.bey.len
    refine sp_Book_SavedV kind_new kind_new kind_new tS.bey.row (tS.hds ha.hos) st13b.drop1 (by omega) (by simp) (by simp; omega) (by simp) (by omega) hmv (by omega) fun t0' its0' cs0' t1' its1' cs1' t2' its2' cs2' w14 o0 l0 o1 l1 o2 l2 st14 => ?_
    have st14 : St ⟨w, []⟩ ((b4, bookC (0 + 1 + m.held.length + 1) t0' t1' t2' ⟨none, 0, 0⟩) :: (cs1' ++ (cs2' ++ ([] ++ (cs ++ (cs0' ++ ((b1, svT x1) :: (csr ++ [(b, cfgV x0)])))))))) w14 := st14.perm (perm_of_sum fun f_ => by simp <;> omega)
    simp only [List.length_nil] at l0 l1 l2
    refine sp_Book_HeldListsV o1 o2 kind_new oP st14 (by omega) (by omega) (by omega) (by simp) h16 hsmall fun n' t1'' its1'' cs1'' t2'' its2'' cs2'' t3'' its3'' cs3'' w15 o1' l1' o2' l2' o3' l3' st15 => ?_
    have st15 : St ⟨w, []⟩ ((b4, bookC n' t0' t1'' t2'' t3'') :: (cs0' ++ (cs1'' ++ (cs2'' ++ (cs3'' ++ ((b1, svT x1) :: (csr ++ [(b, cfgV x0)]))))))) w15 := st15.perm (perm_of_sum fun f_ => by simp <;> omega)
    simp only [List.length_nil] at l3'
    exact sp_Apart hT o0 (by omega) o1' (by omega) o2' (by omega) o3' (by omega) st15 fun c0 c1 c2 c3 w16 st16 => ⟨rfl, st16.below⟩
  have twl : tw.Held.len ≤ 549755813888 := by
    have := tw8.held.slen
    unfold twO at this
    rw [List.length_map, List.length_zip, tS.ver.len, Nat.min_self] at this
    omega
  have cells : ∀ {cs : List Chunk} {w9 : World}, St ⟨w8, []⟩ cs w9 → CellsAt w9 b 0 (cfgV x0) ∧ CellsAt w9 b1 0 (svT x1) := fun {cs w9} st9 => by
    have st9' : St ⟨w, []⟩ ((b, cfgV x0) :: (b1, svT x1) :: ((b3, svT tw) :: (rb ++ (tb ++ (vb ++ cs))))) w9 := (st8.more st9).perm (perm_of_sum fun f_ => by simp <;> omega)
    exact ⟨(st9'.get 0 rfl).all, (st9'.get 1 rfl).all⟩
  have hE : ∀ {cs : List Chunk} {w9 : World}, St ⟨w8, []⟩ cs w9 → SvAt w9 x1 m os := fun {cs w9} st9 => ha.ext (st8.more st9).ext
  refine sp_dump_Split tw8 twl (fun hne w9 e9 => ?_) (fun hc0 hno w9 e9 => ?_) fun hc hk sl cs w9 oP st9 => ?_
  · have st9 : St ⟨w8, []⟩ [] w9 := (St.start w8).keep e9
    obtain ⟨d1, d2⟩ := cells st9
    have h7 : checkF x0 = 7 := by unfold checkF at hne ⊢; split at hne <;> rename_i h; · exact absurd rfl hne
                                  · exact if_neg h
    refine ⟨x0, d1, x1, d2, sp_r18_Split (hE st9) (by omega) (fun _ w10 e10 => ?_) (fun h _ => absurd h hne) fun hc => absurd (by unfold checkF; exact if_pos hc) hne⟩
    rw [h7]
    exact hO [] 7 (fun hs h => by cases h) (by simp) _ _ w9 outO_nil st9 _ _ w10 outO_nil ((St.start w9).keep e10)
  · have st9 : St ⟨w8, []⟩ [] w9 := (St.start w8).keep e9
    obtain ⟨d1, d2⟩ := cells st9
    refine ⟨x0, d1, x1, d2, sp_r18_Split (hE st9) (by omega) (fun h => absurd hc0 h) (fun _ _ w10 e10 => ?_) fun _ hk => absurd hk hno⟩
    exact hO [] 1 (fun hs h => by cases h) (by simp) _ _ w9 outO_nil st9 _ _ w10 outO_nil ((St.start w9).keep e10)
  · obtain ⟨d1, d2⟩ := cells st9
    have hS := hc.2.1
    refine ⟨x0, d1, x1, d2, sp_r18_Split (hE st9) (by omega) (fun h => absurd (by unfold checkF; exact if_pos hc) h) (fun _ h => absurd hk h) fun _ _ slr csr w10 oR st10 => ?_⟩
    exact hO (splitM x0 m.held) 0 (splitM_small (by omega) hmv) (by rw [splitM_len]; omega) sl cs w9 oP st9 slr csr w10 oR st10
end Go.Proofs.YtpdegdnigcnjiaaGreatDoor

