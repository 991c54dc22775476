/- Chapter 06: a log is read. -/
import Derived.Test.YtpdegdnigcnjiaaULogRc
import Derived.Test.YtpdegdnigcnjiaaULogB
namespace Go.Proofs.Ytpdegdnigcnjiaa
open Go
set_option linter.unusedVariables false
set_option linter.unusedSimpArgs false

theorem BldO.wide {ts : List Tx} {sl : Slc} {sls : List Slc} {tb cs : List Chunk} (o : BldO ts ts.length sl sls tb cs) (t : Tx) : BldO (ts ++ [t]) ts.length sl sls tb cs := by
  have hl := o.len
  refine ⟨?_, o.len, by simp, fun {w0 w fr} st i t' s' h1 h2 => ?_, o.cp⟩
  · have r := o.row
    rw [List.take_length] at r
    rw [List.take_append_of_le_length (Nat.le_refl _), List.take_length]
    exact r
  · have hi := (List.getElem?_eq_some_iff.1 h2).1
    rw [List.getElem?_append_left (by omega)] at h1
    exact o.wr st i t' s' h1 h2
theorem BldO.snoc {ts : List Tx} {sl sl' : Slc} {sls : List Slc} {tb tb' cs rb : List Chunk} {t : Tx} {s : Slc} (o : BldO ts ts.length sl sls tb cs) (r : RowC 3 s (t.2.flatMap wV) rb) (hs : s.len * 40 ≤ 140737488351232)
    (row : RowC 2 sl' (((ts.take ts.length).zip sls).flatMap (fun q => txW q.1.1 q.2) ++ txW t.1 s) tb') : BldO (ts ++ [t]) (ts ++ [t]).length sl' (sls ++ [s]) tb' (rb ++ cs) := by
  have e : (ts ++ [t]).length = ts.length + 1 := by simp
  rw [e]
  refine (o.wide t).add (by rw [List.getElem?_append_right (Nat.le_refl _)]; simp) r hs ?_
  rw [List.take_append_of_le_length (Nat.le_refl _)]
  exact row

section
variable {w0 : Base} {w : World} {fr : List Chunk}
set_option maxHeartbeats 1000000 in
theorem sp_lf_Read {b_ : Slc} {xs : List UInt8} {R : Slc → Int → Int → World → Prop} (st : St w0 fr w) (hs : ∀ B l w', B.w = w0.w → St B (l ++ fr) w' → SrcAt w' b_ 1 (xs.map bV)) (hl : b_.len ≤ 140737488351232)
    (k : ∀ ts rem e sl sls cs w', Rd 1 xs ts rem e → LogO sl ts sls cs → sl.len ≤ sl.cap → St w0 (cs ++ fr) w' → R sl ((xs.length - rem.length : Nat) : Int) e w') : C_logfile_Read b_ w R := by
  apply S_logfile_Read
  unfold F_logfile_Read
  have hxl := (hs w0 [] w rfl st).len_eq
  intro b1 w1 hb1 hw1 b2 w2 hb2 hw2 b3 w3 hb3 hw3
  have st3 : St w0 ((b3, [iV 0]) :: (b2, [iV 0]) :: (b1, [slV ⟨none, 0, 0⟩]) :: fr) w3 := ((st.alloc (cs := [slV ⟨none, 0, 0⟩]) hb1 hw1).alloc (cs := [iV 0]) hb2 hw2).alloc (cs := [iV 0]) hb3 hw3
  apply S_logfile_records
  unfold F_logfile_records
  intro t1 w4 ht1 hw4 t2 w5 ht2 hw5
  have st5 : St w0 ((t2, [Value.pointer (some ⟨b3, 0, none⟩)]) :: (t1, [Value.slice b_.ptr b_.len b_.cap]) :: (b3, [iV 0]) :: (b2, [iV 0]) :: (b1, [slV ⟨none, 0, 0⟩]) :: fr) w5 := (st3.alloc (cs := [Value.slice b_.ptr b_.len b_.cap]) ht1 hw4).alloc (cs := [Value.pointer (some ⟨b3, 0, none⟩)]) ht2 hw5
  intro rec D w6 hD hw6 hB
  have hsz : (w5.alloc (.deferred (some []))).heap.size = D + 1 := by rw [hD]; exact World.size_alloc ..
  have st6 := (st5.newObj hD (w' := w5.alloc (.deferred (some []))) rfl (fun _ _ _ h => by cases h)).newObj (b := D + 1) (o := .loop (rec .ready none)) hsz.symm hw6 (fun _ _ _ h => by cases h)
  let Bs : LoopState → Option Code → Base := fun sa pe => ⟨w0.w, (D + 1, .loop (rec sa pe)) :: (D, .deferred (some [])) :: w0.mp⟩
  let Z : LoopState → Option Code → World → Prop := fun sa pe W => ∃ ts rem e own sls tb cs d, Rd 1 xs ts rem e ∧ BldO ts ts.length own sls tb cs ∧ St (Bs sa pe) ((b3, [iV e]) :: (b1, [slV own]) :: (b2, [iV ((xs.length - rem.length : Nat) : Int)]) :: (tb ++ (cs ++ (d ++ fr)))) W
  let K : List UInt8 → List Chunk → Prop := fun rest X => ∃ ts own sls tb cs, (∀ ts' rem e, Rd (ts.length + 1) rest ts' rem e → Rd 1 xs (ts ++ ts') rem e) ∧ BldO ts ts.length own sls tb cs ∧ own.len = ts.length ∧ ts.length ≤ 65536 ∧ X = (b1, [slV own]) :: (b2, [iV ((xs.length - rest.length : Nat) : Int)]) :: (tb ++ cs)
  refine CallsV.mk (all := #[yieldV (D + 1), Value.pointer (some ⟨t1, 0, none⟩), Value.pointer (some ⟨t2, 0, none⟩)]) (by kernel_rfl) rfl ?_
  have hfin : ∀ w', (Z .ready none w' ∨ Z .done (some .ret) w') → ∃ st_ pe_, w'.heap[D + 1]? = some (.loop (rec st_ pe_)) ∧ st_ ≠ .busy ∧ ∀ w23, w23 = w'.putObj (D + 1) (.loop (rec .exhausted pe_)) → (((pe_ = none) ∧ (F_logfile_Read_A2 R b1 b2 b3 D w23)) ∨
      (pe_ = some .ret ∧ (w23.heap[D]? = some (.deferred (some [])) ∧ (∀ w29, w29 = w23.putObj D (.deferred none) → (∃ (res3 : Slc), CellsAt w29 b1 0 [Value.slice res3.ptr res3.len res3.cap] ∧ (∃ (res4 : Int), CellsAt w29 b2 0 [Value.int .i64 res4] ∧ (∃ (res5 : Int), CellsAt w29 b3 0 [Value.int .i64 res5] ∧ (R res3 res4 res5 w29)))))))) := by
    have last : ∀ {pe : Option Code} {ts : List Tx} {rem : List UInt8} {e : Int} {own : Slc} {sls : List Slc} {tb cs d : List Chunk} {w23 : World}, Rd 1 xs ts rem e → BldO ts ts.length own sls tb cs →
        St (Bs .exhausted pe) ((b3, [iV e]) :: (b1, [slV own]) :: (b2, [iV ((xs.length - rem.length : Nat) : Int)]) :: (tb ++ (cs ++ (d ++ fr)))) w23 →
        (w23.heap[D]? = some (.deferred (some [])) ∧ (∀ w29, w29 = w23.putObj D (.deferred none) → (∃ (res3 : Slc), CellsAt w29 b1 0 [Value.slice res3.ptr res3.len res3.cap] ∧ (∃ (res4 : Int), CellsAt w29 b2 0 [Value.int .i64 res4] ∧ (∃ (res5 : Int), CellsAt w29 b3 0 [Value.int .i64 res5] ∧ (R res3 res4 res5 w29)))))) := by
      intro pe ts rem e own sls tb cs d w23 hr o stz
      refine ⟨stz.objAt 1 rfl, fun w29 hw29 => ?_⟩
      have st29 := St.turn (a := [(D + 1, .loop (rec .exhausted pe))]) (b := w0.mp) (W := w0.w) (o := .deferred (some [])) stz hw29 (o' := .deferred none) (fun _ _ _ h => by cases h)
      have st30 : St w0 ((b3, [iV e]) :: (b1, [slV own]) :: (b2, [iV ((xs.length - rem.length : Nat) : Int)]) :: (tb ++ (cs ++ (d ++ fr)))) w29 := St.forget (a := [(D + 1, .loop (rec .exhausted pe)), (D, .deferred none)]) (b := w0.mp) (W := w0.w) st29
      refine ⟨own, ⟨st30.cell 1 rfl rfl, trivial⟩, _, ⟨st30.cell 2 rfl rfl, trivial⟩, e, ⟨st30.cell 0 rfl rfl, trivial⟩, ?_⟩
      have st31 : St w0 ((tb ++ cs) ++ fr) w29 := st30.weak ((b3, [iV e]) :: (b1, [slV own]) :: (b2, [iV ((xs.length - rem.length : Nat) : Int)]) :: d) (perm_of_sum fun f_ => by simp only [List.map_append, List.map_cons, List.map_nil, List.sum_append, List.sum_cons, List.sum_nil, List.append_nil]; omega)
      exact k ts rem e own sls (tb ++ cs) w29 hr o.done o.row.cap_le st31
    rintro w' (h | h)
    · obtain ⟨ts, rem, e, own, sls, tb, cs, d, hr, o, stz⟩ := h
      refine ⟨.ready, none, stz.objAt 0 rfl, by simp, fun w23 hw23 => .inl ⟨rfl, ?_⟩⟩
      have st23 := St.turn (a := []) stz hw23 (o' := .loop (rec .exhausted none)) (fun _ _ _ h => by cases h)
      unfold F_logfile_Read_A2
      intro w24 hw24
      have st24 : St (Bs .exhausted none) ((b1, [slV own]) :: (b2, [iV ((xs.length - rem.length : Nat) : Int)]) :: (b3, [iV e]) :: (tb ++ (cs ++ (d ++ fr)))) w24 := (st23.drew hw24).perm (perm_of_sum fun f_ => by simp only [List.map_append, List.map_cons, List.map_nil, List.sum_append, List.sum_cons, List.sum_nil, List.append_nil]; omega)
      refine ⟨own, st24.cell 0 rfl rfl, _, st24.cell 1 rfl rfl, e, st24.cell 2 rfl rfl, st24.writable 0 rfl (by show 0 + 1 ≤ 1; omega), fun w25 hw25 => ?_⟩
      have st25 : St (Bs .exhausted none) ((b1, [slV own]) :: (b2, [iV ((xs.length - rem.length : Nat) : Int)]) :: (b3, [iV e]) :: (tb ++ (cs ++ (d ++ fr)))) w25 := st24.put0 hw25
      have st25 : St (Bs .exhausted none) ((b2, [iV ((xs.length - rem.length : Nat) : Int)]) :: (b3, [iV e]) :: (b1, [slV own]) :: (tb ++ (cs ++ (d ++ fr)))) w25 := st25.perm (perm_of_sum fun f_ => by simp only [List.map_append, List.map_cons, List.map_nil, List.sum_append, List.sum_cons, List.sum_nil, List.append_nil]; omega)
      refine ⟨st25.cell 1 rfl rfl, st25.cell 0 rfl rfl, st25.writable 0 rfl (by show 0 + 1 ≤ 1; omega), fun w26 hw26 => ?_⟩
      have st26 : St (Bs .exhausted none) ((b2, [iV ((xs.length - rem.length : Nat) : Int)]) :: (b3, [iV e]) :: (b1, [slV own]) :: (tb ++ (cs ++ (d ++ fr)))) w26 := st25.put0 hw26
      have st26 : St (Bs .exhausted none) ((b3, [iV e]) :: (b1, [slV own]) :: (b2, [iV ((xs.length - rem.length : Nat) : Int)]) :: (tb ++ (cs ++ (d ++ fr)))) w26 := st26.perm (perm_of_sum fun f_ => by simp only [List.map_append, List.map_cons, List.map_nil, List.sum_append, List.sum_cons, List.sum_nil, List.append_nil]; omega)
      refine ⟨st26.cell 0 rfl rfl, st26.writable 0 rfl (by show 0 + 1 ≤ 1; omega), fun w27 hw27 => ?_⟩
      have st27 : St (Bs .exhausted none) ((b3, [iV e]) :: (b1, [slV own]) :: (b2, [iV ((xs.length - rem.length : Nat) : Int)]) :: (tb ++ (cs ++ (d ++ fr)))) w27 := st26.put0 hw27
      exact last hr o st27
    · obtain ⟨ts, rem, e, own, sls, tb, cs, d, hr, o, stz⟩ := h
      refine ⟨.done, some .ret, stz.objAt 0 rfl, by simp, fun w23 hw23 => .inr ⟨rfl, ?_⟩⟩
      have st23 := St.turn (a := []) stz hw23 (o' := .loop (rec .exhausted (some .ret))) (fun _ _ _ h => by cases h)
      exact last hr o st23
  have hsB : ∀ l w', St (Bs .ready none) (l ++ fr) w' → SrcAt w' b_ 1 (xs.map bV) := fun l w' st' => hs (Bs .ready none) l w' rfl st'
  refine Calls.mono (sp_records_1 (yv := yieldV (D + 1)) (tb1 := t1) (tb2 := t2) (b3 := b3) (b_ := b_) (xs := xs) (R := fun w' => Z .ready none w' ∨ Z .done (some .ret) w') (B := Bs .ready none) (fr := fr) K [(b1, [slV ⟨none, 0, 0⟩]), (b2, [iV 0])]
    ⟨[], ⟨none, 0, 0⟩, [], [], [], fun ts' rem e h => h, BldO.start [], rfl, by simp, by rw [Nat.sub_self]; rfl⟩ hxl (by omega) (fun l w' st' => ?_) (st6.perm (perm_of_sum fun f_ => by simp only [List.map_append, List.map_cons, List.map_nil, List.sum_append, List.sum_cons, List.sum_nil, List.append_nil]; omega)) ?_ ?_ ?_) ?_
  · exact hsB (l ++ [(t1, [Value.slice b_.ptr b_.len b_.cap]), (t2, [Value.pointer (some ⟨b3, 0, none⟩)]), (b3, [iV 0])]) w' (by rw [List.append_assoc]; exact st')
  · rintro rest rest' t s rb X d w' ⟨ts, own, sls, tb, cs, hrd, o, hol, hol2, rfl⟩ hrec hne rs hsl stJ
    have hlt := recR_lt hrec
    obtain ⟨hok, _⟩ := recR_one hrec
    refine CallsY.mono (hB ((xs.length - rest'.length : Nat) : Int) ⟨t.1, s⟩ w' (fun bb W => (bb = true → ∃ X', K rest' X' ∧ St (Bs .ready none) (X' ++ (d ++ ((t1, [Value.slice b_.ptr b_.len b_.cap]) :: (t2, [Value.pointer (some ⟨b3, 0, none⟩)]) :: (b3, [iV 0]) :: fr))) W) ∧ (bb = false → (Z .ready none W ∨ Z .done (some .ret) W)))
      (stJ.objAt 0 rfl) ?_) (fun e W h => h)
    unfold F_logfile_Read_S1
    intro b4 w8 hb4 hw8
    have st8 := stJ.alloc (cs := txW 0 ⟨none, 0, 0⟩) hb4 hw8
    refine ⟨st8.writable 0 rfl (by decide), fun w9 hw9 => ?_⟩
    have st9 : St (Bs .ready none) ((b4, txW t.1 s) :: (rb ++ (((b1, [slV own]) :: (b2, [iV ((xs.length - rest.length : Nat) : Int)]) :: (tb ++ cs)) ++ (d ++ ((t1, [Value.slice b_.ptr b_.len b_.cap]) :: (t2, [Value.pointer (some ⟨b3, 0, none⟩)]) :: (b3, [iV 0]) :: fr))))) w9 := st8.put0 hw9
    refine ⟨st9.objAt 0 rfl, fun w10 hw10 => ?_⟩
    have st10 := St.turn (a := []) st9 hw10 (o' := .loop (rec .busy none)) (fun _ _ _ h => by cases h)
    have st10 : St (Bs .busy none) ((b4, txW t.1 s) :: (b1, [slV own]) :: (b2, [iV ((xs.length - rest.length : Nat) : Int)]) :: (b3, [iV 0]) :: (tb ++ (rb ++ (cs ++ (d ++ ((t1, [Value.slice b_.ptr b_.len b_.cap]) :: (t2, [Value.pointer (some ⟨b3, 0, none⟩)]) :: fr)))))) w10 := st10.perm (perm_of_sum fun f_ => by simp only [List.map_append, List.map_cons, List.map_nil, List.sum_append, List.sum_cons, List.sum_nil, List.append_nil]; omega)
    unfold F_logfile_Read_B0
    have hn1 := hok.1
    have hn2 := hok.2.1
    have hoc := o.row.cap_le
    refine ⟨t.1, st10.cell 0 rfl rfl, own, st10.cell 1 rfl rfl, ?_, ?_⟩
    · intro hneq w11 hw11
      have hneq : t.1 ≠ IntKind.i64.wrap (((own.len : Nat) : Int) + 1) := bne_iff_ne.1 hneq
      have st11 : St (Bs .busy none) ((b1, [slV own]) :: (b2, [iV ((xs.length - rest.length : Nat) : Int)]) :: (b3, [iV 0]) :: ((b4, txW t.1 s) :: (tb ++ (rb ++ (cs ++ (d ++ ((t1, [Value.slice b_.ptr b_.len b_.cap]) :: (t2, [Value.pointer (some ⟨b3, 0, none⟩)]) :: fr))))))) w11 := (st10.drew hw11).perm (perm_of_sum fun f_ => by simp only [List.map_append, List.map_cons, List.map_nil, List.sum_append, List.sum_cons, List.sum_nil, List.append_nil]; omega)
      refine ⟨own, st11.cell 0 rfl rfl, _, st11.cell 1 rfl rfl, st11.writable 0 rfl (by show 0 + 1 ≤ 1; omega), fun w12 hw12 => ?_⟩
      have st12 : St (Bs .busy none) ((b1, [slV own]) :: (b2, [iV ((xs.length - rest.length : Nat) : Int)]) :: (b3, [iV 0]) :: ((b4, txW t.1 s) :: (tb ++ (rb ++ (cs ++ (d ++ ((t1, [Value.slice b_.ptr b_.len b_.cap]) :: (t2, [Value.pointer (some ⟨b3, 0, none⟩)]) :: fr))))))) w12 := st11.put0 hw12
      have st12 : St (Bs .busy none) ((b2, [iV ((xs.length - rest.length : Nat) : Int)]) :: (b3, [iV 0]) :: (b1, [slV own]) :: ((b4, txW t.1 s) :: (tb ++ (rb ++ (cs ++ (d ++ ((t1, [Value.slice b_.ptr b_.len b_.cap]) :: (t2, [Value.pointer (some ⟨b3, 0, none⟩)]) :: fr))))))) w12 := st12.perm (perm_of_sum fun f_ => by simp only [List.map_append, List.map_cons, List.map_nil, List.sum_append, List.sum_cons, List.sum_nil, List.append_nil]; omega)
      refine ⟨st12.cell 0 rfl rfl, st12.writable 0 rfl (by show 0 + 1 ≤ 1; omega), fun w13 hw13 => ?_⟩
      have st13 : St (Bs .busy none) ((b2, [iV ((xs.length - rest.length : Nat) : Int)]) :: (b3, [iV 0]) :: (b1, [slV own]) :: ((b4, txW t.1 s) :: (tb ++ (rb ++ (cs ++ (d ++ ((t1, [Value.slice b_.ptr b_.len b_.cap]) :: (t2, [Value.pointer (some ⟨b3, 0, none⟩)]) :: fr))))))) w13 := st12.put0 hw13
      have st13 : St (Bs .busy none) ((b3, [iV 0]) :: (b1, [slV own]) :: (b2, [iV ((xs.length - rest.length : Nat) : Int)]) :: ((b4, txW t.1 s) :: (tb ++ (rb ++ (cs ++ (d ++ ((t1, [Value.slice b_.ptr b_.len b_.cap]) :: (t2, [Value.pointer (some ⟨b3, 0, none⟩)]) :: fr))))))) w13 := st13.perm (perm_of_sum fun f_ => by simp only [List.map_append, List.map_cons, List.map_nil, List.sum_append, List.sum_cons, List.sum_nil, List.append_nil]; omega)
      refine ⟨st13.writable 0 rfl (by show 0 + 1 ≤ 1; omega), fun w14 hw14 => ?_⟩
      have st14 : St (Bs .busy none) ((b3, [iV 6]) :: (b1, [slV own]) :: (b2, [iV ((xs.length - rest.length : Nat) : Int)]) :: ((b4, txW t.1 s) :: (tb ++ (rb ++ (cs ++ (d ++ ((t1, [Value.slice b_.ptr b_.len b_.cap]) :: (t2, [Value.pointer (some ⟨b3, 0, none⟩)]) :: fr))))))) w14 := st13.put0 hw14
      refine ⟨st14.objAt 0 rfl, fun w15 hw15 => ⟨fun h => (by cases h), fun _ => .inr ?_⟩⟩
      have st15 := St.turn (a := []) st14 hw15 (o' := .loop (rec .done (some .ret))) (fun _ _ _ h => by cases h)
      have hrd' : Rd 1 xs (ts ++ []) rest 6 := hrd [] rest 6 (Rd.turn hne hrec (fun e => hneq (by
        have hcast : ((ts.length + 1 : Nat) : Int) = ((own.len : Nat) : Int) + 1 := by omega
        rw [i64_in _ (by omega) (by omega), ← hcast]; exact e)))
      rw [List.append_nil] at hrd'
      refine ⟨ts, rest, 6, own, sls, tb, cs, (b4, txW t.1 s) :: (rb ++ (d ++ [(t1, [Value.slice b_.ptr b_.len b_.cap]), (t2, [Value.pointer (some ⟨b3, 0, none⟩)])])), hrd', o, ?_⟩
      exact st15.perm (perm_of_sum fun f_ => by simp only [List.map_append, List.map_cons, List.map_nil, List.sum_append, List.sum_cons, List.sum_nil, List.append_nil]; omega)
    · intro heq
      have heq : t.1 = IntKind.i64.wrap (((own.len : Nat) : Int) + 1) := bne_eq_false_iff_eq.1 heq
      have heq : t.1 = ((ts.length + 1 : Nat) : Int) := by rw [heq, i64_in _ (by omega) (by omega)]; omega
      refine ⟨own, st10.cell 1 rfl rfl, ⟨t.1, s⟩, ⟨st10.cell 0 rfl rfl, st10.cell 0 rfl rfl, trivial⟩, fun b5 w15 hb5 hw15 => ?_⟩
      have st15 := st10.alloc (cs := txW t.1 s) hb5 hw15
      have st15b : St (Bs .busy none) (tb ++ ((b1, [slV own]) :: (b2, [iV ((xs.length - rest.length : Nat) : Int)]) :: (b3, [iV 0]) :: (rb ++ (cs ++ (d ++ ((t1, [Value.slice b_.ptr b_.len b_.cap]) :: (t2, [Value.pointer (some ⟨b3, 0, none⟩)]) :: fr)))))) w15 := st15.weak [(b5, txW t.1 s), (b4, txW t.1 s)] (perm_of_sum fun f_ => by simp only [List.map_append, List.map_cons, List.map_nil, List.sum_append, List.sum_cons, List.sum_nil, List.append_nil]; omega)
      refine ⟨txW t.1 s, srcAt_newN hb5 hw15 rfl, o.row.append st15b rfl rfl rfl (by omega) fun own' tb' w16 r16 st16 hl16 => ?_⟩
      have st16 : St (Bs .busy none) ((b1, [slV own]) :: (b2, [iV ((xs.length - rest.length : Nat) : Int)]) :: (tb' ++ ((b3, [iV 0]) :: (rb ++ (cs ++ (d ++ ((t1, [Value.slice b_.ptr b_.len b_.cap]) :: (t2, [Value.pointer (some ⟨b3, 0, none⟩)]) :: fr))))))) w16 := st16.perm (perm_of_sum fun f_ => by simp only [List.map_append, List.map_cons, List.map_nil, List.sum_append, List.sum_cons, List.sum_nil, List.append_nil]; omega)
      refine ⟨st16.writable 0 rfl (by show 0 + 1 ≤ 1; omega), fun w17 hw17 => ?_⟩
      have st17 : St (Bs .busy none) ((b1, [slV own']) :: (b2, [iV ((xs.length - rest.length : Nat) : Int)]) :: (tb' ++ ((b3, [iV 0]) :: (rb ++ (cs ++ (d ++ ((t1, [Value.slice b_.ptr b_.len b_.cap]) :: (t2, [Value.pointer (some ⟨b3, 0, none⟩)]) :: fr))))))) w17 := st16.put0 hw17
      have st17 : St (Bs .busy none) ((b2, [iV ((xs.length - rest.length : Nat) : Int)]) :: (b1, [slV own']) :: (tb' ++ ((b3, [iV 0]) :: (rb ++ (cs ++ (d ++ ((t1, [Value.slice b_.ptr b_.len b_.cap]) :: (t2, [Value.pointer (some ⟨b3, 0, none⟩)]) :: fr))))))) w17 := st17.perm (perm_of_sum fun f_ => by simp only [List.map_append, List.map_cons, List.map_nil, List.sum_append, List.sum_cons, List.sum_nil, List.append_nil]; omega)
      refine ⟨st17.writable 0 rfl (by show 0 + 1 ≤ 1; omega), fun w18 hw18 => ?_⟩
      have st18 : St (Bs .busy none) ((b2, [iV ((xs.length - rest'.length : Nat) : Int)]) :: (b1, [slV own']) :: (tb' ++ ((b3, [iV 0]) :: (rb ++ (cs ++ (d ++ ((t1, [Value.slice b_.ptr b_.len b_.cap]) :: (t2, [Value.pointer (some ⟨b3, 0, none⟩)]) :: fr))))))) w18 := st17.put0 hw18
      refine ⟨st18.objAt 0 rfl, fun w19 hw19 => ⟨fun _ => ?_, fun h => (by cases h)⟩⟩
      have st19 := St.turn (a := []) st18 hw19 (o' := .loop (rec .ready none)) (fun _ _ _ h => by cases h)
      have hws : t.2.length ≤ 32 := hok.2.2.1
      refine ⟨_, ⟨ts ++ [t], own', sls ++ [s], tb', rb ++ cs, fun ts' rem e h => ?_, o.snoc rs (by omega) r16, by simp; omega, by simp; omega, rfl⟩, st19.perm (perm_of_sum fun f_ => by simp only [List.map_append, List.map_cons, List.map_nil, List.sum_append, List.sum_cons, List.sum_nil, List.append_nil]; omega)⟩
      have e1 : (ts ++ [t]).length + 1 = ts.length + 1 + 1 := by simp
      rw [e1] at h
      have h2 : Rd (ts.length + 1) rest (t :: ts') rem e := Rd.step hne hrec heq h
      have := hrd _ _ _ h2
      rw [List.append_assoc]; exact this
  · rintro rest e X d w' hne ⟨ts, own, sls, tb, cs, hrd, o, hol, hol2, rfl⟩ hrec he stb
    have hrd' := hrd [] rest e (Rd.bad hne hrec he)
    rw [List.append_nil] at hrd'
    exact .inl ⟨ts, rest, e, own, sls, tb, cs, d, hrd', o, stb.perm (perm_of_sum fun f_ => by simp only [List.map_append, List.map_cons, List.map_nil, List.sum_append, List.sum_cons, List.sum_nil, List.append_nil]; omega)⟩
  · rintro X d w' ⟨ts, own, sls, tb, cs, hrd, o, hol, hol2, rfl⟩ stb
    have hrd' := hrd [] [] 0 (Rd.nil _)
    rw [List.append_nil] at hrd'
    exact .inl ⟨ts, [], 0, own, sls, tb, cs, d, hrd', o, stb.perm (perm_of_sum fun f_ => by simp only [List.map_append, List.map_cons, List.map_nil, List.sum_append, List.sum_cons, List.sum_nil, List.append_nil]; omega)⟩
  · rintro e w' ⟨rfl, h⟩
    exact ⟨⟨_, rfl⟩, hfin w' h⟩
end
end Go.Proofs.Ytpdegdnigcnjiaa
