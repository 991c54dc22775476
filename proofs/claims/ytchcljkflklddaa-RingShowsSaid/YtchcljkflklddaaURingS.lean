/- Chapter 10: the law RingShows. -/
import Derived.Test.YtchcljkflklddaaURingT
import Derived.Test.YtchcljkflklddaaURingAl
import Derived.Test.YtchcljkflklddaaGRingShows
namespace Go.Proofs.Ytchcljkflklddaa
open Go
set_option linter.unusedVariables false
set_option linter.unusedSimpArgs false

abbrev showV (s : T_towpathlaw10_Show) : List Value := [Value.int .u8 s.Capacity, Value.int .u8 s.Taken, Value.int .u8 s.Most, slV s.Things]
section
variable {w0 : Base} {w : World}

/-- What follows the loop: all that is left is taken, and is what was shown. -/
theorem shows_k5 {R : Bool → World → Prop} {r : Option Addr} {m : RM} {bs rb : List Chunk} {b2 D : Nat} {s : Slc} {M : Nat} (o : RingO r m bs) (rs : RowC 1 s ((m.q.take M).map iV) rb)
    (st : St ⟨w0.w, (D, .deferred (some [])) :: w0.mp⟩ (bs ++ ((b2, [slV s]) :: rb)) w) (k : ∀ w', Ext w0.w w' → R true w') : F_towpathlaw10_RingShows_k5 R r ((m.q.length : Nat) : Int) b2 D false w := by
  unfold F_towpathlaw10_RingShows_k5
  have hq16 : m.q.length ≤ 65536 := by obtain ⟨_, _, _, _, _, _, _, _, h2, _, h3, _⟩ := o; omega
  have hsl : s.len = (m.q.take M).length := by have := rs.len; rw [List.length_map] at this; omega
  generalize hn : m.q.length = n at *
  refine ⟨fun h => (by cases h), fun _ => ⟨fun i w' => ∃ (p : Nat) (bs' : List Chunk), i = (p : Int) ∧ p ≤ n ∧ RingO r { m with q := m.q.drop p } bs' ∧ St ⟨w0.w, (D, .deferred (some [])) :: w0.mp⟩ (bs' ++ ((b2, [slV s]) :: rb)) w', fun i _ => n - i.toNat, ⟨0, bs, rfl, by omega, by simpa using o, st⟩, ?_⟩⟩
  clear st o
  rintro i w1 ⟨p, bs, rfl, hp, o, st⟩
  unfold F_towpathlaw10_RingShows_L6
  refine ⟨fun hi => ?_, fun hi => ?_⟩
  · have hi := of_decide_eq_true hi
    have hpn : p < n := by omega
    obtain ⟨y, hy⟩ : ∃ y, m.q[p]? = some y := ⟨_, List.getElem?_eq_getElem (by omega)⟩
    have hd := drop_get hy
    have wp : IntKind.i64.wrap ((p : Int) + 1) = ((p + 1 : Nat) : Int) := by rw [i64_in _ (by omega) (by omega)]; omega
    refine sp_ring_Take st o (fun h => ?_) fun x q' h bs' w2 o' st => ⟨fun h => (by cases h), fun _ => ?_⟩
    · have h : m.q.drop p = [] := h
      rw [hd] at h; cases h
    · have h : m.q.drop p = x :: q' := h
      rw [hd] at h
      obtain ⟨rfl, rfl⟩ := List.cons.inj h
      have st2 : St ⟨w0.w, (D, .deferred (some [])) :: w0.mp⟩ ((b2, [slV s]) :: (rb ++ bs')) w2 := st.perm (perm_of_sum fun f_ => by simp only [List.map_append, List.map_cons, List.map_nil, List.sum_append, List.sum_cons, List.sum_nil, List.append_nil]; omega)
      have next : F_towpathlaw10_RingShows_k7 R D (p : Int) (fun i2' w' => (fun i w' => ∃ (p : Nat) (bs' : List Chunk), i = (p : Int) ∧ p ≤ n ∧ RingO r { m with q := m.q.drop p } bs' ∧ St ⟨w0.w, (D, .deferred (some [])) :: w0.mp⟩ (bs' ++ ((b2, [slV s]) :: rb)) w') i2' w' ∧ (fun (i : Int) (_ : World) => n - i.toNat) i2' w' < (fun (i : Int) (_ : World) => n - i.toNat) (p : Int) w1) false w2 := by
        unfold F_towpathlaw10_RingShows_k7
        refine ⟨fun h => (by cases h), fun _ => ?_⟩
        rw [wp]
        exact ⟨⟨p + 1, bs', rfl, by omega, o', st⟩, by show n - (((p + 1 : Nat) : Int)).toNat < n - ((p : Nat) : Int).toNat; omega⟩
      refine ⟨s, st2.cell 0 rfl rfl, fun h => ⟨s, st2.cell 0 rfl rfl, ?_⟩, fun h => next⟩
      have h := of_decide_eq_true h
      obtain ⟨a, z, hz, hcz⟩ := SrcAt.get (rs.src (l := (b2, [slV s]) :: bs') (st.perm (perm_of_sum fun f_ => by simp only [List.map_append, List.map_cons, List.map_nil, List.sum_append, List.sum_cons, List.sum_nil, List.append_nil]; omega))) (i := (p : Int)) (by omega) h
      rw [Int.toNat_natCast, List.getElem?_take] at hz
      split at hz
      · rw [hy] at hz
        obtain rfl := Option.some.inj hz
        refine ⟨a, by omega, h, y, hcz, ?_⟩
        rw [show (y != y) = false from by simp]
        exact next
      · cases hz
  · have hi := of_decide_eq_false hi
    have hpn : p = n := by omega
    subst hpn
    refine sp_ring_Len st o ⟨st.objAt 0 rfl, fun w2 hw2 => ?_⟩
    have stt := St.turn (a := []) st hw2 (o' := .deferred none) (fun _ _ _ h => by cases h)
    have := k w2 stt.ext
    have e : ((({ m with q := m.q.drop p } : RM).q.length : Int) == 0) = true := by
      show (((m.q.drop p).length : Int) == 0) = true
      rw [List.length_drop, hn, Nat.sub_self]; rfl
    rw [e]; exact this
end

theorem law_RingShows (x0 : T_towpathlaw10_Show) (w : World) (h0 : Ok_T_towpathlaw10_Show w x0) :
    C_towpathlaw10_RingShows x0 w (fun b w' => b = true ∧ RowKit.Below w.heap.size w w') := by
  apply S_towpathlaw10_RingShows
  unfold F_towpathlaw10_RingShows
  obtain ⟨hcap, htak, hmost, hth⟩ := h0
  obtain ⟨xs, hxs, hxl, hxc, hxn⟩ := ok_list (f := fun n : Int => [iV n]) (Pr := fun _ => True) hth (fun es ⟨e, h, h'⟩ => ⟨e, h, trivial⟩) (fun _ => rfl) (by decide)
  have hxs : SrcAt w x0.Things 1 (xs.map iV) := by
    have : ∀ l : List Int, (l.flatMap fun n => [iV n]) = l.map iV := fun l => by
      induction l with
      | nil => rfl
      | cons x l ih => rw [List.flatMap_cons, ih]; rfl
    rw [← this]; exact hxs
  obtain ⟨C, hC⟩ := toN hcap.1
  obtain ⟨M, hM⟩ := toN hmost.1
  obtain ⟨T, hT⟩ := toN htak.1
  intro b w1 hb hw w2 hw2
  have st : St ⟨w, []⟩ [(b, showV x0)] w2 := ((St.start w).alloc hb hw).drew hw2
  refine ⟨x0.Capacity, st.cell 0 rfl rfl, x0.Things, st.cell 0 rfl rfl, x0.Taken, st.cell 0 rfl rfl, x0.Most, st.cell 0 rfl rfl, fun b1 w3 hb1 hw3 => ?_⟩
  have st3 : St ⟨w, []⟩ ((b1, [Value.int .u8 0]) :: [(b, showV x0)]) w3 := st.alloc hb1 hw3
  refine ⟨st3.cell 1 rfl rfl, st3.cell 1 rfl rfl, st3.cell 1 rfl rfl, st3.cell 1 rfl rfl, st3.writable 0 rfl (by decide), fun w4 hw4 => ?_⟩
  have st4 : St ⟨w, []⟩ ((b1, [Value.int .u8 x0.Most]) :: [(b, showV x0)]) w4 := st3.put0 hw4
  have st4 : St ⟨w, []⟩ [(b1, [Value.int .u8 x0.Most])] w4 := st4.weak [(b, showV x0)] (perm_of_sum fun f_ => by simp only [List.map_append, List.map_cons, List.map_nil, List.sum_append, List.sum_cons, List.sum_nil, List.append_nil]; omega)
  refine sp_towpathlaw10_alive st4 fun w5 st => ⟨fun _ => sp_towpathlaw10_alive st fun w6 st => ⟨rfl, st.ext⟩, fun hsm => ?_⟩
  have hlen : x0.Things.len ≤ 1000 := by
    have h : decide (((x0.Things.len : Nat) : Int) > 1000) = false := by simpa using hsm
    have := of_decide_eq_false h; omega
  have wc : IntKind.i64.wrap (1 + IntKind.i64.wrap x0.Capacity) = ((1 + C : Nat) : Int) := by rw [hC, i64_in ((C : Nat) : Int) (by omega) (by omega), i64_in _ (by omega) (by omega)]; omega
  rw [wc]
  refine sp_ring_New st (fun hbad => by omega) fun _ _ r bs w7 o st => ⟨fun h => absurd h (by decide), fun _ => ?_⟩
  have hcapN : ((1 + C : Nat) : Int).toNat = 1 + C := Int.toNat_natCast _
  rw [hcapN] at o
  refine ⟨fun t2 i w' => ∃ (p : Nat) (q : List Int) (bs : List Chunk), i = (p : Int) ∧ p ≤ x0.Things.len ∧ RingO r ⟨q, 1 + C, false⟩ bs ∧ St ⟨w, []⟩ (bs ++ [(b1, [Value.int .u8 x0.Most])]) w', fun _ i _ => x0.Things.len - i.toNat, ⟨0, [], bs, rfl, by omega, o, st⟩, ?_⟩
  clear o st
  rintro t2 i w8 ⟨p, q, bs, rfl, hp, o, st⟩
  unfold F_towpathlaw10_RingShows_L0
  refine ⟨fun hi => ?_, fun hi => ?_⟩
  · have hi := of_decide_eq_true hi
    obtain ⟨a, y, hy, hcy⟩ := SrcAt.get (st.ext.src hxs) (i := (p : Int)) (by omega) hi
    have wp : IntKind.i64.wrap ((p : Int) + 1) = ((p + 1 : Nat) : Int) := by rw [i64_in _ (by omega) (by omega)]; omega
    unfold F_towpathlaw10_RingShows_k1
    rw [wp]
    have nx : ∀ (q' : List Int) (bs' : List Chunk) (w' : World), RingO r ⟨q', 1 + C, false⟩ bs' → St ⟨w, []⟩ (bs' ++ [(b1, [Value.int .u8 x0.Most])]) w' → (∃ (p' : Nat) (q : List Int) (bs : List Chunk), ((p + 1 : Nat) : Int) = (p' : Int) ∧ p' ≤ x0.Things.len ∧ RingO r ⟨q, 1 + C, false⟩ bs ∧ St ⟨w, []⟩ (bs ++ [(b1, [Value.int .u8 x0.Most])]) w') ∧ x0.Things.len - (((p + 1 : Nat) : Int)).toNat < x0.Things.len - ((p : Nat) : Int).toNat := fun q' bs' w' o' st' => ⟨⟨p + 1, q', bs', rfl, by omega, o', st'⟩, by omega⟩
    refine ⟨a, by omega, hi, y, hcy, sp_ring_Put st o (fun hroom w10 st => ⟨fun _ => ?_, fun h => (by cases h)⟩) fun hroom bs' w10 o' st => ⟨fun h => (by cases h), fun _ => nx _ bs' w10 o' st⟩⟩
    have hroom : ((1 + C : Nat) : Int) - (q.length : Int) = 0 := by unfold RM.room at hroom; rw [if_neg (by simp)] at hroom; exact hroom
    have hq0 : q.length = 1 + C := by omega
    refine sp_ring_Take st o (fun h => ?_) fun x q' h bs' w11 o' st => ?_
    · have h : q = [] := h
      rw [h] at hq0; simp at hq0; omega
    have h : q = x :: q' := h
    obtain ⟨a2, y2, hy2, hcy2⟩ := SrcAt.get (st.ext.src hxs) (i := (p : Int)) (by omega) hi
    refine ⟨a2, by omega, hi, y2, hcy2, sp_ring_Put st o' (fun hr w12 st => ?_) fun _ bs'' w12 o'' st => ⟨fun h => (by cases h), fun _ => nx _ bs'' w12 o'' st⟩⟩
    have hr : ((1 + C : Nat) : Int) - (q'.length : Int) = 0 := by unfold RM.room at hr; rw [if_neg (by simp)] at hr; exact hr
    rw [h, List.length_cons] at hq0
    omega
  · clear hi
    refine ⟨fun i w' => ∃ (p : Nat) (q : List Int) (bs : List Chunk), i = (p : Int) ∧ p ≤ T ∧ RingO r ⟨q, 1 + C, false⟩ bs ∧ St ⟨w, []⟩ (bs ++ [(b1, [Value.int .u8 x0.Most])]) w', fun i _ => T - i.toNat, ⟨0, q, bs, rfl, by omega, o, st⟩, ?_⟩
    clear o st
    rintro i w13 ⟨p, q, bs, rfl, hp, o, st⟩
    unfold F_towpathlaw10_RingShows_L2
    have wT : IntKind.i64.wrap x0.Taken = (T : Int) := by rw [hT]; exact i64_in _ (by omega) (by omega)
    rw [wT]
    refine ⟨fun hi => ?_, fun hi => ?_⟩
    · have hi := of_decide_eq_true hi
      have wp : IntKind.i64.wrap ((p : Int) + 1) = ((p + 1 : Nat) : Int) := by rw [i64_in _ (by omega) (by omega)]; omega
      rw [wp]
      refine sp_ring_Take st o (fun _ w14 st => ⟨⟨p + 1, q, bs, rfl, by omega, o, st⟩, by show _ - _ < _ - _; omega⟩) fun x q' h bs' w14 o' st => ⟨⟨p + 1, q', bs', rfl, by omega, o', st⟩, by show _ - _ < _ - _; omega⟩
    · clear hi
      have hq16 : q.length ≤ 65536 := by obtain ⟨_, _, _, _, _, _, _, _, h2, _, h3, _⟩ := o; exact Nat.le_trans h3 h2
      refine sp_ring_Len st o fun b2 w16 hb2 hw16 => ?_
      have st16 := st.alloc (cs := [slV ⟨none, 0, 0⟩]) hb2 hw16
      apply S_ring_Ring_int_All
      intro b3 w17 hb3 hw17
      have st17 := st16.alloc (cs := [Value.pointer r]) hb3 hw17
      intro rec D w18 hD hw18 hB
      have hsz : (w17.alloc (.deferred (some []))).heap.size = D + 1 := by rw [hD]; exact World.size_alloc ..
      have st18 := (st17.newObj hD (w' := w17.alloc (.deferred (some []))) rfl (fun _ _ _ h => by cases h)).newObj (b := D + 1) (o := .loop (rec .ready none)) hsz.symm hw18 (fun _ _ _ h => by cases h)
      let Bs : LoopState → Option Code → Base := fun st pe => ⟨w, (D + 1, .loop (rec st pe)) :: (D, .deferred (some [])) :: []⟩
      let Z : LoopState → Option Code → World → Prop := fun sa pe W => ∃ s rb, RowC 1 s ((q.take (M + 1)).map iV) rb ∧ St (Bs sa pe) (rb ++ ((b2, [slV s]) :: (b1, [Value.int .u8 x0.Most]) :: (bs ++ [(b3, [Value.pointer r])]))) W
      let J : List Chunk → Nat → World → Prop := fun d p W => p ≤ M ∧ ∃ s rb, RowC 1 s ((q.take p).map iV) rb ∧ s.len = p ∧ St (Bs .ready none) (d ++ (rb ++ ((b2, [slV s]) :: (b1, [Value.int .u8 x0.Most]) :: (bs ++ [(b3, [Value.pointer r])])))) W
      have wM : IntKind.i64.wrap x0.Most = (M : Int) := by rw [hM]; exact i64_in _ (by omega) (by omega)
      refine CallsV.mk (all := #[yieldV (D + 1), Value.pointer (some ⟨b3, 0, none⟩)]) (by kernel_rfl) rfl ?_
      have oi : RiO (some ⟨q, 1 + C, false⟩) r bs := o
      have go : ∀ sa pe w', Z sa pe w' → ∀ w29, w29 = w'.putObj (D + 1) (.loop (rec .exhausted pe)) → F_towpathlaw10_RingShows_A4 (fun b w' => b = true ∧ RowKit.Below w.heap.size w w') b1 r ((q.length : Nat) : Int) b2 D w29 := by
        rintro sa pe w' ⟨s, rb, rs, stz⟩ w29 hw29
        have st29 := St.turn (a := []) stz hw29 (o' := .loop (rec .exhausted pe)) (fun _ _ _ h => by cases h)
        have st30 : St ⟨w, [(D, .deferred (some []))]⟩ (bs ++ ((b2, [slV s]) :: (b1, [Value.int .u8 x0.Most]) :: rb)) w29 := (St.forget (a := [(D + 1, .loop (rec .exhausted pe))]) (b := [(D, .deferred (some []))]) st29).weak [(b3, [Value.pointer r])] (perm_of_sum fun f_ => by simp only [List.map_append, List.map_cons, List.map_nil, List.sum_append, List.sum_cons, List.sum_nil, List.append_nil]; omega)
        have st31 : St ⟨w, [(D, .deferred (some []))]⟩ ((b2, [slV s]) :: (b1, [Value.int .u8 x0.Most]) :: (rb ++ bs)) w29 := st30.perm (perm_of_sum fun f_ => by simp only [List.map_append, List.map_cons, List.map_nil, List.sum_append, List.sum_cons, List.sum_nil, List.append_nil]; omega)
        have hsl : s.len = (q.take (M + 1)).length := by have := rs.len; rw [List.length_map] at this; omega
        unfold F_towpathlaw10_RingShows_A4
        refine ⟨s, st31.cell 0 rfl rfl, x0.Most, st31.cell 1 rfl rfl, ?_⟩
        have wM1 : IntKind.i64.wrap (IntKind.i64.wrap x0.Most + 1) = ((M + 1 : Nat) : Int) := by rw [wM, i64_in _ (by omega) (by omega)]; omega
        rw [wM1]
        have e : (if ((M + 1 : Nat) : Int) < ((q.length : Nat) : Int) then ((M + 1 : Nat) : Int) else ((q.length : Nat) : Int)) = ((s.len : Nat) : Int) := by
          rw [hsl, List.length_take]
          split <;> omega
        rw [e]
        refine ⟨fun h => by simp at h, fun _ => sp_ring_Len st30 o ?_⟩
        rw [show (((({ q := q, cap := 1 + C, closed := false } : RM).q.length : Nat) : Int) != ((q.length : Nat) : Int)) = false from by simp]
        exact shows_k5 (w0 := ⟨w, []⟩) (m := ⟨q, 1 + C, false⟩) (M := M + 1) o rs (st30.weak [(b1, [Value.int .u8 x0.Most])] (perm_of_sum fun f_ => by simp only [List.map_append, List.map_cons, List.map_nil, List.sum_append, List.sum_cons, List.sum_nil, List.append_nil]; omega)) fun w' e => ⟨rfl, e⟩
      have hfin : ∀ w', (Z .ready none w' ∨ Z .done (some (.exit 4)) w') → ∃ st_ pe_, w'.heap[D + 1]? = some (.loop (rec st_ pe_)) ∧ st_ ≠ .busy ∧ ∀ w29, w29 = w'.putObj (D + 1) (.loop (rec .exhausted pe_)) → ((pe_ = none ∨ pe_ = some (.exit 4)) ∧ F_towpathlaw10_RingShows_A4 (fun b w' => b = true ∧ RowKit.Below w.heap.size w w') b1 r ((q.length : Nat) : Int) b2 D w29) := by
        rintro w' (h | h)
        · obtain ⟨s, rb, rs, stz⟩ := id h
          exact ⟨.ready, none, stz.objAt 0 rfl, by simp, fun w29 hw29 => ⟨.inl rfl, go _ _ _ h _ hw29⟩⟩
        · obtain ⟨s, rb, rs, stz⟩ := id h
          exact ⟨.done, some (.exit 4), stz.objAt 0 rfl, by simp, fun w29 hw29 => ⟨.inr rfl, go _ _ _ h _ hw29⟩⟩
      refine Calls.mono (sp_All_1 (yv := yieldV (D + 1)) (R := fun w' => Z .ready none w' ∨ Z .done (some (.exit 4)) w') (w0 := Bs .ready none) (fr := [(b2, [slV ⟨none, 0, 0⟩]), (b1, [Value.int .u8 x0.Most])]) J oi (st18.perm (perm_of_sum fun f_ => by simp only [List.map_append, List.map_cons, List.map_nil, List.sum_append, List.sum_cons, List.sum_nil, List.append_nil]; omega)) (fun d w' std => ?_) (fun d p w' hJ => ?_) (fun d p x w' hx hJ => ?_) fun d w' hJ => ?_) ?_
      · exact ⟨Nat.zero_le _, ⟨none, 0, 0⟩, [], RowC.nil, rfl, std.perm (perm_of_sum fun f_ => by simp only [List.map_append, List.map_cons, List.map_nil, List.sum_append, List.sum_cons, List.sum_nil, List.append_nil]; omega)⟩
      · obtain ⟨_, s, rb, rs, _, stJ⟩ := hJ
        exact ⟨_, _, stJ⟩
      · obtain ⟨hp, s, rb, rs, hl, stJ⟩ := hJ
        refine CallsY.mono (hB x w' (fun bb W => (bb = true → J d (p + 1) W) ∧ (bb = false → (Z .ready none W ∨ Z .done (some (.exit 4)) W))) (stJ.objAt 0 rfl) fun w26 hw26 => ?_) (fun e W h => h)
        have stb := St.turn (a := []) stJ hw26 (o' := .loop (rec .busy none)) (fun _ _ _ h => by cases h)
        unfold F_towpathlaw10_RingShows_B3
        have stb2 : St (Bs .busy none) ((b2, [slV s]) :: (b1, [Value.int .u8 x0.Most]) :: (rb ++ (d ++ (bs ++ [(b3, [Value.pointer r])])))) w26 := stb.perm (perm_of_sum fun f_ => by simp only [List.map_append, List.map_cons, List.map_nil, List.sum_append, List.sum_cons, List.sum_nil, List.append_nil]; omega)
        refine ⟨s, stb2.cell 0 rfl rfl, fun b4 w21 hb4 hw21 => ?_⟩
        have stb3 := stb2.alloc (cs := [iV x]) hb4 hw21
        have stb3 : St (Bs .busy none) (rb ++ ((b2, [slV s]) :: (b1, [Value.int .u8 x0.Most]) :: (d ++ (bs ++ [(b3, [Value.pointer r])])))) w21 := stb3.weak [(b4, [iV x])] (perm_of_sum fun f_ => by simp only [List.map_append, List.map_cons, List.map_nil, List.sum_append, List.sum_cons, List.sum_nil, List.append_nil]; omega)
        have hx : q[p]? = some x := hx
        have hqp : p < q.length := (List.getElem?_eq_some_iff.1 hx).1
        refine ⟨[iV x], ⟨rfl, .inr ⟨rfl, (Blk.new hb4 hw21).all⟩⟩, rs.append stb3 rfl rfl rfl (by omega) fun s' rb' w22 rs' st22 hl22 => ?_⟩
        have rs' : RowC 1 s' ((q.take (p + 1)).map iV) rb' := by rw [List.take_add_one, hx, List.map_append]; exact rs'
        have st22 : St (Bs .busy none) ((b2, [slV s]) :: (b1, [Value.int .u8 x0.Most]) :: (rb' ++ (d ++ (bs ++ [(b3, [Value.pointer r])])))) w22 := st22.perm (perm_of_sum fun f_ => by simp only [List.map_append, List.map_cons, List.map_nil, List.sum_append, List.sum_cons, List.sum_nil, List.append_nil]; omega)
        refine ⟨st22.writable 0 rfl (by show 0 + 1 ≤ 1; omega), fun w23 hw23 => ?_⟩
        have st23 : St (Bs .busy none) ((b2, [slV s']) :: (b1, [Value.int .u8 x0.Most]) :: (rb' ++ (d ++ (bs ++ [(b3, [Value.pointer r])])))) w23 := st22.put0 hw23
        refine ⟨s', st23.cell 0 rfl rfl, x0.Most, st23.cell 1 rfl rfl, ?_⟩
        rw [wM]
        refine ⟨fun h => ⟨st23.objAt 0 rfl, fun w24 hw24 => ⟨fun h => (by cases h), fun _ => .inr ⟨s', rb', ?_, ?_⟩⟩⟩, fun h => ⟨st23.objAt 0 rfl, fun w25 hw25 => ⟨fun _ => ⟨?_, s', rb', rs', by omega, ?_⟩, fun h => (by cases h)⟩⟩⟩
        · have h := of_decide_eq_true h
          rw [show M + 1 = p + 1 from by omega]; exact rs'
        · have := St.turn (a := []) st23 hw24 (o' := .loop (rec .done (some (.exit 4)))) (fun _ _ _ h => by cases h)
          exact this.weak d (perm_of_sum fun f_ => by simp only [List.map_append, List.map_cons, List.map_nil, List.sum_append, List.sum_cons, List.sum_nil, List.append_nil]; omega)
        · have h := of_decide_eq_false h
          omega
        · have := St.turn (a := []) st23 hw25 (o' := .loop (rec .ready none)) (fun _ _ _ h => by cases h)
          exact this.perm (perm_of_sum fun f_ => by simp only [List.map_append, List.map_cons, List.map_nil, List.sum_append, List.sum_cons, List.sum_nil, List.append_nil]; omega)
      · obtain ⟨hp, s, rb, rs, hl, stJ⟩ := hJ
        have hp : q.length ≤ M := hp
        refine .inl ⟨s, rb, ?_, stJ.drop⟩
        rw [List.take_of_length_le (by omega)]
        have rs : RowC 1 s ((q.take q.length).map iV) rb := rs
        rw [List.take_length] at rs
        exact rs
      · rintro e w' ⟨rfl, h⟩
        exact ⟨⟨_, rfl⟩, hfin w' h⟩
end Go.Proofs.Ytchcljkflklddaa
