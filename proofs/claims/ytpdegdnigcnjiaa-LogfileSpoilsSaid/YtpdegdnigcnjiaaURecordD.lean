/- Chapter 05: a record is read. -/
import Derived.Test.YtpdegdnigcnjiaaURecordP
namespace Go.Proofs.Ytpdegdnigcnjiaa
open Go
set_option linter.unusedVariables false
set_option linter.unusedSimpArgs false

namespace St
variable {w0 : Base} {w : World} {l a : List Chunk} {x y z c : Chunk}
theorem in2 (h : St w0 (c :: (a ++ (x :: y :: l))) w) : St w0 (a ++ (x :: y :: c :: l)) w := by
  have := List.perm_middle (a := c) (l₁ := a ++ [x, y]) (l₂ := l)
  rw [List.append_assoc, List.append_assoc] at this
  exact h.perm this.symm
theorem out2 (h : St w0 (a ++ (x :: y :: c :: l)) w) : St w0 (c :: (a ++ (x :: y :: l))) w := by
  have := List.perm_middle (a := c) (l₁ := a ++ [x, y]) (l₂ := l)
  rw [List.append_assoc, List.append_assoc] at this
  exact h.perm this
theorem in3 (h : St w0 (c :: (a ++ (x :: y :: z :: l))) w) : St w0 (a ++ (x :: y :: z :: c :: l)) w := by
  have := List.perm_middle (a := c) (l₁ := a ++ [x, y, z]) (l₂ := l)
  rw [List.append_assoc, List.append_assoc] at this
  exact h.perm this.symm
theorem out3 (h : St w0 (a ++ (x :: y :: z :: c :: l)) w) : St w0 (c :: (a ++ (x :: y :: z :: l))) w := by
  have := List.perm_middle (a := c) (l₁ := a ++ [x, y, z]) (l₂ := l)
  rw [List.append_assoc, List.append_assoc] at this
  exact h.perm this
end St

section
variable {w0 : Base} {w : World} {fr bsR : List Chunk} {r : Option Addr} {s : RS} {b2 b3 : Nat} {left : Nat}
/-- The question behind each read: did it take anything, and is what it took wrong? -/
theorem sp_Decode_1 {is : Bool} {e : Int} {R : Int → World → Prop} (st : St w0 (bsR ++ ((b3, [iV (left : Int)]) :: (b2, [Value.pointer r]) :: fr)) w) (o : RdO r s bsR)
    (kE : s.rest.length = left → ∀ w', St w0 (bsR ++ ((b3, [iV (left : Int)]) :: (b2, [Value.pointer r]) :: fr)) w' → R s.end_ w')
    (kO : s.rest.length ≠ left → ∀ w', St w0 (bsR ++ ((b3, [iV (s.rest.length : Int)]) :: (b2, [Value.pointer r]) :: fr)) w' → R (if is = true then e else 0) w') : C_record_Decode_1 is e (some ⟨b2, 0, none⟩) (some ⟨b3, 0, none⟩) w R := by
  apply S_record_Decode_1
  intro w1 e1
  have st := st.drew e1
  have c2 : w1.cell? ⟨b2, 0, none⟩ = some (Value.pointer r) := st.unmid.drop1.unmid.cell 0 rfl rfl
  have c3 : w1.cell? ⟨b3, 0, none⟩ = some (iV (left : Int)) := st.unmid.cell 0 rfl rfl
  refine ⟨rfl, r, c2, rfl, (left : Int), c3, sp_Reader_Left st o ⟨c3, fun h => ⟨rfl, r, c2, sp_Reader_End st o ?_⟩, fun h => ⟨rfl, r, c2, sp_Reader_Left st o ⟨rfl, st.unmid.writable 0 rfl (by simp [poff]), fun w5 hw5 => ?_⟩⟩⟩⟩
  · have h0 : (s.rest.length : Int) = (left : Int) := by simpa using h
    have h : s.rest.length = left := by omega
    exact kE h w1 st
  · have h0 : (s.rest.length : Int) ≠ (left : Int) := by simpa using h
    have h : s.rest.length ≠ left := by omega
    have st5 : St w0 (bsR ++ ((b3, [iV (s.rest.length : Int)]) :: (b2, [Value.pointer r]) :: fr)) w5 := (st.unmid.put0 (o := 0) hw5).mid
    have k := kO h w5 st5
    refine ⟨fun hi => ?_, fun hi => ?_⟩
    · rw [if_pos hi] at k; exact k
    · rw [if_neg (by rw [hi]; decide)] at k; exact k
end

abbrev nilT : List Value := txV 0 ⟨none, 0, 0⟩

set_option maxHeartbeats 2000000 in
theorem sp_Decode {w0 : Base} {w : World} {fr : List Chunk} {b_ : Slc} {xs : List UInt8} {R : T_api_Txn → Int → World → Prop} (st : St w0 fr w) (hs : SrcAt w b_ 1 (xs.map bV)) (hl : b_.len ≤ 140737488351232)
    (kE : ∀ e, decT xs = .inr e → e ≠ 0 → ∀ w', St w0 fr w' → R ⟨0, ⟨none, 0, 0⟩⟩ e w')
    (kO : ∀ n ws, decT xs = .inl (n, ws) → ∀ s rb w', RowC 3 s (ws.flatMap wV) rb → St w0 (rb ++ fr) w' → R ⟨(n : Int), s⟩ 0 w') : C_record_Decode b_ w R := by
  apply S_record_Decode
  have hxl := hs.len_eq
  intro b1 w1 hb1 hw1
  have st1 : St w0 ((b1, nilT) :: fr) w1 := st.alloc hb1 hw1
  refine sp_NewReader st1 ((Ext.new hw1).src hs) hl fun r bsR w2 oR st b2 w3 hb2 hw3 => ?_
  have st := st.alloc hb2 hw3
  refine ⟨st.writable 0 rfl (by simp), fun w4 hw4 b3 w5 hb3 hw5 => ?_⟩
  have st : St w0 (bsR ++ ((b2, [Value.pointer r]) :: (b1, nilT) :: fr)) w4 := (st.put0 hw4).mid
  have st := st.alloc hb3 hw5
  refine ⟨st.writable 0 rfl (by simp), fun w6 hw6 => ?_⟩
  rw [hxl] at hw6
  have st : St w0 (bsR ++ ((b3, [iV (xs.length : Int)]) :: (b2, [Value.pointer r]) :: (b1, nilT) :: fr)) w6 := (st.put0 hw6).mid
  have c2 : ∀ {bsR : List Chunk} {left : Int} {l : List Chunk} {w' : World}, St w0 (bsR ++ ((b3, [iV left]) :: (b2, [Value.pointer r]) :: l)) w' → w'.cell? ⟨b2, 0, none⟩ = some (Value.pointer r) := fun st => st.unmid.drop1.unmid.cell 0 rfl rfl
  -- an answer that is an error
  have fail : ∀ {e : Int} {l : List Chunk} {w' : World}, decT xs = .inr e → e ≠ 0 → St w0 ((b1, nilT) :: (l ++ fr)) w' →
      (Writable w' b1 0 2 ∧ (∀ w9, w9 = World.puts b1 0 [Value.int .i64 0, Value.slice none 0 0] w' → (∃ (res : T_api_Txn), CellsAt w9 b1 0 [Value.int .i64 res.Number, Value.slice res.Writes.ptr res.Writes.len res.Writes.cap] ∧ (R res e w9)))) := by
    intro e l w' hd he st
    refine ⟨st.writable 0 rfl (by simp), fun w9 hw9 => ⟨⟨0, ⟨none, 0, 0⟩⟩, ?_, ?_⟩⟩
    · exact ((st.put0 hw9 : St w0 ((b1, nilT) :: (l ++ fr)) w9).get 0 rfl).all
    · exact kE e hd he w9 (st.put0 hw9).drop1.drop
  have failR : ∀ {e : Int} {bsR l : List Chunk} {left : Int} {w' : World}, decT xs = .inr e → e ≠ 0 → St w0 (bsR ++ ((b3, [iV left]) :: (b2, [Value.pointer r]) :: (b1, nilT) :: fr)) w' →
      (Writable w' b1 0 2 ∧ (∀ w9, w9 = World.puts b1 0 [Value.int .i64 0, Value.slice none 0 0] w' → (∃ (res : T_api_Txn), CellsAt w9 b1 0 [Value.int .i64 res.Number, Value.slice res.Writes.ptr res.Writes.len res.Writes.cap] ∧ (R res e w9)))) := by
    intro e bsR l left w' hd he st
    have st := st.out2
    refine fail (l := bsR ++ [(b3, [iV left]), (b2, [Value.pointer r])]) hd he ?_
    rw [List.append_assoc]; exact st
  refine ⟨r, c2 st, sp_Reader_Var st oR fun bsR w7 oR st => ?_⟩
  have hdT : decT xs = _ := rfl
  conv at hdT => rhs; unfold decT
  rcases varR_cases xs with ⟨c, hc, he⟩ | ⟨n, r1, he, hxs, hn⟩
  · rw [he] at oR hdT ⊢
    simp only at hdT
    rw [if_pos hc] at hdT
    refine sp_Decode_1 (s := ⟨xs, c⟩) st oR (fun _ w8 st => ?_) (fun h => absurd rfl h)
    have he2 : (⟨xs, c⟩ : RS).end_ = c := by unfold RS.end_; rw [if_neg (fun hh => hc hh.1)]
    rw [he2]
    exact ⟨fun _ => failR (l := []) hdT hc st, fun h => absurd (by simpa using h) hc⟩
  rw [he] at oR hdT ⊢
  simp only at hdT
  rw [if_neg (by simp)] at hdT
  have hlt1 : r1.length < xs.length := by
    have := List.length_pos_iff.2 (varF_ne n)
    rw [hxs, List.length_append]; omega
  refine sp_Decode_1 (s := ⟨r1, 0⟩) st oR (fun h => absurd (show r1.length = xs.length from h) (by omega)) (fun _ w8 st => ?_)
  have hcond : (decide ((n : Int) < 1) || decide ((n : Int) > 65536)) = decide (n < 1 ∨ n > 65536) := by
    by_cases h : n < 1 ∨ n > 65536
    · rw [decide_eq_true h]; simp only [Bool.or_eq_true, decide_eq_true_eq]; omega
    · rw [decide_eq_false h]; simp only [Bool.or_eq_false_iff, decide_eq_false_iff_not]; omega
  simp only [hcond, decide_eq_true_eq]
  by_cases hnb : n < 1 ∨ n > 65536
  · rw [if_pos hnb] at hdT ⊢
    exact ⟨fun _ => failR (l := []) hdT (by decide) st, fun h => by simp at h⟩
  rw [if_neg hnb] at hdT ⊢
  refine ⟨fun h => by simp at h, fun _ => ⟨r, c2 st, sp_Reader_Var st oR fun bsR w10 oR st => ?_⟩⟩
  unfold decT1 at hdT
  rcases varR_cases r1 with ⟨c, hc, he⟩ | ⟨k, r2, he, hr1, hk⟩
  · rw [he] at oR hdT ⊢
    simp only at hdT
    rw [if_pos hc] at hdT
    refine sp_Decode_1 (s := ⟨r1, c⟩) st oR (fun _ w8 st => ?_) (fun h => absurd rfl h)
    have he2 : (⟨r1, c⟩ : RS).end_ = c := by unfold RS.end_; rw [if_neg (fun hh => hc hh.1)]
    rw [he2]
    exact ⟨fun _ => failR (l := []) hdT hc st, fun h => absurd (by simpa using h) hc⟩
  rw [he] at oR hdT ⊢
  simp only at hdT
  rw [if_neg (by simp)] at hdT
  have hlt2 : r2.length < r1.length := by
    have := List.length_pos_iff.2 (varF_ne k)
    rw [hr1, List.length_append]; omega
  refine sp_Decode_1 (s := ⟨r2, 0⟩) st oR (fun h => absurd (show r2.length = r1.length from h) (by omega)) (fun _ w11 st => ?_)
  have hcond2 : ((k : Int) > 32) ↔ k > 32 := by omega
  simp only [decide_eq_true_eq, hcond2]
  by_cases hkb : k > 32
  · rw [if_pos hkb] at hdT ⊢
    exact ⟨fun _ => failR (l := []) hdT (by decide) st, fun h => by simp at h⟩
  rw [if_neg hkb] at hdT ⊢
  refine ⟨fun h => by simp at h, fun _ b4 w13 hb4 hw13 => ?_⟩
  have st := st.alloc hb4 hw13
  refine ⟨st.writable 0 rfl (by simp), fun w14 hw14 => ?_⟩
  have wn : IntKind.i64.wrap (n : Int) = (n : Int) := i64_in _ (by omega) (by omega)
  rw [wn] at hw14
  have st : St w0 (bsR ++ ((b3, [iV (r2.length : Int)]) :: (b2, [Value.pointer r]) :: (b4, txV (n : Int) ⟨none, 0, 0⟩) :: ([] ++ ((b1, nilT) :: fr)))) w14 := St.in2 (st.put0 hw14 : St w0 ((b4, txV (n : Int) ⟨none, 0, 0⟩) :: _) w14)
  refine ⟨fun t w' => ∃ (j : Nat) (ys : List Wr) (rest : List UInt8) (sl : Slc) (rb bsR : List Chunk), t = (j : Int) ∧ j ≤ k ∧ ys.length = j ∧ rest.length ≤ xs.length ∧ decWs k r2 = (match decWs (k - j) rest with | .inr c => .inr c | .inl (zs, r') => .inl (ys ++ zs, r')) ∧
      RdO r ⟨rest, 0⟩ bsR ∧ RowC 3 sl (ys.flatMap wV) rb ∧ St w0 (bsR ++ ((b3, [iV (rest.length : Int)]) :: (b2, [Value.pointer r]) :: (b4, txV (n : Int) sl) :: (rb ++ ((b1, nilT) :: fr)))) w', fun t _ => k - t.toNat,
    ⟨0, [], r2, ⟨none, 0, 0⟩, [], bsR, rfl, by omega, rfl, by omega, ?_, oR, RowC.nil, st⟩, ?_⟩
  · rw [Nat.sub_zero]
    cases decWs k r2 with
    | inr c => rfl
    | inl p => rfl
  rintro t w15 ⟨j, ys, rest, sl, rb, bsR, rfl, hj, hyl, hrl, hdw, oR, ro, st⟩
  -- an error out of the loop
  have failL : ∀ {e : Int} {p : List Chunk} {w' : World}, decWs (k - j) rest = .inr e → e ≠ 0 → St w0 (p ++ ((b1, nilT) :: fr)) w' →
      (Writable w' b1 0 2 ∧ (∀ w9, w9 = World.puts b1 0 [Value.int .i64 0, Value.slice none 0 0] w' → (∃ (res : T_api_Txn), CellsAt w9 b1 0 [Value.int .i64 res.Number, Value.slice res.Writes.ptr res.Writes.len res.Writes.cap] ∧ (R res e w9)))) := by
    intro e p w' hd he st
    refine fail (l := p) ?_ he st.unmid
    rw [hd] at hdw
    rw [hdT, hdw]
  have asm5 : ∀ {bsR : List Chunk} {left : Int} {b5 : Nat} {c5 : List Value} {sl : Slc} {rb : List Chunk} {w' : World}, St w0 (bsR ++ ((b3, [iV left]) :: (b2, [Value.pointer r]) :: (b5, c5) :: (b4, txV (n : Int) sl) :: (rb ++ ((b1, nilT) :: fr)))) w' →
      St w0 ((bsR ++ ((b3, [iV left]) :: (b2, [Value.pointer r]) :: (b5, c5) :: (b4, txV (n : Int) sl) :: rb)) ++ ((b1, nilT) :: fr)) w' := fun st => by
    rw [List.append_assoc]; exact st
  unfold F_record_Decode_L0
  refine ⟨fun hi => ?_, fun hi => ?_⟩
  · have hi : j < k := by have := of_decide_eq_true hi; omega
    obtain ⟨m, hm⟩ : ∃ m, k - j = m + 1 := ⟨k - j - 1, by omega⟩
    intro b5 w16 hb5 hw16
    have st : St w0 (bsR ++ ((b3, [iV (rest.length : Int)]) :: (b2, [Value.pointer r]) :: (b5, wV ⟨ByteArray.empty, ByteArray.empty, false⟩) :: (b4, txV (n : Int) sl) :: (rb ++ ((b1, nilT) :: fr)))) w16 := (st.alloc hb5 hw16).in2
    refine ⟨r, c2 st, sp_Reader_Text st oR (by omega) (by omega) (by show rest.length ≤ _; omega) fun bsR w17 oR st => ?_⟩
    have wr5 : ∀ {o : Nat} {bsR : List Chunk} {left : Int} {c5 : List Value} {l : List Chunk} {w' : World}, c5.length = 3 → o < 3 → St w0 (bsR ++ ((b3, [iV left]) :: (b2, [Value.pointer r]) :: (b5, c5) :: l)) w' →
        Writable w' b5 o 1 ∧ ∀ {v : Value} {w'' : World}, w'' = World.puts b5 o [v] w' → St w0 (bsR ++ ((b3, [iV left]) :: (b2, [Value.pointer r]) :: (b5, putL o [v] c5) :: l)) w'' := fun hc ho st =>
      ⟨st.out2.writable 0 rfl (by omega), fun hw => (st.out2.put0 hw).in2⟩
    have c5 : ∀ {o : Nat} {v : Value} {bsR : List Chunk} {left : Int} {cs : List Value} {l : List Chunk} {w' : World}, cs[o]? = some v → St w0 (bsR ++ ((b3, [iV left]) :: (b2, [Value.pointer r]) :: (b5, cs) :: l)) w' → w'.cell? ⟨b5, o, none⟩ = some v := fun hv st => st.out2.cell 0 rfl hv
    have hdW : decWs (k - j) rest = (match decW rest with | .inr c => .inr c | .inl (x, r) => match decWs m r with | .inr c => .inr c | .inl (xs, r') => .inl (x :: xs, r')) := by rw [hm]; rfl
    have hbad : ∀ {e : Int}, decW rest = .inr e → decWs (k - j) rest = .inr e := fun h => by rw [hdW, h]
    -- one write more
    have k1 : ∀ {x : Wr} {rest' : List UInt8} {bsR : List Chunk} {w' : World}, decW rest = .inl (x, rest') → RdO r ⟨rest', 0⟩ bsR → rest'.length ≤ rest.length →
        St w0 (bsR ++ ((b3, [iV (rest'.length : Int)]) :: (b2, [Value.pointer r]) :: (b5, wV x) :: (b4, txV (n : Int) sl) :: (rb ++ ((b1, nilT) :: fr)))) w' →
        F_record_Decode_k1 b4 (j : Int) (fun t' w' => (∃ (j : Nat) (ys : List Wr) (rest : List UInt8) (sl : Slc) (rb bsR : List Chunk), t' = (j : Int) ∧ j ≤ k ∧ ys.length = j ∧ rest.length ≤ xs.length ∧ decWs k r2 = (match decWs (k - j) rest with | .inr c => .inr c | .inl (zs, r') => .inl (ys ++ zs, r')) ∧
      RdO r ⟨rest, 0⟩ bsR ∧ RowC 3 sl (ys.flatMap wV) rb ∧ St w0 (bsR ++ ((b3, [iV (rest.length : Int)]) :: (b2, [Value.pointer r]) :: (b4, txV (n : Int) sl) :: (rb ++ ((b1, nilT) :: fr)))) w') ∧ k - t'.toNat < k - ((j : Nat) : Int).toNat) b5 w' := by
      intro x rest' bsR w' hd oR hlr st
      unfold F_record_Decode_k1
      refine ⟨sl, st.out3.cell 0 rfl rfl, x, (st.out2.get 0 rfl).all, fun b6 w25 hb6 hw6 => ⟨wV x, ⟨rfl, .inr ⟨rfl, (Blk.new hb6 hw6).all⟩⟩, ?_⟩⟩
      have st := st.keep (Ext.new hw6)
      have e1 : ∀ rb : List Chunk, bsR ++ ((b3, [iV (rest'.length : Int)]) :: (b2, [Value.pointer r]) :: (b5, wV x) :: (b4, txV (n : Int) sl) :: (rb ++ ((b1, nilT) :: fr))) =
          (bsR ++ [(b3, [iV (rest'.length : Int)]), (b2, [Value.pointer r]), (b5, wV x), (b4, txV (n : Int) sl)]) ++ (rb ++ ((b1, nilT) :: fr)) := fun rb => by rw [List.append_assoc]; rfl
      rw [e1] at st
      have hll := ro.len
      have hf : ∀ x : Wr, (wV x).length = 3 := fun _ => rfl
      rw [flatMap_len hf] at hll
      have hll2 : sl.len = j := by have := Nat.eq_of_mul_eq_mul_right (by decide) hll; omega
      refine ro.append st.swap rfl rfl rfl (by omega) fun s' rb' w26 ro' st hl' => ?_
      have st := st.swap
      rw [← e1] at st
      refine ⟨st.out3.writable 0 rfl (by simp), fun w27 hw27 => ?_⟩
      have st := (st.out3.put0 hw27).in3
      have st : St w0 (bsR ++ ((b3, [iV (rest'.length : Int)]) :: (b2, [Value.pointer r]) :: (b4, txV (n : Int) s') :: (rb' ++ ((b1, nilT) :: fr)))) w27 := st.out2.drop1
      have wj : IntKind.u64.wrap ((j : Int) + 1) = ((j + 1 : Nat) : Int) := by rw [u64_in _ (by omega) (by omega)]; omega
      rw [wj]
      refine ⟨⟨j + 1, ys ++ [x], rest', s', rb', bsR, rfl, by omega, by simp [hyl], by omega, ?_, oR, by simpa using ro', st⟩, by simp only [Int.toNat_natCast]; omega⟩
      rw [hdw, hdW, hd, show k - (j + 1) = m from by omega]
      simp only
      cases decWs m rest' with
      | inr c => rfl
      | inl p => simp
    obtain ⟨h5a, h5b⟩ := wr5 (o := 0) rfl (by decide) st
    refine ⟨h5a, fun w18 hw18 => ?_⟩
    have st := h5b hw18
    refine ⟨_, c5 rfl st, ?_⟩
    have hdw1 : decW rest = _ := rfl
    conv at hdw1 => rhs; unfold decW
    rcases textR_cases (show (0 : Int) ≤ 64 by decide) rest with ⟨c, hc, he⟩ | ⟨key, rest1, he, hr1', hkl⟩
    · rw [he] at oR hdw1 st ⊢
      simp only at hdw1
      rw [if_pos hc] at hdw1
      refine sp_Decode_1 (s := ⟨rest, c⟩) st oR (fun _ w8 st => ?_) (fun h => absurd rfl h)
      have he2 : (⟨rest, c⟩ : RS).end_ = c := by unfold RS.end_; rw [if_neg (fun hh => hc hh.1)]
      rw [he2]
      exact ⟨fun _ => failL (hbad hdw1) hc (asm5 st), fun h => absurd (by simpa using h) hc⟩
    rw [he] at oR hdw1 st ⊢
    simp only at hdw1
    rw [if_neg (by simp)] at hdw1
    have hlt3 : rest1.length < rest.length := by
      have := List.length_pos_iff.2 (varF_ne key.length)
      rw [hr1', List.length_append, List.length_append]; omega
    refine sp_Decode_1 (s := ⟨rest1, 0⟩) st oR (fun h => absurd (show rest1.length = rest.length from h) (by omega)) (fun _ w19 st => ?_)
    rw [size_empty, mkS_size]
    simp only [decide_eq_true_eq]
    by_cases hk0 : key.length = 0
    · rw [if_pos (List.eq_nil_of_length_eq_zero hk0)] at hdw1
      rw [if_pos hk0]
      exact ⟨fun _ => failL (hbad hdw1) (by decide) (asm5 st), fun h => by simp at h⟩
    rw [if_neg (fun h => hk0 (by rw [h]; rfl))] at hdw1
    rw [if_neg hk0]
    refine ⟨fun h => by simp at h, fun _ => ⟨r, c2 st, sp_Reader_Fixed st oR fun bsR w21 oR st => ?_⟩⟩
    unfold decW1 at hdw1
    rcases fixR_cases rest1 with ⟨_, he⟩ | ⟨f, rest2, he, hr2', hf⟩
    · rw [he] at oR hdw1 ⊢
      simp only at hdw1
      rw [if_pos (by decide)] at hdw1
      refine sp_Decode_1 (s := ⟨rest1, 5⟩) st oR (fun _ w8 st => ?_) (fun h => absurd rfl h)
      have he2 : (⟨rest1, 5⟩ : RS).end_ = 5 := by unfold RS.end_; rw [if_neg (fun hh => by cases hh.1)]
      rw [he2]
      exact ⟨fun _ => failL (hbad hdw1) (by decide) (asm5 st), fun h => by simp at h⟩
    rw [he] at oR hdw1 ⊢
    simp only at hdw1
    rw [if_neg (by simp)] at hdw1
    have hlt4 : rest2.length < rest1.length := by
      have := fixB_len 1 f
      rw [hr2', List.length_append]; omega
    refine sp_Decode_1 (s := ⟨rest2, 0⟩) st oR (fun h => absurd (show rest2.length = rest1.length from h) (by omega)) (fun _ w22 st => ?_)
    have hcf : ((f : Int) > 1) ↔ f > 1 := by omega
    simp only [decide_eq_true_eq, hcf]
    by_cases hf1 : f > 1
    · rw [if_pos hf1] at hdw1 ⊢
      exact ⟨fun _ => failL (hbad hdw1) (by decide) (asm5 st), fun h => by simp at h⟩
    rw [if_neg hf1] at hdw1 ⊢
    refine ⟨fun h => by simp at h, fun _ => ?_⟩
    obtain ⟨h5a, h5b⟩ := wr5 (o := 2) rfl (by decide) st
    refine ⟨h5a, fun w28 hw28 => ?_⟩
    have st := h5b hw28
    refine ⟨_, c5 rfl st, fun hd => ?_, fun hd => ?_⟩
    · have hf0 : ¬ f = 1 := fun h => by subst h; simp at hd
      rw [if_neg hf0] at hdw1
      have hf0' : (f : Int) ≠ 1 := by omega
      have e0 : ((f : Int) == 1) = false := by simpa using hf0'
      rw [e0] at st
      refine ⟨r, c2 st, sp_Reader_Text st oR (by omega) (by omega) (by show rest2.length ≤ _; omega) fun bsR w29 oR st => ?_⟩
      obtain ⟨h5a, h5b⟩ := wr5 (o := 1) rfl (by decide) st
      refine ⟨h5a, fun w30 hw30 => ?_⟩
      have st := h5b hw30
      unfold decW2 at hdw1
      rcases textR_cases (show (0 : Int) ≤ 1024 by decide) rest2 with ⟨c, hc, he⟩ | ⟨v, rest3, he, hr3', hvl⟩
      · rw [he] at oR hdw1 st
        simp only at hdw1
        rw [if_pos hc] at hdw1
        refine sp_Decode_1 (s := ⟨rest2, c⟩) st oR (fun _ w8 st => ?_) (fun h => absurd rfl h)
        have he2 : (⟨rest2, c⟩ : RS).end_ = c := by unfold RS.end_; rw [if_neg (fun hh => hc hh.1)]
        rw [he2]
        exact ⟨fun _ => failL (hbad hdw1) hc (asm5 st), fun h => absurd (by simpa using h) hc⟩
      rw [he] at oR hdw1 st
      simp only at hdw1
      rw [if_neg (by simp)] at hdw1
      have hlt5 : rest3.length < rest2.length := by
        have := List.length_pos_iff.2 (varF_ne v.length)
        rw [hr3', List.length_append, List.length_append]; omega
      refine sp_Decode_1 (s := ⟨rest3, 0⟩) st oR (fun h => absurd (show rest3.length = rest2.length from h) (by omega)) (fun _ w31 st => ?_)
      exact ⟨fun h => by simp at h, fun _ => k1 hdw1 oR (by omega) st⟩
    · have hf0 : f = 1 := by
        have : (f : Int) = 1 := by simpa using hd
        omega
      rw [if_pos hf0] at hdw1
      have e0 : ((f : Int) == 1) = true := by rw [hf0]; rfl
      rw [e0] at st
      exact k1 hdw1 oR (by omega) st
  · have hi : j = k := by have := of_decide_eq_false hi; omega
    rw [show k - j = 0 from by omega, decWs] at hdw
    simp only [List.append_nil] at hdw
    rw [hdw] at hdT
    simp only at hdT
    refine ⟨r, c2 st, sp_Reader_End st oR ?_⟩
    by_cases hr : rest = []
    · have he2 : (⟨rest, 0⟩ : RS).end_ = 0 := by unfold RS.end_; rw [if_neg (fun hh => hh.2 hr)]
      rw [if_neg (fun h => h hr)] at hdT
      rw [he2]
      refine ⟨fun h => by simp at h, fun _ => ⟨⟨(n : Int), sl⟩, (st.out2.get 0 rfl).all, ?_⟩⟩
      have st : St w0 ((bsR ++ ((b3, [iV (rest.length : Int)]) :: (b2, [Value.pointer r]) :: (b4, txV (n : Int) sl) :: rb)) ++ ((b1, nilT) :: fr)) w15 := by rw [List.append_assoc]; exact st
      refine ⟨st.unmid.writable 0 rfl (by simp), fun w35 hw35 => ⟨⟨(n : Int), sl⟩, ?_, ?_⟩⟩
      · exact ((st.unmid.put0 hw35).get 0 rfl).all
      · have st := (st.unmid.put0 hw35).drop1
        have st : St w0 ((bsR ++ [(b3, [iV (rest.length : Int)]), (b2, [Value.pointer r]), (b4, txV (n : Int) sl)]) ++ (rb ++ fr)) w35 := by
          have e : (bsR ++ ((b3, [iV (rest.length : Int)]) :: (b2, [Value.pointer r]) :: (b4, txV (n : Int) sl) :: rb)) ++ fr = (bsR ++ [(b3, [iV (rest.length : Int)]), (b2, [Value.pointer r]), (b4, txV (n : Int) sl)]) ++ (rb ++ fr) := by simp
          rw [← e]; exact st
        exact kO n ys hdT sl rb w35 ro st.drop
    · have he2 : (⟨rest, 0⟩ : RS).end_ = 4 := by unfold RS.end_; rw [if_pos ⟨rfl, hr⟩]
      rw [if_pos hr] at hdT
      rw [he2]
      refine ⟨fun _ => fail (l := bsR ++ ((b3, [iV (rest.length : Int)]) :: (b2, [Value.pointer r]) :: (b4, txV (n : Int) sl) :: rb)) hdT (by decide) ?_, fun h => by simp at h⟩
      have st : St w0 ((bsR ++ ((b3, [iV (rest.length : Int)]) :: (b2, [Value.pointer r]) :: (b4, txV (n : Int) sl) :: rb)) ++ ((b1, nilT) :: fr)) w15 := by rw [List.append_assoc]; exact st
      exact st.unmid

end Go.Proofs.Ytpdegdnigcnjiaa
