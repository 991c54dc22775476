/- Chapter 06: logs in memory: the program's sources. -/
import Derived.Test.YtpedclhflmhakaaULogM
import Derived.Test.YtpedclhflmhakaaGlogfile
namespace Go.Proofs.Ytpedclhflmhakaa
open Go
set_option linter.unusedVariables false

theorem one_w : ∀ ws : List Wr, oneCells (ws.flatMap wV) = true
  | [] => rfl
  | x :: r => by
    have := one_w r
    unfold oneCells at this ⊢
    rw [List.flatMap_cons, List.all_append, this]; rfl
theorem one_i : ∀ xs : List Int, oneCells (xs.map iV) = true
  | [] => rfl
  | x :: r => by
    have := one_i r
    unfold oneCells at this ⊢
    rw [List.map_cons, List.all_cons, this]; rfl
theorem src_none {w : World} {s : Slc} {sz : Nat} {src : List Value} (hs : SrcAt w s sz src) (hp : s.ptr = none) : src = [] := by
  obtain ⟨_, h2 | ⟨h2, _⟩⟩ := hs
  · exact h2
  · rw [hp] at h2; cases h2
theorem nil_w {ws : List Wr} (h : ws.flatMap wV = []) : ws = [] := by
  cases ws with
  | nil => rfl
  | cons x r => rw [List.flatMap_cons] at h; cases h
theorem chkL_at : ∀ {ts : List Tx} {i p : Nat} {t : Tx}, ts[p]? = some t → chkL i (ts.drop p) = if okT t.1 t.2 then (if t.1 = (i : Int) then chkL (i + 1) (ts.drop (p + 1)) else 6) else 1 := by
  intro ts i p t h
  obtain ⟨hl, rfl⟩ := List.getElem?_eq_some_iff.1 h
  rw [List.drop_eq_getElem_cons hl]
  rfl
theorem chkL_len {ts : List Tx} (h : chkL 1 ts = 0) : ts.length ≤ 65536 := by
  by_cases h0 : ts.length = 0
  · omega
  · have hg : ts[ts.length - 1]? = some (ts[ts.length - 1]'(by omega)) := List.getElem?_eq_getElem (by omega)
    obtain ⟨a, b⟩ := chkL_zero h hg
    have := a.2.1
    omega

section
variable {w0 : Base} {w : World} {fr : List Chunk}
theorem sp_CloneW {s : Slc} {ws : List Wr} {R : Slc → World → Prop} (hs : SrcAt w s 3 (ws.flatMap wV)) (hl : s.len * 40 ≤ 140737488351232)
    (k : ∀ s' rb w', RowC 3 s' (ws.flatMap wV) rb → St ⟨w, []⟩ rb w' → s'.len = ws.length → R s' w') : C_slices_Clone_api_Write_api_Write s w R := by
  apply S_slices_Clone_api_Write_api_Write
  unfold F_slices_Clone_api_Write_api_Write
  have hlen := wr_len hs
  refine ⟨fun h => ?_, fun h => fun b w1 hb hw => ?_⟩
  · have hp : s.ptr = none := by simpa using h
    have hv := nil_w (src_none hs hp)
    subst hv
    exact k _ [] _ RowC.nil (St.start w) rfl
  · have st2 := (St.start w).alloc hb hw
    refine ⟨_, st2.ext.src hs, ?_⟩
    refine (RowC.new (b := b) (xs := []) (n := 0) rfl : RowC 3 ⟨some ⟨b, 0, none⟩, 0, 0⟩ [] [(b, [])]).append st2 (by rw [flatMap_len wV_len, hlen]) (one_w ws) rfl (by show (0 + s.len) * 40 ≤ _; omega) fun s' rb w' r st' hl' => ?_
    have st3 : St ⟨w, []⟩ rb w' := by simpa using st'
    exact k _ _ _ (by simpa using r) st3 (by rw [hl']; show 0 + s.len = _; omega)
theorem sp_CloneI {s : Slc} {xs : List Int} {R : Slc → World → Prop} (hs : SrcAt w s 1 (xs.map iV)) (hl : s.len ≤ 1099511627776)
    (k : ∀ s' rb w', RowC 1 s' (xs.map iV) rb → St ⟨w, []⟩ rb w' → s'.len = xs.length → R s' w') : C_slices_Clone_int_int s w R := by
  apply S_slices_Clone_int_int
  unfold F_slices_Clone_int_int
  have hlen := hs.len_eq
  refine ⟨fun h => ?_, fun h => fun b w1 hb hw => ?_⟩
  · have hp : s.ptr = none := by simpa using h
    have hv : xs = [] := List.map_eq_nil_iff.1 (src_none hs hp)
    subst hv
    exact k _ [] _ RowC.nil (St.start w) rfl
  · have st2 := (St.start w).alloc hb hw
    refine ⟨_, st2.ext.src hs, ?_⟩
    refine (RowC.new (b := b) (xs := []) (n := 0) rfl : RowC 1 ⟨some ⟨b, 0, none⟩, 0, 0⟩ [] [(b, [])]).append st2 (by simp [hlen]) (one_i xs) rfl (by show (0 + s.len) * 8 ≤ _; omega) fun s' rb w' r st' hl' => ?_
    have st3 : St ⟨w, []⟩ rb w' := by simpa using st'
    exact k _ _ _ (by simpa using r) st3 (by rw [hl']; show 0 + s.len = _; omega)

theorem sp_copied {t : T_api_Txn} {ws : List Wr} {R : T_api_Txn → World → Prop} (hs : SrcAt w t.Writes 3 (ws.flatMap wV)) (hl : t.Writes.len * 40 ≤ 140737488351232)
    (k : ∀ s rb w', RowC 3 s (ws.flatMap wV) rb → St ⟨w, []⟩ rb w' → s.len = ws.length → R ⟨t.Number, s⟩ w') : C_logfile_copied t w R := by
  apply S_logfile_copied
  unfold F_logfile_copied
  intro b w1 hb hw b1 w2 hb1 hw1 w3 hw3
  have st : St ⟨w, []⟩ ([(b1, txW 0 ⟨none, 0, 0⟩)] ++ [(b, txW t.Number t.Writes)]) w3 := (((St.start w).alloc (cs := txW t.Number t.Writes) hb hw).alloc (cs := txW 0 ⟨none, 0, 0⟩) hb1 hw1).drew hw3
  refine ⟨t.Number, st.cell 1 rfl rfl, t.Writes, st.cell 1 rfl rfl, sp_CloneW (st.ext.src hs) hl fun s rb w4 r st4 hl4 => ?_⟩
  have st := st.join st4
  refine ⟨st.drop.cell 1 rfl rfl, st.drop.writable 0 rfl (by decide), fun w5 hw5 => ⟨⟨t.Number, s⟩, ?_⟩⟩
  have st5 := (St.unmid (a := rb) (c := (b1, txW 0 ⟨none, 0, 0⟩)) (b := [(b, txW t.Number t.Writes)]) st).put0 hw5
  have st5 : St ⟨w, []⟩ ((b1, txW t.Number s) :: (rb ++ [(b, txW t.Number t.Writes)])) w5 := st5
  exact ⟨⟨st5.cell 0 rfl rfl, st5.cell 0 rfl rfl, trivial⟩, k s rb w5 r (st5.drop1.rot.drop) hl4⟩

theorem sp_turns_1 {t : T_api_Txn} {ws : List Wr} {b n : Nat} {R : Int → World → Prop} (st : St w0 ((b, [iV (n : Int)]) :: fr) w) (hs : SrcAt w t.Writes 3 (ws.flatMap wV)) (hl : t.Writes.len ≤ 140737488351232) (hn : n ≤ 140737488351232)
    (k1 : ¬ okT t.Number ws → ∀ w', St w0 ((b, [iV (n : Int)]) :: fr) w' → R 1 w') (k2 : okT t.Number ws → t.Number ≠ (n : Int) → ∀ w', St w0 ((b, [iV (n : Int)]) :: fr) w' → R 6 w') (k3 : okT t.Number ws → t.Number = (n : Int) → ∀ w', St w0 ((b, [iV ((n + 1 : Nat) : Int)]) :: fr) w' → R 0 w') : C_logfile_turns_1 t (some ⟨b, 0, none⟩) w R := by
  apply S_logfile_turns_1
  unfold F_logfile_turns_1
  intro b1 w1 hb1 hw1
  have e1 : Ext w w1 := Ext.new hw1
  have st1 : St w0 ((b1, txW t.Number t.Writes) :: (b, [iV (n : Int)]) :: fr) w1 := st.alloc hb1 hw1
  refine ⟨t, ⟨st1.cell 0 rfl rfl, st1.cell 0 rfl rfl, trivial⟩, sp_Check (e1.src hs) hl fun w2 e2 => ⟨fun h => ?_, fun h => ?_⟩⟩
  · by_cases hok : okT t.Number ws
    · rw [if_pos hok] at h; cases h
    · rw [if_neg hok]; exact k1 hok w2 (st1.keep e2).drop1
  · by_cases hok : okT t.Number ws
    · have st2 := st1.keep e2
      refine ⟨t.Number, st2.cell 0 rfl rfl, rfl, (n : Int), st2.cell 1 rfl rfl, fun h2 => ?_, fun h2 => ⟨rfl, (n : Int), st2.cell 1 rfl rfl, st2.writable 1 rfl (by show 0 + 1 ≤ 1; omega), fun w3 hw3 => ?_⟩⟩
      · have h2 : t.Number ≠ (n : Int) := by simpa using h2
        exact k2 hok h2 w2 st2.drop1
      · have h2 : t.Number = (n : Int) := by simpa using h2
        have st3 := st2.put1 hw3
        have wn : IntKind.i64.wrap ((n : Int) + 1) = ((n + 1 : Nat) : Int) := by rw [i64_in _ (by omega) (by omega)]; omega
        rw [wn] at st3
        exact k3 hok h2 w3 st3.drop1
    · rw [if_neg hok] at h; cases h

theorem sp_lf_Check {sl : Slc} {ts : List Tx} {sls : List Slc} {R : Int → World → Prop} (ha : LAt w sl ts sls) (hl : sl.len ≤ 4398046511104)
    (k : ∀ w', Ext w w' → R (chkL 1 ts) w') : C_logfile_Check sl w R := by
  apply S_logfile_Check
  apply S_logfile_turns
  intro b w1 hb hw
  have st : St ⟨w, []⟩ [(b, [iV 0])] w1 := (St.start w).alloc hb hw
  refine ⟨st.writable 0 rfl (by decide), fun w2 hw2 => ?_⟩
  have st : St ⟨w, []⟩ [(b, [iV 1])] w2 := st.put0 hw2
  have hsl := ha.slen
  refine ⟨fun i w' => ∃ p : Nat, i = (p : Int) ∧ p ≤ sl.len ∧ chkL 1 ts = chkL (p + 1) (ts.drop p) ∧ St ⟨w, []⟩ [(b, [iV ((p + 1 : Nat) : Int)])] w', fun i _ => sl.len - i.toNat, ⟨0, rfl, by omega, by simp, st⟩, ?_⟩
  clear st hw hw2
  rintro i w3 ⟨p, rfl, hp, hc, st⟩
  unfold F_logfile_Check_L0
  refine ⟨fun hi => ?_, fun hi => ?_⟩
  · have hi := of_decide_eq_true hi
    have hpl : p < sl.len := by omega
    obtain ⟨a, t, s, ht, hs, hct, hsr, hcp1, hcp2⟩ := (LAt.ext ha st.ext).get hpl
    refine ⟨a, by omega, hi, ⟨t.1, s⟩, by rw [Int.toNat_natCast]; exact hct, fun b1 w4 hb1 hw4 => ?_⟩
    have st4 : St ⟨w, []⟩ ((b1, txW 0 ⟨none, 0, 0⟩) :: [(b, [iV ((p + 1 : Nat) : Int)])]) w4 := st.alloc hb1 hw4
    refine ⟨st4.writable 0 rfl (by decide), fun w5 hw5 => ?_⟩
    have st5 : St ⟨w, []⟩ ((b1, txW t.1 s) :: [(b, [iV ((p + 1 : Nat) : Int)])]) w5 := st4.put0 hw5
    refine ⟨⟨t.1, s⟩, ⟨st5.cell 0 rfl rfl, st5.cell 0 rfl rfl, trivial⟩, CallsV.mk (all := #[Value.agg #[Value.int .i64 t.1, Value.slice s.ptr s.len s.cap], Value.pointer (some ⟨b, 0, none⟩)]) (by kernel_rfl) rfl ?_⟩
    have wp : IntKind.i64.wrap ((p : Int) + 1) = ((p + 1 : Nat) : Int) := by rw [i64_in _ (by omega) (by omega)]; omega
    have hcd := chkL_at (i := p + 1) ht
    have hsr5 : SrcAt w5 s 3 (t.2.flatMap wV) := st5.ext.src (ha.wr p t s ht hs)
    refine sp_turns_1 (t := ⟨t.1, s⟩) (ws := t.2) st5.drop1 hsr5 (by show s.len ≤ _; omega) (by omega) (fun h1 w' st' => ?_) (fun h1 h2 w' st' => ?_) fun h1 h2 w' st' => ?_
    · refine ⟨fun _ => ?_, fun h => by simp at h⟩
      have := k w' st'.ext
      rw [hc, hcd, if_neg h1] at this; exact this
    · refine ⟨fun _ => ?_, fun h => by simp at h⟩
      have := k w' st'.ext
      rw [hc, hcd, if_pos h1, if_neg h2] at this; exact this
    · refine ⟨fun h => by simp at h, fun _ => ?_⟩
      rw [wp]
      refine ⟨⟨p + 1, rfl, by omega, ?_, st'⟩, by show _ - _ < _ - _; omega⟩
      rw [hc, hcd, if_pos h1, if_pos h2]
  · have hi := of_decide_eq_false hi
    have := k w3 st.ext
    rw [hc, List.drop_of_length_le (by omega)] at this
    exact this
end
end Go.Proofs.Ytpedclhflmhakaa
