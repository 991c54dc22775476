/- Chapter 18: law: the parts of a checkpoint are the whole. -/
import Derived.Test.YtpdegdnigcnjiaaM1
import Derived.Test.YtpdegdnigcnjiaaGtowpathlaw18
import Derived.Test.YtpdegdnigcnjiaaGtowpathlaw01
import Derived.Test.YtpdegdnigcnjiaaLib
import Derived.Test.YtpdegdnigcnjiaaGDumpParts
namespace Go.Proofs.Ytpdegdnigcnjiaa
open Go
set_option linter.unusedVariables false
set_option linter.unusedSimpArgs false

def SavO (s : T_api_Saved) (m : SvM) (eb hc : List Chunk) : Prop := s.Mark = m.mark ∧ RowC 1 s.Beyond (m.bey.map iV) eb ∧ HdsO s.Held m.held hc
theorem SavO.zero : SavO ⟨0, ⟨none, 0, 0⟩, ⟨none, 0, 0⟩⟩ zSv [] [] := ⟨rfl, RowC.nil, HdsO.nil⟩
/-- Keys with their versions of one's own can be read. -/
theorem HdsO.at_ {sl : Slc} {hs : List Hd} {hc : List Chunk} (h : HdsO sl hs hc) (hb : ∀ x ∈ hs, x.2.length ≤ 1048576) : ∃ os : List HO, os.map hoD = hs ∧ (∀ o ∈ os, o.2.2.len ≤ 1048576) ∧ ∀ {w0 : Base} {w : World} {fr : List Chunk}, St w0 (hc ++ fr) w → HdAt w sl os := by
  obtain ⟨vsl, tb, pb, rfl, r, ps⟩ := h
  have hl := ps.len
  obtain ⟨os, hos⟩ : ∃ os : List HO, os = (hs.zip vsl).map fun p => (p.1.1, p.1.2, p.2) := ⟨_, rfl⟩
  have hlen : ∀ o ∈ os, o.2.2.len ≤ 1048576 ∧ ∃ a c b, pb = a ++ (c ++ b) ∧ RowC 3 o.2.2 (o.2.1.flatMap verV) c := by
    intro o ho
    rw [hos] at ho
    obtain ⟨p, hp, rfl⟩ := List.mem_map.1 ho
    obtain ⟨i, hi⟩ := List.mem_iff_getElem?.1 hp
    obtain ⟨h1, h2⟩ := List.getElem?_zip_eq_some.1 hi
    obtain ⟨a, c, b, e, hin⟩ := ps.at_ h1 h2
    have hin : RowC 3 p.2 (p.1.2.flatMap verV) c := hin
    have h3 := hin.len
    rw [flatMap_len (sz := 3) (fun _ => rfl)] at h3
    have h4 := hb _ (List.mem_of_getElem? h1)
    exact ⟨by show p.2.len ≤ _; omega, a, c, b, e, hin⟩
  refine ⟨os, ?_, fun o ho => (hlen o ho).1, fun {w0 w fr} st => ⟨?_, fun o ho => ?_⟩⟩
  · rw [hos, List.map_map]
    show (hs.zip vsl).map (fun p => (p.1.1, p.1.2)) = hs
    have : ∀ (hs : List Hd) (vsl : List Slc), vsl.length = hs.length → (hs.zip vsl).map (fun p => ((p.1.1, p.1.2) : Hd)) = hs := by
      intro hs
      induction hs with
      | nil => intro vsl _; rfl
      | cons h hs ih => intro vsl hv; cases vsl with
        | nil => simp at hv
        | cons s vsl => rw [List.zip_cons_cons, List.map_cons, ih vsl (by simpa using hv)]
    exact this hs vsl hl
  · have e : (hs.zip vsl).flatMap (fun p => hdV p.1.1 p.2) = os.flatMap hoT := by rw [hos, List.flatMap_map]
    rw [e] at r
    have st : St w0 (tb ++ (pb ++ fr)) w := st.perm (perm_of_sum fun f_ => by simp <;> omega)
    exact r.src st
  · obtain ⟨h1, a, c, b, rfl, hin⟩ := hlen o ho
    have st : St w0 (c ++ (tb ++ (a ++ (b ++ fr)))) w := st.perm (perm_of_sum fun f_ => by simp <;> omega)
    exact ⟨hin.src st, by omega⟩
/-- What was read can be looked at. -/
theorem SavO.at_ {s : T_api_Saved} {m : SvM} {eb hc : List Chunk} (h : SavO s m eb hc) (hb : ∀ x ∈ m.held, x.2.length ≤ 1048576) (h1 : m.bey.length ≤ 17592186044416) (h2 : m.held.length ≤ 17592186044416) : ∃ os : List HO, ∀ {w0 : Base} {w : World} {fr : List Chunk}, St w0 (eb ++ (hc ++ fr)) w → SvAt w s m os := by
  obtain ⟨g1, g2, g3⟩ := h
  obtain ⟨os, a1, a2, a3⟩ := g3.at_ hb
  have hl1 := g2.len
  rw [List.length_map] at hl1
  have hl2 : s.Held.len = m.held.length := by
    obtain ⟨vsl, tb, pb, _, r, ps⟩ := g3
    have := r.len
    rw [zipRow_len (sz := 2) (fun _ => rfl) ps.len] at this
    omega
  refine ⟨os, fun {w0 w fr} st => ⟨g1, g2.src st, a3 (st.perm (l' := hc ++ (eb ++ fr)) (perm_of_sum fun f_ => by simp <;> omega)), a1, by omega, by omega, fun o ho => by have := a2 o ho; omega⟩⟩
open Classical in
noncomputable def finM (d : DS) (m : SvM) : SvM × Int := if d.e ≠ 0 then (zSv, d.e) else if d.r.rest.length > 0 then (zSv, 4) else if ckOk m then (m, 0) else (zSv, 1)
section
variable {w0 : Base} {w : World} {fr cs eb hc : List Chunk} {b1 b2 b3 b4 b5 b6 : Nat} {d : DS} {m : SvM} {s : T_api_Saved} {R : T_api_Saved → Int → World → Prop}
theorem sp_dc_k3 (o : DcO b2 b3 b4 d cs) (hs : SavO s m eb hc) (hb : ∀ x ∈ m.held, x.2.length ≤ 1048576) (h1 : m.bey.length ≤ 17592186044416) (h2 : m.held.length ≤ 17592186044416)
    (st : St w0 (cs ++ ((b5, [wrongV b2 b3 b4]) :: (b6, [numV b2 b3 b5]) :: (b1, svT s) :: (eb ++ (hc ++ fr)))) w)
    (k : ∀ s' eb' hc' w', SavO s' (finM d m).1 eb' hc' → St w0 (eb' ++ (hc' ++ fr)) w' → R s' (finM d m).2 w') : F_dump_Decode_k3 R b1 b2 b3 w := by
  obtain ⟨r, rbs, ro, rfl⟩ := o
  unfold F_dump_Decode_k3
  have st1 : St w0 ((b2, [iV d.e]) :: (b3, [Value.pointer r]) :: (b4, [iV ((d.left : Nat) : Int)]) :: (rbs ++ ((b5, [wrongV b2 b3 b4]) :: (b6, [numV b2 b3 b5]) :: (b1, svT s) :: (eb ++ (hc ++ fr))))) w := st
  -- the two results are put, and read again
  have put : ∀ {e0 e : Int} {s' : T_api_Saved} {G : List Chunk} {w' : World}, St w0 ((b1, svT s) :: (b2, [iV e0]) :: G) w' → (∀ w2, St w0 ((b1, svT s') :: (b2, [iV e]) :: G) w2 → R s' e w2) →
      Writable w' b1 0 3 ∧ ∀ w2, w2 = World.puts b1 0 (svT s') w' → Writable w2 b2 0 1 ∧ ∀ w3, w3 = World.puts b2 0 [iV e] w2 → ∃ res, CellsAt w3 b1 0 (svT res) ∧ ∃ res1, CellsAt w3 b2 0 [iV res1] ∧ R res res1 w3 := by
    intro e0 e s' G w' st' kk
    refine ⟨st'.writable 0 rfl (Nat.le_of_ble_eq_true rfl), fun w2 hw2 => ?_⟩
    have s2 : St w0 ((b1, svT s') :: (b2, [iV e0]) :: G) w2 := st'.put0 hw2
    have s2b : St w0 ((b2, [iV e0]) :: (b1, svT s') :: G) w2 := s2.perm (perm_of_sum fun f_ => by simp <;> omega)
    refine ⟨s2b.writable 0 rfl (Nat.le_of_ble_eq_true rfl), fun w3 hw3 => ?_⟩
    have s3 : St w0 ((b2, [iV e]) :: (b1, svT s') :: G) w3 := s2b.put0 hw3
    exact ⟨s', (s3.get 1 rfl).all, e, (s3.get 0 rfl).all, kk w3 (s3.perm (perm_of_sum fun f_ => by simp <;> omega))⟩
  refine ⟨d.e, st1.cell 0 rfl rfl, fun h w25 hd25 => ?_, fun h => ⟨r, st1.cell 1 rfl rfl, ?_⟩⟩
  · have h : d.e ≠ 0 := by simpa using h
    have st2 : St w0 ((b1, svT s) :: (b2, [iV d.e]) :: ((b3, [Value.pointer r]) :: (b4, [iV ((d.left : Nat) : Int)]) :: (rbs ++ ((b5, [wrongV b2 b3 b4]) :: (b6, [numV b2 b3 b5]) :: (eb ++ (hc ++ fr)))))) w25 := (st1.drew hd25).perm (perm_of_sum fun f_ => by simp <;> omega)
    refine ⟨d.e, st2.cell 1 rfl rfl, st2.writable 0 rfl (Nat.le_of_ble_eq_true rfl), fun w26 hw26 => ?_⟩
    have st3 : St w0 ((b1, svT ⟨0, ⟨none, 0, 0⟩, ⟨none, 0, 0⟩⟩) :: (b2, [iV d.e]) :: ((b3, [Value.pointer r]) :: (b4, [iV ((d.left : Nat) : Int)]) :: (rbs ++ ((b5, [wrongV b2 b3 b4]) :: (b6, [numV b2 b3 b5]) :: (eb ++ (hc ++ fr)))))) w26 := st2.put0 hw26
    have st3b : St w0 ((b2, [iV d.e]) :: (b1, svT ⟨0, ⟨none, 0, 0⟩, ⟨none, 0, 0⟩⟩) :: ((b3, [Value.pointer r]) :: (b4, [iV ((d.left : Nat) : Int)]) :: (rbs ++ ((b5, [wrongV b2 b3 b4]) :: (b6, [numV b2 b3 b5]) :: (eb ++ (hc ++ fr)))))) w26 := st3.perm (perm_of_sum fun f_ => by simp <;> omega)
    refine ⟨st3b.cell 0 rfl rfl, st3b.writable 0 rfl (Nat.le_of_ble_eq_true rfl), fun w27 hw27 => ?_⟩
    have st4 : St w0 ((b2, [iV d.e]) :: (b1, svT ⟨0, ⟨none, 0, 0⟩, ⟨none, 0, 0⟩⟩) :: ((b3, [Value.pointer r]) :: (b4, [iV ((d.left : Nat) : Int)]) :: (rbs ++ ((b5, [wrongV b2 b3 b4]) :: (b6, [numV b2 b3 b5]) :: (eb ++ (hc ++ fr)))))) w27 := st3b.put0 hw27
    have e : finM d m = (zSv, d.e) := by unfold finM; rw [if_pos h]
    rw [e] at k
    exact ⟨⟨0, ⟨none, 0, 0⟩, ⟨none, 0, 0⟩⟩, (st4.get 1 rfl).all, d.e, (st4.get 0 rfl).all, k _ [] [] w27 SavO.zero (st4.weak ((b2, [iV d.e]) :: (b1, svT ⟨0, ⟨none, 0, 0⟩, ⟨none, 0, 0⟩⟩) :: (b3, [Value.pointer r]) :: (b4, [iV ((d.left : Nat) : Int)]) :: (rbs ++ ((b5, [wrongV b2 b3 b4]) :: (b6, [numV b2 b3 b5]) :: (eb ++ hc)))) (perm_of_sum fun f_ => by simp <;> omega))⟩
  have h : d.e = 0 := by simpa using h
  have st1r : St w0 (rbs ++ ((b2, [iV d.e]) :: (b3, [Value.pointer r]) :: (b4, [iV ((d.left : Nat) : Int)]) :: (b5, [wrongV b2 b3 b4]) :: (b6, [numV b2 b3 b5]) :: (b1, svT s) :: (eb ++ (hc ++ fr)))) w := st1.perm (perm_of_sum fun f_ => by simp <;> omega)
  have st1s : St w0 ((b1, svT s) :: (b2, [iV d.e]) :: ((b3, [Value.pointer r]) :: (b4, [iV ((d.left : Nat) : Int)]) :: (rbs ++ ((b5, [wrongV b2 b3 b4]) :: (b6, [numV b2 b3 b5]) :: (eb ++ (hc ++ fr)))))) w := st1.perm (perm_of_sum fun f_ => by simp <;> omega)
  have zero : ∀ {e' : Int} {w' : World}, finM d m = (zSv, e') → St w0 ((b1, svT s) :: (b2, [iV d.e]) :: ((b3, [Value.pointer r]) :: (b4, [iV ((d.left : Nat) : Int)]) :: (rbs ++ ((b5, [wrongV b2 b3 b4]) :: (b6, [numV b2 b3 b5]) :: (eb ++ (hc ++ fr)))))) w' →
      Writable w' b1 0 3 ∧ ∀ w2, w2 = World.puts b1 0 (svT ⟨0, ⟨none, 0, 0⟩, ⟨none, 0, 0⟩⟩) w' → Writable w2 b2 0 1 ∧ ∀ w3, w3 = World.puts b2 0 [iV e'] w2 → ∃ res, CellsAt w3 b1 0 (svT res) ∧ ∃ res1, CellsAt w3 b2 0 [iV res1] ∧ R res res1 w3 := by
    intro e' w' he st'
    rw [he] at k
    exact put st' fun w2 s2 => k _ [] [] w2 SavO.zero (s2.weak ((b1, svT ⟨0, ⟨none, 0, 0⟩, ⟨none, 0, 0⟩⟩) :: (b2, [iV e']) :: (b3, [Value.pointer r]) :: (b4, [iV ((d.left : Nat) : Int)]) :: (rbs ++ ((b5, [wrongV b2 b3 b4]) :: (b6, [numV b2 b3 b5]) :: (eb ++ hc)))) (perm_of_sum fun f_ => by simp <;> omega))
  refine sp_Reader_Left st1r ro ⟨fun hl => ?_, fun hl => ?_⟩
  · have hl := of_decide_eq_true hl
    exact zero (by unfold finM; rw [if_neg (by omega), if_pos (by omega)]) st1s
  have hl := of_decide_eq_false hl
  refine ⟨s, (st1s.get 0 rfl).all, ?_⟩
  obtain ⟨os, hat⟩ := hs.at_ hb h1 h2
  have hsv : SvAt w s m os := hat (fr := (b2, [iV d.e]) :: (b3, [Value.pointer r]) :: (b4, [iV ((d.left : Nat) : Int)]) :: (rbs ++ ((b5, [wrongV b2 b3 b4]) :: (b6, [numV b2 b3 b5]) :: (b1, svT s) :: fr))) (st1.perm (perm_of_sum fun f_ => by simp <;> omega))
  refine sp_dump_Check hsv fun w31 e31 => ?_
  have st2 := st1s.keep e31
  by_cases hk : ckOk m
  · rw [ckE_ok hk]
    have e : finM d m = (m, 0) := by unfold finM; rw [if_neg (by omega), if_neg (by omega), if_pos hk]
    rw [e] at k
    refine ⟨fun h => (by simp at h), fun _ => ⟨s, (st2.get 0 rfl).all, ?_⟩⟩
    exact put st2 fun w2 s2 => k s eb hc w2 hs (s2.weak ((b1, svT s) :: (b2, [iV 0]) :: (b3, [Value.pointer r]) :: (b4, [iV ((d.left : Nat) : Int)]) :: (rbs ++ [(b5, [wrongV b2 b3 b4]), (b6, [numV b2 b3 b5])])) (perm_of_sum fun f_ => by simp <;> omega))
  · rw [ckE_no hk]
    exact ⟨fun _ => zero (by unfold finM; rw [if_neg (by omega), if_neg (by omega), if_neg hk]) st2, fun h => (by simp at h)⟩
end
/-! ### Keys with their versions -/
def LfD (d : DS) : Prop := d.e = 0 → d.left = d.r.rest.length
theorem LfD.num {d : DS} (h : LfD d) : LfD (numM d).2 := by
  unfold numM
  split
  · exact h
  split
  · exact fun _ => rfl
  · exact fun _ => rfl
theorem LfD.ver {d : DS} (h : LfD d) : LfD (verM d).2 := by
  unfold verM
  split
  · exact h.num
  split
  · exact fun _ => rfl
  · exact fun _ => rfl
theorem LfD.rep {α : Type} {f : DS → α × DS} (hf : ∀ {d}, LfD d → LfD (f d).2) : ∀ (n : Nat) {d : DS}, LfD d → LfD (repM f n d).2
  | 0, d, h => h
  | n + 1, d, h => by
    rw [repM]
    split
    · exact h
    · exact LfD.rep hf n (hf h)
theorem repM_stop {α : Type} {f : DS → α × DS} {n : Nat} {d : DS} (h : n = 0 ∨ d.e ≠ 0) : repM f n d = ([], d) := by
  cases n with
  | zero => rfl
  | succ n => rw [repM, if_pos (h.resolve_left (by omega))]
theorem keysM_stop {n : Nat} {d : DS} (h : n = 0 ∨ d.e ≠ 0) : keysM n d = ([], d) := by
  cases n with
  | zero => rfl
  | succ n => rw [keysM, if_pos (h.resolve_left (by omega))]
section
variable {w0 : Base} {w : World} {fr : List Chunk} {b1 b2 b3 b4 b5 b6 b8 : Nat} {acc : List Hd} {key : ByteArray} {mark : Int} {bs hs : Slc}
theorem sp_dc_vers {again_1 : Int → World → Prop} {keys : Int} {n0 : Nat} {d0 : DS} {cs0 hc eb : List Chunk} (hn : n0 ≤ 65536) (hl : d0.r.rest.length ≤ 70368744177664) (o : DcO b2 b3 b4 d0 cs0) (hh : HdsO hs acc hc) (ha : acc.length ≤ 1099511627776)
    (st : St w0 (cs0 ++ ((b5, [wrongV b2 b3 b4]) :: (b6, [numV b2 b3 b5]) :: (b8, hldT (key, ⟨none, 0, 0⟩)) :: (b1, svT ⟨mark, bs, hs⟩) :: (eb ++ (hc ++ fr)))) w)
    (k : ∀ cs hs' hc' w', DcO b2 b3 b4 (repM verM n0 d0).2 cs → HdsO hs' (acc ++ [(key, (repM verM n0 d0).1)]) hc' → St w0 (cs ++ ((b5, [wrongV b2 b3 b4]) :: (b6, [numV b2 b3 b5]) :: (b1, svT ⟨mark, bs, hs'⟩) :: (eb ++ (hc' ++ fr)))) w' → again_1 (IntKind.u64.wrap (keys - 1)) w') :
    ∃ (I : Int → World → Prop) (μ : Int → World → Nat), I ((n0 : Nat) : Int) w ∧ ∀ (k_ : Int) w, I k_ w → F_dump_Decode_L6 b1 b2 b3 b5 b6 keys again_1 b8 (fun (k_' : Int) w' => I k_' w' ∧ μ k_' w' < μ k_ w) k_ w := by
  refine ⟨fun k_ w' => ∃ (n : Nat) (vs : List Ver) (d : DS) (cs vb : List Chunk) (sl : Slc), k_ = (n : Int) ∧ vs.length + n ≤ 65536 ∧ vs ++ (repM verM n d).1 = (repM verM n0 d0).1 ∧ (repM verM n d).2 = (repM verM n0 d0).2 ∧ d.r.rest.length ≤ 70368744177664 ∧ DcO b2 b3 b4 d cs ∧ RowC 3 sl (vs.flatMap verV) vb ∧
      St w0 (cs ++ ((b5, [wrongV b2 b3 b4]) :: (b6, [numV b2 b3 b5]) :: (b8, hldT (key, sl)) :: (b1, svT ⟨mark, bs, hs⟩) :: (vb ++ (eb ++ (hc ++ fr))))) w', fun k_ _ => k_.toNat,
    ⟨n0, [], d0, cs0, [], ⟨none, 0, 0⟩, rfl, by simpa using hn, rfl, rfl, hl, o, RowC.nil, by simpa using st⟩, ?_⟩
  clear st o hl hn
  rintro k_ w1 ⟨n, vs, d, cs, vb, sl, rfl, hn, hV, hD, hl, o, rv, st⟩
  have hx := o
  obtain ⟨r, rbs, ro, rfl⟩ := o
  have hsl : sl.len = vs.length := by have := rv.len; rw [flatMap_len (sz := 3) (fun _ => rfl)] at this; omega
  -- what is behind the loop
  have behind : (n = 0 ∨ d.e ≠ 0) → ∀ {again_2 : Int → World → Prop}, F_dump_Decode_k7 b1 b2 b3 b5 b6 keys again_1 b8 ((n : Nat) : Int) again_2 false w1 := by
    intro hor again_2
    rw [repM_stop hor, List.append_nil] at hV
    rw [repM_stop hor] at hD
    have hD : d = (repM verM n0 d0).2 := hD
    unfold F_dump_Decode_k7
    refine ⟨fun h => (by cases h), fun _ => ?_⟩
    obtain ⟨vsl, tb, pb, rfl, rt, ps⟩ := hh
    have hvl := ps.len
    have htl : hs.len = acc.length := by
      have := rt.len
      rw [zipRow_len (sz := 2) (fun _ => rfl) hvl] at this
      omega
    have st1 : St w0 ((b1, svT ⟨mark, bs, hs⟩) :: (b8, hldT (key, sl)) :: (((b2, [iV d.e]) :: (b3, [Value.pointer r]) :: (b4, [iV ((d.left : Nat) : Int)]) :: rbs) ++ ((b5, [wrongV b2 b3 b4]) :: (b6, [numV b2 b3 b5]) :: (vb ++ (eb ++ (tb ++ (pb ++ fr))))))) w1 := st.perm (perm_of_sum fun f_ => by simp <;> omega)
    refine ⟨hs, st1.cell 0 rfl rfl, ⟨key, sl⟩, (st1.get 1 rfl).all, fun b10 w2 hb10 hw2 => ?_⟩
    have st2 := st1.alloc (cs := hldT (key, sl)) hb10 hw2
    refine ⟨hldT (key, sl), srcAt_newN hb10 hw2 rfl, ?_⟩
    have st2 : St w0 (tb ++ ((b1, svT ⟨mark, bs, hs⟩) :: (((b2, [iV d.e]) :: (b3, [Value.pointer r]) :: (b4, [iV ((d.left : Nat) : Int)]) :: rbs) ++ ((b5, [wrongV b2 b3 b4]) :: (b6, [numV b2 b3 b5]) :: (vb ++ (eb ++ (pb ++ fr))))))) w2 := st2.weak [(b10, hldT (key, sl)), (b8, hldT (key, sl))] (perm_of_sum fun f_ => by simp <;> omega)
    refine rt.append st2 rfl rfl rfl (by rw [htl]; omega) fun hs' tb' w3 rt' st3 hl3 => ?_
    have st3 : St w0 ((b1, svT ⟨mark, bs, hs⟩) :: (tb' ++ (((b2, [iV d.e]) :: (b3, [Value.pointer r]) :: (b4, [iV ((d.left : Nat) : Int)]) :: rbs) ++ ((b5, [wrongV b2 b3 b4]) :: (b6, [numV b2 b3 b5]) :: (vb ++ (eb ++ (pb ++ fr))))))) w3 := st3.perm (perm_of_sum fun f_ => by simp <;> omega)
    refine ⟨st3.writable 0 rfl (Nat.le_of_ble_eq_true rfl), fun w4 hw4 => ?_⟩
    have st4 : St w0 ((b1, svT ⟨mark, bs, hs'⟩) :: (tb' ++ (((b2, [iV d.e]) :: (b3, [Value.pointer r]) :: (b4, [iV ((d.left : Nat) : Int)]) :: rbs) ++ ((b5, [wrongV b2 b3 b4]) :: (b6, [numV b2 b3 b5]) :: (vb ++ (eb ++ (pb ++ fr))))))) w4 := st3.put0 hw4
    rw [← hD, ← hV] at k
    refine k _ hs' (tb' ++ (pb ++ vb)) w4 hx ⟨vsl ++ [sl], tb', pb ++ vb, rfl, ?_, ps.snoc rv⟩ (st4.perm (perm_of_sum fun f_ => by simp <;> omega))
    rw [zip_snoc (f := fun p : Hd × Slc => hdV p.1.1 p.2) hvl]
    exact rt'
  unfold F_dump_Decode_L6
  refine ⟨fun hi => ?_, fun hi => ?_⟩
  rotate_left
  · have hi := of_decide_eq_false hi
    exact behind (.inl (by omega))
  have hi := of_decide_eq_true hi
  have st1 : St w0 ((b2, [iV d.e]) :: (b3, [Value.pointer r]) :: (b4, [iV ((d.left : Nat) : Int)]) :: (rbs ++ ((b5, [wrongV b2 b3 b4]) :: (b6, [numV b2 b3 b5]) :: (b8, hldT (key, sl)) :: (b1, svT ⟨mark, bs, hs⟩) :: (vb ++ (eb ++ (hc ++ fr)))))) w1 := st
  refine ⟨d.e, st1.cell 0 rfl rfl, ?_⟩
  by_cases hde : d.e = 0
  rotate_left
  · rw [show (d.e == 0) = false from by simpa using hde]
    exact behind (.inr hde)
  rw [hde]
  obtain ⟨n, rfl⟩ : ∃ n', n = n' + 1 := ⟨n - 1, by omega⟩
  rw [repM, if_neg (by omega)] at hV hD
  have wn : IntKind.i64.wrap (((n + 1 : Nat) : Int) - 1) = ((n : Nat) : Int) := by rw [i64_in _ (by omega) (by omega)]; omega
  unfold F_dump_Decode_k7
  refine ⟨fun _ w2 hd2 => ?_, fun h => (by cases h)⟩
  have st2 := st.drew hd2
  have st2b : St w0 ((b8, hldT (key, sl)) :: (((b2, [iV d.e]) :: (b3, [Value.pointer r]) :: (b4, [iV ((d.left : Nat) : Int)]) :: rbs) ++ ((b5, [wrongV b2 b3 b4]) :: (b6, [numV b2 b3 b5]) :: (b1, svT ⟨mark, bs, hs⟩) :: (vb ++ (eb ++ (hc ++ fr)))))) w2 := st2.perm (perm_of_sum fun f_ => by simp <;> omega)
  refine ⟨sl, st2b.cell 0 rfl rfl, ?_⟩
  refine sp_version hx (by omega) st2 fun cs3 w3 o3 st3 => ?_
  have st3b : St w0 ((b8, hldT (key, sl)) :: (vb ++ (cs3 ++ ((b5, [wrongV b2 b3 b4]) :: (b6, [numV b2 b3 b5]) :: (b1, svT ⟨mark, bs, hs⟩) :: (eb ++ (hc ++ fr)))))) w3 := st3.perm (perm_of_sum fun f_ => by simp <;> omega)
  refine ⟨st3b.cell 0 rfl rfl, fun b9 w4 hb9 hw4 => ?_⟩
  have st4 := st3b.alloc (cs := verV (verM d).1) hb9 hw4
  refine ⟨st4.cell 1 rfl rfl, verV (verM d).1, srcAt_newN hb9 hw4 rfl, ?_⟩
  have st4 : St w0 (vb ++ ((b8, hldT (key, sl)) :: (cs3 ++ ((b5, [wrongV b2 b3 b4]) :: (b6, [numV b2 b3 b5]) :: (b1, svT ⟨mark, bs, hs⟩) :: (eb ++ (hc ++ fr)))))) w4 := st4.weak [(b9, verV (verM d).1)] (perm_of_sum fun f_ => by simp <;> omega)
  refine rv.append st4 rfl rfl rfl (by rw [hsl]; omega) fun sl' vb' w5 rv' st5 hl5 => ?_
  have st5 : St w0 ((b8, hldT (key, sl)) :: (vb' ++ (cs3 ++ ((b5, [wrongV b2 b3 b4]) :: (b6, [numV b2 b3 b5]) :: (b1, svT ⟨mark, bs, hs⟩) :: (eb ++ (hc ++ fr)))))) w5 := st5.perm (perm_of_sum fun f_ => by simp <;> omega)
  refine ⟨st5.writable 0 rfl (Nat.le_of_ble_eq_true rfl), fun w6 hw6 => ?_⟩
  have st6 : St w0 ((b8, hldT (key, sl')) :: (vb' ++ (cs3 ++ ((b5, [wrongV b2 b3 b4]) :: (b6, [numV b2 b3 b5]) :: (b1, svT ⟨mark, bs, hs⟩) :: (eb ++ (hc ++ fr)))))) w6 := st5.put0 hw6
  rw [wn]
  have hle := verM_le d
  refine ⟨⟨n, vs ++ [(verM d).1], (verM d).2, cs3, vb', sl', rfl, by rw [List.length_append, List.length_singleton]; omega, by rw [List.append_assoc]; exact hV, hD, by omega, o3, ?_, st6.perm (perm_of_sum fun f_ => by simp <;> omega)⟩, by show Int.toNat _ < Int.toNat _; omega⟩
  rw [List.flatMap_append, List.flatMap_cons, List.flatMap_nil, List.append_nil]
  exact rv'
end
end Go.Proofs.Ytpdegdnigcnjiaa

namespace Go.Proofs.Ytpdegdnigcnjiaa
open Go
set_option linter.unusedVariables false
set_option linter.unusedSimpArgs false

section
variable {w0 : Base} {w : World} {fr eb cs0 : List Chunk} {b1 b2 b3 b4 b5 b6 : Nat} {mark : Int} {bs : Slc} {R : T_api_Saved → Int → World → Prop}
theorem sp_dc_keys {n0 L : Nat} {d0 : DS} (hL : L ≤ 549755813888) (hn : n0 < 2 ^ 64) (hlf : LfD d0) (hl : d0.r.rest.length ≤ L) (o : DcO b2 b3 b4 d0 cs0)
    (st : St w0 (cs0 ++ ((b5, [wrongV b2 b3 b4]) :: (b6, [numV b2 b3 b5]) :: (b1, svT ⟨mark, bs, ⟨none, 0, 0⟩⟩) :: (eb ++ fr))) w)
    (k : ∀ cs hs hc w', DcO b2 b3 b4 (keysM n0 d0).2 cs → HdsO hs (keysM n0 d0).1 hc → (∀ x ∈ (keysM n0 d0).1, x.2.length ≤ 1048576) → (keysM n0 d0).1.length ≤ 1099511627776 → St w0 (cs ++ ((b5, [wrongV b2 b3 b4]) :: (b6, [numV b2 b3 b5]) :: (b1, svT ⟨mark, bs, hs⟩) :: (eb ++ (hc ++ fr)))) w' → F_dump_Decode_k3 R b1 b2 b3 w') :
    F_dump_Decode_k2 R b1 b2 b3 b5 b6 ((n0 : Nat) : Int) w := by
  unfold F_dump_Decode_k2
  refine ⟨fun keys w' => ∃ (n : Nat) (acc : List Hd) (d : DS) (cs : List Chunk) (hs : Slc) (hc : List Chunk), keys = (n : Int) ∧ n < 2 ^ 64 ∧ acc ++ (keysM n d).1 = (keysM n0 d0).1 ∧ (keysM n d).2 = (keysM n0 d0).2 ∧ LfD d ∧ (d.e = 0 → acc.length + d.r.rest.length ≤ L) ∧ acc.length ≤ L + 1 ∧ d.r.rest.length ≤ L ∧
      (∀ x ∈ acc, x.2.length ≤ 1048576) ∧ DcO b2 b3 b4 d cs ∧ HdsO hs acc hc ∧ St w0 (cs ++ ((b5, [wrongV b2 b3 b4]) :: (b6, [numV b2 b3 b5]) :: (b1, svT ⟨mark, bs, hs⟩) :: (eb ++ (hc ++ fr)))) w', fun keys _ => keys.toNat,
    ⟨n0, [], d0, cs0, ⟨none, 0, 0⟩, [], rfl, hn, rfl, rfl, hlf, fun _ => by simpa using hl, by simp, hl, fun x hx => (by cases hx), o, HdsO.nil, by simpa using st⟩, ?_⟩
  clear st o hl hn hlf
  rintro keys w1 ⟨n, acc, d, cs, hs, hc, rfl, hn, hH, hD, hlf, hal, hal2, hl, hvb, o, hh, st⟩
  have hx := o
  obtain ⟨r, rbs, ro, rfl⟩ := o
  have stop : (n = 0 ∨ d.e ≠ 0) → ∀ {again_ : Int → World → Prop}, F_dump_Decode_k5 R b1 b2 b3 b5 b6 ((n : Nat) : Int) again_ false w1 := by
    intro hor again_
    rw [keysM_stop hor, List.append_nil] at hH
    rw [keysM_stop hor] at hD
    have hD : d = (keysM n0 d0).2 := hD
    unfold F_dump_Decode_k5
    refine ⟨fun h => (by cases h), fun _ => ?_⟩
    rw [← hH, ← hD] at k
    exact k _ hs hc w1 hx hh hvb (by omega) st
  unfold F_dump_Decode_L4
  refine ⟨fun hi => ?_, fun hi => ?_⟩
  rotate_left
  · have hi := of_decide_eq_false hi
    exact stop (.inl (by omega))
  have hi := of_decide_eq_true hi
  have st1 : St w0 ((b2, [iV d.e]) :: (b3, [Value.pointer r]) :: (b4, [iV ((d.left : Nat) : Int)]) :: (rbs ++ ((b5, [wrongV b2 b3 b4]) :: (b6, [numV b2 b3 b5]) :: (b1, svT ⟨mark, bs, hs⟩) :: (eb ++ (hc ++ fr))))) w1 := st
  refine ⟨d.e, st1.cell 0 rfl rfl, ?_⟩
  by_cases hde : d.e = 0
  rotate_left
  · rw [show (d.e == 0) = false from by simpa using hde]
    exact stop (.inr hde)
  rw [hde]
  obtain ⟨n, rfl⟩ : ∃ n', n = n' + 1 := ⟨n - 1, by omega⟩
  rw [keysM, if_neg (by omega)] at hH hD
  have wn : IntKind.u64.wrap (((n + 1 : Nat) : Int) - 1) = ((n : Nat) : Int) := by rw [u64_in _ (by omega) (by omega)]; omega
  have hal := hal hde
  unfold F_dump_Decode_k5
  refine ⟨fun _ => ⟨r, st1.cell 1 rfl rfl, ?_⟩, fun h => (by cases h)⟩
  have st1r : St w0 (rbs ++ ((b2, [iV d.e]) :: (b3, [Value.pointer r]) :: (b4, [iV ((d.left : Nat) : Int)]) :: (b5, [wrongV b2 b3 b4]) :: (b6, [numV b2 b3 b5]) :: (b1, svT ⟨mark, bs, hs⟩) :: (eb ++ (hc ++ fr)))) w1 := st1.perm (perm_of_sum fun f_ => by simp <;> omega)
  refine sp_Reader_Text st1r ro (by decide) (by decide) (by omega) fun rb2 w2 ro2 st2 b8 w3 hb8 hw3 => ?_
  have st3 := st2.alloc (cs := hldT (ByteArray.empty, ⟨none, 0, 0⟩)) hb8 hw3
  refine ⟨st3.writable 0 rfl (Nat.le_of_ble_eq_true rfl), fun w4 hw4 => ?_⟩
  have st4 : St w0 ((b8, hldT (mkS (textR 64 d.r).2, ⟨none, 0, 0⟩)) :: (rb2 ++ ((b2, [iV d.e]) :: (b3, [Value.pointer r]) :: (b4, [iV ((d.left : Nat) : Int)]) :: (b5, [wrongV b2 b3 b4]) :: (b6, [numV b2 b3 b5]) :: (b1, svT ⟨mark, bs, hs⟩) :: (eb ++ (hc ++ fr))))) w4 := st3.put0 hw4
  have st4w : St w0 ((b5, [wrongV b2 b3 b4]) :: (b8, hldT (mkS (textR 64 d.r).2, ⟨none, 0, 0⟩)) :: (rb2 ++ ((b2, [iV d.e]) :: (b3, [Value.pointer r]) :: (b4, [iV ((d.left : Nat) : Int)]) :: (b6, [numV b2 b3 b5]) :: (b1, svT ⟨mark, bs, hs⟩) :: (eb ++ (hc ++ fr))))) w4 := st4.perm (perm_of_sum fun f_ => by simp <;> omega)
  refine ⟨wrongV b2 b3 b4, st4w.cell 0 rfl rfl, ?_⟩
  have st4c : St w0 (((b2, [iV d.e]) :: (b3, [Value.pointer r]) :: (b4, [iV ((d.left : Nat) : Int)]) :: rb2) ++ ((b5, [wrongV b2 b3 b4]) :: (b6, [numV b2 b3 b5]) :: (b8, hldT (mkS (textR 64 d.r).2, ⟨none, 0, 0⟩)) :: (b1, svT ⟨mark, bs, hs⟩) :: (eb ++ (hc ++ fr)))) w4 := st4.perm (perm_of_sum fun f_ => by simp <;> omega)
  refine sp_wrongV (d := ⟨(textR 64 d.r).1, d.e, d.left⟩) ⟨r, rb2, ro2, rfl⟩ st4c fun cs5 w5 o5 st5 => ⟨_, rfl, fun h5 => ?_, fun h5 => ?_⟩
  · have h5 : (txtD 64 d).e ≠ 0 := by unfold txtD; simpa using h5
    rw [if_pos h5] at hH hD
    have hD : txtD 64 d = (keysM n0 d0).2 := hD
    have hH : acc = (keysM n0 d0).1 := by simpa using hH
    rw [← hH, ← hD] at k
    exact k cs5 hs hc w5 o5 hh hvb (by omega) (st5.weak [(b8, hldT (mkS (textR 64 d.r).2, ⟨none, 0, 0⟩))] (perm_of_sum fun f_ => by simp <;> omega))
  have h5 : ¬ (txtD 64 d).e ≠ 0 := by unfold txtD; simpa using h5
  rw [if_neg h5] at hH hD
  have h5 : (txtD 64 d).e = 0 := by omega
  have o5 : DcO b2 b3 b4 (txtD 64 d) cs5 := o5
  have st5n : St w0 ((b6, [numV b2 b3 b5]) :: (b8, hldT (mkS (textR 64 d.r).2, ⟨none, 0, 0⟩)) :: (cs5 ++ ((b5, [wrongV b2 b3 b4]) :: (b1, svT ⟨mark, bs, hs⟩) :: (eb ++ (hc ++ fr))))) w5 := st5.perm (perm_of_sum fun f_ => by simp <;> omega)
  refine ⟨numV b2 b3 b5, st5n.cell 0 rfl rfl, ?_⟩
  have st5c : St w0 (cs5 ++ ((b5, [wrongV b2 b3 b4]) :: (b6, [numV b2 b3 b5]) :: (b8, hldT (mkS (textR 64 d.r).2, ⟨none, 0, 0⟩)) :: (b1, svT ⟨mark, bs, hs⟩) :: (eb ++ (hc ++ fr)))) w5 := st5.perm (perm_of_sum fun f_ => by simp <;> omega)
  refine sp_numV o5 st5c fun cs6 w6 o6 st6 => ⟨_, rfl, ?_⟩
  have hrng := numM_rng (txtD 64 d)
  have hnn : (numM (txtD 64 d)).1 = (((numM (txtD 64 d)).1.toNat : Nat) : Int) := by omega
  have hw := wrong_e (d := ⟨(textR 64 d.r).1, d.e, d.left⟩) (f := 0) (is := false) h5 (.inr rfl)
  have hne : (textR 64 d.r).1.rest.length ≠ d.left := hw.2.1
  have htl := textR_le 64 d.r
  have hlf0 := hlf hde
  have hsh : (txtD 64 d).r.rest.length < d.r.rest.length := by show (textR 64 d.r).1.rest.length < _; omega
  have hnl := numM_le (txtD 64 d)
  have hrl := repM_le verM_le (numM (txtD 64 d)).1.toNat (numM (txtD 64 d)).2
  have hvn := repM_len (f := verM) (numM (txtD 64 d)).1.toNat (numM (txtD 64 d)).2
  have key := sp_dc_vers (w0 := w0) (w := w6) (fr := fr) (b1 := b1) (b2 := b2) (b3 := b3) (b4 := b4) (b5 := b5) (b6 := b6) (b8 := b8) (acc := acc) (key := mkS (textR 64 d.r).2) (mark := mark) (bs := bs) (hs := hs) (keys := ((n + 1 : Nat) : Int)) (n0 := (numM (txtD 64 d)).1.toNat) (d0 := (numM (txtD 64 d)).2) (cs0 := cs6) (hc := hc) (eb := eb)
    (again_1 := fun (keys' : Int) w' => (∃ (n : Nat) (acc : List Hd) (d : DS) (cs : List Chunk) (hs : Slc) (hc : List Chunk), keys' = (n : Int) ∧ n < 2 ^ 64 ∧ acc ++ (keysM n d).1 = (keysM n0 d0).1 ∧ (keysM n d).2 = (keysM n0 d0).2 ∧ LfD d ∧ (d.e = 0 → acc.length + d.r.rest.length ≤ L) ∧ acc.length ≤ L + 1 ∧ d.r.rest.length ≤ L ∧
      (∀ x ∈ acc, x.2.length ≤ 1048576) ∧ DcO b2 b3 b4 d cs ∧ HdsO hs acc hc ∧ St w0 (cs ++ ((b5, [wrongV b2 b3 b4]) :: (b6, [numV b2 b3 b5]) :: (b1, svT ⟨mark, bs, hs⟩) :: (eb ++ (hc ++ fr)))) w') ∧ keys'.toNat < ((n + 1 : Nat) : Int).toNat)
    (by omega) (by omega) o6 hh (by omega) st6 (fun cs7 hs7 hc7 w7 o7 hh7 st7 => by
      rw [wn]
      refine ⟨⟨n, acc ++ [(mkS (textR 64 d.r).2, (repM verM (numM (txtD 64 d)).1.toNat (numM (txtD 64 d)).2).1)], _, cs7, hs7, hc7, rfl, by omega, by rw [List.append_assoc]; exact hH, hD, LfD.rep LfD.ver _ (LfD.num fun _ => rfl), fun _ => ?_, ?_, by omega, fun x hx => ?_, o7, hh7, st7⟩, by omega⟩
      · rw [List.length_append, List.length_singleton]; omega
      · rw [List.length_append, List.length_singleton]; omega
      · rcases List.mem_append.1 hx with hx | hx
        · exact hvb x hx
        · rw [List.mem_singleton.1 hx]
          show (repM verM (numM (txtD 64 d)).1.toNat (numM (txtD 64 d)).2).1.length ≤ _
          omega)
  rw [← hnn] at key
  exact key
theorem sp_dc_beg {n0 L : Nat} {d0 : DS} (hL : L ≤ 549755813888) (hn : n0 ≤ 65536) (hlf : LfD d0) (hl : d0.r.rest.length ≤ L) (o : DcO b2 b3 b4 d0 cs0)
    (st : St w0 (cs0 ++ ((b5, [wrongV b2 b3 b4]) :: (b6, [numV b2 b3 b5]) :: (b1, svT ⟨mark, ⟨none, 0, 0⟩, ⟨none, 0, 0⟩⟩) :: fr)) w)
    (k : ∀ cs s eb hc w', DcO b2 b3 b4 (hldM (repM numM n0 d0).2).2 cs → SavO s ⟨mark, (repM numM n0 d0).1, (hldM (repM numM n0 d0).2).1⟩ eb hc → (∀ x ∈ (hldM (repM numM n0 d0).2).1, x.2.length ≤ 1048576) → (hldM (repM numM n0 d0).2).1.length ≤ 1099511627776 → St w0 (cs ++ ((b5, [wrongV b2 b3 b4]) :: (b6, [numV b2 b3 b5]) :: (b1, svT s) :: (eb ++ (hc ++ fr)))) w' → F_dump_Decode_k3 R b1 b2 b3 w') :
    ∃ (I : Int → World → Prop) (μ : Int → World → Nat), I ((n0 : Nat) : Int) w ∧ ∀ (n_ : Int) w, I n_ w → F_dump_Decode_L0 R b1 b2 b3 b5 b6 (fun (n_' : Int) w' => I n_' w' ∧ μ n_' w' < μ n_ w) n_ w := by
  refine ⟨fun n_ w' => ∃ (n : Nat) (acc : List Int) (d : DS) (cs : List Chunk) (bs : Slc) (eb : List Chunk), n_ = (n : Int) ∧ acc.length + n ≤ 65536 ∧ acc ++ (repM numM n d).1 = (repM numM n0 d0).1 ∧ (repM numM n d).2 = (repM numM n0 d0).2 ∧ LfD d ∧ d.r.rest.length ≤ L ∧ DcO b2 b3 b4 d cs ∧ RowC 1 bs (acc.map iV) eb ∧
      St w0 (cs ++ ((b5, [wrongV b2 b3 b4]) :: (b6, [numV b2 b3 b5]) :: (b1, svT ⟨mark, bs, ⟨none, 0, 0⟩⟩) :: (eb ++ fr))) w', fun n_ _ => n_.toNat,
    ⟨n0, [], d0, cs0, ⟨none, 0, 0⟩, [], rfl, by simpa using hn, rfl, rfl, hlf, hl, o, RowC.nil, by simpa using st⟩, ?_⟩
  clear st o hl hn hlf
  rintro n_ w1 ⟨n, acc, d, cs, bs, eb, rfl, hn, hA, hD, hlf, hl, o, rv, st⟩
  have hx := o
  obtain ⟨r, rbs, ro, rfl⟩ := o
  have hbl : bs.len = acc.length := by have := rv.len; rw [List.length_map] at this; omega
  have st1 : St w0 ((b2, [iV d.e]) :: (b3, [Value.pointer r]) :: (b4, [iV ((d.left : Nat) : Int)]) :: (rbs ++ ((b5, [wrongV b2 b3 b4]) :: (b6, [numV b2 b3 b5]) :: (b1, svT ⟨mark, bs, ⟨none, 0, 0⟩⟩) :: (eb ++ fr)))) w1 := st
  have behind : (n = 0 ∨ d.e ≠ 0) → ∀ {again_ : Int → World → Prop}, F_dump_Decode_k1 R b1 b2 b3 b5 b6 ((n : Nat) : Int) again_ false w1 := by
    intro hor again_
    rw [repM_stop hor, List.append_nil] at hA
    rw [repM_stop hor] at hD
    have hD : d = (repM numM n0 d0).2 := hD
    rw [← hA, ← hD] at k
    unfold F_dump_Decode_k1
    refine ⟨fun h => (by cases h), fun _ => ⟨r, st1.cell 1 rfl rfl, ?_⟩⟩
    have st1r : St w0 (rbs ++ ((b2, [iV d.e]) :: (b3, [Value.pointer r]) :: (b4, [iV ((d.left : Nat) : Int)]) :: (b5, [wrongV b2 b3 b4]) :: (b6, [numV b2 b3 b5]) :: (b1, svT ⟨mark, bs, ⟨none, 0, 0⟩⟩) :: (eb ++ fr))) w1 := st1.perm (perm_of_sum fun f_ => by simp <;> omega)
    refine sp_Reader_Var st1r ro fun rb2 w2 ro2 st2 => ?_
    have st2b : St w0 ((b2, [iV d.e]) :: (b5, [wrongV b2 b3 b4]) :: (b3, [Value.pointer r]) :: (b4, [iV ((d.left : Nat) : Int)]) :: (rb2 ++ ((b6, [numV b2 b3 b5]) :: (b1, svT ⟨mark, bs, ⟨none, 0, 0⟩⟩) :: (eb ++ fr)))) w2 := st2.perm (perm_of_sum fun f_ => by simp <;> omega)
    have st2c : St w0 (((b2, [iV d.e]) :: (b3, [Value.pointer r]) :: (b4, [iV ((d.left : Nat) : Int)]) :: rb2) ++ ((b5, [wrongV b2 b3 b4]) :: (b6, [numV b2 b3 b5]) :: (b1, svT ⟨mark, bs, ⟨none, 0, 0⟩⟩) :: (eb ++ fr))) w2 := st2.perm (perm_of_sum fun f_ => by simp <;> omega)
    have hvl := varR_le d.r
    have go : ∀ {cs' : List Chunk} {w' : World}, DcO b2 b3 b4 (keyD d) cs' → LfD (keyD d) → (keyD d).r.rest.length ≤ L → St w0 (cs' ++ ((b5, [wrongV b2 b3 b4]) :: (b6, [numV b2 b3 b5]) :: (b1, svT ⟨mark, bs, ⟨none, 0, 0⟩⟩) :: (eb ++ fr))) w' → F_dump_Decode_k2 R b1 b2 b3 b5 b6 (((varR d.r).2 : Nat) : Int) w' := by
      intro cs' w' o' hlf' hl' st'
      exact sp_dc_keys hL (varR_lt d.r) hlf' hl' o' st' fun cs hs hc w' o7 hh7 hv7 hl7 st7 => k cs ⟨mark, bs, hs⟩ eb hc w' o7 ⟨rfl, rv, hh7⟩ hv7 hl7 st7
    refine ⟨d.e, st2b.cell 0 rfl rfl, fun he => ⟨wrongV b2 b3 b4, st2b.cell 1 rfl rfl, ?_⟩, fun he => ?_⟩
    · have he : d.e = 0 := by simpa using he
      have hk : wrongM ⟨(varR d.r).1, d.e, d.left⟩ false 0 = keyD d := by unfold keyD; rw [if_pos he]
      refine sp_wrongV (d := ⟨(varR d.r).1, d.e, d.left⟩) ⟨r, rb2, ro2, rfl⟩ st2c fun cs5 w5 o5 st5 => ⟨_, rfl, ?_⟩
      rw [hk] at o5
      exact go o5 (by rw [← hk]; exact fun _ => rfl) (by rw [← hk]; show (varR d.r).1.rest.length ≤ L; omega) st5
    · have he : d.e ≠ 0 := by simpa using he
      have hk : (⟨(varR d.r).1, d.e, d.left⟩ : DS) = keyD d := by unfold keyD; rw [if_neg he]
      exact go (cs' := (b2, [iV d.e]) :: (b3, [Value.pointer r]) :: (b4, [iV ((d.left : Nat) : Int)]) :: rb2) (by rw [← hk]; exact ⟨r, rb2, ro2, rfl⟩) (by rw [← hk]; exact fun h => absurd h he) (by rw [← hk]; show (varR d.r).1.rest.length ≤ L; omega) st2c
  unfold F_dump_Decode_L0
  refine ⟨fun hi => ?_, fun hi => ?_⟩
  rotate_left
  · have hi := of_decide_eq_false hi
    exact behind (.inl (by omega))
  have hi := of_decide_eq_true hi
  refine ⟨d.e, st1.cell 0 rfl rfl, ?_⟩
  by_cases hde : d.e = 0
  rotate_left
  · rw [show (d.e == 0) = false from by simpa using hde]
    exact behind (.inr hde)
  rw [hde]
  obtain ⟨n, rfl⟩ : ∃ n', n = n' + 1 := ⟨n - 1, by omega⟩
  rw [repM, if_neg (by omega)] at hA hD
  have wn : IntKind.i64.wrap (((n + 1 : Nat) : Int) - 1) = ((n : Nat) : Int) := by rw [i64_in _ (by omega) (by omega)]; omega
  unfold F_dump_Decode_k1
  refine ⟨fun _ w2 hd2 => ?_, fun h => (by cases h)⟩
  have st2 := st.drew hd2
  have st2b : St w0 ((b1, svT ⟨mark, bs, ⟨none, 0, 0⟩⟩) :: (b6, [numV b2 b3 b5]) :: (((b2, [iV d.e]) :: (b3, [Value.pointer r]) :: (b4, [iV ((d.left : Nat) : Int)]) :: rbs) ++ ((b5, [wrongV b2 b3 b4]) :: (eb ++ fr)))) w2 := st2.perm (perm_of_sum fun f_ => by simp <;> omega)
  refine ⟨bs, st2b.cell 0 rfl rfl, numV b2 b3 b5, st2b.cell 1 rfl rfl, ?_⟩
  refine sp_numV hx st2 fun cs3 w3 o3 st3 => ⟨_, rfl, ?_⟩
  have st3b : St w0 ((b1, svT ⟨mark, bs, ⟨none, 0, 0⟩⟩) :: (eb ++ (cs3 ++ ((b5, [wrongV b2 b3 b4]) :: (b6, [numV b2 b3 b5]) :: fr)))) w3 := st3.perm (perm_of_sum fun f_ => by simp <;> omega)
  refine ⟨st3b.cell 0 rfl rfl, fun b7 w4 hb7 hw4 => ?_⟩
  have st4 := st3b.alloc (cs := [iV (numM d).1]) hb7 hw4
  refine ⟨st4.cell 1 rfl rfl, [iV (numM d).1], srcAt_newN hb7 hw4 rfl, ?_⟩
  have st4 : St w0 (eb ++ ((b1, svT ⟨mark, bs, ⟨none, 0, 0⟩⟩) :: (cs3 ++ ((b5, [wrongV b2 b3 b4]) :: (b6, [numV b2 b3 b5]) :: fr)))) w4 := st4.weak [(b7, [iV (numM d).1])] (perm_of_sum fun f_ => by simp <;> omega)
  refine rv.append st4 rfl rfl rfl (by rw [hbl]; omega) fun bs' eb' w5 rv' st5 hl5 => ?_
  have st5 : St w0 ((b1, svT ⟨mark, bs, ⟨none, 0, 0⟩⟩) :: (eb' ++ (cs3 ++ ((b5, [wrongV b2 b3 b4]) :: (b6, [numV b2 b3 b5]) :: fr)))) w5 := st5.perm (perm_of_sum fun f_ => by simp <;> omega)
  refine ⟨st5.writable 0 rfl (Nat.le_of_ble_eq_true rfl), fun w6 hw6 => ?_⟩
  have st6 : St w0 ((b1, svT ⟨mark, bs', ⟨none, 0, 0⟩⟩) :: (eb' ++ (cs3 ++ ((b5, [wrongV b2 b3 b4]) :: (b6, [numV b2 b3 b5]) :: fr)))) w6 := st5.put0 hw6
  rw [wn]
  have hle := numM_le d
  refine ⟨⟨n, acc ++ [(numM d).1], (numM d).2, cs3, bs', eb', rfl, by rw [List.length_append, List.length_singleton]; omega, by rw [List.append_assoc]; exact hA, hD, hlf.num, by omega, o3, ?_, st6.perm (perm_of_sum fun f_ => by simp <;> omega)⟩, by show Int.toNat _ < Int.toNat _; omega⟩
  rw [List.map_append]
  exact rv'
theorem sp_dump_Decode {b_ : Slc} {xs : List UInt8} (st : St w0 fr w) (hs : SrcAt w b_ 1 (xs.map bV)) (hl : b_.len ≤ 549755813888)
    (k : ∀ s' eb' hc' w', SavO s' (decM xs).1 eb' hc' → St w0 (eb' ++ (hc' ++ fr)) w' → R s' (decM xs).2 w') : C_dump_Decode b_ w R := by
  apply S_dump_Decode
  unfold F_dump_Decode
  have hxl : b_.len = xs.length := hs.len_eq
  intro b1 w1 hb1 hw1 b2 w2 hb2 hw2
  have st1 : St w0 ((b1, svT ⟨0, ⟨none, 0, 0⟩, ⟨none, 0, 0⟩⟩) :: fr) w1 := st.alloc hb1 hw1
  have st2 : St w0 ((b2, [iV 0]) :: (b1, svT ⟨0, ⟨none, 0, 0⟩, ⟨none, 0, 0⟩⟩) :: fr) w2 := st1.alloc hb2 hw2
  have e02 : Ext w w2 := (Ext.new hw1).trans (Ext.new hw2)
  refine sp_NewReader st2 (e02.src hs) (by omega) fun r rbs w3 ro st3 b3 w4 hb3 hw4 => ?_
  have st4 := st3.alloc hb3 hw4
  refine ⟨st4.writable 0 rfl (Nat.le_of_ble_eq_true rfl), fun w5 hw5 b4 w6 hb4 hw6 => ?_⟩
  have st5 : St w0 ((b3, [Value.pointer r]) :: (rbs ++ ((b2, [iV 0]) :: (b1, svT ⟨0, ⟨none, 0, 0⟩, ⟨none, 0, 0⟩⟩) :: fr))) w5 := st4.put0 hw5
  have st6 := st5.alloc hb4 hw6
  refine ⟨st6.writable 0 rfl (Nat.le_of_ble_eq_true rfl), fun w7 hw7 b5 w8 hb5 hw8 => ?_⟩
  have st7 : St w0 ((b4, [iV ((b_.len : Nat) : Int)]) :: (b3, [Value.pointer r]) :: (rbs ++ ((b2, [iV 0]) :: (b1, svT ⟨0, ⟨none, 0, 0⟩, ⟨none, 0, 0⟩⟩) :: fr))) w7 := st6.put0 hw7
  have st8 := st7.alloc hb5 hw8
  refine ⟨st8.writable 0 rfl (Nat.le_of_ble_eq_true rfl), fun w9 hw9 b6 w10 hb6 hw10 => ?_⟩
  have st9 : St w0 ((b5, [wrongV b2 b3 b4]) :: (b4, [iV ((b_.len : Nat) : Int)]) :: (b3, [Value.pointer r]) :: (rbs ++ ((b2, [iV 0]) :: (b1, svT ⟨0, ⟨none, 0, 0⟩, ⟨none, 0, 0⟩⟩) :: fr))) w9 := st8.put0 hw9
  have st10 := st9.alloc hb6 hw10
  refine ⟨st10.writable 0 rfl (Nat.le_of_ble_eq_true rfl), fun w11 hw11 => ?_⟩
  have st11 : St w0 ((b6, [numV b2 b3 b5]) :: (b5, [wrongV b2 b3 b4]) :: (b4, [iV ((b_.len : Nat) : Int)]) :: (b3, [Value.pointer r]) :: (rbs ++ ((b2, [iV 0]) :: (b1, svT ⟨0, ⟨none, 0, 0⟩, ⟨none, 0, 0⟩⟩) :: fr))) w11 := st10.put0 hw11
  refine ⟨numV b2 b3 b5, st11.cell 0 rfl rfl, ?_⟩
  rw [hxl] at st11
  have o11 : DcO b2 b3 b4 (d0M xs) ((b2, [iV 0]) :: (b3, [Value.pointer r]) :: (b4, [iV ((xs.length : Nat) : Int)]) :: rbs) := ⟨r, rbs, ro, rfl⟩
  have st11 : St w0 (((b2, [iV 0]) :: (b3, [Value.pointer r]) :: (b4, [iV ((xs.length : Nat) : Int)]) :: rbs) ++ ((b5, [wrongV b2 b3 b4]) :: (b6, [numV b2 b3 b5]) :: (b1, svT ⟨0, ⟨none, 0, 0⟩, ⟨none, 0, 0⟩⟩) :: fr)) w11 := st11.perm (perm_of_sum fun f_ => by simp <;> omega)
  refine sp_numV o11 st11 fun cs12 w12 o12 st12 => ⟨_, rfl, ?_⟩
  have st12 : St w0 ((b1, svT ⟨0, ⟨none, 0, 0⟩, ⟨none, 0, 0⟩⟩) :: (b6, [numV b2 b3 b5]) :: (cs12 ++ ((b5, [wrongV b2 b3 b4]) :: fr))) w12 := st12.perm (perm_of_sum fun f_ => by simp <;> omega)
  refine ⟨st12.writable 0 rfl (Nat.le_of_ble_eq_true rfl), fun w13 hw13 => ?_⟩
  have st13 : St w0 ((b1, svT ⟨(numM (d0M xs)).1, ⟨none, 0, 0⟩, ⟨none, 0, 0⟩⟩) :: (b6, [numV b2 b3 b5]) :: (cs12 ++ ((b5, [wrongV b2 b3 b4]) :: fr))) w13 := st12.put0 hw13
  refine ⟨numV b2 b3 b5, st13.cell 1 rfl rfl, ?_⟩
  have st13 : St w0 (cs12 ++ ((b5, [wrongV b2 b3 b4]) :: (b6, [numV b2 b3 b5]) :: (b1, svT ⟨(numM (d0M xs)).1, ⟨none, 0, 0⟩, ⟨none, 0, 0⟩⟩) :: fr)) w13 := st13.perm (perm_of_sum fun f_ => by simp <;> omega)
  refine sp_numV o12 st13 fun cs14 w14 o14 st14 => ⟨_, rfl, ?_⟩
  have hrng := numM_rng (numM (d0M xs)).2
  have hnn : (numM (numM (d0M xs)).2).1 = (((numM (numM (d0M xs)).2).1.toNat : Nat) : Int) := by omega
  have h1 := numM_le (d0M xs)
  have h2 := numM_le (numM (d0M xs)).2
  have h3 : (d0M xs).r.rest.length = xs.length := rfl
  have key := sp_dc_beg (R := R) (w0 := w0) (w := w14) (fr := fr) (cs0 := cs14) (b1 := b1) (b2 := b2) (b3 := b3) (b4 := b4) (b5 := b5) (b6 := b6) (mark := (numM (d0M xs)).1) (n0 := (numM (numM (d0M xs)).2).1.toNat) (L := xs.length) (d0 := (numM (numM (d0M xs)).2).2)
    (by omega) (by omega) (LfD.num (LfD.num fun _ => rfl)) (by omega) o14 st14 fun cs s eb hc w' o' hs' hv' hl' st' => by
      have hbl := repM_len (f := numM) (numM (numM (d0M xs)).2).1.toNat (numM (numM (d0M xs)).2).2
      exact sp_dc_k3 o' hs' hv' (by show (repM numM _ _).1.length ≤ _; omega) (by show (hldM _).1.length ≤ _; exact Nat.le_trans hl' (by decide)) st' k
  rw [← hnn] at key
  exact key
end
end Go.Proofs.Ytpdegdnigcnjiaa

namespace Go.Proofs.Ytpdegdnigcnjiaa
open Go
set_option linter.unusedVariables false
set_option linter.unusedSimpArgs false

namespace Parts
variable {α σ : Type} {In : α → σ → List Chunk → Prop}
/-- One of them is changed. -/
theorem upd : ∀ {xs : List α} {sls : List σ} {cs : List Chunk} {i : Nat} {x : α} {s : σ}, Parts In xs sls cs → xs[i]? = some x → sls[i]? = some s → ∃ a c b, cs = a ++ (c ++ b) ∧ In x s c ∧ ∀ x' s' c', In x' s' c' → Parts In (xs.set i x') (sls.set i s') (a ++ (c' ++ b))
  | [], _, _, i, x, s, _, h1, _ => by simp at h1
  | _ :: _, [], _, _, _, _, h, _, _ => h.elim
  | y :: xs, t :: sls, cs, 0, x, s, ⟨c, cs', e, h1, h2⟩, g1, g2 => by
    simp only [List.getElem?_cons_zero, Option.some.injEq] at g1 g2
    subst g1 g2
    exact ⟨[], c, cs', e, h1, fun x' s' c' h' => ⟨c', cs', rfl, h', h2⟩⟩
  | y :: xs, t :: sls, cs, i + 1, x, s, ⟨c, cs', e, h1, h2⟩, g1, g2 => by
    simp only [List.getElem?_cons_succ] at g1 g2
    obtain ⟨a, c2, b, e2, h, f⟩ := upd h2 g1 g2
    exact ⟨c ++ a, c2, b, by rw [e, e2, List.append_assoc], h, fun x' s' c' h' => ⟨c, a ++ (c' ++ b), by rw [List.append_assoc], h1, f x' s' c' h'⟩⟩
end Parts
def shN (c : Cfg) (h : Hd) : Nat := (shardF c h.1).1.toNat
def partM (c : Cfg) (hs : List Hd) (n : Nat) : List Hd := hs.filter fun h => decide (shN c h = n)
def splitM (c : Cfg) (hs : List Hd) : List (List Hd) := (List.range c.Shards.toNat).map (partM c hs)
theorem shard_rng {c : Cfg} {key : ByteArray} (hc : okCfg c) (hk : mayK key) : 0 ≤ (shardF c key).1 ∧ (shardF c key).1 < c.Shards ∧ (shardF c key).2 = 0 := by
  have h1 := hk.1
  have h2 := hk.2
  have h3 := hc.2.1
  have e : checkF c = 0 := if_pos hc
  unfold shardF
  rw [if_neg (by omega), if_neg (by omega)]
  have hf := fnv_u32 key.data.toList 2166136261 ⟨by decide, by decide⟩
  exact ⟨Int.tmod_nonneg _ hf.1, Int.tmod_lt_of_pos _ (by omega), rfl⟩
theorem splitM_len (c : Cfg) (hs : List Hd) : (splitM c hs).length = c.Shards.toNat := by unfold splitM; rw [List.length_map, List.length_range]
theorem splitM_at {c : Cfg} {hs : List Hd} {n : Nat} (h : n < c.Shards.toNat) : (splitM c hs)[n]? = some (partM c hs n) := by
  unfold splitM
  rw [List.getElem?_map, List.getElem?_range h]; rfl
theorem splitM_snoc {c : Cfg} {hs : List Hd} {h : Hd} (hn : shN c h < c.Shards.toNat) : splitM c (hs ++ [h]) = (splitM c hs).set (shN c h) (partM c hs (shN c h) ++ [h]) := by
  refine List.ext_getElem? fun i => ?_
  rw [List.getElem?_set, splitM_len]
  by_cases hi : i < c.Shards.toNat
  · rw [splitM_at hi, splitM_at hi]
    have e : partM c (hs ++ [h]) i = if shN c h = i then partM c hs i ++ [h] else partM c hs i := by
      unfold partM
      rw [List.filter_append]
      by_cases hh : shN c h = i
      · rw [if_pos hh]; simp [hh]
      · rw [if_neg hh]; simp [hh]
    rw [e]
    by_cases hh : shN c h = i
    · subst hh; rw [if_pos rfl, if_pos rfl, if_pos hi]
    · rw [if_neg hh, if_neg hh]
  · have h1 : (splitM c (hs ++ [h]))[i]? = none := List.getElem?_eq_none (by rw [splitM_len]; omega)
    have h2 : (splitM c hs)[i]? = none := List.getElem?_eq_none (by rw [splitM_len]; omega)
    rw [h1, h2]
    split
    · omega
    · rfl
def InL (hs : List Hd) (s : Slc) (c : List Chunk) : Prop := HdsO s hs c
/-- Lists of keys with their versions, all of one's own. -/
def OutO (sl : Slc) (ls : List (List Hd)) (cs : List Chunk) : Prop := ∃ (sls : List Slc) (tb pb : List Chunk), cs = tb ++ pb ∧ RowC 1 sl (sls.map slV) tb ∧ Parts InL ls sls pb
theorem parts_nils (n : Nat) (c : Cfg) : Parts InL ((List.replicate n ()).map fun _ => ([] : List Hd)) (List.replicate n ⟨none, 0, 0⟩) [] := by
  induction n with
  | zero => exact Parts.nil
  | succ n ih => exact ⟨[], [], rfl, HdsO.nil, ih⟩
theorem splitM_nil (c : Cfg) : splitM c [] = (List.replicate c.Shards.toNat ()).map fun _ => ([] : List Hd) := by
  refine List.ext_getElem? fun i => ?_
  by_cases hi : i < c.Shards.toNat
  · rw [splitM_at hi, List.getElem?_map, List.getElem?_replicate, if_pos hi]; rfl
  · rw [List.getElem?_eq_none (by rw [splitM_len]; omega), List.getElem?_eq_none (by simp; omega)]
/-- A key with its versions is put behind. -/
theorem HdsO.append {sl s2 : Slc} {hs : List Hd} {hc rb l : List Chunk} {h : Hd} {w0 : Base} {w : World} {K : Slc → World → Prop} (hh : HdsO sl hs hc) (st : St w0 (hc ++ (rb ++ l)) w) (hv : InV h s2 rb) (hl : hs.length ≤ 1099511627776)
    (k : ∀ sl' hc' w', HdsO sl' (hs ++ [h]) hc' → St w0 (hc' ++ l) w' → K sl' w') : AppendW 2 40 ty_api_Held [Value.string ByteArray.empty, Value.slice none 0 0] sl (hldT (h.1, s2)) 1 w K := by
  obtain ⟨vsl, tb, pb, rfl, rt, ps⟩ := hh
  have hvl := ps.len
  have htl : sl.len = hs.length := by
    have := rt.len
    rw [zipRow_len (sz := 2) (fun _ => rfl) hvl] at this
    omega
  have st1 : St w0 (tb ++ (pb ++ (rb ++ l))) w := st.perm (perm_of_sum fun f_ => by simp <;> omega)
  refine rt.append st1 rfl rfl rfl (by rw [htl]; omega) fun sl' tb' w2 rt' st2 hl2 => ?_
  refine k sl' (tb' ++ (pb ++ rb)) w2 ⟨vsl ++ [s2], tb', pb ++ rb, rfl, ?_, ps.snoc hv⟩ (st2.perm (perm_of_sum fun f_ => by simp <;> omega))
  rw [zip_snoc (f := fun p : Hd × Slc => hdV p.1.1 p.2) hvl]
  exact rt'
section
variable {w : World} {s : T_api_Saved} {m : SvM} {os : List HO} {c : Cfg}
theorem sp_dump_Split {R : Slc → Int → World → Prop} (ha : SvAt w s m os) (hsm : s.Held.len ≤ 549755813888) (k1 : checkF c ≠ 0 → ∀ w', Ext w w' → R ⟨none, 0, 0⟩ (checkF c) w') (k2 : checkF c = 0 → ¬ ckOk m → ∀ w', Ext w w' → R ⟨none, 0, 0⟩ 1 w')
    (k0 : okCfg c → ckOk m → ∀ sl cs w', OutO sl (splitM c m.held) cs → St ⟨w, []⟩ cs w' → R sl 0 w') : C_dump_Split c s w R := by
  apply S_dump_Split
  unfold F_dump_Split
  intro b w1 hb hw1 b1 w2 hb1 hw2
  have st1 : St ⟨w, []⟩ [(b, cfgV c)] w1 := (St.start w).alloc hb hw1
  have st2 : St ⟨w, []⟩ [(b1, svT s), (b, cfgV c)] w2 := st1.alloc hb1 hw2
  refine ⟨c, (st2.get 1 rfl).all, sp_conf_Check fun w3 e3 => ?_⟩
  have st3 := st2.keep e3
  refine ⟨fun h => k1 (by simpa using h) w3 st3.ext, fun h => ?_⟩
  have hc0 : checkF c = 0 := by simpa using h
  have hc := check_zero hc0
  have hS := hc.2.1
  refine ⟨s, (st3.get 0 rfl).all, sp_dump_Check (ha.ext st3.ext) fun w4 e4 => ?_⟩
  have st4 := st3.keep e4
  by_cases hk : ckOk m
  rotate_left
  · rw [ckE_no hk]
    exact ⟨fun _ => k2 hc0 hk w4 st4.ext, fun h => (by simp at h)⟩
  rw [ckE_ok hk]
  refine ⟨fun h => (by simp at h), fun _ => ⟨c.Shards, st4.cell 1 rfl rfl, by omega, by omega, by omega, fun b2 w5 hb2 hw5 => ?_⟩⟩
  have st5 := st4.alloc hb2 hw5
  have hrep : ∀ n : Nat, (repCells n [Value.slice none 0 0]).toList = (List.replicate n (⟨none, 0, 0⟩ : Slc)).map slV := fun n => by
    unfold repCells
    simp
  have st5 : St ⟨w, []⟩ ((b2, (List.replicate c.Shards.toNat (⟨none, 0, 0⟩ : Slc)).map slV) :: [(b1, svT s), (b, cfgV c)]) w5 := by rw [← hrep]; exact st5
  have hsl : s.Held.len = os.length := by have := ha.held.src.1; rw [flatMap_len (sz := 2) (fun _ => rfl)] at this; omega
  have hml : m.held.length = os.length := by rw [← ha.hos, List.length_map]
  have hhl := ha.hlen
  have stn : ((c.Shards.toNat : Nat) : Int) = c.Shards := by omega
  refine ⟨s.Held, st5.cell 1 rfl rfl, fun i w' => ∃ (p : Nat) (sls : List Slc) (pb : List Chunk), i = (p : Int) ∧ p ≤ s.Held.len ∧ Parts InL (splitM c (m.held.take p)) sls pb ∧ St ⟨w, []⟩ ((b2, sls.map slV) :: (pb ++ [(b1, svT s), (b, cfgV c)])) w', fun i _ => s.Held.len - i.toNat,
    ⟨0, List.replicate c.Shards.toNat ⟨none, 0, 0⟩, [], rfl, by omega, by rw [List.take_zero, splitM_nil]; exact parts_nils _ c, by simpa using st5⟩, ?_⟩
  clear st5 st4 st3 st2 st1 e3 e4 hw1 hw2 hw5
  rintro i w6 ⟨p, sls, pb, rfl, hp, ps, st⟩
  unfold F_dump_Split_L0
  have hpl := ps.len
  rw [splitM_len] at hpl
  refine ⟨fun hi => ?_, fun hi => ?_⟩
  rotate_left
  · have hi := of_decide_eq_false hi
    have e : m.held.take p = m.held := List.take_of_length_le (by omega)
    rw [e] at ps
    exact k0 hc hk _ ((b2, sls.map slV) :: pb) w6 ⟨sls, [(b2, sls.map slV)], pb, rfl, RowC.new (by rw [List.length_map, Nat.mul_one]; exact hpl), ps⟩ (st.weak [(b1, svT s), (b, cfgV c)] (perm_of_sum fun f_ => by simp <;> omega))
  have hi := of_decide_eq_true hi
  have wp : IntKind.i64.wrap ((p : Int) + 1) = ((p + 1 : Nat) : Int) := by rw [i64_in _ (by omega) (by omega)]; omega
  obtain ⟨a, o, ho, hcc⟩ := SrcAt.getN (st.ext.src ha.held.src) (fun _ => rfl) (by decide) (i := (p : Int)) (by omega) (by omega)
  rw [Int.toNat_natCast] at ho hcc
  have hom := List.mem_of_getElem? ho
  have hod : m.held[p]? = some (hoD o) := by rw [← ha.hos]; exact hdOf_at ho
  have hg := hk.2.2.1.1 _ (List.mem_of_getElem? hod)
  have hkey : mayK o.1 := hg.1
  obtain ⟨hr0, hr1, hr2⟩ := shard_rng hc hkey
  have hsh : shN c (hoD o) < c.Shards.toNat := by unfold shN; show (shardF c o.1).1.toNat < _; omega
  have hN : (shardF c o.1).1 = ((shN c (hoD o) : Nat) : Int) := by unfold shN; show _ = (((shardF c o.1).1.toNat : Nat) : Int); omega
  have stb : St ⟨w, []⟩ ((b1, svT s) :: (b, cfgV c) :: ((b2, sls.map slV) :: pb)) w6 := st.perm (perm_of_sum fun f_ => by simp <;> omega)
  refine ⟨s.Held, stb.cell 0 rfl rfl, a, by omega, hi, ⟨o.1, o.2.2⟩, by rw [Int.toNat_natCast]; exact hcc, fun b3 w7 hb3 hw7 => ?_⟩
  have st7 := stb.alloc hb3 hw7
  refine ⟨st7.writable 0 rfl (Nat.le_of_ble_eq_true rfl), fun w8 hw8 => ?_⟩
  have st8 : St ⟨w, []⟩ ((b3, hoT o) :: (b1, svT s) :: (b, cfgV c) :: ((b2, sls.map slV) :: pb)) w8 := st7.put0 hw8
  refine ⟨c, (st8.get 2 rfl).all, o.1, st8.cell 0 rfl rfl, sp_conf_Shard (by have := hkey.2; omega) fun w9 e9 w10 hd10 => ?_⟩
  have st10 := (st8.keep e9).drew hd10
  obtain ⟨sN, hsN⟩ : ∃ sN, sls[shN c (hoD o)]? = some sN := ⟨_, List.getElem?_eq_getElem (by omega)⟩
  have hcell : ∀ {l : List Chunk} {w' : World}, St ⟨w, []⟩ ((b2, sls.map slV) :: l) w' → w'.cell? ⟨b2, 0 + (((shN c (hoD o) : Nat) : Int)).toNat, none⟩ = some (slV sN) := fun {l w'} st' => by
    refine st'.cell 0 rfl ?_
    rw [Int.toNat_natCast, Nat.zero_add, List.getElem?_map, hsN]; rfl
  rw [hN]
  have st10b : St ⟨w, []⟩ ((b2, sls.map slV) :: (b3, hoT o) :: (b1, svT s) :: (b, cfgV c) :: pb) w10 := st10.perm (perm_of_sum fun f_ => by simp <;> omega)
  obtain ⟨hov, hovl⟩ := (ha.ext st10.ext).held.ver o hom
  refine ⟨by omega, by omega, sN, hcell st10b, o.1, st10.cell 0 rfl rfl, o.2.2, st10.cell 0 rfl rfl, sp_CloneVer hov hovl fun s2 rb w11 r11 st11 hl11 => ?_⟩
  have st11 := st10.more st11
  have st11 : St ⟨w, []⟩ ((b2, sls.map slV) :: (b3, hoT o) :: (rb ++ (pb ++ [(b1, svT s), (b, cfgV c)]))) w11 := st11.perm (perm_of_sum fun f_ => by simp <;> omega)
  refine ⟨st11.cell 1 rfl rfl, hcell st11, fun b4 w12 hb4 hw12 => ?_⟩
  have st12 := st11.alloc (cs := hldT (o.1, s2)) hb4 hw12
  have st12b : St ⟨w, []⟩ ((b2, sls.map slV) :: (b4, hldT (o.1, s2)) :: (b3, hoT o) :: (rb ++ (pb ++ [(b1, svT s), (b, cfgV c)]))) w12 := st12.perm (perm_of_sum fun f_ => by simp <;> omega)
  refine ⟨hcell st12b, hldT (o.1, s2), srcAt_newN hb4 hw12 rfl, ?_⟩
  obtain ⟨pa, pc, pz, rfl, hin, fupd⟩ := ps.upd (splitM_at hsh) hsN
  have hin : HdsO sN (partM c (m.held.take p) (shN c (hoD o))) pc := hin
  have st12c : St ⟨w, []⟩ (pc ++ (rb ++ ((b2, sls.map slV) :: (pa ++ (pz ++ [(b1, svT s), (b, cfgV c)]))))) w12 := st12b.weak [(b4, hldT (o.1, s2)), (b3, hoT o)] (perm_of_sum fun f_ => by simp <;> omega)
  refine hin.append (h := hoD o) st12c r11 ?_ fun sl' hc' w13 hh' st13 => ?_
  · have h1 : (partM c (m.held.take p) (shN c (hoD o))).length ≤ (m.held.take p).length := List.length_filter_le ..
    rw [List.length_take] at h1
    omega
  have st13 : St ⟨w, []⟩ ((b2, sls.map slV) :: (hc' ++ (pa ++ (pz ++ [(b1, svT s), (b, cfgV c)])))) w13 := st13.perm (perm_of_sum fun f_ => by simp <;> omega)
  refine ⟨by omega, by omega, st13.writable 0 rfl (by rw [List.length_map, Int.toNat_natCast]; omega), fun w14 hw14 => ?_⟩
  have st14 := st13.put0 hw14
  rw [Int.toNat_natCast, Nat.zero_add, putL_one] at st14
  have e14 : (sls.map slV).set (shN c (hoD o)) (slV sl') = (sls.set (shN c (hoD o)) sl').map slV := by rw [List.map_set]
  have st14 : St ⟨w, []⟩ ((b2, (sls.set (shN c (hoD o)) sl').map slV) :: (hc' ++ (pa ++ (pz ++ [(b1, svT s), (b, cfgV c)])))) w14 := by rw [← e14]; exact st14
  rw [wp]
  refine ⟨⟨p + 1, sls.set (shN c (hoD o)) sl', pa ++ (hc' ++ pz), rfl, by omega, ?_, st14.perm (perm_of_sum fun f_ => by simp <;> omega)⟩, by show _ - _ < _ - _; omega⟩
  rw [List.take_add_one, hod]
  show Parts InL (splitM c (m.held.take p ++ [hoD o])) _ _
  rw [splitM_snoc hsh]
  exact fupd _ sl' hc' hh'
end
end Go.Proofs.Ytpdegdnigcnjiaa

namespace Go.Proofs.Ytpdegdnigcnjiaa
open Go
set_option linter.unusedVariables false
set_option linter.unusedSimpArgs false

section
variable {w0 : Base} {w : World} {fr bs : List Chunk}
theorem sp_SameBytes {a b : Slc} {xs ys : List UInt8} {R : Bool → World → Prop} (ha : SrcAt w a 1 (xs.map bV)) (hb : SrcAt w b 1 (ys.map bV)) (hl : a.len ≤ 4611686018427387904)
    (k : ∀ w', Ext w w' → R (decide (xs = ys)) w') : C_towpathlaw01_SameBytes a b w R := by
  apply S_towpathlaw01_SameBytes
  unfold F_towpathlaw01_SameBytes
  have la := ha.len_eq
  have lb := hb.len_eq
  refine ⟨fun h => ?_, fun h => ?_⟩
  · have h : xs.length ≠ ys.length := by
      rw [la, lb] at h
      have : (xs.length : Int) ≠ (ys.length : Int) := by simpa using h
      omega
    have := k w (Ext.refl _)
    rw [decide_eq_false (fun e => h (by rw [e]))] at this
    exact this
  have h : xs.length = ys.length := by
    rw [la, lb] at h
    have : (xs.length : Int) = (ys.length : Int) := by simpa using h
    omega
  refine ⟨fun i w' => Ext w w' ∧ 0 ≤ i ∧ i ≤ a.len ∧ ∀ j, j < i.toNat → xs[j]? = ys[j]?, fun i _ => a.len - i.toNat, ⟨Ext.refl _, by omega, by omega, fun j hj => by omega⟩, ?_⟩
  rintro i w1 ⟨e, h0, h1, hj⟩
  unfold F_towpathlaw01_SameBytes_L0
  refine ⟨fun hi => ?_, fun hi => ?_⟩
  · have hi := of_decide_eq_true hi
    obtain ⟨pa, x, hx, hc⟩ := (e.src ha).get h0 hi
    obtain ⟨pb, y, hy, hd⟩ := (e.src hb).get h0 (show i < ((b.len : Nat) : Int) by omega)
    have wi : IntKind.i64.wrap (i + 1) = i + 1 := wrap_next h0 hi (by omega)
    refine ⟨pa, h0, hi, _, hc, pb, h0, by omega, _, hd, fun w2 e2 => ⟨fun hne => ?_, fun heq => ?_⟩⟩
    · have hne : x ≠ y := fun e => by rw [e] at hne; simp at hne
      have := k w2 (e.trans e2)
      rw [decide_eq_false (fun e => hne (by rw [e, hy] at hx; exact (Option.some.inj hx).symm))] at this
      exact this
    · have heq : x = y := by
        have : (x.toNat : Int) = (y.toNat : Int) := by simpa using heq
        exact UInt8.toNat_inj.1 (by omega)
      rw [wi]
      refine ⟨⟨e.trans e2, by omega, by omega, fun j hjlt => ?_⟩, by show _ - _ < _ - _; omega⟩
      rw [toNat_next h0] at hjlt
      by_cases hji : j = i.toNat
      · rw [hji, hx, hy, heq]
      · exact hj j (by omega)
  · have hi := of_decide_eq_false hi
    have := k w1 e
    rw [decide_eq_true (List.ext_getElem? fun j => by
      by_cases hjl : j < xs.length
      · exact hj j (by omega)
      · rw [List.getElem?_eq_none (by omega), List.getElem?_eq_none (by omega)])] at this
    exact this

end
end Go.Proofs.Ytpdegdnigcnjiaa

namespace Go.Proofs.Ytpdegdnigcnjiaa
open Go
set_option linter.unusedVariables false
set_option linter.unusedSimpArgs false

theorem blkSrc {w0 : Base} {w : World} {b n sz : Nat} {vs : List Value} {l : List Chunk} (st : St w0 ((b, vs) :: l) w) (h : vs.length = n * sz) : SrcAt w ⟨some ⟨b, 0, none⟩, n, n⟩ sz vs := (RowC.new (b := b) (n := n) h : RowC sz ⟨some ⟨b, 0, none⟩, n, n⟩ vs [(b, vs)]).src st
def kA : ByteArray := ByteArray.mk #[97]
def kB : ByteArray := ByteArray.mk #[98]
def vsA : List Ver := [⟨2, ByteArray.mk #[120], false⟩, ⟨5, ByteArray.empty, true⟩]
def vsB : List Ver := [⟨5, ByteArray.empty, false⟩]
def smp : SvM := ⟨3, [5], [(kA, vsA), (kB, vsB)]⟩
theorem smp_ok : ckOk smp := by
  have hl : lessK (kA, vsA) (kB, vsB) := by
    show Op.bytesLess kA.toList kB.toList = true
    rw [ByteArray.toList_eq, ByteArray.toList_eq]
    decide
  have hA : okC 0 vsA = true := by decide +kernel
  have hB : okC 0 vsB = true := by decide +kernel
  refine ⟨⟨by decide, by decide⟩, ⟨by decide, by decide, trivial⟩, ⟨fun h hh => ?_, List.pairwise_cons.2 ⟨fun x hx => ?_, List.pairwise_singleton ..⟩⟩, fun h hh => ?_⟩
  · have hh : h ∈ [(kA, vsA), (kB, vsB)] := hh
    rcases List.mem_cons.1 hh with rfl | hh
    · exact ⟨⟨by decide, by decide⟩, by simp [vsA], hA⟩
    · rw [List.mem_singleton.1 hh]
      exact ⟨⟨by decide, by decide⟩, by simp [vsB], hB⟩
  · rw [List.mem_singleton.1 hx]; exact hl
  · have hh : h ∈ [(kA, vsA), (kB, vsB)] := hh
    rcases List.mem_cons.1 hh with rfl | hh
    · intro i v hv
      have hv : vsA[i]? = some v := hv
      match i, hv with
      | 0, hv => obtain rfl := Option.some.inj hv; exact ⟨fun _ => ⟨rfl, rfl⟩, fun h => absurd h (by decide)⟩
      | 1, hv => obtain rfl := Option.some.inj hv; exact ⟨fun h => absurd h (by decide), fun _ => List.mem_singleton.2 rfl⟩
      | i + 2, hv => cases hv
    · rw [List.mem_singleton.1 hh]
      intro i v hv
      have hv : vsB[i]? = some v := hv
      match i, hv with
      | 0, hv => obtain rfl := Option.some.inj hv; exact ⟨fun h => absurd h (by decide), fun _ => List.mem_singleton.2 rfl⟩
      | i + 1, hv => cases hv
def smpB : List UInt8 := [3, 1, 5, 2, 1, 97, 2, 2, 0, 1, 120, 5, 1, 1, 98, 1, 5, 0, 0]
theorem smp_enc : encS smp = smpB := by decide +kernel
theorem dec_00 : decM [0, 0] = (zSv, 5) := by
  have h : (allD [0, 0]).2.e = 5 := by decide +kernel
  unfold decM
  rw [if_pos (by rw [h]; decide), h]
section
variable {w : World}
theorem sp_sample {R : T_api_Saved → World → Prop} (k : ∀ s os w', SvAt w' s smp os → Ext w w' → R s w') : C_towpathlaw18_sample w R := by
  apply S_towpathlaw18_sample
  unfold F_towpathlaw18_sample
  intro b w1 hb hw1 b1 w2 hb1 hw2 b2 w3 hb2 hw3 b3 w4 hb3 hw4 b4 w5 hb4 hw5
  have st1 : St ⟨w, []⟩ [(b, svT ⟨0, ⟨none, 0, 0⟩, ⟨none, 0, 0⟩⟩)] w1 := (St.start w).alloc hb hw1
  have st2 : St ⟨w, []⟩ [(b1, [iV 5]), (b, svT ⟨0, ⟨none, 0, 0⟩, ⟨none, 0, 0⟩⟩)] w2 := st1.alloc hb1 hw2
  have st3 : St ⟨w, []⟩ [(b2, vsA.flatMap verT), (b1, [iV 5]), (b, svT ⟨0, ⟨none, 0, 0⟩, ⟨none, 0, 0⟩⟩)] w3 := st2.alloc hb2 hw3
  have st4 : St ⟨w, []⟩ [(b3, vsB.flatMap verT), (b2, vsA.flatMap verT), (b1, [iV 5]), (b, svT ⟨0, ⟨none, 0, 0⟩, ⟨none, 0, 0⟩⟩)] w4 := st3.alloc hb3 hw4
  have st5 := st4.alloc hb4 hw5
  obtain ⟨os, hos⟩ : ∃ os : List HO, os = [(kA, vsA, ⟨some ⟨b2, 0, none⟩, 2, 2⟩), (kB, vsB, ⟨some ⟨b3, 0, none⟩, 1, 1⟩)] := ⟨_, rfl⟩
  have st5 : St ⟨w, []⟩ [(b4, os.flatMap hoT), (b3, vsB.flatMap verT), (b2, vsA.flatMap verT), (b1, [iV 5]), (b, svT ⟨0, ⟨none, 0, 0⟩, ⟨none, 0, 0⟩⟩)] w5 := by rw [hos]; exact st5
  have st5b : St ⟨w, []⟩ [(b, svT ⟨0, ⟨none, 0, 0⟩, ⟨none, 0, 0⟩⟩), (b4, os.flatMap hoT), (b3, vsB.flatMap verT), (b2, vsA.flatMap verT), (b1, [iV 5])] w5 := st5.perm (perm_of_sum fun f_ => by simp <;> omega)
  refine ⟨st5b.writable 0 rfl (Nat.le_of_ble_eq_true rfl), fun w6 hw6 => ?_⟩
  have st6 : St ⟨w, []⟩ [(b, svT ⟨3, ⟨some ⟨b1, 0, none⟩, 1, 1⟩, ⟨some ⟨b4, 0, none⟩, 2, 2⟩⟩), (b4, os.flatMap hoT), (b3, vsB.flatMap verT), (b2, vsA.flatMap verT), (b1, [iV 5])] w6 := st5b.put0 hw6
  refine ⟨⟨3, ⟨some ⟨b1, 0, none⟩, 1, 1⟩, ⟨some ⟨b4, 0, none⟩, 2, 2⟩⟩, (st6.get 0 rfl).all, k _ os w6 ⟨rfl, ?_, ⟨?_, fun o ho => ?_⟩, by rw [hos]; rfl, Nat.le_of_ble_eq_true rfl, Nat.le_of_ble_eq_true rfl, fun o ho => ?_⟩ st6.ext⟩
  · have s : St ⟨w, []⟩ ((b1, [iV 5]) :: [(b, svT ⟨3, ⟨some ⟨b1, 0, none⟩, 1, 1⟩, ⟨some ⟨b4, 0, none⟩, 2, 2⟩⟩), (b4, os.flatMap hoT), (b3, vsB.flatMap verT), (b2, vsA.flatMap verT)]) w6 := st6.perm (perm_of_sum fun f_ => by simp <;> omega)
    exact blkSrc s rfl
  · have s : St ⟨w, []⟩ ((b4, os.flatMap hoT) :: [(b, svT ⟨3, ⟨some ⟨b1, 0, none⟩, 1, 1⟩, ⟨some ⟨b4, 0, none⟩, 2, 2⟩⟩), (b3, vsB.flatMap verT), (b2, vsA.flatMap verT), (b1, [iV 5])]) w6 := st6.perm (perm_of_sum fun f_ => by simp <;> omega)
    exact blkSrc s (by rw [hos]; rfl)
  · rw [hos] at ho
    rcases List.mem_cons.1 ho with rfl | ho
    · have s : St ⟨w, []⟩ ((b2, vsA.flatMap verT) :: [(b, svT ⟨3, ⟨some ⟨b1, 0, none⟩, 1, 1⟩, ⟨some ⟨b4, 0, none⟩, 2, 2⟩⟩), (b4, os.flatMap hoT), (b3, vsB.flatMap verT), (b1, [iV 5])]) w6 := st6.perm (perm_of_sum fun f_ => by simp <;> omega)
      exact ⟨blkSrc s rfl, by show 2 * 32 ≤ _; omega⟩
    · rw [List.mem_singleton.1 ho]
      have s : St ⟨w, []⟩ ((b3, vsB.flatMap verT) :: [(b, svT ⟨3, ⟨some ⟨b1, 0, none⟩, 1, 1⟩, ⟨some ⟨b4, 0, none⟩, 2, 2⟩⟩), (b4, os.flatMap hoT), (b2, vsA.flatMap verT), (b1, [iV 5])]) w6 := st6.perm (perm_of_sum fun f_ => by simp <;> omega)
      exact ⟨blkSrc s rfl, by show 1 * 32 ≤ _; omega⟩
  · rw [hos] at ho
    rcases List.mem_cons.1 ho with rfl | ho
    · show 2 ≤ _; omega
    · rw [List.mem_singleton.1 ho]; show 1 ≤ _; omega
theorem sp_dAlive {R : Bool → World → Prop} (k : ∀ w', Ext w w' → R true w') : C_towpathlaw18_alive w R := by
  apply S_towpathlaw18_alive
  unfold F_towpathlaw18_alive
  refine sp_sample fun s os w1 ha e1 => ?_
  refine sp_dump_Encode ha (by rw [smp_enc]; decide) (fun hn => absurd smp_ok hn) fun _ c rb w2 rc st2 hcl => ?_
  rw [smp_enc] at rc hcl
  intro b1 w3 hb1 hw3
  have st3 : St ⟨w1, []⟩ ((b1, [bV 0, bV 0]) :: rb) w3 := st2.alloc hb1 hw3
  refine sp_dump_Decode (xs := [0, 0]) st3 (blkSrc st3 rfl) (Nat.le_of_ble_eq_true rfl) fun s' eb' hc' w4 hs' st4 b2 w5 hb2 hw5 => ?_
  rw [dec_00] at hs' ⊢
  have st5 := st4.alloc (cs := svT ⟨0, ⟨none, 0, 0⟩, ⟨none, 0, 0⟩⟩) hb2 hw5
  refine ⟨st5.writable 0 rfl (Nat.le_of_ble_eq_true rfl), fun w6 hw6 => ⟨fun _ b3 w7 hb3 hw7 => ?_, fun h => (by simp at h)⟩⟩
  have st6 : St ⟨w1, []⟩ ((b2, svT s') :: (eb' ++ (hc' ++ ((b1, [bV 0, bV 0]) :: rb)))) w6 := st5.put0 hw6
  have st7 : St ⟨w1, []⟩ ((b3, [iV 4]) :: (b2, svT s') :: (eb' ++ (hc' ++ ((b1, [bV 0, bV 0]) :: rb)))) w7 := st6.alloc hb3 hw7
  have hat : SvAt w7 (T_api_Saved.mk 3 (Slc.mk (some ⟨b3, 0, none⟩) 1 1) (Slc.mk none 0 0)) ⟨3, [4], []⟩ [] := by
    refine ⟨rfl, blkSrc st7 rfl, ⟨RowC.nil.src (l := _) st7, fun o ho => (by cases ho)⟩, rfl, Nat.le_of_ble_eq_true rfl, Nat.le_of_ble_eq_true rfl, fun o ho => (by cases ho)⟩
  refine sp_dump_Check hat fun w8 e8 => ?_
  have hno : ¬ ckOk ⟨3, [4], []⟩ := fun h => by have : (3 : Int) + 1 < 4 := h.2.1.1; omega
  rw [ckE_no hno]
  refine ⟨fun _ b4 w9 hb4 hw9 => ?_, fun h => (by simp at h)⟩
  have st8 := st7.keep e8
  have st9 : St ⟨w1, []⟩ ((b4, smpB.map bV) :: (b3, [iV 4]) :: (b2, svT s') :: (eb' ++ (hc' ++ ((b1, [bV 0, bV 0]) :: rb)))) w9 := st8.alloc hb4 hw9
  have st9b : St ⟨w1, []⟩ (rb ++ ((b4, smpB.map bV) :: (b3, [iV 4]) :: (b2, svT s') :: (eb' ++ (hc' ++ [(b1, [bV 0, bV 0])])))) w9 := st9.perm (perm_of_sum fun f_ => by simp <;> omega)
  refine sp_SameBytes (rc.src st9b) (blkSrc (n := 19) st9 rfl) (by rw [hcl]; decide) fun w10 e10 => ?_
  rw [decide_eq_true rfl]
  exact k w10 (e1.trans (st9.keep e10).ext)
end
end Go.Proofs.Ytpdegdnigcnjiaa

namespace Go.Proofs.Ytpdegdnigcnjiaa
open Go
set_option linter.unusedVariables false
set_option linter.unusedSimpArgs false

def beyondF : Int → List Int → Bool
  | _, [] => false
  | n, x :: r => if IntKind.i64.wrap (n + x) > 1048576 then true else beyondF (IntKind.i64.wrap (n + x)) r

theorem sp_towpathlaw01_Beyond {s : Slc} {w : World} {R : Bool → World → Prop} {xs : List Int} (hs : SrcAt w s 1 (xs.map (Value.int .i64))) (hl : s.len ≤ 4611686018427387904)
    (h : R (beyondF 0 xs) w) : C_towpathlaw01_Beyond s w R := by
  apply S_towpathlaw01_Beyond
  unfold F_towpathlaw01_Beyond
  have hlen := hs.len_eq
  refine ⟨fun n i w' => w' = w ∧ 0 ≤ i ∧ i ≤ s.len ∧ beyondF n (xs.drop i.toNat) = beyondF 0 xs, fun n i w' => s.len - i.toNat, ⟨rfl, by omega, by omega, by simp⟩, ?_⟩
  rintro n i _ ⟨rfl, h0, h1, hb⟩
  unfold F_towpathlaw01_Beyond_L0
  refine ⟨fun hi => ?_, fun hi => ?_⟩
  · have hi := of_decide_eq_true hi
    obtain ⟨ha, x, hx, hc⟩ := hs.get h0 hi
    rw [drop_get hx, beyondF] at hb
    refine ⟨ha, h0, hi, x, hc, fun hg => ?_, fun hg => ?_⟩
    · rw [if_pos (of_decide_eq_true hg)] at hb
      rw [← hb] at h; exact h
    · rw [if_neg (of_decide_eq_false hg)] at hb
      have hw := wrap_next h0 hi hl
      refine ⟨⟨rfl, by omega, by omega, ?_⟩, by simp only [hw]; omega⟩
      rw [hw, toNat_next h0]; exact hb
  · have hi := of_decide_eq_false hi
    rw [drop_end (by omega), beyondF] at hb
    rw [← hb] at h; exact h

end Go.Proofs.Ytpdegdnigcnjiaa

namespace Go.Proofs.Ytpdegdnigcnjiaa
open Go
set_option linter.unusedVariables false
set_option linter.unusedSimpArgs false

section
variable {w w1 : World} {b : Nat} {T : TypeId} {x y : Int}
end
end Go.Proofs.Ytpdegdnigcnjiaa

namespace Go.Proofs.Ytpdegdnigcnjiaa
open Go
set_option linter.unusedVariables false
set_option linter.unusedSimpArgs false

section
variable {w : World} {a b : Slc}
theorem sp_SameVerT {xs : List T_api_Version} {R : Bool → World → Prop} (ha : SrcAt w a 3 (xs.flatMap verT)) (hb : SrcAt w b 3 (xs.flatMap verT)) (hl : a.len ≤ 4611686018427387904)
    (k : ∀ w', Ext w w' → R true w') : C_towpathlaw01_SameVersions a b w R := by
  apply S_towpathlaw01_SameVersions
  unfold F_towpathlaw01_SameVersions
  have la := ha.1
  have lb := hb.1
  rw [flatMap_len (sz := 3) (fun _ => rfl)] at la lb
  refine ⟨fun h => absurd h (by rw [bne_iff_ne]; omega), fun _ => ?_⟩
  refine ⟨fun i w' => Ext w w' ∧ ∃ p : Nat, i = (p : Int) ∧ p ≤ a.len, fun i _ => a.len - i.toNat, ⟨Ext.refl _, 0, rfl, by omega⟩, ?_⟩
  rintro i w1 ⟨e, p, rfl, h1⟩
  unfold F_towpathlaw01_SameVersions_L0
  refine ⟨fun hi => ?_, fun _ => k w1 e⟩
  have hi := of_decide_eq_true hi
  obtain ⟨pa, x, hx, hc⟩ := SrcAt.getN (e.src ha) (fun _ => rfl) (by decide) (i := (p : Int)) (by omega) (by omega)
  obtain ⟨pb, y, hy, hd⟩ := SrcAt.getN (e.src hb) (fun _ => rfl) (by decide) (i := (p : Int)) (by omega) (by omega)
  obtain rfl : x = y := by rw [hx] at hy; exact Option.some.inj hy
  have wi : IntKind.i64.wrap ((p : Int) + 1) = ((p + 1 : Nat) : Int) := by rw [i64_in _ (by omega) (by omega)]; omega
  refine ⟨pa, by omega, hi, x, hc, pb, by omega, by omega, x, hd, fun w2 e2 => ⟨fun hne => (by rw [ba_refl, beq_self_eq_true, beq_self_eq_true] at hne; cases hne), fun _ => ?_⟩⟩
  rw [wi]
  exact ⟨⟨e.trans e2, p + 1, rfl, by omega⟩, by show _ - _ < _ - _; omega⟩
theorem sp_SameHeldT {x y : T_api_Held} {vs : List T_api_Version} {R : Bool → World → Prop} (hk : x.Key = y.Key) (ha : SrcAt w x.Versions 3 (vs.flatMap verT)) (hb : SrcAt w y.Versions 3 (vs.flatMap verT)) (hl : x.Versions.len ≤ 4611686018427387904)
    (k : ∀ w', Ext w w' → R true w') : C_towpathlaw01_SameHeld x y w R := by
  apply S_towpathlaw01_SameHeld
  unfold F_towpathlaw01_SameHeld
  intro b w1 hb1 hw b1 w2 hb2 hw1
  have st2 : St ⟨w, []⟩ [(b1, hldT (y.Key, y.Versions)), (b, hldT (x.Key, x.Versions))] w2 := ((St.start w).alloc (cs := hldT (x.Key, x.Versions)) hb1 hw).alloc (cs := hldT (y.Key, y.Versions)) hb2 hw1
  refine ⟨x.Key, st2.cell 1 rfl rfl, y.Key, st2.cell 0 rfl rfl, fun _ => ⟨x.Versions, st2.cell 1 rfl rfl, y.Versions, st2.cell 0 rfl rfl, ?_⟩, fun h => ?_⟩
  · exact sp_SameVerT (st2.ext.src ha) (st2.ext.src hb) hl fun w3 e3 => k w3 (st2.keep e3).ext
  · rw [hk, beq_self_eq_true] at h; cases h
end
end Go.Proofs.Ytpdegdnigcnjiaa

namespace Go.Proofs.Ytpdegdnigcnjiaa
open Go
set_option linter.unusedVariables false
set_option linter.unusedSimpArgs false

theorem okC_len : ∀ {vs : List Ver} {p : Int}, okC p vs = true → 0 ≤ p → p ≤ 65536 → (vs.length : Int) + p ≤ 65536
  | [], p, _, h0, h1 => by simp; omega
  | v :: r, p, h, h0, h1 => by
    rw [okC] at h
    simp only [Bool.and_eq_true, decide_eq_true_eq] at h
    obtain ⟨⟨hm, hp⟩, hr⟩ := h
    unfold mayV at hm
    simp only [Bool.and_eq_true, decide_eq_true_eq] at hm
    have := okC_len hr (by omega) hm.1.1.2
    rw [List.length_cons]; omega
theorem sp_BeyondS1' {w w1 : World} {b : Nat} {T : TypeId} {x : Int} {R : Bool → World → Prop} (hb : b = w.heap.size) (hw : w1 = w.alloc (Obj.cells ([Value.int .i64 x]).toArray T (0, 0))) (h0 : 0 ≤ x) (h1 : x ≤ 1125899906842624) (k : ∀ v, (v = false → x ≤ 1048576) → R v w1) :
    C_towpathlaw01_Beyond (Slc.mk (some ⟨b, 0, none⟩) 1 1) w1 R :=
  sp_towpathlaw01_Beyond (xs := [x]) (srcAt_new hb hw rfl) (by show 1 ≤ _; omega) (k _ fun h => by
    unfold beyondF at h
    rw [i64_in _ (by omega) (by omega), Int.zero_add] at h
    by_cases hv : x > 1048576
    · rw [if_pos hv] at h; cases h
    · omega)
theorem flat1 : ∀ sls : List Slc, (sls.flatMap fun s => [slV s]) = sls.map slV
  | [] => rfl
  | a :: r => by rw [List.flatMap_cons, List.map_cons, flat1 r]; rfl
theorem partM_ok {c : Cfg} {hs : List Hd} {n : Nat} (h : loadOk hs) : loadOk (partM c hs n) :=
  ⟨fun x hx => h.1 x (List.mem_filter.1 hx).1, h.2.sublist List.filter_sublist⟩
/-- How many keys each shard has among the first. -/
def cntM (c : Cfg) (hs : List Hd) : List Int := (List.range c.Shards.toNat).map fun n => ((partM c hs n).length : Int)
theorem cntM_at {c : Cfg} {hs : List Hd} {n : Nat} (h : n < c.Shards.toNat) : (cntM c hs)[n]? = some ((partM c hs n).length : Int) := by
  unfold cntM
  rw [List.getElem?_map, List.getElem?_range h]; rfl
theorem cntM_snoc {c : Cfg} {hs : List Hd} {h : Hd} (hn : shN c h < c.Shards.toNat) : cntM c (hs ++ [h]) = (cntM c hs).set (shN c h) ((partM c hs (shN c h)).length + 1) := by
  have e : ∀ hs, cntM c hs = (splitM c hs).map fun l => (l.length : Int) := fun hs => by unfold cntM splitM; rw [List.map_map]; rfl
  rw [e, e, splitM_snoc hn, List.map_set, List.length_append, List.length_singleton]; rfl
theorem cntM_nil (c : Cfg) : cntM c [] = List.replicate c.Shards.toNat 0 := by
  unfold cntM
  refine List.ext_getElem? fun i => ?_
  rw [List.getElem?_map, List.getElem?_replicate]
  by_cases hi : i < c.Shards.toNat
  · rw [List.getElem?_range hi, if_pos hi]; rfl
  · rw [List.getElem?_eq_none (by simp; omega), if_neg hi]; rfl
/-- The key that comes next is the next one of its shard. -/
theorem partM_next {c : Cfg} {hs : List Hd} {p : Nat} {h : Hd} (hp : hs[p]? = some h) : (partM c hs (shN c h))[(partM c (hs.take p) (shN c h)).length]? = some h := by
  obtain ⟨g1, g2⟩ := List.getElem?_eq_some_iff.1 hp
  have e : hs = hs.take p ++ (h :: hs.drop (p + 1)) := by rw [← g2, ← List.drop_eq_getElem_cons g1, List.take_append_drop]
  have e2 : partM c hs (shN c h) = partM c (hs.take p) (shN c h) ++ (h :: partM c (hs.drop (p + 1)) (shN c h)) := by
    conv => lhs; rw [e]
    unfold partM
    rw [List.filter_append, List.filter_cons, if_pos (by simp)]
  rw [e2, List.getElem?_append_right (Nat.le_refl _), Nat.sub_self]; rfl
section
variable {w : World} {c : Cfg} {s : T_api_Saved} {m : SvM} {os : List HO} {b b1 b2 : Nat} {sl : Slc} {R : Bool → World → Prop}
/-- A part is a shard, and each of its keys reads as in the whole. -/
theorem sp_pa_L4 {mpW : List (Nat × Obj)} {cw cs : List Chunk} {t : Option Addr} {BW : Base} {w0 : World} (ha : SvAt w s m os) (hL : loadOk m.held) (hvl : ∀ h ∈ m.held, h.2.length ≤ 1048576) (hml : m.held.length ≤ 549755813888) (oW : ShO w [] t m.held cw BW) (oO : OutO sl (splitM c m.held) cs) (hc : okCfg c)
    (st : St BW (cw ++ ((b2, (cntM c m.held).map iV) :: (cs ++ [(b1, svT s), (b, cfgV c)]))) w0) (k : ∀ w', St ⟨w, []⟩ [] w' → R true w') :
    ∃ (I : Int → World → Prop) (μ : Int → World → Nat), I 0 w0 ∧ ∀ (n_1 : Int) w, I n_1 w → F_towpathlaw18_DumpParts_L4 R b1 sl b2 t (fun (n_1' : Int) w' => I n_1' w' ∧ μ n_1' w' < μ n_1 w) n_1 w := by
  obtain ⟨sls, tb, pb, rfl, rt, ps⟩ := oO
  have hpl := ps.len
  rw [splitM_len] at hpl
  have hsl : sl.len = c.Shards.toNat := by have := rt.len; rw [List.length_map] at this; omega
  have hS := hc.2.1
  have hmk := ha.mark
  refine ⟨fun n w' => ∃ p : Nat, n = (p : Int) ∧ p ≤ sl.len ∧ St BW (cw ++ ((b2, (cntM c m.held).map iV) :: ((tb ++ pb) ++ [(b1, svT s), (b, cfgV c)]))) w', fun n _ => sl.len - n.toNat, ⟨0, rfl, by omega, st⟩, ?_⟩
  clear st
  rintro n_1 w1 ⟨p, rfl, hp, st⟩
  unfold F_towpathlaw18_DumpParts_L4
  refine ⟨fun hi => ?_, fun hi => ?_⟩
  rotate_left
  · exact k w1 ((oW.back st).weak (cw ++ ((b2, (cntM c m.held).map iV) :: ((tb ++ pb) ++ [(b1, svT s), (b, cfgV c)]))) (perm_of_sum fun f_ => by simp <;> omega))
  have hi := of_decide_eq_true hi
  have wp : IntKind.i64.wrap ((p : Int) + 1) = ((p + 1 : Nat) : Int) := by rw [i64_in _ (by omega) (by omega)]; omega
  have hpS : p < c.Shards.toNat := by omega
  obtain ⟨sN, hsN⟩ : ∃ sN, sls[p]? = some sN := ⟨_, List.getElem?_eq_getElem (by omega)⟩
  have hcell : ∀ {B : Base} {l : List Chunk} {w' : World}, St B (tb ++ l) w' → IsAt sl.ptr ∧ w'.cell? ⟨pblk sl.ptr, poff sl.ptr + ((p : Nat) : Int).toNat, none⟩ = some (slV sN) := fun {B l w'} st' => by
    obtain ⟨a, x, hx, hcx⟩ := SrcAt.getN (f := fun s : Slc => [slV s]) (sz := 1) (l := sls) (by rw [flat1]; exact rt.src st') (fun _ => rfl) (by decide) (i := (p : Int)) (by omega) (by omega)
    rw [Int.toNat_natCast, hsN] at hx
    obtain rfl := Option.some.inj hx
    rw [Nat.mul_one] at hcx
    exact ⟨a, hcx.1⟩
  have st1 : St BW (tb ++ (cw ++ ((b2, (cntM c m.held).map iV) :: (pb ++ [(b1, svT s), (b, cfgV c)])))) w1 := st.perm (perm_of_sum fun f_ => by simp <;> omega)
  obtain ⟨hia, hc1⟩ := hcell st1
  refine ⟨hia, by omega, hi, sN, hc1, ?_⟩
  obtain ⟨pa, pc, pz, rfl, hin⟩ := ps.at_ (splitM_at hpS) hsN
  have hin : HdsO sN (partM c m.held p) pc := hin
  have hmem : ∀ x ∈ partM c m.held p, x ∈ m.held := fun x hx => (List.mem_filter.1 hx).1
  obtain ⟨osN, e1, e2, e3⟩ := hin.at_ fun x hx => hvl x (hmem x hx)
  have hlenN : (partM c m.held p).length ≤ m.held.length := List.length_filter_le ..
  have hsNl : sN.len = (partM c m.held p).length := by
    obtain ⟨vsl, tbN, pbN, _, r, psN⟩ := hin
    have := r.len
    rw [zipRow_len (sz := 2) (fun _ => rfl) psN.len] at this
    omega
  obtain ⟨bW, rW, esW, cW, slsW, pbW, rfl, rfl, rfl, mW, psW⟩ := id oW
  have hLn : loadOk (osN.map hoD) := by rw [e1]; exact partM_ok hL
  refine sp_shard_Load (os := osN) st (fun mp' l w' st' => e3 (fr := l ++ (((bW, [Value.map (some rW)]) :: pbW) ++ ((b2, (cntM c m.held).map iV) :: (tb ++ (pa ++ (pz ++ [(b1, svT s), (b, cfgV c)])))))) (st'.perm (perm_of_sum fun f_ => by simp <;> omega))) (by omega) (fun o ho => by have := e2 o ho; omega) (fun hno => absurd hLn hno) fun _ x csX BX w2 oX st2 => ⟨fun h => (by simp at h), fun _ => ?_⟩
  rw [e1] at oX
  have st2c : St BX ((b2, (cntM c m.held).map iV) :: (csX ++ (((bW, [Value.map (some rW)]) :: pbW) ++ ((tb ++ (pa ++ (pc ++ pz))) ++ [(b1, svT s), (b, cfgV c)])))) w2 := st2.perm (perm_of_sum fun f_ => by simp <;> omega)
  have st2t : St BX (tb ++ (csX ++ (((bW, [Value.map (some rW)]) :: pbW) ++ ((b2, (cntM c m.held).map iV) :: ((pa ++ (pc ++ pz)) ++ [(b1, svT s), (b, cfgV c)]))))) w2 := st2.perm (perm_of_sum fun f_ => by simp <;> omega)
  obtain ⟨hia2, hc2⟩ := hcell st2t
  refine ⟨by omega, by omega, ((partM c m.held p).length : Int), st2c.cell 0 rfl (by rw [Int.toNat_natCast, Nat.zero_add, List.getElem?_map, cntM_at hpS]; rfl), hia2, by omega, hi, sN, hc2, fun w3 e3' => ?_⟩
  rw [show (((partM c m.held p).length : Int) != ((sN.len : Nat) : Int)) = false from by rw [hsNl]; simp]
  unfold F_towpathlaw18_DumpParts_k5
  have st3 := st2.keep e3'
  refine ⟨fun h => (by cases h), fun _ => ⟨fun i w' => ∃ q : Nat, i = (q : Int) ∧ q ≤ sN.len ∧ St BX (csX ++ (((bW, [Value.map (some rW)]) :: pbW) ++ ((b2, (cntM c m.held).map iV) :: ((tb ++ (pa ++ (pc ++ pz))) ++ [(b1, svT s), (b, cfgV c)])))) w', fun i _ => sN.len - i.toNat, ⟨0, rfl, by omega, st3⟩, ?_⟩⟩
  clear st3 st2 st2c st2t st1 st
  rintro i1 w4 ⟨q, rfl, hq, st⟩
  unfold F_towpathlaw18_DumpParts_L6
  have stt : St BX (tb ++ (csX ++ (((bW, [Value.map (some rW)]) :: pbW) ++ ((b2, (cntM c m.held).map iV) :: ((pa ++ (pc ++ pz)) ++ [(b1, svT s), (b, cfgV c)]))))) w4 := st.perm (perm_of_sum fun f_ => by simp <;> omega)
  obtain ⟨hia4, hc4⟩ := hcell stt
  refine ⟨hia4, by omega, hi, sN, hc4, fun hq2 => ?_, fun hq2 => ?_⟩
  rotate_left
  · rw [wp]
    exact ⟨⟨p + 1, rfl, by omega, oX.back st |>.weak csX (perm_of_sum fun f_ => by simp <;> omega)⟩, by show _ - _ < _ - _; omega⟩
  have hq2 := of_decide_eq_true hq2
  have wq : IntKind.i64.wrap ((q : Int) + 1) = ((q + 1 : Nat) : Int) := by rw [i64_in _ (by omega) (by omega)]; omega
  -- a key of the part
  obtain ⟨h, hh⟩ : ∃ h, (partM c m.held p)[q]? = some h := ⟨_, List.getElem?_eq_getElem (by omega)⟩
  have hhm := List.mem_of_getElem? hh
  have rd : ∀ {w' : World}, St BX (csX ++ (((bW, [Value.map (some rW)]) :: pbW) ++ ((b2, (cntM c m.held).map iV) :: ((tb ++ (pa ++ (pc ++ pz))) ++ [(b1, svT s), (b, cfgV c)])))) w' → IsAt sN.ptr ∧ w'.cell? ⟨pblk sN.ptr, poff sN.ptr + ((q : Nat) : Int).toNat * 2, none⟩ = some (Value.string h.1) := fun {w'} st' => by
    have hat : HdAt w' sN osN := e3 (fr := csX ++ (((bW, [Value.map (some rW)]) :: pbW) ++ ((b2, (cntM c m.held).map iV) :: (tb ++ (pa ++ (pz ++ [(b1, svT s), (b, cfgV c)])))))) (st'.perm (perm_of_sum fun f_ => by simp <;> omega))
    obtain ⟨a, o, ho, hcc⟩ := SrcAt.getN hat.src (fun _ => rfl) (by decide) (i := (q : Int)) (by omega) (by omega)
    rw [Int.toNat_natCast] at ho
    have := hdOf_at ho
    rw [e1, hh] at this
    obtain rfl := Option.some.inj this
    exact ⟨a, hcc.1⟩
  have cellM : ∀ {w' : World}, St BX (csX ++ (((bW, [Value.map (some rW)]) :: pbW) ++ ((b2, (cntM c m.held).map iV) :: ((tb ++ (pa ++ (pc ++ pz))) ++ [(b1, svT s), (b, cfgV c)])))) w' → w'.cell? ⟨b1, 0, none⟩ = some (iV s.Mark) := fun {w'} st' => by
    have s1 : St BX ((b1, svT s) :: (csX ++ (((bW, [Value.map (some rW)]) :: pbW) ++ ((b2, (cntM c m.held).map iV) :: ((tb ++ (pa ++ (pc ++ pz))) ++ [(b, cfgV c)]))))) w' := st'.perm (perm_of_sum fun f_ => by simp <;> omega)
    exact s1.cell 0 rfl rfl
  intro w5 hd5
  have st5 := st.drew hd5
  obtain ⟨hia5, hc5⟩ := hcell (B := BX) (st5.perm (l' := tb ++ (csX ++ (((bW, [Value.map (some rW)]) :: pbW) ++ ((b2, (cntM c m.held).map iV) :: ((pa ++ (pc ++ pz)) ++ [(b1, svT s), (b, cfgV c)]))))) (perm_of_sum fun f_ => by simp <;> omega))
  obtain ⟨k5a, k5b⟩ := rd st5
  refine ⟨hia5, by omega, hi, sN, hc5, k5a, by omega, hq2, h.1, k5b, s.Mark, cellM st5, ?_⟩
  have hh2 := hvl h (hmem h hhm)
  refine sp_shard_Get oX st5 (partM_ok hL) hhm (by omega) fun w6 e6 w7 hd7 => ?_
  have st7 := (st5.keep e6).drew hd7
  obtain ⟨hia7, hc7⟩ := hcell (B := BX) (st7.perm (l' := tb ++ (csX ++ (((bW, [Value.map (some rW)]) :: pbW) ++ ((b2, (cntM c m.held).map iV) :: ((pa ++ (pc ++ pz)) ++ [(b1, svT s), (b, cfgV c)]))))) (perm_of_sum fun f_ => by simp <;> omega))
  obtain ⟨k7a, k7b⟩ := rd st7
  refine ⟨hia7, by omega, hi, sN, hc7, k7a, by omega, hq2, h.1, k7b, s.Mark, cellM st7, ?_⟩
  have st7w : St ⟨w, [(rW, .map esW cW)]⟩ (((bW, [Value.map (some rW)]) :: pbW) ++ (csX ++ ((b2, (cntM c m.held).map iV) :: ((tb ++ (pa ++ (pc ++ pz))) ++ [(b1, svT s), (b, cfgV c)])))) w7 := (oX.back st7).perm (perm_of_sum fun f_ => by simp <;> omega)
  refine sp_shard_Get oW st7w hL (hmem h hhm) (by omega) fun w8 e8 => ⟨fun h => ?_, fun _ => ?_⟩
  · simp at h
  · rw [wq]
    exact ⟨⟨q + 1, rfl, by omega, st7.keep e8⟩, by show _ - _ < _ - _; omega⟩
/-- Each key is in its part, and reads there as it was. -/
theorem sp_pa_L2 {cs : List Chunk} {w0 : World} (ha : SvAt w s m os) (hL : loadOk m.held) (hvl : ∀ h ∈ m.held, h.2.length ≤ 1048576) (hml : m.held.length ≤ 549755813888) (oO : OutO sl (splitM c m.held) cs) (hc : okCfg c)
    (st : St ⟨w, []⟩ ((b2, (cntM c []).map iV) :: (cs ++ [(b1, svT s), (b, cfgV c)])) w0) (k : ∀ w', St ⟨w, []⟩ [] w' → R true w') :
    ∃ (I : Int → World → Prop) (μ : Int → World → Nat), I 0 w0 ∧ ∀ (i : Int) w, I i w → F_towpathlaw18_DumpParts_L2 R b b1 sl b2 (fun (i' : Int) w' => I i' w' ∧ μ i' w' < μ i w) i w := by
  have hO := oO
  obtain ⟨sls, tb, pb, rfl, rt, ps⟩ := oO
  have hpl := ps.len
  rw [splitM_len] at hpl
  have hsl : sl.len = c.Shards.toNat := by have := rt.len; rw [List.length_map] at this; omega
  have hS := hc.2.1
  have hhl := ha.hlen
  have hol : s.Held.len = os.length := by have := ha.held.src.1; rw [flatMap_len (sz := 2) (fun _ => rfl)] at this; omega
  have hmo : m.held.length = os.length := by rw [← ha.hos, List.length_map]
  refine ⟨fun i w' => ∃ p : Nat, i = (p : Int) ∧ p ≤ s.Held.len ∧ St ⟨w, []⟩ ((b2, (cntM c (m.held.take p)).map iV) :: ((tb ++ pb) ++ [(b1, svT s), (b, cfgV c)])) w', fun i _ => s.Held.len - i.toNat, ⟨0, rfl, by omega, by rw [List.take_zero]; exact st⟩, ?_⟩
  clear st
  rintro i w1 ⟨p, rfl, hp, st⟩
  unfold F_towpathlaw18_DumpParts_L2
  have stb : St ⟨w, []⟩ ((b1, svT s) :: (b, cfgV c) :: ((b2, (cntM c (m.held.take p)).map iV) :: (tb ++ pb))) w1 := st.perm (perm_of_sum fun f_ => by simp <;> omega)
  refine ⟨s.Held, stb.cell 0 rfl rfl, fun hi => ?_, fun hi => ?_⟩
  rotate_left
  · have hi := of_decide_eq_false hi
    have e : m.held.take p = m.held := List.take_of_length_le (by omega)
    rw [e] at st
    refine ⟨s.Held, stb.cell 0 rfl rfl, ?_⟩
    refine sp_shard_Load (W := w) (mp := []) st (fun mp' l w' st' => ha.held.ext st'.ext) (by omega) ha.vlen (fun hno => absurd hL (by rw [ha.hos] at hno; exact hno)) fun _ t cw BW w2 oW st2 => ⟨fun h => (by simp at h), fun _ => ?_⟩
    rw [ha.hos] at oW
    exact sp_pa_L4 (mpW := []) ha hL hvl hml oW hO hc st2 k
  have hi := of_decide_eq_true hi
  have wp : IntKind.i64.wrap ((p : Int) + 1) = ((p + 1 : Nat) : Int) := by rw [i64_in _ (by omega) (by omega)]; omega
  obtain ⟨o, ho⟩ : ∃ o, os[p]? = some o := ⟨_, List.getElem?_eq_getElem (by omega)⟩
  have hom := List.mem_of_getElem? ho
  have hod : m.held[p]? = some (hoD o) := by rw [← ha.hos]; exact hdOf_at ho
  have hkey : mayK o.1 := (hL.1 _ (List.mem_of_getElem? hod)).1
  obtain ⟨hr0, hr1, hr2⟩ := shard_rng hc hkey
  have hsh : shN c (hoD o) < c.Shards.toNat := by unfold shN; show (shardF c o.1).1.toNat < _; omega
  have hN : (shardF c o.1).1 = ((shN c (hoD o) : Nat) : Int) := by unfold shN; show _ = (((shardF c o.1).1.toNat : Nat) : Int); omega
  have heldc : ∀ {w' : World}, Ext w w' → IsAt s.Held.ptr ∧ CellsAt w' (pblk s.Held.ptr) (poff s.Held.ptr + ((p : Nat) : Int).toNat * 2) (hoT o) := fun {w'} e => by
    obtain ⟨a, o', ho', hcc⟩ := SrcAt.getN (e.src ha.held.src) (fun _ => rfl) (by decide) (i := (p : Int)) (by omega) (by omega)
    rw [Int.toNat_natCast, ho] at ho'
    obtain rfl := Option.some.inj ho'
    exact ⟨a, hcc⟩
  intro w2 hd2
  have st2 := stb.drew hd2
  obtain ⟨ha2, hc2⟩ := heldc st2.ext
  refine ⟨c, (st2.get 1 rfl).all, s.Held, st2.cell 0 rfl rfl, ha2, by omega, hi, o.1, hc2.1, sp_conf_Shard (by have := hkey.2; omega) fun w3 e3 w4 hd4 => ?_⟩
  have st4 := (st2.keep e3).drew hd4
  rw [hN]
  refine ⟨fun h => (by rw [hr2] at h; simp at h), fun _ => ?_⟩
  obtain ⟨sN, hsN⟩ : ∃ sN, sls[shN c (hoD o)]? = some sN := ⟨_, List.getElem?_eq_getElem (by omega)⟩
  have st4t : St ⟨w, []⟩ (tb ++ ((b1, svT s) :: (b, cfgV c) :: ((b2, (cntM c (m.held.take p)).map iV) :: pb))) w4 := st4.perm (perm_of_sum fun f_ => by simp <;> omega)
  have st4c : St ⟨w, []⟩ ((b2, (cntM c (m.held.take p)).map iV) :: ((b1, svT s) :: (b, cfgV c) :: (tb ++ pb))) w4 := st4.perm (perm_of_sum fun f_ => by simp <;> omega)
  obtain ⟨a4, x, hx, hcx⟩ := SrcAt.getN (f := fun s : Slc => [slV s]) (sz := 1) (l := sls) (by rw [flat1]; exact rt.src st4t) (fun _ => rfl) (by decide) (i := ((shN c (hoD o) : Nat) : Int)) (by omega) (by omega)
  rw [Int.toNat_natCast, hsN] at hx
  obtain rfl := Option.some.inj hx
  rw [Nat.mul_one] at hcx
  obtain ⟨pa, pc, pz, rfl, hin⟩ := ps.at_ (splitM_at hsh) hsN
  have hin : HdsO sN (partM c m.held (shN c (hoD o))) pc := hin
  obtain ⟨osN, e1, e2, e3'⟩ := hin.at_ fun x hx => hvl x (List.mem_filter.1 hx).1
  have hsNl : sN.len = (partM c m.held (shN c (hoD o))).length := by
    obtain ⟨vsl, tbN, pbN, _, r, psN⟩ := hin
    have := r.len
    rw [zipRow_len (sz := 2) (fun _ => rfl) psN.len] at this
    omega
  have hnext := partM_next (c := c) hod
  have hql := (List.getElem?_eq_some_iff.1 hnext).1
  have hlenN : (partM c m.held (shN c (hoD o))).length ≤ m.held.length := List.length_filter_le ..
  have hcnt : ∀ {l : List Chunk} {w' : World}, St ⟨w, []⟩ ((b2, (cntM c (m.held.take p)).map iV) :: l) w' → w'.cell? ⟨b2, 0 + (((shN c (hoD o) : Nat) : Int)).toNat, none⟩ = some (iV ((partM c (m.held.take p) (shN c (hoD o))).length : Int)) := fun {l w'} st' => by
    refine st'.cell 0 rfl ?_
    rw [Int.toNat_natCast, Nat.zero_add, List.getElem?_map, cntM_at hsh]; rfl
  have hatN : HdAt w4 sN osN := e3' (fr := (b1, svT s) :: (b, cfgV c) :: ((b2, (cntM c (m.held.take p)).map iV) :: (tb ++ (pa ++ pz)))) (st4.perm (perm_of_sum fun f_ => by simp <;> omega))
  obtain ⟨aN, oN, hoN, hcN⟩ := SrcAt.getN hatN.src (fun _ => rfl) (by decide) (i := ((partM c (m.held.take p) (shN c (hoD o))).length : Int)) (by omega) (by omega)
  rw [Int.toNat_natCast] at hoN
  have hoND := hdOf_at hoN
  rw [e1, hnext] at hoND
  have hoND := Option.some.inj hoND
  obtain ⟨ha4, hc4⟩ := heldc st4.ext
  refine ⟨by omega, by omega, ((partM c (m.held.take p) (shN c (hoD o))).length : Int), hcnt st4c, a4, by omega, by omega, sN, hcx.1, fun h => ?_, fun _ => ?_⟩
  · have h := of_decide_eq_true h
    omega
  refine ⟨a4, by omega, by omega, sN, hcx.1, by omega, by omega, ((partM c (m.held.take p) (shN c (hoD o))).length : Int), hcnt st4c, aN, by omega, by omega, ⟨oN.1, oN.2.2⟩, hcN, s.Held, st4.cell 0 rfl rfl, ha4, by omega, hi, ⟨o.1, o.2.2⟩, hc4, ?_⟩
  have hoNE : ((o.1, o.2.1) : Hd) = (oN.1, oN.2.1) := hoND
  have hv1 : o.1 = oN.1 := (Prod.mk.inj hoNE).1
  have hv2 : o.2.1 = oN.2.1 := (Prod.mk.inj hoNE).2
  have hsrc1 := (hatN.ver oN (List.mem_of_getElem? hoN)).1
  have hsrc2 := ((ha.ext st4.ext).held.ver o hom).1
  rw [hv2] at hsrc2
  have hsml := e2 oN (List.mem_of_getElem? hoN)
  refine sp_SameHeldT (x := ⟨oN.1, oN.2.2⟩) (y := ⟨o.1, o.2.2⟩) hv1.symm hsrc1 hsrc2 (by show oN.2.2.len ≤ _; omega) fun w5 e5 => ?_
  unfold F_towpathlaw18_DumpParts_k3
  refine ⟨fun h => (by cases h), fun _ => ?_⟩
  have st5 := st4c.keep e5
  refine ⟨by omega, by omega, ((partM c (m.held.take p) (shN c (hoD o))).length : Int), hcnt st5, by omega, by omega, st5.writable 0 rfl (by rw [List.length_map, Int.toNat_natCast]; unfold cntM; rw [List.length_map, List.length_range]; omega), fun w6 hw6 => ?_⟩
  rw [i64_in _ (by omega) (by omega)] at hw6
  have st6 := st5.put0 hw6
  rw [Int.toNat_natCast, Nat.zero_add, putL_one] at st6
  have e6 : ((cntM c (m.held.take p)).map iV).set (shN c (hoD o)) (iV (((partM c (m.held.take p) (shN c (hoD o))).length : Int) + 1)) = (cntM c (m.held.take (p + 1))).map iV := by
    rw [List.take_add_one, hod]
    show _ = (cntM c (m.held.take p ++ [hoD o])).map iV
    rw [cntM_snoc hsh, List.map_set]
  rw [e6] at st6
  rw [wp]
  exact ⟨⟨p + 1, rfl, by omega, st6.perm (perm_of_sum fun f_ => by simp <;> omega)⟩, by show _ - _ < _ - _; omega⟩
end
theorem law_DumpParts (x0 : T_api_Config) (x1 : T_api_Saved) (w : World) (h0 : Ok_T_api_Config w x0) (h1 : Ok_T_api_Saved w x1) : C_towpathlaw18_DumpParts x0 x1 w (fun b w' => b = true ∧ RowKit.Below w.heap.size w w') := by
  obtain ⟨m, os, ha, hz⟩ := sv_in h1
  apply S_towpathlaw18_DumpParts
  unfold F_towpathlaw18_DumpParts
  intro b w1 hb hw1 b1 w2 hb1 hw2
  have st1 : St ⟨w, []⟩ [(b, cfgV x0)] w1 := (St.start w).alloc hb hw1
  have st2 : St ⟨w, []⟩ [(b1, svT x1), (b, cfgV x0)] w2 := st1.alloc hb1 hw2
  have gone : ∀ {w' : World}, Ext w2 w' → F_towpathlaw18_DumpParts_k0 (fun b w' => b = true ∧ RowKit.Below w.heap.size w w') b b1 true w' := fun {w'} e => by
    unfold F_towpathlaw18_DumpParts_k0
    exact ⟨fun _ => sp_dAlive fun w3 e3 => ⟨rfl, ((st2.keep e).keep e3).below⟩, fun h => (by cases h)⟩
  have hhl := ha.hlen
  have hbl := ha.blen
  refine sp_dAlive fun w3 e3 => ⟨fun h => (by cases h), fun _ => ?_⟩
  have st3 := st2.keep e3
  refine ⟨x1, (st3.get 0 rfl).all, sp_SavedSize (ha.ext st3.ext) hz fun n w4 hn1 hn2 e4 b3 w5 hb3 hw5 => ?_⟩
  have st5 := (st3.keep e4).alloc (cs := [iV n]) hb3 hw5
  have e25 : Ext w2 w5 := (e3.trans e4).trans (Ext.new hw5)
  refine sp_BeyondS1' hb3 hw5 (by omega) (by omega) fun v hv => ⟨fun _ => gone e25, fun hv0 => ?_⟩
  have hsm := hv hv0
  refine ⟨x0, (st5.get 2 rfl).all, sp_conf_Check fun w6 e6 => ⟨fun _ => gone (e25.trans e6), fun hc0 => ?_⟩⟩
  have hc0 : checkF x0 = 0 := by simpa using hc0
  have st6 := st5.keep e6
  refine ⟨x1, (st6.get 1 rfl).all, sp_dump_Check (ha.ext st6.ext) fun w7 e7 => ?_⟩
  by_cases hk : ckOk m
  rotate_left
  · rw [ckE_no hk]; exact gone ((e25.trans e6).trans e7)
  rw [ckE_ok hk]
  unfold F_towpathlaw18_DumpParts_k0
  refine ⟨fun h => (by simp at h), fun _ => ?_⟩
  have st7 : St ⟨w, []⟩ [(b1, svT x1), (b, cfgV x0)] w7 := (st6.keep e7).drop1
  refine ⟨x0, (st7.get 1 rfl).all, x1, (st7.get 0 rfl).all, ?_⟩
  refine sp_dump_Split (ha.ext st7.ext) (by omega) (fun h => absurd hc0 h) (fun _ h => absurd hk h) fun hc _ sl cs w8 oO st8 => ⟨fun h => (by simp at h), fun _ => ?_⟩
  have st8 := st7.more st8
  have hO := oO
  obtain ⟨sls, tb, pb, _, rt, ps⟩ := oO
  have hpl := ps.len
  rw [splitM_len] at hpl
  have hsl : sl.len = x0.Shards.toNat := by have := rt.len; rw [List.length_map] at this; omega
  have hS := hc.2.1
  have st8b : St ⟨w, []⟩ ((b1, svT x1) :: (b, cfgV x0) :: cs) w8 := st8.perm (perm_of_sum fun f_ => by simp <;> omega)
  refine ⟨x0.Shards, st8b.cell 1 rfl rfl, ?_⟩
  rw [show (((sl.len : Nat) : Int) != x0.Shards) = false from by rw [bne_eq_false_iff_eq]; omega]
  unfold F_towpathlaw18_DumpParts_k1
  refine ⟨fun h => (by cases h), fun _ => ⟨by omega, by omega, by omega, fun b2 w9 hb2 hw9 => ?_⟩⟩
  have st9 := st8.alloc hb2 hw9
  have hrep : (repCells ((sl.len : Nat) : Int).toNat [Value.int .i64 0]).toList = (cntM x0 []).map iV := by
    rw [cntM_nil, Int.toNat_natCast, hsl]
    unfold repCells
    simp
  have st9 : St ⟨w, []⟩ ((b2, (cntM x0 []).map iV) :: (cs ++ [(b1, svT x1), (b, cfgV x0)])) w9 := by rw [← hrep]; exact st9
  have hol : x1.Held.len = os.length := by have := ha.held.src.1; rw [flatMap_len (sz := 2) (fun _ => rfl)] at this; omega
  have hmo : m.held.length = os.length := by rw [← ha.hos, List.length_map]
  refine sp_pa_L2 ha hk.2.2.1 (fun h hh => ?_) (by omega) hO hc st9 fun w' st' => ⟨rfl, st'.below⟩
  -- versions rise from 1 to 65536
  have hok := okC_len (hk.2.2.1.1 h hh).2.2 (by decide) (by decide)
  omega
end Go.Proofs.Ytpdegdnigcnjiaa

