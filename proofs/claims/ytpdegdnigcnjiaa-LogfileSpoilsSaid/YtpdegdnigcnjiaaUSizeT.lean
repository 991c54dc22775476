/- Sizes of transactions. -/
import Derived.Test.YtpdegdnigcnjiaaULogI
import Derived.Test.YtpdegdnigcnjiaaGtowpathlaw01
namespace Go.Proofs.Ytpdegdnigcnjiaa
open Go
set_option linter.unusedVariables false
set_option linter.unusedSimpArgs false

def szX (x : Wr) : Nat := x.Key.size + x.Val.size
def szW (ws : List Wr) : Nat := ws.length + (ws.map szX).sum
def szL (ts : List Tx) : Nat := ts.length + (ts.map fun t => 1 + szW t.2).sum
def SmallW (ws : List Wr) : Prop := ∀ x ∈ ws, x.Key.size ≤ 140737488351232 ∧ x.Val.size ≤ 140737488351232
theorem sum_snoc {α : Type} {f : α → Nat} {l : List α} {p : Nat} {x : α} (h : l[p]? = some x) : ((l.take (p + 1)).map f).sum = ((l.take p).map f).sum + f x := by
  rw [List.take_add_one, h]; simp
theorem szW_mem {ts : List Tx} {t : Tx} (h : t ∈ ts) : 1 + szW t.2 ≤ (ts.map fun t => 1 + szW t.2).sum := by
  induction ts with
  | nil => cases h
  | cons a r ih =>
    rw [List.map_cons, List.sum_cons]
    rcases List.mem_cons.1 h with rfl | h
    · omega
    · have := ih h; omega
theorem szW_one {ts : List Tx} {t : Tx} (h : t ∈ ts) : t.2.length ≤ szL ts := by
  have := szW_mem h
  unfold szL; unfold szW at this; unfold szW; omega

section
variable {w : World}
theorem sp_WritesSizeX {s : Slc} {ws : List Wr} {R : Int → World → Prop} (hs : SrcAt w s 3 (ws.flatMap wV)) (hl : s.len ≤ 3518437208880) (hb : SmallW ws)
    (k : ∀ v w', Ext w w' → 0 ≤ v → v ≤ 300000000000000 → (v ≤ 1048576 → v = ((szW ws : Nat) : Int)) → R v w') : C_towpathlaw01_WritesSize s w R := by
  have hlen := wr_len hs
  apply S_towpathlaw01_WritesSize
  refine ⟨fun n i w' => Ext w w' ∧ ∃ p : Nat, i = (p : Int) ∧ p ≤ s.len ∧ n = ((ws.length + ((ws.take p).map szX).sum : Nat) : Int) ∧ n ≤ 300000000000000, fun _ i _ => s.len - i.toNat, ⟨Ext.refl _, 0, rfl, by omega, by simp; omega, by omega⟩, ?_⟩
  rintro n i w2 ⟨e, p, rfl, hp, hn, hn2⟩
  unfold F_towpathlaw01_WritesSize_L0
  refine ⟨fun hi => ?_, fun hi => k _ _ e (by omega) hn2 fun hv => ?_⟩
  · simp only [Bool.and_eq_true, decide_eq_true_eq] at hi
    obtain ⟨pa, x, hx, hc⟩ := wr_at (e.src hs) (i := (p : Int)) (by omega) hi.1
    rw [Int.toNat_natCast] at hx
    have hxb := hb x (List.mem_of_getElem? hx)
    have hsn := sum_snoc (f := szX) hx
    have hsx : szX x = x.Key.size + x.Val.size := rfl
    refine ⟨pa, by omega, hi.1, x.Key, hc.1, pa, by omega, hi.1, x.Val, hc.2.1, fun w3 e3 => ?_⟩
    rw [wrap_next (by omega) hi.1 (by omega)]
    have w1 : IntKind.i64.wrap (n + ((x.Key.size : Nat) : Int)) = n + ((x.Key.size : Nat) : Int) := i64_in _ (by omega) (by omega)
    have w2' : IntKind.i64.wrap (n + ((x.Key.size : Nat) : Int) + ((x.Val.size : Nat) : Int)) = n + ((x.Key.size : Nat) : Int) + ((x.Val.size : Nat) : Int) := i64_in _ (by omega) (by omega)
    rw [w1, w2']
    exact ⟨⟨e.trans e3, p + 1, by omega, by omega, by rw [hsn]; omega, by omega⟩, by show _ - _ < _ - _; omega⟩
  · simp only [Bool.and_eq_false_iff, decide_eq_false_iff_not] at hi
    have : p = ws.length := by omega
    rw [hn, this, List.take_length]; rfl
theorem sp_TxnSizeX {t : T_api_Txn} {ws : List Wr} {R : Int → World → Prop} (hs : SrcAt w t.Writes 3 (ws.flatMap wV)) (hl : t.Writes.len ≤ 3518437208880) (hb : SmallW ws)
    (k : ∀ v w', Ext w w' → 0 ≤ v → v ≤ 300000000000001 → (v ≤ 1048576 → v = ((1 + szW ws : Nat) : Int)) → R v w') : C_towpathlaw01_TxnSize t w R := by
  apply S_towpathlaw01_TxnSize
  intro b w1 hb' hw
  have e1 : Ext w w1 := Ext.new hw
  refine ⟨t.Writes, (Blk.new hb' hw).cell rfl, ?_⟩
  refine sp_WritesSizeX (e1.src hs) hl hb fun v w2 e2 h0 h1 h2 => ?_
  have wv : IntKind.i64.wrap (1 + v) = 1 + v := i64_in _ (by omega) (by omega)
  rw [wv]
  exact k _ _ (e1.trans e2) (by omega) (by omega) fun h => by have := h2 (by omega); omega
theorem sp_TxnsSizeX {sl : Slc} {ts : List Tx} {sls : List Slc} {R : Int → World → Prop} (ha : LAt w sl ts sls) (hl : sl.len ≤ 4398046511104) (hb : ∀ t ∈ ts, SmallW t.2)
    (k : ∀ v w', Ext w w' → 0 ≤ v → v ≤ 400000000000000 → (v ≤ 1048576 → v = ((szL ts : Nat) : Int)) → R v w') : C_towpathlaw01_TxnsSize sl w R := by
  have hsl := ha.slen
  apply S_towpathlaw01_TxnsSize
  refine ⟨fun n i w' => Ext w w' ∧ ∃ p : Nat, i = (p : Int) ∧ p ≤ sl.len ∧ n ≤ 400000000000000 ∧ 0 ≤ n ∧ (n ≤ 1048576 → n = ((ts.length + ((ts.take p).map fun t => 1 + szW t.2).sum : Nat) : Int)), fun _ i _ => sl.len - i.toNat, ⟨Ext.refl _, 0, rfl, by omega, by omega, by omega, fun _ => by simp; omega⟩, ?_⟩
  rintro n i w1 ⟨e, p, rfl, hp, hn2, hn0, hn⟩
  unfold F_towpathlaw01_TxnsSize_L0
  refine ⟨fun hi => ?_, fun hi => k _ _ e hn0 hn2 fun hv => ?_⟩
  · simp only [Bool.and_eq_true, decide_eq_true_eq] at hi
    obtain ⟨a, t, s, ht, hs, hct, hsr, hcp1, hcp2⟩ := (ha.ext e).get (p := p) (by omega)
    have hsn := sum_snoc (f := fun t : Tx => 1 + szW t.2) ht
    refine ⟨a, by omega, hi.1, ⟨t.1, s⟩, by rw [Int.toNat_natCast]; exact hct, sp_TxnSizeX (t := ⟨t.1, s⟩) hsr (by show s.len ≤ _; omega) (hb t (List.mem_of_getElem? ht)) fun v w2 e2 h0 h1 h2 => ?_⟩
    rw [wrap_next (by omega) hi.1 (by omega)]
    have wv : IntKind.i64.wrap (n + v) = n + v := i64_in _ (by omega) (by omega)
    rw [wv]
    exact ⟨⟨e.trans e2, p + 1, by omega, by omega, by omega, by omega, fun h => by
      have g1 := hn (by omega)
      have g2 := h2 (by omega)
      rw [hsn]; omega⟩, by show _ - _ < _ - _; omega⟩
  · simp only [Bool.and_eq_false_iff, decide_eq_false_iff_not] at hi
    have : p = ts.length := by omega
    rw [hn hv, this, List.take_length]; rfl
end
theorem small_list {w : World} : ∀ {es : List T_api_Txn}, (∀ e ∈ es, Ok_T_api_Txn w e) → ∃ ts : List Tx, ts.length = es.length ∧ ((ts.zip (es.map (·.Writes))).flatMap fun p => txW p.1.1 p.2) = (es.flatMap fun e => txW e.Number e.Writes) ∧
    (∀ (i : Nat) (t : Tx) (s : Slc), ts[i]? = some t → (es.map (·.Writes))[i]? = some s → SrcAt w s 3 (t.2.flatMap wV)) ∧ (∀ s ∈ es.map (·.Writes), s.len ≤ s.cap ∧ s.len * 40 ≤ 140737488351232) ∧ ∀ t ∈ ts, SmallW t.2
  | [], _ => ⟨[], rfl, rfl, fun i t s h => by simp at h, fun s h => by simp at h, fun t h => by simp at h⟩
  | e :: es, h => by
    obtain ⟨ts, h1, h2, h3, h4, h5⟩ := small_list (es := es) fun x hx => h x (List.mem_cons_of_mem _ hx)
    obtain ⟨ws, g1, g2, g3, g4⟩ := writes_in2 (h e (List.mem_cons_self ..))
    refine ⟨(e.Number, ws) :: ts, by simp [h1], ?_, fun i t s hi hs => ?_, fun s hs => ?_, fun t ht => ?_⟩
    · rw [List.map_cons, List.zip_cons_cons, List.flatMap_cons, List.flatMap_cons, h2]
    · cases i with
      | zero =>
        have a : (e.Number, ws) = t := by simpa using hi
        have b : e.Writes = s := by simpa using hs
        subst a; subst b; exact g1
      | succ i => exact h3 i t s (by simpa using hi) (by simpa using hs)
    · rw [List.map_cons] at hs
      rcases List.mem_cons.1 hs with rfl | hs
      · exact ⟨g2, by omega⟩
      · exact h4 s (by simpa using hs)
    · rcases List.mem_cons.1 ht with rfl | ht
      · exact g4
      · exact h5 t ht
theorem lat_inS {w : World} {s : Slc} (h : OkSl w s 2 32 (fun es => ∃ e_ : T_api_Txn, es = txW e_.Number e_.Writes ∧ (Ok_T_api_Txn w e_))) : ∃ ts sls, LAt w s ts sls ∧ s.len ≤ 4398046511104 ∧ s.len ≤ s.cap ∧ ∀ t ∈ ts, SmallW t.2 := by
  obtain ⟨es, hs, hcl, hcap, hlen, hok⟩ := ok_list (f := fun t : T_api_Txn => txW t.Number t.Writes) h (fun es ⟨e, h, h'⟩ => ⟨e, h, h'⟩) (fun _ => rfl) (by decide)
  obtain ⟨ts, h1, h2, h3, h4, h5⟩ := small_list hok
  exact ⟨ts, es.map (·.Writes), ⟨by simp [h1], by rw [h2]; exact hs, h3, h4⟩, by omega, hcl, h5⟩

end Go.Proofs.Ytpdegdnigcnjiaa
