/- Sizes of a transaction. -/
import Derived.Test.YtfmkemmgakdddaaGreatDoorULogI
import Derived.Test.YtfmkemmgakdddaaGreatDoorGtowpathlaw01
namespace Go.Proofs.YtfmkemmgakdddaaGreatDoor
open Go
set_option linter.unusedVariables false
set_option linter.unusedSimpArgs false

def szX (x : Wr) : Nat := x.Key.size + x.Val.size
def szW (ws : List Wr) : Nat := ws.length + (ws.map szX).sum
def szL (ts : List Tx) : Nat := ts.length + (ts.map fun t => 1 + szW t.2).sum
def SmallW (ws : List Wr) : Prop := ∀ x ∈ ws, x.Key.size ≤ 140737488351232 ∧ x.Val.size ≤ 140737488351232
theorem sum_snoc {α : Type} {f : α → Nat} {l : List α} {p : Nat} {x : α} (h : l[p]? = some x) : ((l.take (p + 1)).map f).sum = ((l.take p).map f).sum + f x := by
  rw [List.take_add_one, h]; simp
theorem szW_mem {ts : List Tx} {t : Tx} (h : t ∈ ts) : 1 + szW t.2 ≤ (ts.map fun t => 1 + szW t.2).sum := by
  induction ts with
  | nil => cases h
  | cons a r ih =>
    rw [List.map_cons, List.sum_cons]
    rcases List.mem_cons.1 h with rfl | h
    · omega
    · have := ih h; omega
theorem szW_one {ts : List Tx} {t : Tx} (h : t ∈ ts) : t.2.length ≤ szL ts := by
  have := szW_mem h
  unfold szL; unfold szW at this; unfold szW; omega

section
variable {w : World}
theorem sp_WritesSizeX {s : Slc} {ws : List Wr} {R : Int → World → Prop} (hs : SrcAt w s 3 (ws.flatMap wV)) (hl : s.len ≤ 3518437208880) (hb : SmallW ws)
    (k : ∀ v w', Ext w w' → 0 ≤ v → v ≤ 300000000000000 → (v ≤ 1048576 → v = ((szW ws : Nat) : Int)) → R v w') : C_towpathlaw01_WritesSize s w R := by
  have hlen := wr_len hs
  apply S_towpathlaw01_WritesSize
  refine ⟨fun n i w' => Ext w w' ∧ ∃ p : Nat, i = (p : Int) ∧ p ≤ s.len ∧ n = ((ws.length + ((ws.take p).map szX).sum : Nat) : Int) ∧ n ≤ 300000000000000, fun _ i _ => s.len - i.toNat, ⟨Ext.refl _, 0, rfl, by omega, by simp; omega, by omega⟩, ?_⟩
  rintro n i w2 ⟨e, p, rfl, hp, hn, hn2⟩
  unfold F_towpathlaw01_WritesSize_L0
  refine ⟨fun hi => ?_, fun hi => k _ _ e (by omega) hn2 fun hv => ?_⟩
  · simp only [Bool.and_eq_true, decide_eq_true_eq] at hi
    obtain ⟨pa, x, hx, hc⟩ := wr_at (e.src hs) (i := (p : Int)) (by omega) hi.1
    rw [Int.toNat_natCast] at hx
    have hxb := hb x (List.mem_of_getElem? hx)
    have hsn := sum_snoc (f := szX) hx
    have hsx : szX x = x.Key.size + x.Val.size := rfl
    refine ⟨pa, by omega, hi.1, x.Key, hc.1, pa, by omega, hi.1, x.Val, hc.2.1, fun w3 e3 => ?_⟩
    rw [wrap_next (by omega) hi.1 (by omega)]
    have w1 : IntKind.i64.wrap (n + ((x.Key.size : Nat) : Int)) = n + ((x.Key.size : Nat) : Int) := i64_in _ (by omega) (by omega)
    have w2' : IntKind.i64.wrap (n + ((x.Key.size : Nat) : Int) + ((x.Val.size : Nat) : Int)) = n + ((x.Key.size : Nat) : Int) + ((x.Val.size : Nat) : Int) := i64_in _ (by omega) (by omega)
    rw [w1, w2']
    exact ⟨⟨e.trans e3, p + 1, by omega, by omega, by rw [hsn]; omega, by omega⟩, by show _ - _ < _ - _; omega⟩
  · simp only [Bool.and_eq_false_iff, decide_eq_false_iff_not] at hi
    have : p = ws.length := by omega
    rw [hn, this, List.take_length]; rfl
theorem sp_TxnSizeX {t : T_api_Txn} {ws : List Wr} {R : Int → World → Prop} (hs : SrcAt w t.Writes 3 (ws.flatMap wV)) (hl : t.Writes.len ≤ 3518437208880) (hb : SmallW ws)
    (k : ∀ v w', Ext w w' → 0 ≤ v → v ≤ 300000000000001 → (v ≤ 1048576 → v = ((1 + szW ws : Nat) : Int)) → R v w') : C_towpathlaw01_TxnSize t w R := by
  apply S_towpathlaw01_TxnSize
  intro b w1 hb' hw
  have e1 : Ext w w1 := Ext.new hw
  refine ⟨t.Writes, (Blk.new hb' hw).cell rfl, ?_⟩
  refine sp_WritesSizeX (e1.src hs) hl hb fun v w2 e2 h0 h1 h2 => ?_
  have wv : IntKind.i64.wrap (1 + v) = 1 + v := i64_in _ (by omega) (by omega)
  rw [wv]
  exact k _ _ (e1.trans e2) (by omega) (by omega) fun h => by have := h2 (by omega); omega
end

end Go.Proofs.YtfmkemmgakdddaaGreatDoor
