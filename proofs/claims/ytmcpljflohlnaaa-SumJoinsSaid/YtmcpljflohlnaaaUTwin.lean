/- The law's own copy of bytes. -/
import Derived.Test.YtmcpljflohlnaaaUBeyond
namespace Go.Proofs.Ytmcpljflohlnaaa
open Go
set_option linter.unusedVariables false

/-! ### The law's own copy of bytes -/
/-- What TwinBytes hands back: the bytes, with a 77 behind them, in a row of its own. -/
structure Twin (w : World) (B : Nat) (t : Slc) (l : List UInt8) : Prop where
  row : Row w B ⟨t.ptr, l.length + 1, t.cap⟩ 1 (l.map bV ++ [Value.int .u8 77])
  len : t.len = l.length
theorem Twin.at_ {w : World} {B : Nat} {t : Slc} {l : List UInt8} (h : Twin w B t l) : IsAt t.ptr ∧ CellsAt w (pblk t.ptr) (poff t.ptr) (l.map bV ++ [Value.int .u8 77]) :=
  SrcAtN.at_ h.row.src (by show 0 < l.length + 1; omega) (by omega)
theorem Twin.src {w : World} {B : Nat} {t : Slc} {l : List UInt8} (h : Twin w B t l) : SrcAt w t 1 (l.map bV) := by
  obtain ⟨a, c⟩ := h.at_
  refine ⟨by simp [h.len], .inr ⟨a, cellsAt_iff.2 fun i v hi => ?_⟩⟩
  refine cellsAt_iff.1 c i v ?_
  rw [List.getElem?_append_left (List.getElem?_eq_some_iff.1 hi).1]; exact hi
theorem Twin.keep {w w' : World} {B : Nat} {t : Slc} {l : List UInt8} (h : Twin w B t l) (he : Ext w w') : Twin w' B t l := ⟨h.row.keep he (Nat.le_refl _), h.len⟩

theorem repCells_len (k : Nat) (zs : List Value) : (repCells k zs).toList.length = k * zs.length := by
  simp [repCells]
theorem oneCells_small {α : Type} {f : α → Value} (hf : ∀ x, oneCell (f x) = true) (l : List α) : oneCells (l.map f) = true := by
  simp [oneCells, List.all_eq_true, hf]

theorem sp_towpathlaw01_TwinBytes {s : Slc} {w : World} {R : Slc → World → Prop} {l : List UInt8} (hs : SrcAt w s 1 (l.map bV)) (hl : s.len ≤ 140737488351232)
    (h : ∀ t w', Ext w w' → Twin w' w.heap.size t l → R t w') : C_towpathlaw01_TwinBytes s w R := by
  apply S_towpathlaw01_TwinBytes
  unfold F_towpathlaw01_TwinBytes
  have hlen := hs.len_eq
  have hw1 : IntKind.i64.wrap (((s.len : Nat) : Int) + 1) = ((s.len : Nat) : Int) + 1 := i64_in _ (by omega) (by omega)
  rw [hw1]
  refine ⟨by omega, by omega, by omega, fun b w1 hb hw => ?_⟩
  have e1 : Ext w w1 := Ext.new hw
  have k1 : Blk w1 b (repCells (((s.len : Nat) : Int) + 1).toNat [Value.int .u8 0]).toList := Blk.new hb (by simpa using hw)
  have hbs := (Blk.lt k1)
  refine ⟨fun t i w' => 0 ≤ i ∧ i ≤ s.len ∧ Ext w w' ∧ t.len = i.toNat ∧ Row w' w.heap.size t 1 ((l.take i.toNat).map bV), fun t i w' => s.len - i.toNat, ⟨by omega, by omega, e1, rfl, .inr ⟨b, _, by omega, rfl, by simpa using k1, rfl, ?_, by simp⟩⟩, ?_⟩
  · simp [repCells]
  rintro t i w2 ⟨h0, h1, e2, ht, hr⟩
  have hB := e2.size
  unfold F_towpathlaw01_TwinBytes_L0
  refine ⟨fun hi => ?_, fun hi => ?_⟩
  · have hi := of_decide_eq_true hi
    obtain ⟨ha, x, hx, hc⟩ := (e2.src hs).get h0 hi
    refine ⟨ha, h0, hi, (x.toNat : Int), hc, fun b1 w3 hb1 hw3 => ⟨[bV x], srcAt_new hb1 hw3 rfl, ?_⟩⟩
    have e3 : Ext w2 w3 := Ext.new hw3
    have hw := wrap_next h0 hi (by omega)
    have hB3 := e3.size
    refine (hr.keep e3 (Nat.le_refl _)).append (by omega) rfl rfl rfl (by omega) fun t' w4 hr' hbel hl' _ _ => ?_
    refine ⟨⟨by omega, by omega, RowKit.Below.trans (e2.trans e3) hbel, by rw [hw, hl']; omega, ?_⟩, by simp only [hw]; omega⟩
    rw [hw, toNat_next h0, List.take_add_one, hx]
    simpa using hr'
  · have hi := of_decide_eq_false hi
    have hn : i.toNat = l.length := by omega
    rw [hn, List.take_length] at hr
    refine fun b2 w5 hb2 hw5 => ⟨[Value.int .u8 77], srcAt_new hb2 hw5 rfl, ?_⟩
    have e5 : Ext w2 w5 := Ext.new hw5
    have hB3 := e5.size
    refine (hr.keep e5 (Nat.le_refl _)).append (by omega) rfl rfl rfl (by omega) fun t' w4 hr' hbel hl' _ _ => ?_
    have hcl := hr'.cap_le
    refine ⟨by omega, by omega, h _ _ (RowKit.Below.trans (e2.trans e5) hbel) ⟨?_, by simp; omega⟩⟩
    have : t' = ⟨t'.ptr, l.length + 1, t'.cap⟩ := by cases t'; simp only [Slc.mk.injEq, true_and, and_true]; simp only at hl'; omega
    rw [this] at hr'
    exact hr'

theorem sp_towpathlaw01_LeftBytes {t s : Slc} {w : World} {B : Nat} {R : Bool → World → Prop} {l : List UInt8} (ht : Twin w B t l) (hs : SrcAt w s 1 (l.map bV)) (hl : s.len ≤ 140737488351232)
    (h : ∀ w', Ext w w' → R true w') : C_towpathlaw01_LeftBytes t s w R := by
  apply S_towpathlaw01_LeftBytes
  unfold F_towpathlaw01_LeftBytes
  have hlen := hs.len_eq
  have hcap := ht.row.cap_le
  simp only at hcap
  have htl := ht.len
  refine ⟨fun hc => ?_, fun _ => ?_⟩
  · simp only [Bool.or_eq_true, bne_iff_ne, decide_eq_true_eq] at hc
    omega
  refine ⟨fun i w' => Ext w w' ∧ 0 ≤ i ∧ i ≤ s.len, fun i w' => s.len - i.toNat, ⟨Ext.refl w, by omega, by omega⟩, ?_⟩
  rintro i w1 ⟨q1, h0, h1⟩
  unfold F_towpathlaw01_LeftBytes_L0
  have ht1 := ht.keep q1
  refine ⟨fun hi => ?_, fun hi => ?_⟩
  · have hi := of_decide_eq_true hi
    obtain ⟨ha, x, hx, hc⟩ := ht1.src.get h0 (by omega)
    obtain ⟨ha', x', hx', hc'⟩ := (q1.src hs).get h0 hi
    rw [hx] at hx'
    obtain rfl := Option.some.inj hx'
    have hw := wrap_next h0 hi (by omega)
    refine ⟨ha, h0, by omega, _, hc, ha', h0, hi, _, hc', fun w2 hw2 => ⟨fun hne => by simp at hne, fun _ => ⟨⟨q1.trans hw2, by omega, by omega⟩, by simp only [hw]; omega⟩⟩⟩
  · have hi := of_decide_eq_false hi
    have hw1 : IntKind.i64.wrap (((s.len : Nat) : Int) + 1) = ((s.len : Nat) : Int) + 1 := i64_in _ (by omega) (by omega)
    rw [hw1]
    obtain ⟨ha, hc⟩ := ht1.at_
    refine ⟨by omega, by omega, ha, by omega, by omega, 77, ?_, h _ q1⟩
    refine cellsAt_iff.1 hc _ _ ?_
    rw [Int.toNat_natCast, hlen]
    simp

end Go.Proofs.Ytmcpljflohlnaaa
