/- Chapter 05: laws of records. -/
import Derived.Test.YtfmkemmgakdddaaURecordD
import Derived.Test.YtfmkemmgakdddaaUTwinO
import Derived.Test.YtfmkemmgakdddaaGtowpathlaw05
import Derived.Test.YtfmkemmgakdddaaGRecordOne
import Derived.Test.YtfmkemmgakdddaaGRecordBack
import Derived.Test.YtfmkemmgakdddaaGRecordApart
namespace Go.Proofs.Ytfmkemmgakdddaa
open Go
set_option linter.unusedVariables false

theorem wr_ext {x y : Wr} : x = y ↔ (x.Key = y.Key ∧ x.Val = y.Val ∧ x.Drop = y.Drop) := by
  cases x; cases y; simp
instance : DecidableEq T_api_Write := fun x y => decidable_of_iff _ wr_ext.symm
theorem ba_eq (a b : ByteArray) : (a == b) = decide (a = b) := by
  cases a; cases b
  rename_i x y
  show (x == y) = _
  by_cases h : x = y
  · subst h; simp
  · rw [decide_eq_false (fun e => h (ByteArray.mk.inj e))]; simpa using h
theorem wr_eq (x y : Wr) : (((x.Key == y.Key) && (x.Val == y.Val)) && (x.Drop == y.Drop)) = decide (x = y) := by
  rw [ba_eq, ba_eq]
  by_cases h : x = y
  · subst h; simp
  · rw [decide_eq_false h]
    refine Bool.eq_false_iff.2 fun hh => h ?_
    simp only [Bool.and_eq_true, decide_eq_true_eq, beq_iff_eq] at hh
    exact wr_ext.2 ⟨hh.1.1, hh.1.2, hh.2⟩
theorem writes_in {w : World} {t : T_api_Txn} (h : Ok_T_api_Txn w t) : ∃ ws : List Wr, SrcAt w t.Writes 3 (ws.flatMap wV) ∧ t.Writes.len ≤ 140737488351232 := by
  obtain ⟨ws, h1, h2, h3, h4, h5⟩ := ok_list (f := wV) (Pr := fun _ => True) h.2 (fun es ⟨e, h, h'⟩ => ⟨e, h, trivial⟩) (fun _ => rfl) (by decide)
  exact ⟨ws, h1, by omega⟩

section
variable {w0 w : World} {fr bs : List Chunk}
theorem sp_SameWrites {a b : Slc} {ws us : List Wr} {R : Bool → World → Prop} (ha : SrcAt w a 3 (ws.flatMap wV)) (hb : SrcAt w b 3 (us.flatMap wV)) (hl : a.len ≤ 4611686018427387904)
    (k : ∀ w', Ext w w' → R (decide (ws = us)) w') : C_towpathlaw01_SameWrites a b w R := by
  apply S_towpathlaw01_SameWrites
  unfold F_towpathlaw01_SameWrites
  have la := wr_len ha
  have lb := wr_len hb
  refine ⟨fun h => ?_, fun h => ?_⟩
  · have h : ws.length ≠ us.length := by
      rw [la, lb] at h
      have : (ws.length : Int) ≠ (us.length : Int) := by simpa using h
      omega
    have := k w (Ext.refl _)
    rw [decide_eq_false (fun e => h (by rw [e]))] at this
    exact this
  have h : ws.length = us.length := by
    rw [la, lb] at h
    have : (ws.length : Int) = (us.length : Int) := by simpa using h
    omega
  refine ⟨fun i w' => Ext w w' ∧ 0 ≤ i ∧ i ≤ a.len ∧ ∀ j, j < i.toNat → ws[j]? = us[j]?, fun i _ => a.len - i.toNat, ⟨Ext.refl _, by omega, by omega, fun j hj => by omega⟩, ?_⟩
  rintro i w1 ⟨e, h0, h1, hj⟩
  unfold F_towpathlaw01_SameWrites_L0
  refine ⟨fun hi => ?_, fun hi => ?_⟩
  · have hi := of_decide_eq_true hi
    obtain ⟨pa, x, hx, hc⟩ := wr_at (e.src ha) h0 hi
    obtain ⟨pb, y, hy, hd⟩ := wr_at (e.src hb) h0 (show i < ((b.len : Nat) : Int) by omega)
    have wi : IntKind.i64.wrap (i + 1) = i + 1 := wrap_next h0 hi (by omega)
    refine ⟨pa, h0, hi, x, hc, pb, h0, by omega, y, hd, fun w2 e2 => ?_⟩
    rw [wr_eq]
    refine ⟨fun hne => ?_, fun heq => ?_⟩
    · have hne : x ≠ y := by simpa using hne
      have := k w2 (e.trans e2)
      rw [decide_eq_false (fun e => hne (by rw [e, hy] at hx; exact (Option.some.inj hx).symm))] at this
      exact this
    · have heq : x = y := by simpa using heq
      rw [wi]
      refine ⟨⟨e.trans e2, by omega, by omega, fun j hjlt => ?_⟩, by show _ - _ < _ - _; omega⟩
      rw [toNat_next h0] at hjlt
      by_cases hji : j = i.toNat
      · rw [hji, hx, hy, heq]
      · exact hj j (by omega)
  · have hi := of_decide_eq_false hi
    have := k w1 e
    rw [decide_eq_true (List.ext_getElem? fun j => by
      by_cases hjl : j < ws.length
      · exact hj j (by omega)
      · rw [List.getElem?_eq_none (by omega), List.getElem?_eq_none (by omega)])] at this
    exact this
theorem sp_SameTxn {a b : T_api_Txn} {ws us : List Wr} {R : Bool → World → Prop} (ha : SrcAt w a.Writes 3 (ws.flatMap wV)) (hb : SrcAt w b.Writes 3 (us.flatMap wV)) (hl : a.Writes.len ≤ 4611686018427387904)
    (k : ∀ w', Ext w w' → R (decide (a.Number = b.Number ∧ ws = us)) w') : C_towpathlaw01_SameTxn a b w R := by
  apply S_towpathlaw01_SameTxn
  intro b1 w1 hb1 hw1 b2 w2 hb2 hw2
  have st := ((St.start w).alloc hb1 hw1).alloc hb2 hw2
  refine ⟨a.Number, st.cell 1 rfl rfl, b.Number, st.cell 0 rfl rfl, fun h => ⟨a.Writes, st.cell 1 rfl rfl, b.Writes, st.cell 0 rfl rfl, ?_⟩, fun h => ?_⟩
  · have h : a.Number = b.Number := by simpa using h
    refine sp_SameWrites (st.ext.src ha) (st.ext.src hb) hl fun w3 e3 => ?_
    have := k w3 (st.ext.trans e3)
    rw [show decide (a.Number = b.Number ∧ ws = us) = decide (ws = us) from by simp [h]] at this
    exact this
  · have h : a.Number ≠ b.Number := by simpa using h
    have := k w2 st.ext
    rw [decide_eq_false (fun hh => h hh.1)] at this
    exact this
theorem sp_TxnSize {t : T_api_Txn} {ws : List Wr} {R : Int → World → Prop} (hs : SrcAt w t.Writes 3 (ws.flatMap wV)) (hl : t.Writes.len ≤ 4611686018427387904)
    (k : ∀ v w', Ext w w' → R v w') : C_towpathlaw01_TxnSize t w R := by
  apply S_towpathlaw01_TxnSize
  intro b w1 hb hw
  have e1 : Ext w w1 := Ext.new hw
  refine ⟨t.Writes, (Blk.new hb hw).cell rfl, ?_⟩
  apply S_towpathlaw01_WritesSize
  refine ⟨fun _ i w' => Ext w w' ∧ 0 ≤ i ∧ i ≤ t.Writes.len, fun _ i _ => t.Writes.len - i.toNat, ⟨e1, by omega, by omega⟩, ?_⟩
  rintro n i w2 ⟨e, h0, h1⟩
  unfold F_towpathlaw01_WritesSize_L0
  refine ⟨fun hi => ?_, fun hi => k _ _ e⟩
  have hi : i < ((t.Writes.len : Nat) : Int) := by simp only [Bool.and_eq_true, decide_eq_true_eq] at hi; exact hi.1
  obtain ⟨pa, x, hx, hc⟩ := wr_at (e.src hs) h0 hi
  refine ⟨pa, h0, hi, x.Key, hc.1, pa, h0, hi, x.Val, hc.2.1, fun w3 e3 => ?_⟩
  rw [wrap_next h0 hi (by omega)]
  exact ⟨⟨e.trans e3, by omega, by omega⟩, by show _ - _ < _ - _; omega⟩
theorem sp_BeyondAny {w1 : World} {b : Nat} {T : TypeId} {x : Int} {R : Bool → World → Prop} (hb : b = w.heap.size) (hw : w1 = w.alloc (Obj.cells ([Value.int .i64 x]).toArray T (0, 0))) (k : ∀ v, R v w1) :
    C_towpathlaw01_Beyond (Slc.mk (some ⟨b, 0, none⟩) 1 1) w1 R :=
  sp_towpathlaw01_Beyond (xs := [x]) (srcAt_new hb hw rfl) (by show 1 ≤ _; omega) (k _)
theorem sp_BeyondAny2 {w1 : World} {b : Nat} {T : TypeId} {x y : Int} {R : Bool → World → Prop} (hb : b = w.heap.size) (hw : w1 = w.alloc (Obj.cells ([Value.int .i64 x, Value.int .i64 y]).toArray T (0, 0))) (k : ∀ v, R v w1) :
    C_towpathlaw01_Beyond (Slc.mk (some ⟨b, 0, none⟩) 2 2) w1 R :=
  sp_towpathlaw01_Beyond (xs := [x, y]) (srcAt_new hb hw rfl) (by show 2 ≤ _; omega) (k _)
theorem sp_Size {t : T_api_Txn} {ws : List Wr} {R : Int → Int → World → Prop} (st : St w0 fr w) (hs : ∀ l w', St w0 (l ++ fr) w' → SrcAt w' t.Writes 3 (ws.flatMap wV)) (hl : t.Writes.len ≤ 140737488351232) (hok : okT t.Number ws)
    (k : ∀ w', St w0 fr w' → R ((encT t.Number ws).length : Int) 0 w') : C_record_Size t w R := by
  apply S_record_Size
  intro b w1 hb hw
  have st := st.alloc hb hw
  refine ⟨t, (st.get 0 rfl).all, sp_Encode st (fun l w' st' => hs (l ++ [_]) w' (by rw [List.append_assoc]; exact st')) hl (fun h => absurd hok h) fun _ s rb w' ro st hsl => ?_⟩
  rw [hsl]
  exact k w' st.drop.drop1

theorem sp_towpathlaw05_alive {R : Bool → World → Prop} (st : St w0 fr w) (k : ∀ w', St w0 fr w' → R true w') : C_towpathlaw05_alive w R := by
  apply S_towpathlaw05_alive
  intro b w1 hb hw
  have st1 := st.alloc hb hw
  have ok1 : okT 1 [⟨ByteArray.mk #[97], ByteArray.mk #[120], false⟩, ⟨ByteArray.mk #[98], ByteArray.empty, true⟩] := by decide
  have ok0 : ¬ okT 0 [] := by decide
  refine sp_Encode (ws := [⟨ByteArray.mk #[97], ByteArray.mk #[120], false⟩, ⟨ByteArray.mk #[98], ByteArray.empty, true⟩]) st1 (fun l w' st' => ?_) (by show 2 ≤ _; omega) (fun h => absurd ok1 h) fun _ s rb w2 ro st hsl => ?_
  · have st3 : St w0 ([(b, wV ⟨ByteArray.mk #[97], ByteArray.mk #[120], false⟩ ++ wV ⟨ByteArray.mk #[98], ByteArray.empty, true⟩)] ++ fr) w' := st'.drop
    exact (RowC.new (n := 2) (sz := 3) rfl).src st3
  refine sp_Encode (ws := []) st (fun l w' st' => ⟨rfl, .inl rfl⟩) (by show 0 ≤ _; omega) (fun _ w3 st => ?_) (fun h => absurd h ok0)
  intro b2 w4 hb2 hw4
  have st4 := st.alloc hb2 hw4
  have d : decT [1, 33] = .inr 3 := by decide +kernel
  refine sp_Decode (xs := [1, 33]) st4 (srcAt_new hb2 hw4 rfl) (by show 2 ≤ _; omega) (fun e he hne w5 st => ?_) (fun n ws h => by rw [d] at h; cases h)
  rw [d] at he
  cases he
  intro b3 w6 hb3 hw6
  have st := st.alloc hb3 hw6
  refine ⟨st.writable 0 rfl (by simp), fun w7 hw7 => ⟨fun _ => fun b4 w8 hb4 hw8 => ?_, fun h => by simp at h⟩⟩
  have st := (st.put0 hw7).alloc hb4 hw8
  have st : St w0 (rb ++ _) w8 := st.drop1.drop1.drop1
  refine sp_SameBytes (ys := [1, 2, 1, 97, 0, 1, 120, 1, 98, 1]) (ro.src st) (srcAt_new hb4 hw8 rfl) (by rw [hsl]; have := encT_len ok1; show (encT 1 _).length ≤ _; omega) fun w9 e9 => ?_
  have he : encT 1 [⟨ByteArray.mk #[97], ByteArray.mk #[120], false⟩, ⟨ByteArray.mk #[98], ByteArray.empty, true⟩] = [1, 2, 1, 97, 0, 1, 120, 1, 98, 1] := by decide +kernel
  rw [decide_eq_true (show encT 1 _ = _ from he)]
  exact k w9 (st.keep e9).drop.drop1
end

abbrev RBl (w : World) : Bool → World → Prop := fun b w' => b = true ∧ RowKit.Below w.heap.size w w'

theorem law_RecordOne (x0 : Slc) (w : World) (h0 : OkSl w x0 1 1 (fun es => ∃ e_ : Int, es = [Value.int .u8 e_] ∧ (0 ≤ e_ ∧ e_ ≤ 255))) :
    C_towpathlaw05_RecordOne x0 w (fun b w' => b = true ∧ RowKit.Below w.heap.size w w') := by
  apply S_towpathlaw05_RecordOne
  unfold F_towpathlaw05_RecordOne
  obtain ⟨xs, hs, hcl, hcap, hl⟩ := ok_bytes h0
  have st := St.start w
  refine sp_towpathlaw05_alive st fun w1 st => ⟨fun h => by simp at h, fun _ => fun b w2 hb hw => ?_⟩
  have st := st.alloc hb hw
  refine sp_BeyondAny hb hw fun v => ?_
  unfold F_towpathlaw05_RecordOne_k0
  refine ⟨fun _ => sp_towpathlaw05_alive st fun w3 st => ⟨rfl, st.below⟩, fun _ => ?_⟩
  refine sp_Decode st (st.ext.src hs) (by omega) (fun e he hne w3 st => ?_) (fun n ws hd s rb w3 ro st => ?_)
  · intro b1 w4 hb1 hw4
    have st := st.alloc hb1 hw4
    refine ⟨st.writable 0 rfl (by simp), fun w5 hw5 => ⟨fun _ => ?_, fun h => absurd (by simpa using h) hne⟩⟩
    have st := st.put0 hw5
    exact ⟨0, st.cell 0 rfl rfl, fun _ => ⟨⟨none, 0, 0⟩, st.cell 0 rfl rfl, rfl, st.below⟩, fun h => by simp at h⟩
  · obtain ⟨hok, hx⟩ := decT_one hd
    intro b1 w4 hb1 hw4
    have st := st.alloc hb1 hw4
    refine ⟨st.writable 0 rfl (by simp), fun w5 hw5 => ⟨fun h => by simp at h, fun _ => ?_⟩⟩
    have st : St w ((b1, txV (n : Int) s) :: (rb ++ [(b, [Value.int .i64 ((x0.len : Nat) : Int)])])) w5 := st.put0 hw5
    have hsl := wr_len (ro.src st.drop1)
    have hws : ∀ {l' : List Chunk} {w' : World}, St w (l' ++ ((b1, txV (n : Int) s) :: (rb ++ [(b, [Value.int .i64 ((x0.len : Nat) : Int)])]))) w' → SrcAt w' s 3 (ws.flatMap wV) := fun st => ro.src st.drop.drop1
    have c1 : ∀ {l' : List Chunk} {w' : World}, St w (l' ++ ((b1, txV (n : Int) s) :: (rb ++ [(b, [Value.int .i64 ((x0.len : Nat) : Int)])]))) w' → CellsAt w' b1 0 (txV (n : Int) s) := fun st => (st.drop.get 0 rfl).all
    have h32 : s.len ≤ 32 := by have := hok.2.2.1; omega
    refine ⟨⟨(n : Int), s⟩, (st.get 0 rfl).all, sp_Encode (t := ⟨(n : Int), s⟩) st (fun l' w' st => hws st) (by show s.len ≤ _; omega) (fun h => absurd hok h) fun _ s2 rb2 w6 ro2 st hs2 => ?_⟩
    refine ⟨⟨(n : Int), s⟩, c1 st, sp_Size (t := ⟨(n : Int), s⟩) st (fun l' w' st => hws (l' := l' ++ rb2) (by rw [List.append_assoc]; exact st)) (by show s.len ≤ _; omega) hok fun w7 st => ⟨fun _ => ?_, fun h => ?_⟩⟩
    · refine ⟨⟨(n : Int), s⟩, c1 st, sp_Check (t := ⟨(n : Int), s⟩) (hws st) (by show s.len ≤ _; omega) fun w8 e8 => ?_⟩
      rw [if_pos hok]
      have st := st.keep e8
      refine ⟨fun _ => sp_SameBytes (st.ext.src hs) (ro2.src st) (by omega) fun w9 e9 => ⟨?_, (st.keep e9).below⟩, fun h => by simp at h⟩
      exact decide_eq_true hx
    · exfalso
      rw [show ((encT (n : Int) ws).length : Int) = ((x0.len : Nat) : Int) from by rw [← hl, hx]] at h
      simp at h

theorem law_RecordBack (x0 : T_api_Txn) (x1 x2 : Int) (w : World) (h0 : Ok_T_api_Txn w x0) (h1 : 0 ≤ x1 ∧ x1 ≤ 65535) (h2 : 0 ≤ x2 ∧ x2 ≤ 255) :
    C_towpathlaw05_RecordBack x0 x1 x2 w (fun b w' => b = true ∧ RowKit.Below w.heap.size w w') := by
  apply S_towpathlaw05_RecordBack
  unfold F_towpathlaw05_RecordBack
  obtain ⟨ws, hs, hl⟩ := writes_in h0
  intro b w1 hb hw
  have st := (St.start w).alloc hb hw
  have c0 : ∀ {l' : List Chunk} {w' : World}, St w (l' ++ [(b, txV x0.Number x0.Writes)]) w' → CellsAt w' b 0 (txV x0.Number x0.Writes) := fun st => (st.drop.get 0 rfl).all
  refine sp_towpathlaw05_alive st fun w2 st => ⟨fun h => by simp at h, fun _ => ⟨x0, (st.get 0 rfl).all, sp_TxnSize (st.ext.src hs) (by omega) fun v w3 e3 b6 w4 hb6 hw4 => sp_BeyondAny hb6 hw4 fun v => ?_⟩⟩
  have st : St w [(b, txV x0.Number x0.Writes)] w4 := ((st.keep e3).alloc hb6 hw4).drop1
  unfold F_towpathlaw05_RecordBack_k0
  refine ⟨fun _ => sp_towpathlaw05_alive st fun w3 st => ⟨rfl, st.below⟩, fun _ => ⟨x0, (st.get 0 rfl).all, ?_⟩⟩
  refine sp_Encode st (fun l' w' st => st.ext.src hs) (by omega) (fun hno w5 st => ⟨fun _ => ⟨fun _ => ⟨x0, (st.get 0 rfl).all, sp_Check (st.ext.src hs) (by omega) fun w6 e6 => ?_⟩, fun h => by simp at h⟩, fun h => by simp at h⟩) (fun hok s rb w5 ro st hsl => ⟨fun h => by simp at h, fun _ => ?_⟩)
  · rw [if_neg hno]
    exact ⟨rfl, (st.keep e6).below⟩
  have hel := encT_len hok
  have hpos : 0 < (encT x0.Number ws).length := by
    have := List.length_pos_iff.2 (varF_ne x0.Number.toNat)
    unfold encT; rw [List.length_append]; omega
  have hcap := ro.cap_le
  have hd0 := decT_put hok []
  rw [List.append_nil, if_pos rfl] at hd0
  refine sp_Decode st (ro.src st) (by omega) (fun e he hne => by rw [hd0] at he; cases he) (fun n ws' hd s' rb' w6 ro' st b2 w7 hb2 hw7 => ?_)
  rw [hd0] at hd
  simp only [Sum.inl.injEq, Prod.mk.injEq] at hd
  obtain ⟨rfl, rfl⟩ := hd
  have hnn : ((x0.Number.toNat : Nat) : Int) = x0.Number := by have := hok.1; omega
  rw [hnn] at *
  have st := st.alloc hb2 hw7
  refine ⟨st.writable 0 rfl (by simp), fun w8 hw8 => ⟨fun h => by simp at h, fun _ => ?_⟩⟩
  have st : St w ((b2, txV x0.Number s') :: (rb' ++ (rb ++ [(b, txV x0.Number x0.Writes)]))) w8 := st.put0 hw8
  have cb : ∀ {w' : World}, St w ((b2, txV x0.Number s') :: (rb' ++ (rb ++ [(b, txV x0.Number x0.Writes)]))) w' → CellsAt w' b 0 (txV x0.Number x0.Writes) := fun st => c0 st.drop1.drop
  refine ⟨x0, cb st, sp_Check (st.ext.src hs) (by omega) fun w9 e9 => ?_⟩
  rw [if_pos hok]
  have st := st.keep e9
  refine ⟨fun h => by simp at h, fun _ => ⟨⟨x0.Number, s'⟩, (st.get 0 rfl).all, x0, cb st, sp_SameTxn (a := ⟨x0.Number, s'⟩) (ro'.src st.drop1) (st.ext.src hs) (by have := wr_len (ro'.src st.drop1); have := wr_len hs; show s'.len ≤ _; omega) fun w10 e10 => ?_⟩⟩
  rw [decide_eq_true (show x0.Number = x0.Number ∧ ws = ws from ⟨rfl, rfl⟩)]
  have st : St w (rb ++ [(b, txV x0.Number x0.Writes)]) w10 := (st.keep e10).drop1.drop
  have hz : (((s.len : Nat) : Int) == 0) = false := by
    have : ((s.len : Nat) : Int) ≠ 0 := by omega
    simpa using this
  rw [hz]
  unfold F_towpathlaw05_RecordBack_k1
  refine ⟨fun h => by simp at h, fun _ => ?_⟩
  obtain ⟨cut, rfl⟩ := toN h1.1
  have wc : IntKind.i64.wrap ((cut : Nat) : Int) = (cut : Int) := i64_in _ (by omega) (by omega)
  rw [wc]
  generalize hq : cut % s.len = q
  have hql : q < s.len := by rw [← hq]; exact Nat.mod_lt _ (by omega)
  have wq : Int.tmod ((cut : Nat) : Int) ((s.len : Nat) : Int) = (q : Int) := by rw [← hq]; rfl
  rw [wq, Int.toNat_natCast]
  refine ⟨by omega, by omega, by omega, ?_⟩
  have hp := (ro.src st).pre (k := q) (by omega)
  rw [Nat.mul_one, ← List.map_take] at hp
  have hd1 := decT_short hok (show q < (encT x0.Number ws).length by omega)
  refine sp_Decode st hp (by show q ≤ _; omega) (fun e he hne w11 st => ?_) (fun n ws' hd => by rw [hd1] at hd; cases hd)
  rw [hd1] at he
  cases he
  intro b3 w12 hb3 hw12
  have st := st.alloc hb3 hw12
  refine ⟨st.writable 0 rfl (by simp), fun w13 hw13 => ?_⟩
  have st : St w (rb ++ [(b, txV x0.Number x0.Writes)]) w13 := (st.put0 hw13).drop1
  refine sp_TwinO st (ro.src st) (by omega) (.inr fun l w' st => ro.src st.drop) fun t rbt w14 ot st b4 w15 hb4 hw15 => ?_
  have rt := ot.row
  have htl := ot.len
  obtain ⟨c, rfl⟩ := toN h2.1
  refine ⟨[Value.int .u8 (c : Int)], srcAt_new hb4 hw15 rfl, ?_⟩
  refine rt.append (st.keep (Ext.new hw15)) rfl rfl rfl (by omega) fun s3 rb3 w16 r3 st hl3 => ?_
  have e3 : (encT x0.Number ws).map bV ++ [Value.int .u8 (c : Int)] = (encT x0.Number ws ++ [UInt8.ofNat c]).map bV := by rw [← bV_ofNat (show c < 256 by omega)]; simp
  rw [e3] at r3
  have hd2 := decT_put hok [UInt8.ofNat c]
  rw [if_neg (by simp)] at hd2
  refine sp_Decode st (r3.src st) (by omega) (fun e he hne w17 st => ?_) (fun n ws' hd => by rw [hd2] at hd; cases hd)
  rw [hd2] at he
  cases he
  intro b5 w18 hb5 hw18
  have st := st.alloc hb5 hw18
  refine ⟨st.writable 0 rfl (by simp), fun w19 hw19 => ⟨rfl, (st.put0 hw19).below⟩⟩

theorem law_RecordApart (x0 x1 : T_api_Txn) (w : World) (h0 : Ok_T_api_Txn w x0) (h1 : Ok_T_api_Txn w x1) :
    C_towpathlaw05_RecordApart x0 x1 w (fun b w' => b = true ∧ RowKit.Below w.heap.size w w') := by
  apply S_towpathlaw05_RecordApart
  unfold F_towpathlaw05_RecordApart
  obtain ⟨ws, hs, hl⟩ := writes_in h0
  obtain ⟨us, hu, hlu⟩ := writes_in h1
  intro b w1 hb hw b1 w2 hb1 hw1 w10 e10
  have st := (((St.start w).alloc hb hw).alloc hb1 hw1).drew e10
  have c1 : ∀ {l' : List Chunk} {w' : World}, St w (l' ++ [(b1, txV x1.Number x1.Writes), (b, txV x0.Number x0.Writes)]) w' → CellsAt w' b1 0 (txV x1.Number x1.Writes) := fun st => (st.drop.get 0 rfl).all
  have c0 : ∀ {l' : List Chunk} {w' : World}, St w (l' ++ [(b1, txV x1.Number x1.Writes), (b, txV x0.Number x0.Writes)]) w' → CellsAt w' b 0 (txV x0.Number x0.Writes) := fun st => (st.drop.get 1 rfl).all
  refine sp_towpathlaw05_alive st fun w11 st => ⟨fun h => by simp at h, fun _ => ⟨x0, c0 (l' := []) st, x1, c1 (l' := []) st, sp_TxnSize (st.ext.src hs) (by omega) fun v w12 e12 => ?_⟩⟩
  have st := st.keep e12
  refine ⟨c1 (l' := []) st, sp_TxnSize (st.ext.src hu) (by omega) fun v2 w13 e13 b3 w14 hb3 hw14 => sp_BeyondAny2 hb3 hw14 fun v => ?_⟩
  have st := ((st.keep e13).alloc hb3 hw14).drop1
  unfold F_towpathlaw05_RecordApart_k0
  refine ⟨fun _ => sp_towpathlaw05_alive st fun w3 st => ⟨rfl, st.below⟩, fun _ => ⟨x0, c0 (l' := []) st, ?_⟩⟩
  have any : ∀ (e f : Int), (e = 0 ∨ e = 1) → (f = 0 ∨ f = 1) → (((e == 0) || (e == 1)) && ((f == 0) || (f == 1))) = true := by
    rintro e f (rfl | rfl) (rfl | rfl) <;> rfl
  refine sp_Encode st (fun l' w' st => st.ext.src hs) (by omega) (fun hno w5 st => ⟨x1, c1 (l' := []) st, ?_⟩) (fun hok s rb w5 ro st hsl => ⟨x1, c1 st, ?_⟩)
  · exact sp_Encode st (fun l' w' st => st.ext.src hu) (by omega) (fun _ w6 st => ⟨fun _ => ⟨rfl, st.below⟩, fun h => by simp at h⟩) (fun _ s rb w6 ro st _ => ⟨fun _ => ⟨rfl, st.below⟩, fun h => by simp at h⟩)
  refine sp_Encode st (fun l' w' st => st.ext.src hu) (by omega) (fun _ w6 st => ⟨fun _ => ⟨rfl, st.below⟩, fun h => by simp at h⟩) (fun hok2 s2 rb2 w6 ro2 st hsl2 => ⟨fun h => by simp at h, fun _ => fun w7 e7 => ?_⟩)
  have st := st.drew e7
  generalize hm : min (encT x0.Number ws).length (encT x1.Number us).length = mn
  have wmn : (if ((s2.len : Nat) : Int) < ((s.len : Nat) : Int) then ((s2.len : Nat) : Int) else ((s.len : Nat) : Int)) = (mn : Int) := by split <;> omega
  have hc1 := ro.cap_le
  have hc2 := ro2.cap_le
  have l1 := encT_len hok
  rw [wmn, Int.toNat_natCast]
  have stc : St w ((rb2 ++ rb) ++ [(b1, txV x1.Number x1.Writes), (b, txV x0.Number x0.Writes)]) w7 := by rw [List.append_assoc]; exact st
  refine ⟨by omega, by omega, by omega, by omega, x0, c0 stc, x1, c1 stc, ?_⟩
  have p1 := (ro.src st.drop).pre (k := mn) (by omega)
  have p2 := (ro2.src st).pre (k := mn) (by omega)
  rw [Nat.mul_one, ← List.map_take] at p1 p2
  refine sp_SameBytes p1 p2 (by show mn ≤ _; omega) fun w8 e8 => ?_
  have stc := stc.keep e8
  refine ⟨c1 stc, c0 stc, sp_SameTxn (stc.ext.src hs) (stc.ext.src hu) (by omega) fun w9 e9 => ⟨?_, (stc.keep e9).below⟩⟩
  have key : decide ((encT x0.Number ws).take mn = (encT x1.Number us).take mn) = decide (x0.Number = x1.Number ∧ ws = us) := by
    by_cases h : x0.Number = x1.Number ∧ ws = us
    · rw [decide_eq_true h, decide_eq_true (by rw [h.1, h.2])]
    · rw [decide_eq_false h, decide_eq_false (fun hh => h (encT_apart hok hok2 (by rw [hm]; exact hh)))]
  rw [key]; simp

end Go.Proofs.Ytfmkemmgakdddaa
