/- Chapter 17: law: what is answered is new memory. -/
import Derived.Test.YtpedclhflmhakaaGreatDoorM1
import Derived.Test.YtpedclhflmhakaaGreatDoorGcall
import Derived.Shelf.Small.Strs
import Derived.Ground.NamesProg
import Derived.Test.YtpedclhflmhakaaGreatDoorGtowpathlaw01
import Derived.Lib.LaidTab
import Derived.Lib.ItoaLen
import Derived.Shelf.Strconv.Itoa3
import Derived.Test.YtpedclhflmhakaaGreatDoorGCallOwn
namespace Go.Proofs.YtpedclhflmhakaaGreatDoor
open Go
set_option linter.unusedVariables false
set_option linter.unusedSimpArgs false

abbrev aggE (x : T_api_Entry) : Value := Value.agg #[Value.string x.Key, Value.string x.Val]
section
variable {w0 : Base} {w : World} {fr : List Chunk} {data : Slc}
/-- The compare function keeps to an order, and leaves the row alone. -/
def CmpE (w0 : Base) (fr : List Chunk) (data : Slc) (O : Ord T_api_Entry) (cmp : Value) : Prop :=
  ∀ (x y : T_api_Entry) (l : List T_api_Entry) (w : World), ArE w0 fr data l w → CallsV (P := Tryz.prog) cmp #[aggE x, aggE y] w (fun e w' => ∃ v : Int, e = Ending.returned (Value.int .i64 v) ∧ decide (v < 0) = O.lt x y ∧ ArE w0 fr data l w')
theorem sp_insertionE {O : Ord T_api_Entry} {P X S : List T_api_Entry} {a b : Int} {cmp : Value} {R : World → Prop} (hc : CmpE w0 fr data O cmp) (h : ArE w0 fr data (P ++ (X ++ S)) w) (ha : a = (P.length : Int)) (hb : b = ((P.length + X.length : Nat) : Int)) (hl : (P ++ (X ++ S)).length ≤ 4611686018427387904)
    (k : ∀ Z w', O.Sorted Z → O.Same X Z → Z.length = X.length → ArE w0 fr data (P ++ (Z ++ S)) w' → R w') : C_slices_insertionSortCmpFunc_api_Entry data a b cmp w R := by
  apply S_slices_insertionSortCmpFunc_api_Entry
  unfold F_slices_insertionSortCmpFunc_api_Entry
  have hl' : P.length + (X.length + S.length) ≤ 4611686018427387904 := by simpa using hl
  subst ha hb
  have w1 : IntKind.i64.wrap ((P.length : Int) + 1) = ((P.length + 1 : Nat) : Int) := by rw [i64_in _ (by omega) (by omega)]; omega
  rw [w1]
  refine ⟨fun i w' => ∃ (Z Y : List T_api_Entry), i = ((P.length + (if Z = [] then 1 else Z.length) : Nat) : Int) ∧ (Z = [] → X = []) ∧ O.Sorted Z ∧ O.Same X (Z ++ Y) ∧ Z.length + Y.length = X.length ∧ ArE w0 fr data (P ++ (Z ++ (Y ++ S))) w', fun i _ => P.length + X.length + 1 - i.toNat, ?_, ?_⟩
  · cases X with
    | nil => exact ⟨[], [], rfl, fun _ => rfl, List.Pairwise.nil, Ord.Same.refl _, rfl, h⟩
    | cons x X => exact ⟨[x], X, rfl, fun h => (by cases h), List.pairwise_singleton _ _, Ord.Same.refl _, by simp; omega, h⟩
  clear h
  rintro i w2 ⟨Z, Y, rfl, hz, sZ, eZ, hzl, h⟩
  unfold F_slices_insertionSortCmpFunc_api_Entry_L0
  refine ⟨fun hi => ?_, fun hi => ?_⟩
  rotate_left
  · have hi := of_decide_eq_false hi
    have hY : Y = [] := by
      cases Z with
      | nil => rw [hz rfl] at hzl; simpa using hzl
      | cons z Z => rw [if_neg (by simp)] at hi; exact List.eq_nil_of_length_eq_zero (by omega)
    subst hY
    rw [List.append_nil] at eZ
    exact k Z w2 sZ eZ (by simpa using hzl) h
  have hi := of_decide_eq_true hi
  cases Y with
  | nil =>
    cases Z with
    | nil => rw [hz rfl, if_pos rfl] at hi; simp at hi; omega
    | cons z Z => rw [if_neg (by simp)] at hi; simp at hzl; simp at hi; omega
  | cons x Y =>
    have hz0 : Z ≠ [] := fun e => by rw [e, hz e] at hzl; simp at hzl
    rw [if_neg hz0] at hi ⊢
    have hzl2 : Z.length + (Y.length + 1) = X.length := by simpa using hzl
    refine ⟨fun j w' => ∃ (A B : List T_api_Entry), Z = A ++ B ∧ j = ((P.length + A.length : Nat) : Int) ∧ (∀ z ∈ B, O.lt x z = true) ∧ ArE w0 fr data (P ++ (A ++ (x :: (B ++ (Y ++ S))))) w', fun j _ => j.toNat, ⟨Z, [], by simp, rfl, fun z h => (by cases h), by simpa using h⟩, ?_⟩
    clear h
    rintro j w3 ⟨A, B, hZ, rfl, hB, h⟩
    have hab : Z.length = A.length + B.length := by rw [hZ, List.length_append]
    unfold F_slices_insertionSortCmpFunc_api_Entry_L1
    intro w4 hw4
    have h := h.drew hw4
    have wn : IntKind.i64.wrap (((P.length + Z.length : Nat) : Int) + 1) = ((P.length + (Z.length + 1) : Nat) : Int) := by rw [i64_in _ (by omega) (by omega)]; omega
    have stop : ∀ {w5 : World} {ag : Int → World → Prop}, (∀ y ∈ A, O.lt x y = false) → ArE w0 fr data (P ++ (A ++ (x :: (B ++ (Y ++ S))))) w5 → F_slices_insertionSortCmpFunc_api_Entry_k2 data ((P.length + Z.length : Nat) : Int) (fun i' w' => (∃ (Z Y : List T_api_Entry), i' = ((P.length + (if Z = [] then 1 else Z.length) : Nat) : Int) ∧ (Z = [] → X = []) ∧ O.Sorted Z ∧ O.Same X (Z ++ Y) ∧ Z.length + Y.length = X.length ∧ ArE w0 fr data (P ++ (Z ++ (Y ++ S))) w') ∧ P.length + X.length + 1 - i'.toNat < P.length + X.length + 1 - (((P.length + Z.length : Nat) : Int)).toNat) ((P.length + A.length : Nat) : Int) ag false w5 := fun hA h' => by
      unfold F_slices_insertionSortCmpFunc_api_Entry_k2
      refine ⟨fun h => (by cases h), fun _ => ?_⟩
      rw [wn]
      refine ⟨⟨A ++ (x :: B), Y, ?_, fun h => (by simp at h), ?_, ?_, by simp; omega, by simpa only [List.append_assoc, List.cons_append] using h'⟩, by omega⟩
      · rw [if_neg (by simp), List.length_append, List.length_cons, hab]
        congr 1
      · rw [hZ] at sZ
        refine sZ.left.app (List.pairwise_cons.2 ⟨fun z hz => O.asym _ _ (hB z hz), sZ.right⟩) fun y hy z hz => ?_
        rcases List.mem_cons.1 hz with rfl | hz
        · exact hA y hy
        · exact sZ.cross y hy z hz
      · refine eZ.trans ?_
        have t := (Ord.Same.refl (O := O) A).app ((Ord.Same.turn (O := O) (a := B) (b := [x]) (fun z hz y hy => by rw [List.mem_singleton.1 hy]; exact hB z hz)).app (Ord.Same.refl Y))
        rw [hZ]
        simpa only [List.append_assoc, List.singleton_append, List.cons_append, List.nil_append] using t
    refine ⟨fun hj => ?_, fun hj => ?_⟩
    rotate_left
    · have hj := of_decide_eq_false hj
      have hA : A = [] := List.eq_nil_of_length_eq_zero (by omega)
      exact stop (fun y hy => (by rw [hA] at hy; cases hy)) h
    have hj := of_decide_eq_true hj
    obtain ⟨A, y, rfl⟩ : ∃ A' y, A = A' ++ [y] := ⟨A.dropLast, A.getLast (fun e => by rw [e] at hj; simp at hj), (List.dropLast_concat_getLast _).symm⟩
    have hall : ∀ {v : T_api_Entry} {T : List T_api_Entry} (L : List T_api_Entry), (L ++ (v :: T))[L.length]? = some v := fun L => by rw [List.getElem?_append_right (Nat.le_refl _), Nat.sub_self]; rfl
    have hset : ∀ {v u : T_api_Entry} {T : List T_api_Entry} (L : List T_api_Entry), (L ++ (v :: T)).set L.length u = L ++ (u :: T) := fun L => by rw [List.set_append_right _ _ (Nat.le_refl _), Nat.sub_self]; rfl
    have hjl : P.length + (A ++ [y]).length = (P ++ (A ++ [y])).length := List.length_append.symm
    have hjl1 : P.length + A.length = (P ++ A).length := List.length_append.symm
    have hAl : (A ++ [y]).length = A.length + 1 := by simp
    have lenl : (P ++ ((A ++ [y]) ++ (x :: (B ++ (Y ++ S))))).length = P.length + (X.length + S.length) := by simp; omega
    have wj : IntKind.i64.wrap (((P.length + (A ++ [y]).length : Nat) : Int) - 1) = ((P.length + A.length : Nat) : Int) := by rw [hAl, i64_in _ (by omega) (by omega)]; omega
    have hdl := h.len
    rw [wj]
    have gx : (P ++ ((A ++ [y]) ++ (x :: (B ++ (Y ++ S)))))[P.length + (A ++ [y]).length]? = some x := by rw [hjl, ← List.append_assoc]; exact hall _
    have gy : (P ++ ((A ++ [y]) ++ (x :: (B ++ (Y ++ S)))))[P.length + A.length]? = some y := by
      rw [hjl1, show P ++ ((A ++ [y]) ++ (x :: (B ++ (Y ++ S)))) = (P ++ A) ++ (y :: (x :: (B ++ (Y ++ S)))) from by simp only [List.append_assoc, List.singleton_append]]
      exact hall _
    have at2 : ∀ {w' : World}, ArE w0 fr data (P ++ ((A ++ [y]) ++ (x :: (B ++ (Y ++ S))))) w' → IsAt data.ptr ∧ CellsAt w' (pblk data.ptr) (poff data.ptr + (P.length + (A ++ [y]).length) * 2) (entT x) ∧ CellsAt w' (pblk data.ptr) (poff data.ptr + (P.length + A.length) * 2) (entT y) := fun h' => by
      obtain ⟨a1, x1, hx1, hc1⟩ := h'.get (i := P.length + (A ++ [y]).length) (by omega)
      obtain ⟨a2, y1, hy1, hc2⟩ := h'.get (i := P.length + A.length) (by omega)
      rw [gx] at hx1; rw [gy] at hy1
      obtain rfl := Option.some.inj hx1
      obtain rfl := Option.some.inj hy1
      exact ⟨a1, hc1, hc2⟩
    obtain ⟨at_, cx, cy⟩ := at2 h
    simp only [Int.toNat_natCast]
    refine ⟨at_, by omega, by omega, x, cx, at_, by omega, by omega, y, cy, CallsV.mono (hc x y _ _ h) ?_⟩
    rintro e w5 ⟨v, rfl, hv, h5⟩
    refine ⟨v, rfl, ?_⟩
    cases hlt : O.lt x y with
    | false =>
      rw [hv, hlt]
      refine stop (fun z hz => ?_) h5
      rcases List.mem_append.1 hz with hz | hz
      · rw [hZ] at sZ
        exact O.tr z y x (sZ.left.cross z hz y (List.mem_singleton_self _)) hlt
      · rw [List.mem_singleton.1 hz]; exact hlt
    | true =>
      rw [hv, hlt]
      unfold F_slices_insertionSortCmpFunc_api_Entry_k2
      refine ⟨fun _ w6 hw6 => ?_, fun h => (by cases h)⟩
      have h6 := h5.drew hw6
      obtain ⟨at_, cx, cy⟩ := at2 h6
      rw [wj]
      simp only [Int.toNat_natCast]
      obtain ⟨wr1, set1⟩ := h6.set (i := P.length + (A ++ [y]).length) (by omega) y
      refine ⟨at_, by omega, by omega, y, cy, at_, by omega, by omega, x, cx, at_, by omega, by omega, wr1, fun w7 hw7 => ?_⟩
      have h7 := set1 w7 hw7
      rw [hjl, ← List.append_assoc, hset, List.append_assoc] at h7
      rw [show P ++ ((A ++ [y]) ++ (y :: (B ++ (Y ++ S)))) = (P ++ A) ++ (y :: (y :: (B ++ (Y ++ S)))) from by simp only [List.append_assoc, List.singleton_append]] at h7
      obtain ⟨wr2, set2⟩ := h7.set (i := P.length + A.length) (by simp) x
      refine ⟨at_, by omega, by omega, wr2, fun w8 hw8 => ?_⟩
      have h8 := set2 w8 hw8
      rw [hjl1, hset, List.append_assoc] at h8
      refine ⟨⟨A, y :: B, by rw [hZ]; simp only [List.append_assoc, List.singleton_append], rfl, fun z hz => ?_, by simpa only [List.cons_append] using h8⟩, by omega⟩
      rcases List.mem_cons.1 hz with rfl | hz
      · exact hlt
      · exact hB z hz
end
end Go.Proofs.YtpedclhflmhakaaGreatDoor

namespace Go.Proofs.YtpedclhflmhakaaGreatDoor
open Go
set_option linter.unusedVariables false
set_option linter.unusedSimpArgs false

section
variable {w0 : Base} {w : World} {fr : List Chunk} {data : Slc}
/-- Two neighbours change places. -/
theorem ArE.swap1 {L T : List T_api_Entry} {x y : T_api_Entry} (h : ArE w0 fr data (L ++ (x :: y :: T)) w) :
    IsAt data.ptr ∧ L.length + 1 < data.len ∧ CellsAt w (pblk data.ptr) (poff data.ptr + (L.length + 1) * 2) (entT y) ∧ CellsAt w (pblk data.ptr) (poff data.ptr + L.length * 2) (entT x) ∧
    Writable w (pblk data.ptr) (poff data.ptr + L.length * 2) 2 ∧ ∀ w', w' = World.puts (pblk data.ptr) (poff data.ptr + L.length * 2) (entT y) w →
    Writable w' (pblk data.ptr) (poff data.ptr + (L.length + 1) * 2) 2 ∧ ∀ w'', w'' = World.puts (pblk data.ptr) (poff data.ptr + (L.length + 1) * 2) (entT x) w' → ArE w0 fr data (L ++ (y :: x :: T)) w'' := by
  have hl := h.len
  have hll : (L ++ (x :: y :: T)).length = L.length + (T.length + 2) := by simp
  obtain ⟨a1, x1, hx1, c1⟩ := h.get (i := L.length) (by omega)
  obtain ⟨_, y1, hy1, c2⟩ := h.get (i := L.length + 1) (by omega)
  rw [List.getElem?_append_right (Nat.le_refl _), Nat.sub_self] at hx1
  rw [List.getElem?_append_right (by omega), show L.length + 1 - L.length = 1 from by omega] at hy1
  obtain rfl : x = x1 := Option.some.inj hx1
  obtain rfl : y = y1 := Option.some.inj hy1
  obtain ⟨wr1, s1⟩ := h.set (i := L.length) (by omega) y
  refine ⟨a1, by omega, c2, c1, wr1, fun w' hw' => ?_⟩
  have h1 := s1 w' hw'
  rw [set_at] at h1
  have e1 : L ++ (y :: y :: T) = (L ++ [y]) ++ (y :: T) := by simp
  rw [e1] at h1
  obtain ⟨wr2, s2⟩ := h1.set (i := L.length + 1) (by simp) x
  refine ⟨wr2, fun w'' hw'' => ?_⟩
  have h2 := s2 w'' hw''
  rw [show L.length + 1 = (L ++ [y]).length from by simp, set_at] at h2
  simpa using h2
theorem sp_mergeL1E {P Y S : List T_api_Entry} {x : T_api_Entry} {p : Nat} {R : World → Prop} (hp : p ≤ Y.length) (h : ArE w0 fr data (P ++ (x :: (Y ++ S))) w) (hl : P.length + (Y.length + S.length) + 1 ≤ 2305843009213693952)
    (k : ∀ w', ArE w0 fr data (P ++ (Y.take p ++ (x :: (Y.drop p ++ S)))) w' → R w') :
    ∃ (I : Int → World → Prop) (μ : Int → World → Nat), I (P.length : Int) w ∧ ∀ (k_ : Int) w, I k_ w → F_slices_symMergeCmpFunc_api_Entry_L1 data R ((P.length + 1 + p : Nat) : Int) (fun (k_' : Int) w' => I k_' w' ∧ μ k_' w' < μ k_ w) k_ w := by
  refine ⟨fun k_ w' => ∃ r : Nat, k_ = ((P.length + r : Nat) : Int) ∧ r ≤ p ∧ ArE w0 fr data (P ++ (Y.take r ++ (x :: (Y.drop r ++ S)))) w', fun k_ _ => P.length + p - k_.toNat, ⟨0, rfl, by omega, by simpa using h⟩, ?_⟩
  clear h
  rintro k_ w1 ⟨r, rfl, hr, h⟩
  unfold F_slices_symMergeCmpFunc_api_Entry_L1
  have e1 : IntKind.i64.wrap (((P.length + 1 + p : Nat) : Int) - 1) = ((P.length + p : Nat) : Int) := by rw [i64_in _ (by omega) (by omega)]; omega
  rw [e1]
  refine ⟨fun hi w2 hw2 => ?_, fun hi => ?_⟩
  · have hi := of_decide_eq_true hi
    have h := h.drew hw2
    have hrY : r < Y.length := by omega
    rw [List.drop_eq_getElem_cons hrY] at h
    have hyt : Y.take (r + 1) = Y.take r ++ [Y[r]] := by rw [List.take_add_one, List.getElem?_eq_getElem hrY]; rfl
    generalize Y[r] = y at *
    have hL : (P ++ Y.take r).length = P.length + r := by rw [List.length_append, List.length_take, Nat.min_eq_left (by omega)]
    rw [show P ++ (Y.take r ++ (x :: (y :: Y.drop (r + 1) ++ S))) = (P ++ Y.take r) ++ (x :: y :: (Y.drop (r + 1) ++ S)) from by simp] at h
    obtain ⟨a1, hlt, c2, c1, wr1, s1⟩ := h.swap1
    rw [hL] at hlt c2 c1 wr1 s1
    have e2 : IntKind.i64.wrap (((P.length + r : Nat) : Int) + 1) = ((P.length + r + 1 : Nat) : Int) := by rw [i64_in _ (by omega) (by omega)]; omega
    rw [e2]
    simp only [Int.toNat_natCast]
    refine ⟨a1, by omega, by omega, y, c2, a1, by omega, by omega, x, c1, a1, by omega, by omega, wr1, fun w6 hw6 => ?_⟩
    obtain ⟨wr2, s2⟩ := s1 w6 hw6
    refine ⟨a1, by omega, by omega, wr2, fun w7 hw7 => ?_⟩
    have h7 := s2 w7 hw7
    refine ⟨⟨r + 1, by omega, by omega, ?_⟩, by show _ - _ < _ - _; omega⟩
    rw [hyt]
    simpa using h7
  · have hi := of_decide_eq_false hi
    obtain rfl : r = p := by omega
    exact k w1 h
theorem sp_mergeL3E {P X S : List T_api_Entry} {y : T_api_Entry} {p : Nat} {R : World → Prop} (hp : p ≤ X.length) (h : ArE w0 fr data (P ++ (X ++ (y :: S))) w) (hl : P.length + (X.length + S.length) + 1 ≤ 2305843009213693952)
    (k : ∀ w', ArE w0 fr data (P ++ (X.take p ++ (y :: (X.drop p ++ S)))) w' → R w') :
    ∃ (I : Int → World → Prop) (μ : Int → World → Nat), I ((P.length + X.length : Nat) : Int) w ∧ ∀ (k_ : Int) w, I k_ w → F_slices_symMergeCmpFunc_api_Entry_L3 data R ((P.length + p : Nat) : Int) (fun (k_' : Int) w' => I k_' w' ∧ μ k_' w' < μ k_ w) k_ w := by
  refine ⟨fun k_ w' => ∃ r : Nat, k_ = ((P.length + r : Nat) : Int) ∧ p ≤ r ∧ r ≤ X.length ∧ ArE w0 fr data (P ++ (X.take r ++ (y :: (X.drop r ++ S)))) w', fun k_ _ => k_.toNat, ⟨X.length, rfl, hp, Nat.le_refl _, by simpa using h⟩, ?_⟩
  clear h
  rintro k_ w1 ⟨r, rfl, hr, hr2, h⟩
  unfold F_slices_symMergeCmpFunc_api_Entry_L3
  refine ⟨fun hi w2 hw2 => ?_, fun hi => ?_⟩
  · have hi := of_decide_eq_true hi
    have h := h.drew hw2
    obtain ⟨r, rfl⟩ : ∃ r', r = r' + 1 := ⟨r - 1, by omega⟩
    have hrX : r < X.length := by omega
    have hxt : X.take (r + 1) = X.take r ++ [X[r]] := by rw [List.take_add_one, List.getElem?_eq_getElem hrX]; rfl
    have hxd : X.drop r = X[r] :: X.drop (r + 1) := List.drop_eq_getElem_cons hrX
    generalize X[r] = x at *
    rw [hxt] at h
    have hL : (P ++ X.take r).length = P.length + r := by rw [List.length_append, List.length_take, Nat.min_eq_left (by omega)]
    rw [show P ++ ((X.take r ++ [x]) ++ (y :: (X.drop (r + 1) ++ S))) = (P ++ X.take r) ++ (x :: y :: (X.drop (r + 1) ++ S)) from by simp] at h
    -- data[k], data[k-1] = data[k-1], data[k]: the latter is written first
    have hdl := h.len
    have hll : ((P ++ X.take r) ++ (x :: y :: (X.drop (r + 1) ++ S))).length = P.length + r + ((X.drop (r + 1) ++ S).length + 2) := by rw [List.length_append, hL]; simp only [List.length_cons]
    obtain ⟨a1, hlt, c2, c1, _, _⟩ := h.swap1
    rw [hL] at hlt c2 c1
    have e2 : IntKind.i64.wrap (((P.length + (r + 1) : Nat) : Int) - 1) = ((P.length + r : Nat) : Int) := by rw [i64_in _ (by omega) (by omega)]; omega
    rw [e2]
    simp only [Int.toNat_natCast]
    rw [show P.length + (r + 1) = P.length + r + 1 from by omega]
    obtain ⟨wr1, s1⟩ := h.set (i := P.length + r + 1) (by omega) x
    refine ⟨a1, by omega, by omega, x, c1, a1, by omega, by omega, y, c2, a1, by omega, by omega, wr1, fun w6 hw6 => ?_⟩
    have h6 := s1 w6 hw6
    rw [show (P ++ X.take r) ++ (x :: y :: (X.drop (r + 1) ++ S)) = ((P ++ X.take r) ++ [x]) ++ (y :: (X.drop (r + 1) ++ S)) from by simp, show P.length + r + 1 = ((P ++ X.take r) ++ [x]).length from by rw [List.length_append, hL]; rfl, set_at, show ((P ++ X.take r) ++ [x]) ++ (x :: (X.drop (r + 1) ++ S)) = (P ++ X.take r) ++ (x :: x :: (X.drop (r + 1) ++ S)) from by simp] at h6
    obtain ⟨wr2, s2⟩ := h6.set (i := P.length + r) (by rw [List.length_append, hL]; simp only [List.length_cons]; omega) y
    refine ⟨a1, by omega, by omega, wr2, fun w7 hw7 => ?_⟩
    have h7 := s2 w7 hw7
    rw [← hL, set_at] at h7
    refine ⟨⟨r, rfl, by omega, by omega, ?_⟩, by omega⟩
    rw [hxd]
    simpa using h7
  · have hi := of_decide_eq_false hi
    obtain rfl : r = p := by omega
    exact k w1 h
theorem sp_merge1E {O : Ord T_api_Entry} {P Y S : List T_api_Entry} {x : T_api_Entry} {cmp : Value} {R : World → Prop} (hc : CmpE w0 fr data O cmp) (h : ArE w0 fr data (P ++ ([x] ++ (Y ++ S))) w) (hl : P.length + (Y.length + S.length) + 1 ≤ 2305843009213693952)
    (sY : O.Sorted Y) (k : ∀ Z w', O.Sorted Z → O.Same ([x] ++ Y) Z → ArE w0 fr data (P ++ (Z ++ S)) w' → R w') :
    ∃ (I : Int → Int → World → Prop) (μ : Int → Int → World → Nat), I ((P.length + 1 : Nat) : Int) ((P.length + 1 + Y.length : Nat) : Int) w ∧
      ∀ (i j : Int) w, I i j w → F_slices_symMergeCmpFunc_api_Entry_L0 data (P.length : Int) cmp R (fun (i' : Int) (j' : Int) w' => I i' j' w' ∧ μ i' j' w' < μ i j w) i j w := by
  have sX : O.Sorted [x] := List.pairwise_singleton _ _
  refine ⟨fun i j w' => ∃ p q : Nat, i = ((P.length + 1 + p : Nat) : Int) ∧ j = ((P.length + 1 + q : Nat) : Int) ∧ p ≤ q ∧ q ≤ Y.length ∧ (0 < p → ∃ y, Y[p - 1]? = some y ∧ O.lt y x = true) ∧ (q < Y.length → ∃ y, Y[q]? = some y ∧ O.lt y x = false) ∧ ArE w0 fr data (P ++ ([x] ++ (Y ++ S))) w',
    fun i j _ => j.toNat - i.toNat, ⟨0, Y.length, rfl, rfl, by omega, by omega, fun h => by omega, fun h => by omega, h⟩, ?_⟩
  clear h
  rintro i j w1 ⟨p, q, rfl, rfl, hpq, hq, fp, fq, h⟩
  unfold F_slices_symMergeCmpFunc_api_Entry_L0
  refine ⟨fun hi w2 hw2 => ?_, fun hi => ?_⟩
  · have hi := of_decide_eq_true hi
    have h := h.drew hw2
    have hdl := h.len
    have hll : (P ++ ([x] ++ (Y ++ S))).length = P.length + (Y.length + S.length) + 1 := by simp; omega
    rw [half_nat (by omega), show (P.length + 1 + p + (P.length + 1 + q)) / 2 = P.length + 1 + (p + q) / 2 from by omega]
    obtain ⟨a1, y, hy, c1⟩ := h.get (i := P.length + 1 + (p + q) / 2) (by omega)
    obtain ⟨_, x1, hx1, c2⟩ := h.get (i := P.length) (by omega)
    rw [at_mid2 (by show P.length + 1 ≤ _; omega) (by show _ < P.length + 1 + Y.length; omega), show P.length + 1 + (p + q) / 2 - P.length - [x].length = (p + q) / 2 from by show _ - 1 = _; omega] at hy
    rw [at_mid (Nat.le_refl _) (by show _ < P.length + 1; omega), Nat.sub_self] at hx1
    obtain rfl : x = x1 := Option.some.inj hx1
    have e2 : IntKind.i64.wrap (((P.length + 1 + (p + q) / 2 : Nat) : Int) + 1) = ((P.length + 1 + ((p + q) / 2 + 1) : Nat) : Int) := by rw [i64_in _ (by omega) (by omega)]; omega
    rw [e2]
    simp only [Int.toNat_natCast]
    refine ⟨a1, by omega, by omega, y, c1, a1, by omega, by omega, x, c2, CallsV.mono (hc y x _ _ h) ?_⟩
    rintro e w3 ⟨v, rfl, hv, h3⟩
    refine ⟨v, rfl, fun hlt => ⟨⟨(p + q) / 2 + 1, q, rfl, rfl, by omega, hq, fun _ => ⟨y, hy, by rw [← hv]; exact hlt⟩, fq, h3⟩, by omega⟩, fun hge => ⟨⟨p, (p + q) / 2, rfl, rfl, by omega, by omega, fp, fun _ => ⟨y, hy, by rw [← hv]; exact hge⟩, h3⟩, by omega⟩⟩
  · have hi := of_decide_eq_false hi
    obtain rfl : p = q := by omega
    refine sp_mergeL1E (x := x) (S := S) hq (by simpa using h) hl fun w' h' => ?_
    have ct := Ord.merge_cut (O := O) (X := [x]) (Y := Y) (s := 0) (e := p) sX sY (fun _ h0 => (by obtain ⟨y, hy, hl⟩ := fp h0; exact ⟨x, y, rfl, hy, hl⟩)) (fun h0 => by omega)
    have ct1 := Ord.merge_cut (O := O) (X := [x]) (Y := Y) (s := 1) (e := p) sX sY (fun h0 => by simp at h0) (fun _ h0 => (by obtain ⟨y, hy, hl⟩ := fq h0; exact ⟨x, y, rfl, hy, hl⟩))
    have sT : O.Sorted (Y.take p) := sY.sublist (List.take_sublist _ _)
    have sD : O.Sorted (Y.drop p) := sY.sublist (List.drop_sublist _ _)
    have m := merge_all (L := Y.take p) (R := [x] ++ Y.drop p) sX sY ct sT (by rw [List.take_zero, List.nil_append]; exact Ord.Same.refl _) (sX.app sD fun a ha b hb => ct1.2 a (by simpa using ha) b hb) (Ord.Same.refl _)
    refine k _ w' m.1 m.2 ?_
    simpa using h'
theorem sp_merge2E {O : Ord T_api_Entry} {P X S : List T_api_Entry} {y : T_api_Entry} {cmp : Value} {R : World → Prop} (hc : CmpE w0 fr data O cmp) (h : ArE w0 fr data (P ++ (X ++ ([y] ++ S))) w) (hl : P.length + (X.length + S.length) + 1 ≤ 2305843009213693952)
    (sX : O.Sorted X) (k : ∀ Z w', O.Sorted Z → O.Same (X ++ [y]) Z → ArE w0 fr data (P ++ (Z ++ S)) w' → R w') :
    ∃ (I : Int → Int → World → Prop) (μ : Int → Int → World → Nat), I (P.length : Int) ((P.length + X.length : Nat) : Int) w ∧
      ∀ (i j : Int) w, I i j w → F_slices_symMergeCmpFunc_api_Entry_L2 data ((P.length + X.length : Nat) : Int) cmp R (fun (i' : Int) (j' : Int) w' => I i' j' w' ∧ μ i' j' w' < μ i j w) i j w := by
  have sY : O.Sorted [y] := List.pairwise_singleton _ _
  refine ⟨fun i j w' => ∃ p q : Nat, i = ((P.length + p : Nat) : Int) ∧ j = ((P.length + q : Nat) : Int) ∧ p ≤ q ∧ q ≤ X.length ∧ (0 < p → ∃ x, X[p - 1]? = some x ∧ O.lt y x = false) ∧ (q < X.length → ∃ x, X[q]? = some x ∧ O.lt y x = true) ∧ ArE w0 fr data (P ++ (X ++ ([y] ++ S))) w',
    fun i j _ => j.toNat - i.toNat, ⟨0, X.length, rfl, rfl, by omega, by omega, fun h => by omega, fun h => by omega, h⟩, ?_⟩
  clear h
  rintro i j w1 ⟨p, q, rfl, rfl, hpq, hq, fp, fq, h⟩
  unfold F_slices_symMergeCmpFunc_api_Entry_L2
  refine ⟨fun hi w2 hw2 => ?_, fun hi => ?_⟩
  · have hi := of_decide_eq_true hi
    have h := h.drew hw2
    have hdl := h.len
    have hll : (P ++ (X ++ ([y] ++ S))).length = P.length + (X.length + S.length) + 1 := by simp; omega
    rw [half_nat (by omega), show (P.length + p + (P.length + q)) / 2 = P.length + (p + q) / 2 from by omega]
    obtain ⟨a1, y1, hy, c1⟩ := h.get (i := P.length + X.length) (by omega)
    obtain ⟨_, x, hx, c2⟩ := h.get (i := P.length + (p + q) / 2) (by omega)
    rw [at_mid2 (Nat.le_refl _) (by show _ < P.length + X.length + 1; omega), show P.length + X.length - P.length - X.length = 0 from by omega] at hy
    rw [at_mid (by omega) (by omega), show P.length + (p + q) / 2 - P.length = (p + q) / 2 from by omega] at hx
    obtain rfl : y = y1 := Option.some.inj hy
    have e2 : IntKind.i64.wrap (((P.length + (p + q) / 2 : Nat) : Int) + 1) = ((P.length + ((p + q) / 2 + 1) : Nat) : Int) := by rw [i64_in _ (by omega) (by omega)]; omega
    rw [e2]
    simp only [Int.toNat_natCast]
    refine ⟨a1, by omega, by omega, y, c1, a1, by omega, by omega, x, c2, CallsV.mono (hc y x _ _ h) ?_⟩
    rintro e w3 ⟨v, rfl, hv, h3⟩
    refine ⟨v, rfl, fun hge => ⟨⟨(p + q) / 2 + 1, q, rfl, rfl, by omega, hq, fun _ => ⟨x, hx, by rw [hv] at hge; simpa using hge⟩, fq, h3⟩, by omega⟩, fun hlt => ⟨⟨p, (p + q) / 2, rfl, rfl, by omega, by omega, fp, fun _ => ⟨x, hx, by rw [hv] at hlt; simpa using hlt⟩, h3⟩, by omega⟩⟩
  · have hi := of_decide_eq_false hi
    obtain rfl : p = q := by omega
    refine sp_mergeL3E (y := y) (S := S) hq (by simpa using h) hl fun w' h' => ?_
    have ct := Ord.merge_cut (O := O) (X := X) (Y := [y]) (s := p) (e := 1) sX sY (fun h0 _ => (by obtain ⟨x, hx, hl⟩ := fq h0; exact ⟨x, y, hx, rfl, hl⟩)) (fun _ h0 => by simp at h0)
    have ct1 := Ord.merge_cut (O := O) (X := X) (Y := [y]) (s := p) (e := 0) sX sY (fun _ h0 => by omega) (fun h0 _ => (by obtain ⟨x, hx, hl⟩ := fp h0; exact ⟨x, y, hx, rfl, hl⟩))
    have sT : O.Sorted (X.take p) := sX.sublist (List.take_sublist _ _)
    have sD : O.Sorted (X.drop p) := sX.sublist (List.drop_sublist _ _)
    have m := merge_all (L := X.take p ++ [y]) (R := X.drop p) sX sY ct (sT.app sY fun a ha b hb => ct1.2 a ha b (by simpa using hb)) (by show O.Same (X.take p ++ [y]) _; exact Ord.Same.refl _) sD (by show O.Same (X.drop p ++ []) _; rw [List.append_nil]; exact Ord.Same.refl _)
    refine k _ w' m.1 m.2 ?_
    simpa using h'
end
end Go.Proofs.YtpedclhflmhakaaGreatDoor

namespace Go.Proofs.YtpedclhflmhakaaGreatDoor
open Go
set_option linter.unusedVariables false
set_option linter.unusedSimpArgs false

section
variable {w0 : Base} {w : World} {fr : List Chunk} {data : Slc}
set_option maxHeartbeats 2000000 in
theorem sp_symMergeE {O : Ord T_api_Entry} {cmp : Value} (hc : CmpE w0 fr data O cmp) : ∀ (n : Nat) {P X Y S : List T_api_Entry} {a m b : Int} {w : World} {R : World → Prop}, X.length + Y.length ≤ n → ArE w0 fr data (P ++ (X ++ (Y ++ S))) w → 0 < X.length → 0 < Y.length →
    a = (P.length : Int) → m = ((P.length + X.length : Nat) : Int) → b = ((P.length + X.length + Y.length : Nat) : Int) → P.length + (X.length + (Y.length + S.length)) ≤ 1152921504606846976 → O.Sorted X → O.Sorted Y →
    (∀ Z w', O.Sorted Z → O.Same (X ++ Y) Z → Z.length = X.length + Y.length → ArE w0 fr data (P ++ (Z ++ S)) w' → R w') → C_slices_symMergeCmpFunc_api_Entry data a m b cmp w R := by
  intro n
  induction n with
  | zero => intro P X Y S a m b w R hn h hX hY; omega
  | succ n ih =>
    intro P X Y S a m b w R hn h hX hY ha hm hb hl sX sY k
    subst ha hm hb
    apply S_slices_symMergeCmpFunc_api_Entry
    unfold F_slices_symMergeCmpFunc_api_Entry
    have e1 : IntKind.i64.wrap (((P.length + X.length : Nat) : Int) - (P.length : Int)) = (X.length : Int) := by rw [i64_in _ (by omega) (by omega)]; omega
    have e2 : IntKind.i64.wrap (((P.length + X.length + Y.length : Nat) : Int) - ((P.length + X.length : Nat) : Int)) = (Y.length : Int) := by rw [i64_in _ (by omega) (by omega)]; omega
    rw [e1, e2]
    refine ⟨fun h1 => ?_, fun h1 => ⟨fun h2 => ?_, fun h2 => ?_⟩⟩
    · have h1 : X.length = 1 := by have : (X.length : Int) = 1 := by simpa using h1
                                   omega
      obtain ⟨x, rfl⟩ := List.length_eq_one_iff.1 h1
      exact sp_merge1E hc h (by simp at hl; omega) sY fun Z w' sZ eZ h' => k Z w' sZ eZ (by have := h'.len; have h3 := h.len; simp at this h3; simp; omega) h'
    · have h2 : Y.length = 1 := by have : (Y.length : Int) = 1 := by simpa using h2
                                   omega
      obtain ⟨y, rfl⟩ := List.length_eq_one_iff.1 h2
      exact sp_merge2E hc h (by simp at hl; omega) sX fun Z w' sZ eZ h' => k Z w' sZ eZ (by have := h'.len; have h3 := h.len; simp at this h3; simp; omega) h'
    have h1 : X.length ≠ 1 := by have : (X.length : Int) ≠ 1 := by simpa using h1
                                 omega
    have h2 : Y.length ≠ 1 := by have : (Y.length : Int) ≠ 1 := by simpa using h2
                                 omega
    rw [half_nat (by omega)]
    obtain ⟨mid, hmid⟩ : ∃ mid, mid = (P.length + (P.length + X.length + Y.length)) / 2 := ⟨_, rfl⟩
    have hm1 : 2 * mid ≤ P.length + (P.length + X.length + Y.length) := by omega
    have hm2 : P.length + (P.length + X.length + Y.length) ≤ 2 * mid + 1 := by omega
    rw [← hmid]
    have e3 : IntKind.i64.wrap ((mid : Int) + ((P.length + X.length : Nat) : Int)) = ((mid + (P.length + X.length) : Nat) : Int) := by rw [i64_in _ (by omega) (by omega)]; omega
    have e5 : IntKind.i64.wrap (((mid + (P.length + X.length) : Nat) : Int) - 1) = ((mid + (P.length + X.length) - 1 : Nat) : Int) := by rw [i64_in _ (by omega) (by omega)]; omega
    rw [e3]
    -- what the search begins with
    have key : ∀ (lo hi : Nat), (P.length + X.length > mid → lo + Y.length = mid ∧ hi = mid) → (¬ P.length + X.length > mid → lo = P.length ∧ hi = P.length + X.length) →
        F_slices_symMergeCmpFunc_api_Entry_k4 data (P.length : Int) ((P.length + X.length : Nat) : Int) ((P.length + X.length + Y.length : Nat) : Int) cmp R (lo : Int) (hi : Int) w := by
      intro lo hi c1 c2
      have hlohi : P.length ≤ lo ∧ lo ≤ hi ∧ hi ≤ P.length + X.length ∧ mid + (P.length + X.length) - lo ≤ P.length + X.length + Y.length ∧ P.length + X.length ≤ mid + (P.length + X.length) - hi ∧ hi ≤ mid := by
        by_cases c : P.length + X.length > mid
        · obtain ⟨h5, h6⟩ := c1 c; omega
        · obtain ⟨h5, h6⟩ := c2 c; omega
      obtain ⟨hlo0, hlohi, hhi0, hlo1, hhi1, hhi2⟩ := hlohi
      unfold F_slices_symMergeCmpFunc_api_Entry_k4
      refine ⟨fun i j w' => ∃ p q : Nat, i = (p : Int) ∧ j = (q : Int) ∧ lo ≤ p ∧ p ≤ q ∧ q ≤ hi ∧ (lo < p → ∃ x y, X[p - 1 - P.length]? = some x ∧ Y[mid - p]? = some y ∧ O.lt y x = false) ∧
        (q < hi → ∃ x y, X[q - P.length]? = some x ∧ Y[mid - 1 - q]? = some y ∧ O.lt y x = true) ∧ ArE w0 fr data (P ++ (X ++ (Y ++ S))) w', fun i j _ => j.toNat - i.toNat, ⟨lo, hi, rfl, rfl, Nat.le_refl _, hlohi, Nat.le_refl _, fun h => by omega, fun h => by omega, h⟩, ?_⟩
      clear h
      rintro i j w1 ⟨p, q, rfl, rfl, hp0, hpq, hq0, fp, fq, h⟩
      have hdl := h.len
      have hll : (P ++ (X ++ (Y ++ S))).length = P.length + (X.length + (Y.length + S.length)) := by simp
      unfold F_slices_symMergeCmpFunc_api_Entry_L5
      rw [half_nat (by omega), ← hmid, e3, e5, half_nat (by omega)]
      refine ⟨fun hi' w2 hw2 => ?_, fun hi' => ?_⟩
      · have hi' := of_decide_eq_true hi'
        have h := h.drew hw2
        obtain ⟨c, hcd⟩ : ∃ c, c = (p + q) / 2 := ⟨_, rfl⟩
        have hc1 : p ≤ c ∧ c < q := by omega
        rw [← hcd]
        have e6 : IntKind.i64.wrap (((mid + (P.length + X.length) - 1 : Nat) : Int) - (c : Int)) = ((mid + (P.length + X.length) - 1 - c : Nat) : Int) := by rw [i64_in _ (by omega) (by omega)]; omega
        have e7 : IntKind.i64.wrap ((c : Int) + 1) = ((c + 1 : Nat) : Int) := by rw [i64_in _ (by omega) (by omega)]; omega
        rw [e6, e7]
        obtain ⟨a1, y, hy, cy⟩ := h.get (i := mid + (P.length + X.length) - 1 - c) (by omega)
        obtain ⟨_, x, hx, cx⟩ := h.get (i := c) (by omega)
        rw [at_mid2 (by omega) (by omega), show mid + (P.length + X.length) - 1 - c - P.length - X.length = mid - 1 - c from by omega] at hy
        rw [at_mid (by omega) (by omega)] at hx
        simp only [Int.toNat_natCast]
        refine ⟨a1, by omega, by omega, y, cy, a1, by omega, by omega, x, cx, CallsV.mono (hc y x _ _ h) ?_⟩
        rintro e w3 ⟨v, rfl, hv, h3⟩
        refine ⟨v, rfl, fun hge => ⟨⟨c + 1, q, rfl, rfl, by omega, by omega, hq0, fun _ => ⟨x, y, by rw [show c + 1 - 1 - P.length = c - P.length from by omega]; exact hx, by rw [show mid - (c + 1) = mid - 1 - c from by omega]; exact hy, by rw [hv] at hge; simpa using hge⟩, fq, h3⟩, by omega⟩,
          fun hlt => ⟨⟨p, c, rfl, rfl, hp0, by omega, by omega, fp, fun _ => ⟨x, y, hx, hy, by rw [hv] at hlt; simpa using hlt⟩, h3⟩, by omega⟩⟩
      · have hi' := of_decide_eq_false hi'
        obtain rfl : p = q := by omega
        have e8 : IntKind.i64.wrap (((mid + (P.length + X.length) : Nat) : Int) - (p : Int)) = ((P.length + X.length + (mid - p) : Nat) : Int) := by rw [i64_in _ (by omega) (by omega)]; omega
        rw [e8]
        have ct := Ord.merge_cut (O := O) (X := X) (Y := Y) (s := p - P.length) (e := mid - p) sX sY
          (fun g1 g2 => (by
            obtain ⟨x, y, hx, hy, hl⟩ := fq (by
              by_cases c : P.length + X.length > mid
              · obtain ⟨h5, h6⟩ := c1 c; omega
              · obtain ⟨h5, h6⟩ := c2 c; omega)
            exact ⟨x, y, hx, by rw [show mid - p - 1 = mid - 1 - p from by omega]; exact hy, hl⟩))
          (fun g1 g2 => (by
            obtain ⟨x, y, hx, hy, hl⟩ := fp (by
              by_cases c : P.length + X.length > mid
              · obtain ⟨h5, h6⟩ := c1 c; omega
              · obtain ⟨h5, h6⟩ := c2 c; omega)
            exact ⟨x, y, by rw [show p - P.length - 1 = p - 1 - P.length from by omega]; exact hx, hy, hl⟩))
        have lx1 : (X.take (p - P.length)).length = p - P.length := by rw [List.length_take]; omega
        have lx2 : (X.drop (p - P.length)).length = X.length - (p - P.length) := List.length_drop ..
        have ly1 : (Y.take (mid - p)).length = mid - p := by rw [List.length_take]; omega
        have ly2 : (Y.drop (mid - p)).length = Y.length - (mid - p) := List.length_drop ..
        have sX1 : O.Sorted (X.take (p - P.length)) := sX.sublist (List.take_sublist _ _)
        have sX2 : O.Sorted (X.drop (p - P.length)) := sX.sublist (List.drop_sublist _ _)
        have sY1 : O.Sorted (Y.take (mid - p)) := sY.sublist (List.take_sublist _ _)
        have sY2 : O.Sorted (Y.drop (mid - p)) := sY.sublist (List.drop_sublist _ _)
        have mer : ∀ {L T : List T_api_Entry}, O.Sorted L → O.Same (X.take (p - P.length) ++ Y.take (mid - p)) L → O.Sorted T → O.Same (X.drop (p - P.length) ++ Y.drop (mid - p)) T → O.Sorted (L ++ T) ∧ O.Same (X ++ Y) (L ++ T) := fun sL eL sR eR => merge_all sX sY ct sL eL sR eR
        have eX : X = X.take (p - P.length) ++ X.drop (p - P.length) := (List.take_append_drop ..).symm
        have eY : Y = Y.take (mid - p) ++ Y.drop (mid - p) := (List.take_append_drop ..).symm
        have hXl : X.length = p - P.length + (X.length - (p - P.length)) := by omega
        generalize X.take (p - P.length) = X1 at *
        generalize X.drop (p - P.length) = X2 at *
        generalize Y.take (mid - p) = Y1 at *
        generalize Y.drop (mid - p) = Y2 at *
        -- behind the rotation
        have rest : ∀ w2, ArE w0 fr data (P ++ (X1 ++ (Y1 ++ (X2 ++ (Y2 ++ S))))) w2 → F_slices_symMergeCmpFunc_api_Entry_k6 data (P.length : Int) ((P.length + X.length : Nat) : Int) ((P.length + X.length + Y.length : Nat) : Int) cmp R (p : Int) w2 := by
          intro w2 h2
          unfold F_slices_symMergeCmpFunc_api_Entry_k6
          rw [half_nat (by omega), ← hmid]
          -- behind the first half
          have rest2 : ∀ L w3, O.Sorted L → O.Same (X1 ++ Y1) L → L.length = X1.length + Y1.length → ArE w0 fr data (P ++ (L ++ (X2 ++ (Y2 ++ S)))) w3 → F_slices_symMergeCmpFunc_api_Entry_k7 data (P.length : Int) ((P.length + X.length : Nat) : Int) ((P.length + X.length + Y.length : Nat) : Int) cmp R (p : Int) w3 := by
            intro L w3 sL eL lL h3
            unfold F_slices_symMergeCmpFunc_api_Entry_k7
            rw [half_nat (by omega), ← hmid, e3, e8]
            have fin : ∀ T w4, O.Sorted T → O.Same (X2 ++ Y2) T → T.length = X2.length + Y2.length → ArE w0 fr data (P ++ (L ++ (T ++ S))) w4 → R w4 := fun T w4 sT eT lT h4 => by
              have := mer sL eL sT eT
              exact k (L ++ T) w4 this.1 this.2 (by rw [List.length_append]; omega) (by simpa only [List.append_assoc] using h4)
            refine ⟨fun hh => ?_, fun hh => ?_⟩
            · simp only [Bool.and_eq_true, decide_eq_true_eq] at hh
              refine ih (P := P ++ L) (X := X2) (Y := Y2) (S := S) (by omega) (by simpa only [List.append_assoc] using h3) (by omega) (by omega) (by rw [List.length_append]; omega) (by rw [List.length_append]; omega) (by rw [List.length_append]; omega) (by rw [List.length_append]; omega) sX2 sY2 fun Z w' sZ eZ lZ h' => ?_
              exact fin Z w' sZ eZ lZ (by simpa only [List.append_assoc] using h')
            · refine fin (X2 ++ Y2) w3 (same_nil_left ?_ sX2 sY2) (Ord.Same.refl _) (List.length_append ..) (by simpa only [List.append_assoc] using h3)
              simp only [Bool.and_eq_false_iff, decide_eq_false_iff_not] at hh
              rcases hh with hh | hh
              · exact .inl (List.eq_nil_of_length_eq_zero (by omega))
              · exact .inr (List.eq_nil_of_length_eq_zero (by omega))
          refine ⟨fun hh => ?_, fun hh => ?_⟩
          · simp only [Bool.and_eq_true, decide_eq_true_eq] at hh
            refine ih (P := P) (X := X1) (Y := Y1) (S := X2 ++ (Y2 ++ S)) (by omega) h2 (by omega) (by omega) rfl (by omega) (by omega) (by simp only [List.length_append]; omega) sX1 sY1 fun Z w' sZ eZ lZ h' => ?_
            exact rest2 Z w' sZ eZ lZ h'
          · refine rest2 (X1 ++ Y1) w2 (same_nil_left ?_ sX1 sY1) (Ord.Same.refl _) (List.length_append ..) (by simpa only [List.append_assoc] using h2)
            simp only [Bool.and_eq_false_iff, decide_eq_false_iff_not] at hh
            rcases hh with hh | hh
            · exact .inl (List.eq_nil_of_length_eq_zero (by omega))
            · exact .inr (List.eq_nil_of_length_eq_zero (by omega))
        have h : ArE w0 fr data ((P ++ X1) ++ (X2 ++ (Y1 ++ (Y2 ++ S)))) w1 := by
          rw [eX, eY] at h
          simpa only [List.append_assoc] using h
        refine ⟨fun hh => ?_, fun hh => ?_⟩
        · simp only [Bool.and_eq_true, decide_eq_true_eq] at hh
          refine sp_rotateE h (by omega) (by omega) (by rw [List.length_append]; omega) (by rw [List.length_append]; omega) (by rw [List.length_append]; omega) (by simp only [List.length_append]; omega) fun w2 h2 => ?_
          exact rest w2 (by simpa only [List.append_assoc] using h2)
        · refine rest w1 ?_
          simp only [Bool.and_eq_false_iff, decide_eq_false_iff_not] at hh
          rcases hh with hh | hh
          · have : X2 = [] := List.eq_nil_of_length_eq_zero (by omega)
            subst this
            simpa only [List.append_assoc, List.nil_append] using h
          · have : Y1 = [] := List.eq_nil_of_length_eq_zero (by omega)
            subst this
            simpa only [List.append_assoc, List.nil_append] using h
    refine ⟨fun hgt => ?_, fun hgt => ?_⟩
    · have hgt := of_decide_eq_true hgt
      have e4 : IntKind.i64.wrap (((mid + (P.length + X.length) : Nat) : Int) - ((P.length + X.length + Y.length : Nat) : Int)) = ((mid - Y.length : Nat) : Int) := by rw [i64_in _ (by omega) (by omega)]; omega
      rw [e4]
      exact key (mid - Y.length) mid (fun _ => ⟨by omega, rfl⟩) (fun c => absurd (show P.length + X.length > mid by omega) c)
    · have hgt := of_decide_eq_false hgt
      exact key P.length (P.length + X.length) (fun c => absurd (show ((P.length + X.length : Nat) : Int) > (mid : Int) by omega) hgt) (fun _ => ⟨rfl, rfl⟩)
end
end Go.Proofs.YtpedclhflmhakaaGreatDoor

namespace Go.Proofs.YtpedclhflmhakaaGreatDoor
open Go
set_option linter.unusedVariables false
set_option linter.unusedSimpArgs false

section
variable {α : Type} {O : Ord α}
end
section
variable {w0 : Base} {w : World} {fr : List Chunk} {data : Slc}
theorem sp_stableE {O : Ord T_api_Entry} {cmp : Value} {L : List T_api_Entry} {n : Int} {R : World → Prop} (hc : CmpE w0 fr data O cmp) (h : ArE w0 fr data L w) (hn : n = (L.length : Int)) (hl : L.length ≤ 288230376151711744)
    (k : ∀ Z w', O.Sorted Z → O.Same L Z → Z.length = L.length → ArE w0 fr data Z w' → R w') : C_slices_stableCmpFunc_api_Entry data n cmp w R := by
  subst hn
  apply S_slices_stableCmpFunc_api_Entry
  unfold F_slices_stableCmpFunc_api_Entry
  -- blocks of twenty
  refine ⟨fun a b w' => ∃ (D : List (List T_api_Entry)) (T : List T_api_Entry), a = (D.flatten.length : Int) ∧ b = ((D.flatten.length + 20 : Nat) : Int) ∧ Whole O 20 D ∧ O.Same L (D.flatten ++ T) ∧ D.flatten.length + T.length = L.length ∧ ArE w0 fr data (D.flatten ++ T) w',
    fun a b _ => L.length + 20 - b.toNat, ⟨[], L, rfl, rfl, fun B hB => (by cases hB), Ord.Same.refl _, by simp, h⟩, ?_⟩
  clear h
  rintro a b w1 ⟨D, T, rfl, rfl, hD, eL, hlen, h⟩
  unfold F_slices_stableCmpFunc_api_Entry_L0
  refine ⟨fun hb => ?_, fun hb => ?_⟩
  · have hb := of_decide_eq_true hb
    have lt1 : (T.take 20).length = 20 := by rw [List.length_take]; omega
    have eT : T = T.take 20 ++ T.drop 20 := (List.take_append_drop ..).symm
    have lT : T.length = 20 + (T.drop 20).length := by conv => lhs; rw [eT]
                                                       rw [List.length_append, lt1]
    rw [eT] at h eL
    generalize T.take 20 = X at *
    generalize T.drop 20 = Y at *
    refine sp_insertionE hc h rfl (by omega) (by simp only [List.length_append]; omega) fun Z w2 sZ eZ lZ h2 => ?_
    have e1 : IntKind.i64.wrap (((D.flatten.length + 20 : Nat) : Int) + 20) = ((D.flatten.length + 20 + 20 : Nat) : Int) := by rw [i64_in _ (by omega) (by omega)]; omega
    rw [e1]
    have ed : (D ++ [Z]).flatten = D.flatten ++ Z := by simp
    have ld : (D ++ [Z]).flatten.length = D.flatten.length + 20 := by rw [ed, List.length_append]; omega
    refine ⟨⟨D ++ [Z], Y, by rw [ld], by rw [ld], hD.snoc sZ (by omega), ?_, by omega, by rw [ed, List.append_assoc]; exact h2⟩, by show _ - _ < _ - _; omega⟩
    rw [ed, List.append_assoc]
    exact eL.trans ((Ord.Same.refl _).app (eZ.app (Ord.Same.refl _)))
  · have hb := of_decide_eq_false hb
    refine sp_insertionE (P := D.flatten) (X := T) (S := []) hc (by simpa using h) rfl (by omega) (by simp only [List.length_append, List.length_nil]; omega) fun Z w2 sZ eZ lZ h2 => ?_
    rw [List.append_nil] at h2
    have hB : Blocks O 20 (D ++ [Z]) := hD.blocks ⟨sZ, by omega⟩
    have ed : (D ++ [Z]).flatten = D.flatten ++ Z := by simp
    have eL2 : O.Same L (D ++ [Z]).flatten := by rw [ed]; exact eL.trans ((Ord.Same.refl _).app eZ)
    have h2 : ArE w0 fr data (D ++ [Z]).flatten w2 := by rw [ed]; exact h2
    have ll : (D ++ [Z]).flatten.length = L.length := by rw [ed, List.length_append]; omega
    generalize D ++ [Z] = BB at *
    clear eL hlen h hD eZ lZ sZ hb ed
    -- blocks that double
    refine ⟨fun bs w' => ∃ (s : Nat) (BB : List (List T_api_Entry)), bs = (s : Int) ∧ 0 < s ∧ s ≤ 2 * L.length + 20 ∧ Blocks O s BB ∧ O.Same L BB.flatten ∧ BB.flatten.length = L.length ∧ ArE w0 fr data BB.flatten w', fun bs _ => 2 * L.length + 20 - bs.toNat,
      ⟨20, BB, rfl, by omega, by omega, hB, eL2, ll, h2⟩, ?_⟩
    clear hB eL2 h2 ll
    rintro bs w3 ⟨s, BB, rfl, hs0, hs1, hB, eL, ll, h⟩
    unfold F_slices_stableCmpFunc_api_Entry_L1
    refine ⟨fun hlt => ?_, fun hge => ?_⟩
    rotate_left
    · have hge := of_decide_eq_false hge
      cases BB with
      | nil => exact k [] w3 List.Pairwise.nil (by simpa using eL) (by simpa using ll) (by simpa using h)
      | cons B r =>
        obtain ⟨sB, lB, hr⟩ := hB.head
        cases r with
        | nil => exact k B w3 sB (by simpa using eL) (by simpa using ll) (by simpa using h)
        | cons C r =>
          have h1 := hr (by simp)
          have hC : C = [] ∧ r.flatten = [] := by
            rw [List.flatten_cons, List.flatten_cons, List.length_append, List.length_append] at ll
            exact ⟨List.eq_nil_of_length_eq_zero (by omega), List.eq_nil_of_length_eq_zero (by omega)⟩
          have ef : (B :: C :: r).flatten = B := by rw [List.flatten_cons, List.flatten_cons, hC.1, hC.2]; simp
          rw [ef] at eL ll h
          exact k B w3 sB eL ll h
    have hlt := of_decide_eq_true hlt
    have e1 : IntKind.i64.wrap (2 * (s : Int)) = ((2 * s : Nat) : Int) := by rw [i64_in _ (by omega) (by omega)]; omega
    have e2 : IntKind.i64.wrap ((s : Int) * 2) = ((2 * s : Nat) : Int) := by rw [i64_in _ (by omega) (by omega)]; omega
    refine ⟨fun a b w' => ∃ (D U : List (List T_api_Entry)), a = (D.flatten.length : Int) ∧ b = ((D.flatten.length + 2 * s : Nat) : Int) ∧ Whole O (2 * s) D ∧ Blocks O s U ∧ O.Same L (D.flatten ++ U.flatten) ∧ D.flatten.length + U.flatten.length = L.length ∧ ArE w0 fr data (D.flatten ++ U.flatten) w',
      fun a b _ => L.length + 2 * s - b.toNat, ⟨[], BB, rfl, by rw [e1]; simp, fun B hB => (by cases hB), hB, by simpa using eL, by simpa using ll, by simpa using h⟩, ?_⟩
    clear hB eL ll h
    rintro a b w4 ⟨D, U, rfl, rfl, hD, hU, eL, ll, h⟩
    unfold F_slices_stableCmpFunc_api_Entry_L2
    have e3 : IntKind.i64.wrap ((D.flatten.length : Int) + (s : Int)) = ((D.flatten.length + s : Nat) : Int) := by rw [i64_in _ (by omega) (by omega)]; omega
    have e4 : IntKind.i64.wrap (((D.flatten.length + 2 * s : Nat) : Int) + ((2 * s : Nat) : Int)) = ((D.flatten.length + 2 * s + 2 * s : Nat) : Int) := by rw [i64_in _ (by omega) (by omega)]; omega
    rw [e3, e1, e4]
    refine ⟨fun hb => ?_, fun hb => ?_⟩
    · have hb := of_decide_eq_true hb
      -- two whole blocks
      obtain ⟨B, C, r, hBC⟩ : ∃ B C r, U = B :: C :: r := by
        cases U with
        | nil => have h0 : ([] : List (List T_api_Entry)).flatten.length = 0 := rfl
                 omega
        | cons B r => cases r with
          | nil =>
            have := hU.head.2.1
            have h0 : ([B] : List (List T_api_Entry)).flatten.length = B.length := by simp
            omega
          | cons C r => exact ⟨B, C, r, rfl⟩
      subst hBC
      obtain ⟨sB, _, lB⟩ := hU.head
      have lB := lB (by simp)
      obtain ⟨sC, lC, lC2⟩ := hU.tail.head
      have lC : C.length = s := by
        by_cases hr : r = []
        · subst hr
          have h0 : ([B, C] : List (List T_api_Entry)).flatten.length = B.length + C.length := by simp
          omega
        · exact lC2 hr
      have e5 : D.flatten ++ (B :: C :: r).flatten = D.flatten ++ (B ++ (C ++ r.flatten)) := by simp
      rw [e5] at h eL
      have l5 : (B :: C :: r).flatten.length = B.length + (C.length + r.flatten.length) := by simp
      refine sp_symMergeE hc (B.length + C.length) (Nat.le_refl _) h (by omega) (by omega) rfl (by omega) (by omega) (by omega) sB sC fun Z w5 sZ eZ lZ h5 => ?_
      have ed : (D ++ [Z]).flatten = D.flatten ++ Z := by simp
      have ld : (D ++ [Z]).flatten.length = D.flatten.length + 2 * s := by rw [ed, List.length_append]; omega
      refine ⟨⟨D ++ [Z], r, by rw [ld], by rw [ld], hD.snoc sZ (by omega), hU.tail.tail, ?_, by omega, by rw [ed, List.append_assoc]; exact h5⟩, by show _ - _ < _ - _; omega⟩
      rw [ed, List.append_assoc]
      refine eL.trans ((Ord.Same.refl _).app ?_)
      have := eZ.app (Ord.Same.refl r.flatten)
      rwa [List.append_assoc] at this
    · have hb := of_decide_eq_false hb
      have fin : ∀ Z w5, O.Sorted Z → Z.length ≤ 2 * s → O.Same L (D.flatten ++ Z) → D.flatten.length + Z.length = L.length → ArE w0 fr data (D.flatten ++ Z) w5 → F_slices_stableCmpFunc_api_Entry_k3 (s : Int) (fun bs' w' => (∃ (s : Nat) (BB : List (List T_api_Entry)), bs' = (s : Int) ∧ 0 < s ∧ s ≤ 2 * L.length + 20 ∧ Blocks O s BB ∧ O.Same L BB.flatten ∧ BB.flatten.length = L.length ∧ ArE w0 fr data BB.flatten w') ∧ 2 * L.length + 20 - bs'.toNat < 2 * L.length + 20 - ((s : Int)).toNat) w5 := by
        intro Z w5 sZ lZ eZ l5 h5
        unfold F_slices_stableCmpFunc_api_Entry_k3
        rw [e2]
        have ed : (D ++ [Z]).flatten = D.flatten ++ Z := by simp
        exact ⟨⟨2 * s, D ++ [Z], rfl, by omega, by omega, hD.blocks ⟨sZ, lZ⟩, by rw [ed]; exact eZ, by rw [ed, List.length_append]; exact l5, by rw [ed]; exact h5⟩, by omega⟩
      refine ⟨fun hm => ?_, fun hm => ?_⟩
      · have hm := of_decide_eq_true hm
        obtain ⟨B, C, r, hBC⟩ : ∃ B C r, U = B :: C :: r := by
          cases U with
          | nil => have h0 : ([] : List (List T_api_Entry)).flatten.length = 0 := rfl
                   omega
          | cons B r => cases r with
            | nil =>
              have := hU.head.2.1
              have h0 : ([B] : List (List T_api_Entry)).flatten.length = B.length := by simp
              omega
            | cons C r => exact ⟨B, C, r, rfl⟩
        subst hBC
        obtain ⟨sB, _, lB⟩ := hU.head
        have lB := lB (by simp)
        obtain ⟨sC, lC, lC2⟩ := hU.tail.head
        have l5 : (B :: C :: r).flatten.length = B.length + (C.length + r.flatten.length) := by simp
        have hrf : r.flatten = [] := by
          by_cases hr : r = []
          · subst hr; rfl
          · have := lC2 hr
            omega
        rw [hrf] at l5
        have e5 : D.flatten ++ (B :: C :: r).flatten = D.flatten ++ (B ++ (C ++ [])) := by simp [hrf]
        rw [e5] at h eL
        simp only [List.length_nil] at l5
        refine sp_symMergeE hc (B.length + C.length) (Nat.le_refl _) h (by omega) (by omega) rfl (by omega) (by omega) (by simp only [List.length_nil]; omega) sB sC fun Z w5 sZ eZ lZ h5 => ?_
        rw [List.append_nil] at h5
        refine fin Z w5 sZ (by omega) ?_ (by omega) h5
        rw [List.append_nil] at eL
        exact eL.trans ((Ord.Same.refl _).app eZ)
      · have hm := of_decide_eq_false hm
        cases U with
        | nil => exact fin [] w4 List.Pairwise.nil (by simp) (by simpa using eL) (by simpa using ll) (by simpa using h)
        | cons B r =>
          obtain ⟨sB, lB, hr⟩ := hU.head
          have hrf : r.flatten = [] := by
            by_cases hr0 : r = []
            · subst hr0; rfl
            · have h1 := hr hr0
              rw [List.flatten_cons, List.length_append] at ll
              exact List.eq_nil_of_length_eq_zero (by omega)
          rw [List.flatten_cons, hrf, List.append_nil] at h eL ll
          exact fin B w4 sB (by omega) eL ll h
theorem sp_sortStableE {O : Ord T_api_Entry} {cmp : Value} {L : List T_api_Entry} {R : World → Prop} (hc : CmpE w0 fr data O cmp) (h : ArE w0 fr data L w) (hl : L.length ≤ 288230376151711744)
    (k : ∀ w', ArE w0 fr data (O.insAll [] L) w' → R w') : C_slices_SortStableFunc_api_Entry_api_Entry data cmp w R := by
  apply S_slices_SortStableFunc_api_Entry_api_Entry
  unfold F_slices_SortStableFunc_api_Entry_api_Entry
  refine sp_stableE hc h (by rw [h.len]) hl fun Z w' sZ eZ lZ h' => k w' ?_
  have := Ord.insAll_unique (O := O) (l := []) (xs := L) List.Pairwise.nil sZ eZ
  rw [← this]
  exact h'
end
end Go.Proofs.YtpedclhflmhakaaGreatDoor

namespace Go.Proofs.YtpedclhflmhakaaGreatDoor
open Go Go.Shelf
set_option linter.unusedVariables false
set_option linter.unusedSimpArgs false

def Tryz.laysCompare_ren : Go.Shelf.Ren := ⟨fun | 106 => 83 | 213 => 120 | 265 => 133 | n => n, fun | 9 => 9 | 3 => 3 | n => n, fun | n => n⟩
theorem Tryz.laysCompare : Go.Proofs.Lays.n106 Tryz.prog Tryz.laysCompare_ren := {
  mixed := by kernel_rfl
  f106 := Tryz.func83.trans (congrArg some (by kernel_rfl))
  f213 := Tryz.func120.trans (congrArg some (by kernel_rfl))
  f265 := Tryz.func133.trans (congrArg some (by kernel_rfl))
  t3 := Tryz.underlying3
  a3 := Tryz.isAgg3
  z3 := Tryz.sizeOf3
  v3 := Tryz.zeroValue3
  t9 := Tryz.underlying9
  a9 := Tryz.isAgg9
  z9 := Tryz.sizeOf9
  v9 := Tryz.zeroValue9 }
theorem sp_Compare {a b : ByteArray} {w : World} {R : Int → World → Prop} (k : R (Lib.compareBytes a.data.toList b.data.toList) w) : C_strings_Compare a b w R := by
  refine Calls.mono (Any.strings_Compare Tryz.laysCompare a b w) ?_
  rintro e w' ⟨rfl, rfl⟩
  exact ⟨_, rfl, k⟩
def OHk : Ord T_api_Held := OB.on (fun h : T_api_Held => h.Key)
def OEk : Ord T_api_Entry := OB.on (fun h : T_api_Entry => h.Key)
section
variable {w0 : Base} {w : World} {fr : List Chunk} {data : Slc}
theorem ArH.ext {l : List T_api_Held} {w' : World} (h : ArH w0 fr data l w) (e : Ext w w') : ArH w0 fr data l w' := by
  obtain ⟨d, r, st⟩ := h
  exact ⟨d, r, st.keep e⟩
theorem ArE.ext {l : List T_api_Entry} {w' : World} (h : ArE w0 fr data l w) (e : Ext w w') : ArE w0 fr data l w' := by
  obtain ⟨d, r, st⟩ := h
  exact ⟨d, r, st.keep e⟩
theorem cmpH_key : CmpH w0 fr data OHk (Value.func (.func 82) #[] #[]) := by
  intro x y l w h
  refine CallsV.mk (all := #[aggH x, aggH y]) (by kernel_rfl) rfl ?_
  have hh : C_call_Task_Answer_1 x y w (fun v w' => decide (v < 0) = OHk.lt x y ∧ ArH w0 fr data l w') := by
    apply S_call_Task_Answer_1
    unfold F_call_Task_Answer_1
    intro b1 w1 hb1 hw1 b2 w2 hb2 hw2
    have st : St ⟨w, []⟩ [(b2, hT y), (b1, hT x)] w2 := ((St.start w).alloc (cs := hT x) hb1 hw1).alloc (cs := hT y) hb2 hw2
    exact ⟨x.Key, st.cell 1 rfl rfl, y.Key, st.cell 0 rfl rfl, sp_Compare ⟨cmp_lt _ _, h.ext st.ext⟩⟩
  refine Calls.mono hh ?_
  rintro e w' ⟨v, rfl, h1, h2⟩
  exact ⟨v, rfl, h1, h2⟩
theorem cmpE_key : CmpE w0 fr data OEk (Value.func (.func 118) #[] #[]) := by
  intro x y l w h
  refine CallsV.mk (all := #[aggE x, aggE y]) (by kernel_rfl) rfl ?_
  have hh : C_call_entries_1 x y w (fun v w' => decide (v < 0) = OEk.lt x y ∧ ArE w0 fr data l w') := by
    apply S_call_entries_1
    unfold F_call_entries_1
    intro b1 w1 hb1 hw1 b2 w2 hb2 hw2
    have st : St ⟨w, []⟩ [(b2, entT y), (b1, entT x)] w2 := ((St.start w).alloc (cs := entT x) hb1 hw1).alloc (cs := entT y) hb2 hw2
    exact ⟨x.Key, st.cell 1 rfl rfl, y.Key, st.cell 0 rfl rfl, sp_Compare ⟨cmp_lt _ _, h.ext st.ext⟩⟩
  refine Calls.mono hh ?_
  rintro e w' ⟨v, rfl, h1, h2⟩
  exact ⟨v, rfl, h1, h2⟩
/-- A row of one's own, sorted. -/
theorem sp_sortH {L : List T_api_Held} {s : Slc} {rb : List Chunk} {R : World → Prop} (r : RowC 2 s (L.flatMap hT) rb) (st : St w0 (rb ++ fr) w) (hl : L.length ≤ 288230376151711744)
    (k : ∀ rb' w', RowC 2 s ((OHk.insAll [] L).flatMap hT) rb' → St w0 (rb' ++ fr) w' → R w') : C_slices_SortStableFunc_api_Held_api_Held s (Value.func (.func 82) #[] #[]) w R :=
  sp_sortStableH (O := OHk) cmpH_key ⟨rb, r, st⟩ hl fun w' ⟨rb', r', st'⟩ => k rb' w' r' st'
theorem sp_sortE {L : List T_api_Entry} {s : Slc} {rb : List Chunk} {R : World → Prop} (r : RowC 2 s (L.flatMap entT) rb) (st : St w0 (rb ++ fr) w) (hl : L.length ≤ 288230376151711744)
    (k : ∀ rb' w', RowC 2 s ((OEk.insAll [] L).flatMap entT) rb' → St w0 (rb' ++ fr) w' → R w') : C_slices_SortStableFunc_api_Entry_api_Entry s (Value.func (.func 118) #[] #[]) w R :=
  sp_sortStableE (O := OEk) cmpE_key ⟨rb, r, st⟩ hl fun w' ⟨rb', r', st'⟩ => k rb' w' r' st'
end
end Go.Proofs.YtpedclhflmhakaaGreatDoor

namespace Go.Proofs.YtpedclhflmhakaaGreatDoor
open Go
set_option linter.unusedVariables false
set_option linter.unusedSimpArgs false

def OE : Ord Ent := OB.on (fun e : Ent => e.Key)
def OH : Ord Hd := OB.on (fun h : Hd => h.1)
structure Ans where
  ok : Bool
  es : List Ent
  cnt : Int
  hs : List Hd
/-- One reply more. -/
def ansStep (k : Int) (a : Ans) (r : Rp) : Ans :=
  if k = 1 then { a with ok := decide (r.ents.length = 1), es := if r.ents.length = 1 then r.ents else a.es }
  else if k = 2 then { a with es := OE.insAll a.es r.ents }
  else if k = 3 then { a with cnt := IntKind.i64.wrap (a.cnt + r.count) }
  else { a with hs := a.hs ++ r.held }
def ans0 : Ans := ⟨true, [], 0, []⟩
def ansAt (m : TkM) (i : Nat) : Ans := (m.reps.take i).foldl (ansStep m.call.Kind) ans0
def ansM (m : TkM) : Ans := ansAt m m.reps.length
theorem ansAt_zero (m : TkM) : ansAt m 0 = ans0 := by unfold ansAt; rw [List.take_zero]; rfl
theorem ansAt_succ {m : TkM} {i : Nat} {r : Rp} (h : m.reps[i]? = some r) : ansAt m (i + 1) = ansStep m.call.Kind (ansAt m i) r := by
  unfold ansAt
  rw [List.take_add_one, h, List.foldl_append]; rfl
theorem ansAt_sorted {m : TkM} (hk : m.call.Kind ≠ 1) : ∀ {i : Nat}, i ≤ m.reps.length → OE.Sorted (ansAt m i).es
  | 0, _ => by rw [ansAt_zero]; exact List.Pairwise.nil
  | i + 1, h => by
    have ih := ansAt_sorted (m := m) hk (i := i) (by omega)
    rw [ansAt_succ (List.getElem?_eq_getElem (show i < m.reps.length by omega))]
    unfold ansStep
    rw [if_neg hk]
    split
    · exact Ord.insAll_sorted ih
    split
    · exact ih
    · exact ih
theorem ansAt_len {m : TkM} (ok : m.Ok) : ∀ {i : Nat}, i ≤ m.reps.length → (ansAt m i).es.length ≤ i * 1048576 ∧ (ansAt m i).hs.length ≤ i * 1048576 ∧ ∀ h ∈ (ansAt m i).hs, h.2.length ≤ 1048576
  | 0, _ => by rw [ansAt_zero]; exact ⟨Nat.zero_le _, Nat.zero_le _, fun h hh => (by cases hh)⟩
  | i + 1, h => by
    have ih := ansAt_len ok (i := i) (by omega)
    have hr := List.getElem?_eq_getElem (show i < m.reps.length by omega)
    have sm := ok.small _ (List.mem_of_getElem? hr)
    rw [ansAt_succ hr]
    have h1 := sm.ents
    have h2 := sm.held
    unfold ansStep
    split
    · refine ⟨?_, by show (ansAt m i).hs.length ≤ _; omega, ih.2.2⟩
      show (if _ then _ else _ : List Ent).length ≤ _
      split <;> omega
    split
    · refine ⟨?_, by show (ansAt m i).hs.length ≤ _; omega, ih.2.2⟩
      show (OE.insAll _ _).length ≤ _
      rw [Ord.insAll_len]; omega
    split
    · exact ⟨by show (ansAt m i).es.length ≤ _; omega, by show (ansAt m i).hs.length ≤ _; omega, ih.2.2⟩
    · refine ⟨by show (ansAt m i).es.length ≤ _; omega, ?_, fun h hh => ?_⟩
      · show ((ansAt m i).hs ++ _).length ≤ _
        rw [List.length_append]; omega
      · rcases List.mem_append.1 hh with hh | hh
        · exact ih.2.2 h hh
        · exact sm.vers h hh
theorem insAll_self {α : Type} {O : Ord α} {A : List α} (s : O.Sorted A) : O.insAll [] A = A := (Ord.insAll_unique (O := O) (l := []) (xs := A) List.Pairwise.nil s (Ord.Same.refl _)).symm
/-- What is sorted anew with others behind it. -/
theorem insAll_more {α : Type} {O : Ord α} {A E : List α} (s : O.Sorted A) : O.insAll [] (A ++ E) = O.insAll A E := by rw [Ord.insAll_app, insAll_self s]

/-! ### Rows with parts, sorted -/
theorem parts_list {α σ : Type} {In : α → σ → List Chunk → Prop} : ∀ {xs : List α} {sls : List σ} {cs : List Chunk}, Parts In xs sls cs → ∃ ts : List (α × σ × List Chunk), xs = ts.map (fun t => t.1) ∧ sls = ts.map (fun t => t.2.1) ∧ cs = ts.flatMap (fun t => t.2.2) ∧ ∀ t ∈ ts, In t.1 t.2.1 t.2.2
  | [], [], _, h => ⟨[], rfl, rfl, h, fun t ht => (by cases ht)⟩
  | [], _ :: _, _, h => h.elim
  | _ :: _, [], _, h => h.elim
  | x :: xs, s :: sls, cs, ⟨c, cs', e, h1, h2⟩ => by
    obtain ⟨ts, e1, e2, e3, h3⟩ := parts_list h2
    refine ⟨(x, s, c) :: ts, by rw [List.map_cons, ← e1], by rw [List.map_cons, ← e2], by rw [List.flatMap_cons, ← e3, e], fun t ht => ?_⟩
    rcases List.mem_cons.1 ht with rfl | ht
    · exact h1
    · exact h3 t ht
theorem list_parts {α σ : Type} {In : α → σ → List Chunk → Prop} : ∀ {ts : List (α × σ × List Chunk)}, (∀ t ∈ ts, In t.1 t.2.1 t.2.2) → Parts In (ts.map fun t => t.1) (ts.map fun t => t.2.1) (ts.flatMap fun t => t.2.2)
  | [], _ => rfl
  | t :: ts, h => ⟨t.2.2, ts.flatMap (fun t => t.2.2), by rw [List.flatMap_cons], h t (List.mem_cons_self ..), list_parts fun u hu => h u (List.mem_cons_of_mem _ hu)⟩
theorem zip_maps {α σ : Type} : ∀ ts : List (α × σ × List Chunk), (ts.map fun t => t.1).zip (ts.map fun t => t.2.1) = ts.map fun t => (t.1, t.2.1)
  | [] => rfl
  | t :: ts => by rw [List.map_cons, List.map_cons, List.zip_cons_cons, zip_maps ts, List.map_cons]
end Go.Proofs.YtpedclhflmhakaaGreatDoor

namespace Go.Proofs.YtpedclhflmhakaaGreatDoor
open Go
set_option linter.unusedVariables false
set_option linter.unusedSimpArgs false

theorem RowC.none0 {sz : Nat} {s : Slc} {xs : List Value} {bs : List Chunk} (h : RowC sz s xs bs) : RowC sz ⟨s.ptr, 0, s.cap⟩ [] bs := by
  rcases h with ⟨hp, hl, hc, rfl, rfl⟩ | ⟨b, pre, rest, suf, hp, rfl, h1, h2, h3⟩
  · exact .inl ⟨hp, rfl, hc, rfl, rfl⟩
  · exact .inr ⟨b, pre, xs ++ rest, suf, hp, by simp, by simp, by simpa using h2, by show 0 ≤ s.cap; omega⟩
theorem oneCells_rep : ∀ (n : Nat), oneCells (repCells n [Value.string ByteArray.empty, Value.string ByteArray.empty]).toList = true
  | n => by
    unfold oneCells
    refine List.all_eq_true.2 fun v hv => ?_
    simp only [repCells, List.mem_flatten, List.mem_replicate] at hv
    obtain ⟨l, ⟨_, rfl⟩, hv⟩ := hv
    simp only [List.mem_cons, List.not_mem_nil, or_false] at hv
    rcases hv with rfl | rfl <;> rfl
section
variable {w0 : Base} {w : World} {fr : List Chunk}
theorem sp_GrowE {n : Nat} {R : Slc → World → Prop} (st : St w0 fr w) (hn : n ≤ 1073741824) (k : ∀ s rb w', RowC 2 s [] rb → St w0 (rb ++ fr) w' → s.len = 0 → R s w') : C_slices_Grow_api_Entry_api_Entry ⟨none, 0, 0⟩ (n : Int) w R := by
  apply S_slices_Grow_api_Entry_api_Entry
  unfold F_slices_Grow_api_Entry_api_Entry
  have e0 : IntKind.i64.wrap (((0 : Nat) : Int) - ((0 : Nat) : Int)) = 0 := by rw [i64_in _ (by omega) (by omega)]; omega
  have e1 : IntKind.i64.wrap ((n : Int) - 0) = (n : Int) := by rw [i64_in _ (by omega) (by omega)]; omega
  rw [e0, e1]
  refine ⟨fun h => absurd (of_decide_eq_true h) (by omega), fun _ => ⟨fun hp => ?_, fun hp => ?_⟩⟩
  · refine ⟨by omega, by omega, by omega, by omega, ?_⟩
    rw [Int.toNat_natCast]
    refine RowC.append (s := ⟨none, 0, 0⟩) (xs := []) (bs := []) (l := fr) RowC.nil st (by simp [repCells, List.length_flatten]) (oneCells_rep n) rfl (by show (0 + n) * 32 ≤ _; omega) fun s' rb w' r st' hl' => ?_
    refine ⟨by omega, by show ((0 : Nat) : Int) ≤ _; omega, ?_⟩
    unfold F_slices_Grow_api_Entry_api_Entry_k0
    exact k _ rb w' r.none0 st' rfl
  · unfold F_slices_Grow_api_Entry_api_Entry_k0
    exact k _ [] w RowC.nil st rfl
/-- The lists that are put together, in memory. -/
structure LsAt (w : World) (l_ : Slc) (ls : List (Slc × List T_api_Entry)) : Prop where
  tab : SrcAt w l_ 1 (ls.flatMap fun p => [slV p.1])
  src : ∀ p ∈ ls, SrcAt w p.1 2 (p.2.flatMap entT)
theorem sp_ConcatE {l_ : Slc} {ls : List (Slc × List T_api_Entry)} {R : Slc → World → Prop} (st : St w0 fr w) (hs : ∀ l w', St w0 (l ++ fr) w' → LsAt w' l_ ls) (hb : (ls.flatMap fun p => p.2).length ≤ 1073741824) (hll : ls.length ≤ 16)
    (k : ∀ s rb w', RowC 2 s ((ls.flatMap fun p => p.2).flatMap entT) rb → St w0 (rb ++ fr) w' → R s w') : C_slices_Concat_api_Entry_api_Entry l_ w R := by
  apply S_slices_Concat_api_Entry_api_Entry
  unfold F_slices_Concat_api_Entry_api_Entry
  have h0 := hs [] w st
  have hlen : l_.len = ls.length := by
    have := h0.tab.1
    rw [flatMap_len (sz := 1) (fun _ => rfl)] at this; omega
  have pl : ∀ p ∈ ls, p.1.len = p.2.length := fun p hp => by
    have := (h0.src p hp).1
    rw [flatMap_len (sz := 2) (fun _ => rfl)] at this; omega
  have take_le : ∀ i, ((ls.take i).flatMap fun p => p.2).length ≤ (ls.flatMap fun p => p.2).length := fun i => by
    conv => rhs; rw [← List.take_append_drop i ls]
    rw [List.flatMap_append, List.length_append]; omega
  have take_s : ∀ {i : Nat} {p : Slc × List T_api_Entry}, ls[i]? = some p → (ls.take (i + 1)).flatMap (fun p => p.2) = (ls.take i).flatMap (fun p => p.2) ++ p.2 := fun {i p} h => by
    rw [List.take_add_one, h, List.flatMap_append]; simp
  have at_ : ∀ {i : Nat} {l : List Chunk} {w' : World}, St w0 (l ++ fr) w' → i < ls.length → IsAt l_.ptr ∧ ∃ p, ls[i]? = some p ∧ w'.cell? ⟨pblk l_.ptr, poff l_.ptr + i, none⟩ = some (slV p.1) := fun {i l w'} st' hi => by
    obtain ⟨a, p, hp, hc⟩ := SrcAt.getN (hs l w' st').tab (fun _ => rfl) (by decide) (i := (i : Int)) (by omega) (by omega)
    rw [Int.toNat_natCast] at hp hc
    rw [Nat.mul_one] at hc
    exact ⟨a, p, hp, hc.1⟩
  refine ⟨fun size i w' => ∃ p : Nat, i = (p : Int) ∧ p ≤ ls.length ∧ size = (((ls.take p).flatMap fun p => p.2).length : Int) ∧ w' = w, fun _ i _ => ls.length - i.toNat, ⟨0, rfl, by omega, by simp, rfl⟩, ?_⟩
  rintro size i w' ⟨p, rfl, hp, rfl, rfl⟩
  unfold F_slices_Concat_api_Entry_api_Entry_L0
  have wp : IntKind.i64.wrap ((p : Int) + 1) = ((p + 1 : Nat) : Int) := by rw [i64_in _ (by omega) (by omega)]; omega
  refine ⟨fun hi => ?_, fun hi => ?_⟩
  · have hi := of_decide_eq_true hi
    obtain ⟨a, x, hx, hc⟩ := at_ (l := []) (i := p) st (by omega)
    have h1 := pl x (List.mem_of_getElem? hx)
    have h2 := take_le (p + 1)
    have h3 := take_s hx
    rw [h3, List.length_append] at h2
    have ws : IntKind.i64.wrap ((((ls.take p).flatMap fun p => p.2).length : Int) + ((x.1.len : Nat) : Int)) = (((ls.take (p + 1)).flatMap fun p => p.2).length : Int) := by
      rw [h3, List.length_append, i64_in _ (by omega) (by omega)]; omega
    refine ⟨a, by omega, hi, x.1, by rw [Int.toNat_natCast]; exact hc, fun h => absurd (of_decide_eq_true h) (by rw [ws]; omega), fun _ => ?_⟩
    rw [ws, wp]
    exact ⟨⟨p + 1, rfl, by omega, rfl, rfl⟩, by show _ - _ < _ - _; omega⟩
  · have hi := of_decide_eq_false hi
    obtain rfl : p = ls.length := by omega
    rw [List.take_length]
    refine sp_GrowE st hb fun s rb w1 r st1 hl1 => ?_
    refine ⟨fun ns i w' => ∃ (p : Nat) (rb : List Chunk), i = (p : Int) ∧ p ≤ ls.length ∧ RowC 2 ns (((ls.take p).flatMap fun p => p.2).flatMap entT) rb ∧ ns.len = ((ls.take p).flatMap fun p => p.2).length ∧ St w0 (rb ++ fr) w', fun _ i _ => ls.length - i.toNat, ⟨0, rb, rfl, by omega, by simpa using r, by simpa using hl1, st1⟩, ?_⟩
    rintro ns i w2 ⟨p, rb, rfl, hp2, r, hl2, st2⟩
    unfold F_slices_Concat_api_Entry_api_Entry_L1
    have wp : IntKind.i64.wrap ((p : Int) + 1) = ((p + 1 : Nat) : Int) := by rw [i64_in _ (by omega) (by omega)]; omega
    refine ⟨fun hi => ?_, fun hi => ?_⟩
    · have hi := of_decide_eq_true hi
      obtain ⟨a, x, hx, hc⟩ := at_ (i := p) st2 (by omega)
      have h1 := pl x (List.mem_of_getElem? hx)
      have h2 := take_le (p + 1)
      have h3 := take_s hx
      rw [h3, List.length_append] at h2
      have hsx := (hs rb w2 st2).src x (List.mem_of_getElem? hx)
      refine ⟨a, by omega, hi, x.1, by rw [Int.toNat_natCast]; exact hc, x.2.flatMap entT, hsx, ?_⟩
      refine r.append st2 hsx.1 (one_Ent x.2) rfl (by omega) fun ns' rb' w3 r3 st3 hl3 => ?_
      rw [wp]
      refine ⟨⟨p + 1, rb', rfl, by omega, ?_, ?_, st3⟩, by show _ - _ < _ - _; omega⟩
      · rw [h3, List.flatMap_append]; exact r3
      · rw [h3, List.length_append, hl3]; omega
    · have hi := of_decide_eq_false hi
      obtain rfl : p = ls.length := by omega
      rw [List.take_length] at r
      exact k ns rb w2 r st2
theorem sp_entries {l_ : Slc} {ls : List (Slc × List T_api_Entry)} {R : Slc → World → Prop} (st : St w0 fr w) (hs : ∀ l w', St w0 (l ++ fr) w' → LsAt w' l_ ls) (hb : (ls.flatMap fun p => p.2).length ≤ 1073741824) (hll : ls.length ≤ 16)
    (k : ∀ s rb w', RowC 2 s ((OEk.insAll [] (ls.flatMap fun p => p.2)).flatMap entT) rb → St w0 (rb ++ fr) w' → R s w') : C_call_entries l_ w R := by
  apply S_call_entries
  unfold F_call_entries
  refine sp_ConcatE st hs hb hll fun s rb w1 r st1 => ?_
  exact sp_sortE r st1 (by omega) fun rb' w2 r2 st2 => k s rb' w2 r2 st2
end
end Go.Proofs.YtpedclhflmhakaaGreatDoor

namespace Go.Proofs.YtpedclhflmhakaaGreatDoor
open Go
set_option linter.unusedVariables false
set_option linter.unusedSimpArgs false

structure AnR where
  mark : Int
  ok : Bool
  es : List Ent
  cnt : Int
  hs : List Hd
def zAnR : AnR := ⟨0, false, [], 0, []⟩
def anE (m : Option TkM) : Int :=
  match m with
  | none => 2
  | some m => if allM (some m) = true then 0 else 6
def anR (m : Option TkM) : AnR :=
  match m with
  | none => zAnR
  | some m => if allM (some m) = true then ⟨m.mark, (ansM m).ok, (ansM m).es, (ansM m).cnt, OH.insAll [] (ansM m).hs⟩ else zAnR
abbrev hdH (p : Hd × Slc) : T_api_Held := ⟨p.1.1, p.2⟩
theorem zip_hT (hs : List Hd) (vsl : List Slc) : ((hs.zip vsl).flatMap fun p => hdV p.1.1 p.2) = ((hs.zip vsl).map hdH).flatMap hT := by rw [List.flatMap_map]
theorem hds_sort {hs : List Hd} {vsl : List Slc} {vb : List Chunk} (h : Parts InV hs vsl vb) :
    ∃ vsl' vb', Parts InV (OH.insAll [] hs) vsl' vb' ∧ vb.Perm vb' ∧ OHk.insAll [] ((hs.zip vsl).map hdH) = ((OH.insAll [] hs).zip vsl').map hdH := by
  obtain ⟨ts, rfl, rfl, rfl, hp⟩ := parts_list h
  have e1 : OHk.insAll [] (ts.map fun t => hdH (t.1, t.2.1)) = ((OB.on fun t : Hd × Slc × List Chunk => t.1.1).insAll [] ts).map fun t => hdH (t.1, t.2.1) :=
    Ord.insAll_map (O := OHk) (fun t : Hd × Slc × List Chunk => hdH (t.1, t.2.1)) ts []
  have e2 : OH.insAll [] (ts.map fun t => t.1) = ((OB.on fun t : Hd × Slc × List Chunk => t.1.1).insAll [] ts).map fun t => t.1 :=
    Ord.insAll_map (O := OH) (fun t : Hd × Slc × List Chunk => t.1) ts []
  have p : ((OB.on fun t : Hd × Slc × List Chunk => t.1.1).insAll [] ts).Perm ts := by simpa using Ord.insAll_perm (O := OB.on fun t : Hd × Slc × List Chunk => t.1.1) ts []
  refine ⟨((OB.on fun t : Hd × Slc × List Chunk => t.1.1).insAll [] ts).map fun t => t.2.1, ((OB.on fun t : Hd × Slc × List Chunk => t.1.1).insAll [] ts).flatMap fun t => t.2.2, ?_, (p.flatMap_right _).symm, ?_⟩
  · rw [e2]
    exact list_parts fun t ht => hp t (p.mem_iff.1 ht)
  · rw [e2, zip_maps, zip_maps, List.map_map, List.map_map]
    exact e1
section
variable {w0 : Base} {w : World} {fr cs : List Chunk} {t : Option Addr} {m : Option TkM}
theorem St.blkSrc {b n sz : Nat} {vs : List Value} {l : List Chunk} (st : St w0 ((b, vs) :: l) w) (h : vs.length = n * sz) : SrcAt w ⟨some ⟨b, 0, none⟩, n, n⟩ sz vs := (RowC.new (b := b) (n := n) (sz := sz) h).src (l := l) st
/-- Held keys that are read. -/
structure HeldIn (w0 : Base) (G : List Chunk) (sh : Slc) (held : List Hd) (vsl : List Slc) : Prop where
  len : vsl.length = held.length
  row : ∀ l w', St w0 (l ++ G) w' → SrcAt w' sh 2 ((held.zip vsl).flatMap fun p => hdV p.1.1 p.2)
  ver : ∀ (i : Nat) (h : Hd) (v : Slc), held[i]? = some h → vsl[i]? = some v → ∀ l w', St w0 (l ++ G) w' → SrcAt w' v 3 (h.2.flatMap verT)
/-- Replies that are read. -/
structure RepsIn (w0 : Base) (G : List Chunk) (ps : Slc) (reps : List Rp) (sls : List (Slc × Slc)) : Prop where
  len : sls.length = reps.length
  row : ∀ l w', St w0 (l ++ G) w' → SrcAt w' ps 5 ((reps.zip sls).flatMap fun p => rpV p.1 p.2)
  ent : ∀ (i : Nat) (r : Rp) (s : Slc × Slc), reps[i]? = some r → sls[i]? = some s → ∀ l w', St w0 (l ++ G) w' → SrcAt w' s.1 2 (r.ents.flatMap entT)
  held : ∀ (i : Nat) (r : Rp) (s : Slc × Slc), reps[i]? = some r → sls[i]? = some s → ∃ vsl, HeldIn w0 G s.2 r.held vsl
theorem HeldIn.more {G D : List Chunk} {sh : Slc} {held : List Hd} {vsl : List Slc} (h : HeldIn w0 G sh held vsl) : HeldIn w0 (D ++ G) sh held vsl :=
  ⟨h.len, fun l w' st => h.row (l ++ D) w' (by rw [List.append_assoc]; exact st), fun i x v h1 h2 l w' st => h.ver i x v h1 h2 (l ++ D) w' (by rw [List.append_assoc]; exact st)⟩
theorem heldIn {G g tb pb : List Chunk} {sh : Slc} {held : List Hd} {vsl : List Slc} (row : RowC 2 sh ((held.zip vsl).flatMap fun p => hdV p.1.1 p.2) tb) (parts : Parts InV held vsl pb) (hG : G.Perm (tb ++ (pb ++ g))) : HeldIn w0 G sh held vsl := by
  refine ⟨parts.len, fun l w' st => row.src (l := pb ++ (g ++ l)) ((st.perm (hG.append_left l)).perm (perm_of_sum fun f_ => by simp <;> omega)), fun i h v h1 h2 l w' st => ?_⟩
  obtain ⟨a, c, z, rfl, hi⟩ := parts.at_ h1 h2
  have hi : RowC 3 v (h.2.flatMap verV) c := hi
  exact hi.src (l := tb ++ (a ++ (z ++ (g ++ l)))) ((st.perm (hG.append_left l)).perm (perm_of_sum fun f_ => by simp <;> omega))
theorem repsIn {G g tp pb : List Chunk} {ps : Slc} {reps : List Rp} {sls : List (Slc × Slc)} (row : RowC 5 ps ((reps.zip sls).flatMap fun p => rpV p.1 p.2) tp) (parts : Parts InP reps sls pb) (hG : G.Perm (tp ++ (pb ++ g))) : RepsIn w0 G ps reps sls := by
  refine ⟨parts.len, fun l w' st => row.src (l := pb ++ (g ++ l)) ((st.perm (hG.append_left l)).perm (perm_of_sum fun f_ => by simp <;> omega)), fun i r s h1 h2 l w' st => ?_, fun i r s h1 h2 => ?_⟩
  · obtain ⟨a, c, z, rfl, hi⟩ := parts.at_ h1 h2
    obtain ⟨ec, hc, rfl, re, _⟩ := hi
    exact re.src (l := hc ++ (tp ++ (a ++ (z ++ (g ++ l))))) ((st.perm (hG.append_left l)).perm (perm_of_sum fun f_ => by simp <;> omega))
  · obtain ⟨a, c, z, rfl, hi⟩ := parts.at_ h1 h2
    obtain ⟨ec, hc, rfl, _, vsl, tb2, pb2, rfl, rt, pt⟩ := hi
    exact ⟨vsl, heldIn (g := tp ++ (a ++ (ec ++ (z ++ g)))) rt pt (hG.trans (perm_of_sum fun f_ => by simp <;> omega))⟩
theorem sp_ans_held {G tb vb : List Chunk} {hs : List Hd} {r : Rp} {sh held : Slc} {vsl vsr : List Slc} {t31 : Int} {again_ : Slc → Int → World → Prop} (hsm : r.Small) (hhs : hs.length ≤ 16777216) (hin : HeldIn w0 G sh r.held vsr)
    (rh : RowC 2 held ((hs.zip vsl).flatMap fun q => hdV q.1.1 q.2) tb) (pv : Parts InV hs vsl vb) (st : St w0 (tb ++ (vb ++ G)) w)
    (k : ∀ held2 vsl' tb' vb' w', RowC 2 held2 (((hs ++ r.held).zip vsl').flatMap fun q => hdV q.1.1 q.2) tb' → Parts InV (hs ++ r.held) vsl' vb' → St w0 (tb' ++ (vb' ++ G)) w' → F_call_Task_Answer_k1 t31 again_ held2 w') :
    ∃ (I : Slc → Int → World → Prop) (μ : Slc → Int → World → Nat), I held 0 w ∧ ∀ (held2 : Slc) (t76 : Int) w, I held2 t76 w → F_call_Task_Answer_L2 t31 again_ sh (fun (held2' : Slc) (t76' : Int) w' => I held2' t76' w' ∧ μ held2' t76' w' < μ held2 t76 w) held2 t76 w := by
  have hsh : sh.len = r.held.length := by
    have := (hin.row (tb ++ vb) w (by rw [List.append_assoc]; exact st)).1
    rw [zipRow_len (sz := 2) (fun _ => rfl) hin.len] at this; omega
  have hshl := hsm.held
  refine ⟨fun held2 j w' => ∃ (q : Nat) (vsl' : List Slc) (tb' vb' : List Chunk), j = (q : Int) ∧ q ≤ r.held.length ∧ RowC 2 held2 (((hs ++ r.held.take q).zip vsl').flatMap fun q => hdV q.1.1 q.2) tb' ∧ Parts InV (hs ++ r.held.take q) vsl' vb' ∧
    St w0 (tb' ++ (vb' ++ G)) w', fun _ j _ => r.held.length - j.toNat, ⟨0, vsl, tb, vb, rfl, by omega, by simpa using rh, by simpa using pv, st⟩, ?_⟩
  clear st rh pv
  rintro held2 j w20 ⟨q, vsl', tb', vb', rfl, hq, rh', pv', st20⟩
  unfold F_call_Task_Answer_L2
  have hvl := pv'.len
  refine ⟨fun hj => ?_, fun hj => ?_⟩
  · have hj := of_decide_eq_true hj
    obtain ⟨a2, y, hy, hcy⟩ := SrcAt.getN (hin.row (tb' ++ vb') w20 (by rw [List.append_assoc]; exact st20)) (fun _ => rfl) (by decide) (i := (q : Int)) (by omega) hj
    rw [Int.toNat_natCast] at hy
    obtain ⟨hy1, hy2⟩ := List.getElem?_zip_eq_some.1 hy
    obtain ⟨hd, sv⟩ := y
    simp only at hy1 hy2
    have hvs := hsm.vers hd (List.mem_of_getElem? hy1)
    have wq : IntKind.i64.wrap ((q : Int) + 1) = ((q + 1 : Nat) : Int) := by rw [i64_in _ (by omega) (by omega)]; omega
    refine ⟨a2, by omega, hj, ⟨hd.1, sv⟩, hcy, fun b5 w21 hb5 hw21 => ?_⟩
    have st21 := st20.alloc (cs := hldT (ByteArray.empty, ⟨none, 0, 0⟩)) hb5 hw21
    refine ⟨st21.writable 0 rfl (by decide), fun w22 hw22 w23 hw23 => ?_⟩
    have st22 : St w0 ((b5, hldT (hd.1, sv)) :: (tb' ++ (vb' ++ G))) w22 := st21.put0 hw22
    have st23 := st22.drew hw23
    have hsrc := hin.ver q hd sv hy1 hy2 ((b5, hldT (hd.1, sv)) :: (tb' ++ vb')) w23 (by rw [List.cons_append, List.append_assoc]; exact st23)
    have hsv : sv.len = hd.2.length := by
      have := hsrc.1
      rw [flatMap_len (sz := 3) (fun _ => rfl)] at this; omega
    refine ⟨hd.1, st23.cell 0 rfl rfl, sv, st23.cell 0 rfl rfl, sp_CloneVer hsrc (by omega) fun s3 rb w24 r24 st24 _ => ?_⟩
    have st24 := st23.more st24
    have st24 : St w0 ((b5, hldT (hd.1, sv)) :: (rb ++ (tb' ++ (vb' ++ G)))) w24 := st24.perm (perm_of_sum fun f_ => by simp <;> omega)
    refine ⟨st24.cell 0 rfl rfl, fun b6 w25 hb6 hw25 => ?_⟩
    have st25 := st24.alloc (cs := hldT (hd.1, s3)) hb6 hw25
    refine ⟨hldT (hd.1, s3), srcAt_newN hb6 hw25 rfl, ?_⟩
    have st25 : St w0 (tb' ++ (rb ++ (vb' ++ G))) w25 := st25.weak [(b6, hldT (hd.1, s3)), (b5, hldT (hd.1, sv))] (perm_of_sum fun f_ => by simp <;> omega)
    have hhl : held2.len = (hs ++ r.held.take q).length := by
      have := rh'.len
      rw [zipRow_len (sz := 2) (fun _ => rfl) hvl] at this; omega
    rw [List.length_append, List.length_take] at hhl
    refine rh'.append st25 rfl rfl rfl (by omega) fun held3 tb3 w26 r26 st26 hl26 => ?_
    rw [wq]
    refine ⟨⟨q + 1, vsl' ++ [s3], tb3, vb' ++ rb, rfl, by omega, ?_, ?_, st26.perm (perm_of_sum fun f_ => by simp <;> omega)⟩, by show _ - _ < _ - _; omega⟩
    · rw [List.take_add_one, hy1, show (some hd).toList = [hd] from rfl, ← List.append_assoc, zip_snoc hvl]
      exact r26
    · rw [List.take_add_one, hy1, show (some hd).toList = [hd] from rfl, ← List.append_assoc]
      exact pv'.snoc r24
  · have hj := of_decide_eq_false hj
    rw [List.take_of_length_le (by omega)] at rh' pv'
    exact k held2 vsl' tb' vb' w20 rh' pv' st20
/-- How far the answer is behind p replies. -/
def AnSt (w0 : Base) (m : TkM) (G : List Chunk) (b1 : Nat) (A : Ans) (held : Slc) (w : World) : Prop :=
  ∃ (s : Slc) (vsl : List Slc) (ec tb vb d : List Chunk), RowC 2 s (A.es.flatMap entT) ec ∧ RowC 2 held ((A.hs.zip vsl).flatMap fun q => hdV q.1.1 q.2) tb ∧ Parts InV A.hs vsl vb ∧ St w0 ((b1, anT ⟨0, m.mark, A.ok, s, A.cnt⟩) :: (ec ++ (tb ++ (vb ++ (d ++ G))))) w
theorem ans_row1 {r : Rp} {k : Int} (h : k = 1) (A : Ans) : ansStep k A r = { A with ok := decide (r.ents.length = 1), es := if r.ents.length = 1 then r.ents else A.es } := by unfold ansStep; rw [if_pos h]
theorem ans_row2 {r : Rp} {k : Int} (h : k = 2) (A : Ans) : ansStep k A r = { A with es := OE.insAll A.es r.ents } := by unfold ansStep; rw [if_neg (by omega), if_pos h]
theorem ans_row3 {r : Rp} {k : Int} (h : k = 3) (A : Ans) : ansStep k A r = { A with cnt := IntKind.i64.wrap (A.cnt + r.count) } := by unfold ansStep; rw [if_neg (by omega), if_neg (by omega), if_pos h]
theorem ans_row4 {r : Rp} {k : Int} (h : k = 4) (A : Ans) : ansStep k A r = { A with hs := A.hs ++ r.held } := by unfold ansStep; rw [if_neg (by omega), if_neg (by omega), if_neg (by omega)]
theorem sp_ans_round {G : List Chunk} {m : TkM} {b1 bt b : Nat} {ps held : Slc} {sls : List (Slc × Slc)} {p : Nat} {R : T_api_Answer → Slc → Int → World → Prop} {again_ : Slc → Int → World → Prop} (ok : m.Ok) (hp : p < m.reps.length) (hin : RepsIn w0 G ps m.reps sls)
    (hk : ∀ l w', St w0 (l ++ G) w' → w'.cell? ⟨bt, 5, none⟩ = some (Value.int .u8 m.call.Kind)) (h : AnSt w0 m G b1 (ansAt m p) held w)
    (k : ∀ held' w', AnSt w0 m G b1 (ansAt m (p + 1)) held' w' → again_ held' ((p + 1 : Nat) : Int) w') (hi : decide (((p : Nat) : Int) < ((ps.len : Nat) : Int)) = true)
    (no : decide (((p : Nat) : Int) < ((ps.len : Nat) : Int)) = false → C_slices_SortStableFunc_api_Held_api_Held held (Value.func (.func 82) #[] #[]) w (fun w27 => ∃ (v93 : T_api_Answer), CellsAt w27 b1 0 (anT v93) ∧ (Writable w27 b 0 5 ∧ (∀ w28, w28 = World.puts b 0 (anT v93) w27 → (∃ (res2 : T_api_Answer), CellsAt w28 b 0 (anT res2) ∧ (R res2 held 0 w28)))))) : F_call_Task_Answer_L0 (some ⟨bt, 0, none⟩) R b b1 ps again_ held (p : Int) w := by
  unfold F_call_Task_Answer_L0
  refine ⟨fun _ => ?_, no⟩
  have hi := of_decide_eq_true hi
  have hr16 := ok.few
  have hrm := ok.reps
  have hlen := ansAt_len ok (Nat.le_of_lt hp)
  obtain ⟨s, vsl, ec, tb, vb, d, rs2, rh, pv, st⟩ := h
  have wp : IntKind.i64.wrap ((p : Int) + 1) = ((p + 1 : Nat) : Int) := by rw [i64_in _ (by omega) (by omega)]; omega
  have stG : ∀ {x : Chunk} {w' : World}, St w0 (x :: (ec ++ (tb ++ (vb ++ (d ++ G))))) w' → St w0 ((x :: (ec ++ (tb ++ (vb ++ d)))) ++ G) w' := fun {x w'} h => by
    have e : (x :: (ec ++ (tb ++ (vb ++ d)))) ++ G = x :: (ec ++ (tb ++ (vb ++ (d ++ G)))) := by simp only [List.cons_append, List.append_assoc]
    rw [e]; exact h
  have stG2 : ∀ {x y : Chunk} {w' : World}, St w0 (x :: y :: (ec ++ (tb ++ (vb ++ (d ++ G))))) w' → St w0 ((x :: y :: (ec ++ (tb ++ (vb ++ d)))) ++ G) w' := fun {x y w'} h => by
    have e : (x :: y :: (ec ++ (tb ++ (vb ++ d)))) ++ G = x :: y :: (ec ++ (tb ++ (vb ++ (d ++ G)))) := by simp only [List.cons_append, List.append_assoc]
    rw [e]; exact h
  obtain ⟨a, x, hx, hc⟩ := SrcAt.getN (hin.row _ w (stG st)) (fun _ => rfl) (by decide) (i := (p : Int)) (by omega) hi
  rw [Int.toNat_natCast] at hx
  obtain ⟨hx1, hx2⟩ := List.getElem?_zip_eq_some.1 hx
  obtain ⟨r, se, sh⟩ := x
  simp only at hx1 hx2
  have hsucc := ansAt_succ hx1
  have hsm := ok.small r (List.mem_of_getElem? hx1)
  have hre := hin.ent p r (se, sh) hx1 hx2
  obtain ⟨vsr, hho⟩ := hin.held p r (se, sh) hx1 hx2
  have hel : r.ents.length = se.len := by
    have h0 := (hre _ w (stG st)).1
    rw [flatMap_len (sz := 2) (fun _ => rfl)] at h0
    have h0 : r.ents.length * 2 = se.len * 2 := h0
    omega
  have fin : ∀ (A : Ans) (held' : Slc) (w' : World), A = ansStep m.call.Kind (ansAt m p) r → AnSt w0 m G b1 A held' w' → F_call_Task_Answer_k1 (p : Int) again_ held' w' := fun A held' w' hA h' => by
    unfold F_call_Task_Answer_k1
    rw [wp]
    rw [← hsucc] at hA
    subst hA
    exact k held' w' h'
  refine ⟨a, by omega, hi, ⟨0, r.ok, se, sh, r.count⟩, hc, fun b2 w10 hb2 hw10 => ?_⟩
  have st10 := st.alloc (cs := rpV ⟨false, [], [], 0⟩ (⟨none, 0, 0⟩, ⟨none, 0, 0⟩)) hb2 hw10
  refine ⟨st10.writable 0 rfl (by show 0 + 5 ≤ 5; omega), fun w11 hw11 => ?_⟩
  have st11 : St w0 ((b2, rpV r (se, sh)) :: (b1, anT ⟨0, m.mark, (ansAt m p).ok, s, (ansAt m p).cnt⟩) :: (ec ++ (tb ++ (vb ++ (d ++ G))))) w11 := st10.put0 hw11
  clear st10 st
  refine ⟨rfl, m.call.Kind, hk _ w11 (stG2 st11), fun h1 => ?_, fun h1 => ⟨fun h2 => ?_, fun h2 => ⟨fun h3 => ?_, fun h3 => ⟨fun h4 => ?_, fun h4 => ?_⟩⟩⟩⟩
  · have h1 : m.call.Kind = 1 := by simpa using h1
    have hone := ok.one h1
    have hp0 : p = 0 := by omega
    subst hp0
    refine ⟨se, st11.cell 0 rfl rfl, st11.writable 1 rfl (by show 2 + 1 ≤ 5; omega), fun w12 hw12 => ?_⟩
    have st12 : St w0 ((b2, rpV r (se, sh)) :: (b1, anT ⟨0, m.mark, (((se.len : Nat) : Int) == 1), s, (ansAt m 0).cnt⟩) :: (ec ++ (tb ++ (vb ++ (d ++ G))))) w12 := st11.put1 hw12
    refine ⟨(((se.len : Nat) : Int) == 1), st12.cell 1 rfl rfl, fun hb => ?_, fun hb => ?_⟩
    · have hs1 : r.ents.length = 1 := by have : ((se.len : Nat) : Int) = 1 := by simpa using hb
                                         omega
      refine ⟨se, st12.cell 0 rfl rfl, fun b3 w13 hb3 hw13 => ?_⟩
      have st13 := st12.alloc (cs := [slV se]) hb3 hw13
      refine sp_entries (ls := [(se, r.ents)]) st13 (fun l w' st' => ⟨?_, fun q hq => ?_⟩) (by simp; omega) (by simp) fun s2 rb w14 r14 st14 => ?_
      · exact St.blkSrc (n := 1) (sz := 1) (vs := [slV se]) (l := l ++ ((b2, rpV r (se, sh)) :: (b1, anT ⟨0, m.mark, (((se.len : Nat) : Int) == 1), s, (ansAt m 0).cnt⟩) :: (ec ++ (tb ++ (vb ++ (d ++ G)))))) (st'.perm (perm_of_sum fun f_ => by simp <;> omega)) rfl
      · rw [List.mem_singleton.1 hq]
        exact hre (l ++ ((b3, [slV se]) :: (b2, rpV r (se, sh)) :: (b1, anT ⟨0, m.mark, (((se.len : Nat) : Int) == 1), s, (ansAt m 0).cnt⟩) :: (ec ++ (tb ++ (vb ++ d))))) w' (st'.perm (perm_of_sum fun f_ => by simp <;> omega))
      have st14 : St w0 ((b1, anT ⟨0, m.mark, (((se.len : Nat) : Int) == 1), s, (ansAt m 0).cnt⟩) :: (rb ++ (tb ++ (vb ++ (((b3, [slV se]) :: (b2, rpV r (se, sh)) :: (ec ++ d)) ++ G))))) w14 := st14.perm (perm_of_sum fun f_ => by simp <;> omega)
      refine ⟨st14.writable 0 rfl (by show 3 + 1 ≤ 5; omega), fun w15 hw15 => ?_⟩
      have st15 : St w0 ((b1, anT ⟨0, m.mark, (((se.len : Nat) : Int) == 1), s2, (ansAt m 0).cnt⟩) :: (rb ++ (tb ++ (vb ++ (((b3, [slV se]) :: (b2, rpV r (se, sh)) :: (ec ++ d)) ++ G))))) w15 := st14.put0 hw15
      refine fin _ held w15 (ans_row1 h1 _).symm ⟨s2, vsl, rb, tb, vb, (b3, [slV se]) :: (b2, rpV r (se, sh)) :: (ec ++ d), ?_, rh, pv, ?_⟩
      · show RowC 2 s2 ((if r.ents.length = 1 then r.ents else (ansAt m 0).es).flatMap entT) rb
        rw [if_pos hs1]
        obtain ⟨x, hx⟩ := List.length_eq_one_iff.1 hs1
        rw [hx] at r14 ⊢
        have e6 : OEk.insAll [] ([x] : List T_api_Entry) = [x] := rfl
        simp only [List.flatMap_cons, List.flatMap_nil, List.append_nil] at r14
        rw [e6] at r14
        exact r14
      · show St w0 ((b1, anT ⟨0, m.mark, decide (r.ents.length = 1), s2, (ansAt m 0).cnt⟩) :: _) w15
        rw [decide_eq_true hs1]
        rw [hb] at st15
        exact st15
    · have hs1 : ¬ r.ents.length = 1 := by have : ¬ ((se.len : Nat) : Int) = 1 := by simpa using hb
                                           omega
      refine fin _ held w12 (ans_row1 h1 _).symm ⟨s, vsl, ec, tb, vb, (b2, rpV r (se, sh)) :: d, ?_, rh, pv, ?_⟩
      · show RowC 2 s ((if r.ents.length = 1 then r.ents else (ansAt m 0).es).flatMap entT) ec
        rw [if_neg hs1]; exact rs2
      · show St w0 ((b1, anT ⟨0, m.mark, decide (r.ents.length = 1), s, (ansAt m 0).cnt⟩) :: _) w12
        rw [decide_eq_false hs1]
        rw [hb] at st12
        exact st12.perm (perm_of_sum fun f_ => by simp <;> omega)
  · have h1 : m.call.Kind ≠ 1 := by simpa using h1
    have h2 : m.call.Kind = 2 := by simpa using h2
    have hsort := ansAt_sorted h1 (Nat.le_of_lt hp)
    refine ⟨s, st11.cell 1 rfl rfl, se, st11.cell 0 rfl rfl, fun b4 w16 hb4 hw16 => ?_⟩
    have st16 := st11.alloc (cs := [slV s, slV se]) hb4 hw16
    have hse := hsm.ents
    refine sp_entries (ls := [(s, (ansAt m p).es), (se, r.ents)]) st16 (fun l w' st' => ⟨?_, fun q hq => ?_⟩) (by simp; omega) (by simp) fun s2 rb w17 r17 st17 => ?_
    · exact St.blkSrc (n := 2) (sz := 1) (vs := [slV s, slV se]) (l := l ++ ((b2, rpV r (se, sh)) :: (b1, anT ⟨0, m.mark, (ansAt m p).ok, s, (ansAt m p).cnt⟩) :: (ec ++ (tb ++ (vb ++ (d ++ G)))))) (st'.perm (perm_of_sum fun f_ => by simp <;> omega)) rfl
    · rcases List.mem_cons.1 hq with rfl | hq
      · exact rs2.src (l := l ++ ((b4, [slV s, slV se]) :: (b2, rpV r (se, sh)) :: (b1, anT ⟨0, m.mark, (ansAt m p).ok, s, (ansAt m p).cnt⟩) :: (tb ++ (vb ++ (d ++ G))))) (st'.perm (perm_of_sum fun f_ => by simp <;> omega))
      · rw [List.mem_singleton.1 hq]
        exact hre (l ++ ((b4, [slV s, slV se]) :: (b2, rpV r (se, sh)) :: (b1, anT ⟨0, m.mark, (ansAt m p).ok, s, (ansAt m p).cnt⟩) :: (ec ++ (tb ++ (vb ++ d))))) w' (st'.perm (perm_of_sum fun f_ => by simp <;> omega))
    have st17 : St w0 ((b1, anT ⟨0, m.mark, (ansAt m p).ok, s, (ansAt m p).cnt⟩) :: (rb ++ (tb ++ (vb ++ (((b4, [slV s, slV se]) :: (b2, rpV r (se, sh)) :: (ec ++ d)) ++ G))))) w17 := st17.perm (perm_of_sum fun f_ => by simp <;> omega)
    refine ⟨st17.writable 0 rfl (by show 3 + 1 ≤ 5; omega), fun w18 hw18 => ?_⟩
    have st18 : St w0 ((b1, anT ⟨0, m.mark, (ansAt m p).ok, s2, (ansAt m p).cnt⟩) :: (rb ++ (tb ++ (vb ++ (((b4, [slV s, slV se]) :: (b2, rpV r (se, sh)) :: (ec ++ d)) ++ G))))) w18 := st17.put0 hw18
    refine fin _ held w18 (ans_row2 h2 _).symm ⟨s2, vsl, rb, tb, vb, (b4, [slV s, slV se]) :: (b2, rpV r (se, sh)) :: (ec ++ d), ?_, rh, pv, st18⟩
    have e5 : OEk.insAll [] ((ansAt m p).es ++ r.ents) = OE.insAll (ansAt m p).es r.ents := insAll_more (O := OE) hsort
    have r17 : RowC 2 s2 ((OEk.insAll [] ((ansAt m p).es ++ r.ents)).flatMap entT) rb := by simpa using r17
    rw [e5] at r17
    exact r17
  · have h1 : m.call.Kind ≠ 1 := by simpa using h1
    have h2 : m.call.Kind ≠ 2 := by simpa using h2
    have h3 : m.call.Kind = 3 := by simpa using h3
    refine ⟨(ansAt m p).cnt, st11.cell 1 rfl rfl, r.count, st11.cell 0 rfl rfl, st11.writable 1 rfl (by show 4 + 1 ≤ 5; omega), fun w19 hw19 => ?_⟩
    have st19 : St w0 ((b2, rpV r (se, sh)) :: (b1, anT ⟨0, m.mark, (ansAt m p).ok, s, IntKind.i64.wrap ((ansAt m p).cnt + r.count)⟩) :: (ec ++ (tb ++ (vb ++ (d ++ G))))) w19 := st11.put1 hw19
    exact fin _ held w19 (ans_row3 h3 _).symm ⟨s, vsl, ec, tb, vb, (b2, rpV r (se, sh)) :: d, rs2, rh, pv, st19.perm (perm_of_sum fun f_ => by simp <;> omega)⟩
  · have h4 : m.call.Kind = 4 := by simpa using h4
    refine ⟨sh, st11.cell 0 rfl rfl, ?_⟩
    refine sp_ans_held (G := ((b2, rpV r (se, sh)) :: (b1, anT ⟨0, m.mark, (ansAt m p).ok, s, (ansAt m p).cnt⟩) :: (ec ++ d)) ++ G) hsm (by omega) hho.more rh pv (st11.perm (perm_of_sum fun f_ => by simp <;> omega)) fun held2 vsl' tb' vb' w' rh' pv' st' => ?_
    exact fin _ held2 w' (ans_row4 h4 _).symm ⟨s, vsl', ec, tb', vb', (b2, rpV r (se, sh)) :: d, rs2, rh', pv', st'.perm (perm_of_sum fun f_ => by simp <;> omega)⟩
  · have h1 : m.call.Kind ≠ 1 := by simpa using h1
    have h2 : m.call.Kind ≠ 2 := by simpa using h2
    have h3 : m.call.Kind ≠ 3 := by simpa using h3
    have h4 : m.call.Kind ≠ 4 := by simpa using h4
    have := ok.kind
    omega
theorem sp_tk_Answer {R : T_api_Answer → Slc → Int → World → Prop} (o : TkO t m cs) (st : St w0 (cs ++ fr) w)
    (k : ∀ s held ec hc d w', RowC 2 s ((anR m).es.flatMap entT) ec → HdsO held (anR m).hs hc → St w0 (ec ++ (hc ++ (cs ++ (d ++ fr)))) w' → R ⟨0, (anR m).mark, (anR m).ok, s, (anR m).cnt⟩ held (anE m) w') : C_call_Task_Answer t w R := by
  cases m with
  | none => exact sp_no_Answer o st fun w' st' => k ⟨none, 0, 0⟩ ⟨none, 0, 0⟩ [] [] [] w' RowC.nil HdsO.nil st'
  | some m =>
    apply S_call_Task_Answer
    unfold F_call_Task_Answer
    intro b w1 hb hw
    have st1 : St w0 ((b, anT zAn) :: (cs ++ fr)) w1 := st.alloc hb hw
    have st1b : St w0 (cs ++ ((b, anT zAn) :: fr)) w1 := st1.perm (perm_of_sum fun f_ => by simp <;> omega)
    refine sp_tk_there o st1b ⟨fun h => (by cases h), fun _ => ?_⟩
    refine sp_tk_All o st1b fun w2 st2 => ?_
    have st2a : St w0 ((b, anT zAn) :: (cs ++ fr)) w2 := st2.perm (perm_of_sum fun f_ => by simp <;> omega)
    refine ⟨fun h => ?_, fun h => ?_⟩
    · have ha : ¬ allM (some m) = true := by simpa using h
      refine ⟨st2a.writable 0 rfl (by decide), fun w3 hw3 => ?_⟩
      have st3 : St w0 ((b, anT zAn) :: (cs ++ fr)) w3 := st2a.put0 hw3
      have e1 : anR (some m) = zAnR := by unfold anR; simp only; rw [if_neg ha]
      have e2 : anE (some m) = 6 := by unfold anE; simp only; rw [if_neg ha]
      rw [e1, e2] at k
      exact ⟨zAn, (st3.get 0 rfl).all, k ⟨none, 0, 0⟩ ⟨none, 0, 0⟩ [] [] [(b, anT zAn)] w3 RowC.nil HdsO.nil (st3.perm (perm_of_sum fun f_ => by simp <;> omega))⟩
    have ha : allM (some m) = true := by simpa using h
    have e1 : anR (some m) = ⟨m.mark, (ansM m).ok, (ansM m).es, (ansM m).cnt, OH.insAll [] (ansM m).hs⟩ := by unfold anR; simp only; rw [if_pos ha]
    have e2 : anE (some m) = 0 := by unfold anE; simp only; rw [if_pos ha]
    rw [e1, e2] at k
    simp only at k
    obtain ⟨bt, rfl, rs, ps, rc, pc, ok, rfl, hr, hp⟩ := o
    obtain ⟨tkv, htkv⟩ : ∃ tkv, tkv = tkV m.number m.cfg m.call m.begun m.mark rs (m.out : Int) ps := ⟨_, rfl⟩
    have hrl := hp.len
    obtain ⟨sls, tp, pb, rfl, row, parts⟩ := hp
    rw [← htkv] at st2a k
    have c9 : tkv[9]? = some (iV m.mark) := by rw [htkv]; rfl
    have c5 : tkv[5]? = some (Value.int .u8 m.call.Kind) := by rw [htkv]; rfl
    have c12 : tkv[12]? = some (slV ps) := by rw [htkv]; rfl
    clear htkv
    refine ⟨rfl, m.mark, st2a.cell 1 rfl c9, fun b1 w6 hb1 hw6 => ?_⟩
    have st6 := st2a.alloc (cs := anT zAn) hb1 hw6
    refine ⟨st6.writable 0 rfl (by decide), fun w7 hw7 => ?_⟩
    have st7 : St w0 ((b1, anT ⟨0, m.mark, true, ⟨none, 0, 0⟩, 0⟩) :: (b, anT zAn) :: (((bt, tkv) :: (rc ++ (tp ++ pb))) ++ fr)) w7 := st6.put0 hw7
    refine ⟨rfl, ps, st7.cell 2 rfl c12, ?_⟩
    obtain ⟨G, hG⟩ : ∃ G, G = (b, anT zAn) :: (((bt, tkv) :: (rc ++ (tp ++ pb))) ++ fr) := ⟨_, rfl⟩
    have hin : RepsIn w0 G ps m.reps sls := repsIn (g := (b, anT zAn) :: (bt, tkv) :: (rc ++ fr)) row parts (by rw [hG]; exact (perm_of_sum fun f_ => by simp <;> omega))
    have hkc : ∀ l w', St w0 (l ++ G) w' → w'.cell? ⟨bt, 5, none⟩ = some (Value.int .u8 m.call.Kind) := fun l w' st' => by
      rw [hG] at st'
      have st' : St w0 ((bt, tkv) :: (l ++ ((b, anT zAn) :: (rc ++ (tp ++ (pb ++ fr)))))) w' := st'.perm (perm_of_sum fun f_ => by simp <;> omega)
      exact st'.cell 0 rfl c5
    have hb0 : G = (b, anT zAn) :: (((bt, tkv) :: (rc ++ (tp ++ pb))) ++ fr) := hG
    rw [← hG] at st7
    refine ⟨fun held i w' => ∃ p : Nat, i = (p : Int) ∧ p ≤ m.reps.length ∧ AnSt w0 m G b1 (ansAt m p) held w', fun _ i _ => m.reps.length - i.toNat,
      ⟨0, rfl, by omega, ⟨none, 0, 0⟩, [], [], [], [], [], by rw [ansAt_zero]; exact RowC.nil, by rw [ansAt_zero]; exact RowC.nil, by rw [ansAt_zero]; rfl, by rw [ansAt_zero]; exact st7⟩, ?_⟩
    clear st st1 st1b st2 st2a st6 st7
    rintro held i w8 ⟨p, rfl, hp, hst⟩
    by_cases hlt : p < m.reps.length
    · exact sp_ans_round ok hlt hin hkc hst (fun held' w' h' => ⟨⟨p + 1, rfl, by omega, h'⟩, by show _ - _ < _ - _; omega⟩) (decide_eq_true (by omega)) fun h => absurd (of_decide_eq_false h) (by omega)
    obtain rfl : p = m.reps.length := by omega
    have hlen := ansAt_len ok hp
    have hr16 := ok.few
    have hrm := ok.reps
    unfold F_call_Task_Answer_L0
    refine ⟨fun h => absurd (of_decide_eq_true h) (by omega), fun _ => ?_⟩
    obtain ⟨s, vsl, ec, tb, vb, d, rs2, rh, pv, st⟩ := hst
    have st : St w0 ((b1, anT ⟨0, m.mark, (ansM m).ok, s, (ansM m).cnt⟩) :: (ec ++ (tb ++ (vb ++ (d ++ G))))) w8 := st
    have stt : St w0 (tb ++ ((b1, anT ⟨0, m.mark, (ansM m).ok, s, (ansM m).cnt⟩) :: (ec ++ (vb ++ (d ++ G))))) w8 := st.perm (perm_of_sum fun f_ => by simp <;> omega)
    rw [zip_hT] at rh
    have hzl : (((ansAt m m.reps.length).hs.zip vsl).map hdH).length ≤ 288230376151711744 := by
      rw [List.length_map, List.length_zip]; omega
    refine sp_sortH rh stt hzl fun tb' w27 r27 st27 => ?_
    obtain ⟨vsl', vb', pv', hperm, he⟩ := hds_sort pv
    rw [he, ← zip_hT] at r27
    rw [hb0] at st27
    have st27 : St w0 ((b1, anT ⟨0, m.mark, (ansM m).ok, s, (ansM m).cnt⟩) :: (b, anT zAn) :: (tb' ++ (ec ++ (vb ++ (d ++ (((bt, tkv) :: (rc ++ (tp ++ pb))) ++ fr)))))) w27 := st27.perm (perm_of_sum fun f_ => by simp <;> omega)
    refine ⟨⟨0, m.mark, (ansM m).ok, s, (ansM m).cnt⟩, (st27.get 0 rfl).all, st27.writable 1 rfl (by decide), fun w28 hw28 => ?_⟩
    have st28 : St w0 ((b1, anT ⟨0, m.mark, (ansM m).ok, s, (ansM m).cnt⟩) :: (b, anT ⟨0, m.mark, (ansM m).ok, s, (ansM m).cnt⟩) :: (tb' ++ (ec ++ (vb ++ (d ++ (((bt, tkv) :: (rc ++ (tp ++ pb))) ++ fr)))))) w28 := st27.put1 hw28
    refine ⟨⟨0, m.mark, (ansM m).ok, s, (ansM m).cnt⟩, (st28.get 1 rfl).all, ?_⟩
    have st28 : St w0 (vb ++ ((b1, anT ⟨0, m.mark, (ansM m).ok, s, (ansM m).cnt⟩) :: (b, anT ⟨0, m.mark, (ansM m).ok, s, (ansM m).cnt⟩) :: (tb' ++ (ec ++ (d ++ (((bt, tkv) :: (rc ++ (tp ++ pb))) ++ fr)))))) w28 := st28.perm (perm_of_sum fun f_ => by simp <;> omega)
    have st28 := st28.perm (hperm.append_right _)
    exact k s held ec (tb' ++ vb') ((b1, anT ⟨0, m.mark, (ansM m).ok, s, (ansM m).cnt⟩) :: (b, anT ⟨0, m.mark, (ansM m).ok, s, (ansM m).cnt⟩) :: d) w28 rs2 ⟨vsl', tb', vb', rfl, r27, pv'⟩ (st28.perm (perm_of_sum fun f_ => by simp <;> omega))
end
end Go.Proofs.YtpedclhflmhakaaGreatDoor

namespace Go.Proofs.YtpedclhflmhakaaGreatDoor
open Go
set_option linter.unusedVariables false
set_option linter.unusedSimpArgs false

section
variable {w0 : Base} {w : World} {fr cs : List Chunk} {t : Option Addr} {m : Option TkM} {es : List T_api_Entry} {os : List HO}
theorem anR_len {m : TkM} (ok : m.Ok) : (anR (some m)).es.length ≤ 16777216 ∧ (anR (some m)).hs.length ≤ 16777216 ∧ ∀ h ∈ (anR (some m)).hs, h.2.length ≤ 1048576 := by
  have h := ansAt_len ok (Nat.le_refl _)
  have h1 := ok.few
  have h2 := ok.reps
  unfold anR
  simp only
  split
  · refine ⟨by show (ansAt m m.reps.length).es.length ≤ _; omega, ?_, fun x hx => ?_⟩
    · show (OH.insAll [] (ansAt m m.reps.length).hs).length ≤ _
      rw [Ord.insAll_len, List.length_nil]; omega
    · have hx : x ∈ OH.insAll [] (ansAt m m.reps.length).hs := hx
      have hpm := Ord.insAll_perm (O := OH) (ansAt m m.reps.length).hs []
      rw [List.nil_append] at hpm
      exact h.2.2 x (hpm.mem_iff.1 hx)
  · exact ⟨Nat.zero_le _, Nat.zero_le _, fun h hh => (by cases hh)⟩
theorem next_bey {cs : List Chunk} (o : TkO t m cs) : (nextM m).2.1.bey.length ≤ 65536 := by
  cases m with
  | none => exact Nat.zero_le _
  | some m =>
    obtain ⟨b, _, rs, ps, rc, pc, ok, _⟩ := o
    unfold nextM
    simp only
    cases hq : m.rest with
    | nil => exact Nat.zero_le _
    | cons q r => exact ok.bey q (by rw [hq]; exact List.mem_cons_self ..)
theorem ans_small {cs : List Chunk} (o : TkO t m cs) : (anR m).es.length ≤ 16777216 ∧ (anR m).hs.length ≤ 16777216 ∧ ∀ h ∈ (anR m).hs, h.2.length ≤ 1048576 := by
  cases m with
  | none => exact ⟨Nat.zero_le _, Nat.zero_le _, fun h hh => (by cases hh)⟩
  | some m =>
    obtain ⟨b, _, rs, ps, rc, pc, ok, _⟩ := o
    exact anR_len ok
theorem sp_tk_GotTw {a : T_api_Resp} {R : Int → World → Prop} (o : TkO t m cs) (st : St w0 (cs ++ fr) w) (ha : RspAt w0.w a es os) (hsm : (rpOf a es os).Small)
    (k : ∀ cs' d w', TkO t (gotM m a.To (rpOf a es os)).2 cs' → St w0 (cs' ++ (d ++ fr)) w' → R (gotM m a.To (rpOf a es os)).1 w') : C_towpathlaw01_TwinResp a w (fun r w1 => C_call_Task_Got t r w1 R) := by
  refine sp_TwinResp st ha fun te th ts rb tb vb w2 oe oh ps st2 => ?_
  have hel := (oe.at_ st2).len
  have hhl := (oh.at_ (st2.perm (l' := tb ++ (rb ++ (vb ++ (cs ++ fr)))) (perm_of_sum fun f_ => by simp <;> omega))).len
  have hts := ps.len
  have hrl := rowH_len hts
  have hel2 := ha.elen
  have hhl2 := ha.hlen
  have hel3 := ha.ent.1
  have hhl3 := ha.hld.src.1
  rw [flatMap_len (sz := 2) (fun _ => rfl)] at hel3 hhl3
  -- the copy as the task takes it
  obtain ⟨os2, hos2⟩ : ∃ os2 : List HO, os2 = (os.zip ts).map fun p => (p.1.1, p.1.2.1, p.2) := ⟨_, rfl⟩
  have hrow2 : (rowH os ts).flatMap hldT = os2.flatMap hoT := by
    rw [hos2, List.flatMap_map, List.flatMap_map]
  have hd2 : hdOf os2 = hdOf os := by
    rw [hos2]
    have hz : ∀ (os : List HO) (ts : List Slc), ts.length = os.length → (os.zip ts).map (fun p => ((p.1.1, p.1.2.1) : Hd)) = os.map fun o => (o.1, o.2.1) := by
      intro os
      induction os with
      | nil => intro ts _; rfl
      | cons o os ih => intro ts h; cases ts with
        | nil => simp at h
        | cons s ts => rw [List.zip_cons_cons, List.map_cons, List.map_cons, ih ts (by simpa using h)]
    show ((os.zip ts).map fun p => ((p.1.1, p.1.2.1, p.2) : HO)).map (fun o : HO => ((o.1, o.2.1) : Hd)) = os.map fun o => (o.1, o.2.1)
    rw [List.map_map]
    exact hz os ts hts
  have hsm2 : (rpOf ⟨a.To, a.OK, te, th, a.Count⟩ es os2).Small := ⟨hsm.ents, by show (hdOf os2).length ≤ _; rw [hd2]; exact hsm.held, fun h hh => hsm.vers h (by have hh : h ∈ hdOf os2 := hh; rw [hd2] at hh; exact hh)⟩
  have heq : rpOf ⟨a.To, a.OK, te, th, a.Count⟩ es os2 = rpOf a es os := by show Rp.mk _ _ (hdOf os2) _ = _; rw [hd2]
  have hrsp : ∀ l w', St w0 (l ++ (rb ++ (tb ++ (vb ++ fr)))) w' → RspAt w' ⟨a.To, a.OK, te, th, a.Count⟩ es os2 := by
    intro l w' st'
    have sa : St w0 (rb ++ (tb ++ (vb ++ (l ++ fr)))) w' := st'.perm (perm_of_sum fun f_ => by simp <;> omega)
    have sb : St w0 (tb ++ (rb ++ (vb ++ (l ++ fr)))) w' := st'.perm (perm_of_sum fun f_ => by simp <;> omega)
    refine ⟨(TwG.row (f := entT) (fun _ => rfl) oe).src sa, by show te.len * 32 ≤ _; omega, ⟨by rw [← hrow2]; exact (TwG.row (f := hldT) (fun _ => rfl) oh).src sb, fun o ho => ?_⟩, by show th.len * 40 ≤ _; omega⟩
    rw [hos2] at ho
    obtain ⟨q, hq, rfl⟩ := List.mem_map.1 ho
    obtain ⟨i, hi⟩ := List.mem_iff_getElem?.1 hq
    obtain ⟨hi1, hi2⟩ := List.getElem?_zip_eq_some.1 hi
    obtain ⟨x, c, y, rfl, hin⟩ := ps.at_ hi1 hi2
    have hin : TwG 3 verT spV q.2 q.1.2.1 c := hin
    have rv := TwG.row (f := verT) (fun _ => rfl) hin
    have sv : St w0 (c ++ (x ++ (y ++ (rb ++ (tb ++ (l ++ fr)))))) w' := st'.perm (perm_of_sum fun f_ => by simp <;> omega)
    refine ⟨rv.src sv, ?_⟩
    have hl1 := rv.len
    rw [flatMap_len (sz := 3) (fun _ => rfl)] at hl1
    have hl2 : q.1.2.1.length ≤ 1048576 := hsm.vers (q.1.1, q.1.2.1) (List.mem_map.2 ⟨q.1, List.mem_of_getElem? hi1, rfl⟩)
    show q.2.len * 32 ≤ _
    omega
  have st4 : St w0 (cs ++ (rb ++ (tb ++ (vb ++ fr)))) w2 := st2.perm (perm_of_sum fun f_ => by simp <;> omega)
  refine sp_tk_Got o st4 hrsp hsm2 fun cs' d1 w5 o5 st5 => ?_
  rw [heq] at o5 ⊢
  exact k cs' (d1 ++ (rb ++ (tb ++ vb))) w5 o5 (st5.perm (perm_of_sum fun f_ => by simp <;> omega))
end
end Go.Proofs.YtpedclhflmhakaaGreatDoor

namespace Go.Proofs.YtpedclhflmhakaaGreatDoor
open Go
set_option linter.unusedVariables false
set_option linter.unusedSimpArgs false

section
variable {w : World}
theorem held_listU : ∀ {hs : List T_api_Held}, (∀ x ∈ hs, Ok_T_api_Held w x) → ∃ os : List HO, os.length = hs.length ∧ (os.flatMap hoT = hs.flatMap fun x => hldT (x.Key, x.Versions)) ∧ ∀ o ∈ os, SrcAt w o.2.2 3 (o.2.1.flatMap verT) ∧ o.2.2.len * 32 ≤ 140737488351232 ∧ o.2.1.length ≤ 1048576
  | [], _ => ⟨[], rfl, rfl, fun o h => (by cases h)⟩
  | x :: hs, h => by
    obtain ⟨os, h0, h1, h2⟩ := held_listU (hs := hs) fun y hy => h y (List.mem_cons_of_mem _ hy)
    obtain ⟨hx1, hx2⟩ := (h x (List.mem_cons_self ..)).2
    obtain ⟨vs, g1, g2, g3, g4, g5⟩ := ok_list (f := verT) (Pr := Ok_T_api_Version w) hx1 (fun es ⟨e, he, hb⟩ => ⟨e, he, hb⟩) (fun _ => rfl) (by decide)
    refine ⟨(x.Key, vs, x.Versions) :: os, by rw [List.length_cons, List.length_cons, h0], by rw [List.flatMap_cons, List.flatMap_cons, h1], fun o ho => ?_⟩
    rcases List.mem_cons.1 ho with rfl | ho
    · exact ⟨g1, by show x.Versions.len * 32 ≤ _; omega, by show vs.length ≤ _; omega⟩
    · exact h2 o ho
theorem ask_inU {a : T_towpathlaw17_Ask} (h : Ok_T_towpathlaw17_Ask w a) : ∃ xs es os, AskIn w a xs es os ∧ (rpOf a.Resp es os).Small := by
  obtain ⟨_, _, _, hb, _, _, he, hh, _⟩ := h
  obtain ⟨xs, b1, b2, b3, b4, b5⟩ := ok_list (f := fun x : Int => [iV x]) (Pr := fun e_ : Int => -9223372036854775808 ≤ e_ ∧ e_ ≤ 9223372036854775807) hb.1 (fun es ⟨e, he, hb⟩ => ⟨e, he, hb⟩) (fun _ => rfl) (by decide)
  obtain ⟨es, e1, e2, e3, e4, e5⟩ := ok_list (f := entT) (Pr := Ok_T_api_Entry w) he.1 (fun es ⟨e, he, hb⟩ => ⟨e, he, hb⟩) (fun _ => rfl) (by decide)
  obtain ⟨hs, h1, h2, h3, h4, h5⟩ := ok_list (f := fun x : T_api_Held => hldT (x.Key, x.Versions)) (Pr := Ok_T_api_Held w) hh.1 (fun es ⟨e, he, hb⟩ => ⟨e, he, hb⟩) (fun _ => rfl) (by decide)
  obtain ⟨os, g0, g1, g2⟩ := held_listU h5
  have c1 := he.2
  have c2 := hh.2
  refine ⟨xs, es, os, ⟨by rw [map_iV]; exact b1, by omega, ⟨e1, by omega, ⟨by rw [g1]; exact h1, fun o ho => ⟨(g2 o ho).1, (g2 o ho).2.1⟩⟩, by omega⟩⟩, ?_, ?_, fun x hx => ?_⟩
  · show es.length ≤ _; omega
  · show (hdOf os).length ≤ _; rw [List.length_map]; omega
  · obtain ⟨o, ho, rfl⟩ := List.mem_map.1 hx
    exact (g2 o ho).2.2
end
end Go.Proofs.YtpedclhflmhakaaGreatDoor

namespace Go.Proofs.YtpedclhflmhakaaGreatDoor
open Go
set_option linter.unusedVariables false
set_option linter.unusedSimpArgs false

structure Item where
  l : Slc
  long : Slc
  n : Int
  cs : List Chunk
def itemCells (it : Item) : List Value := [slV it.l, slV it.long, iV it.n]
def itsC (its : List Item) : List Chunk := its.flatMap Item.cs
theorem itemCells_len (it : Item) : (itemCells it).length = 3 := rfl
/-- An item's own memory to the front. -/
theorem St.item {w0 : Base} {w : World} {X d c r l : List Chunk} : St w0 (X ++ ((d ++ (c ++ r)) ++ l)) w ↔ St w0 (c ++ (X ++ ((d ++ r) ++ l))) w := by
  have p : (X ++ ((d ++ (c ++ r)) ++ l)).Perm (c ++ (X ++ ((d ++ r) ++ l))) := by
    have h1 : (d ++ (c ++ r)) ++ l = d ++ (c ++ (r ++ l)) := by simp
    have h2 : (d ++ r) ++ l = d ++ (r ++ l) := by simp
    rw [h1, h2]
    refine (List.Perm.append_left X (List.perm_append_comm_assoc d c (r ++ l))).trans ?_
    exact List.perm_append_comm_assoc X c (d ++ (r ++ l))
  exact ⟨fun h => h.perm p, fun h => h.perm p.symm⟩
theorem itsC_mid (d : List Item) (it : Item) (r : List Item) : itsC (d ++ it :: r) = itsC d ++ (it.cs ++ itsC r) := by unfold itsC; rw [List.flatMap_append, List.flatMap_cons]
/-- A cell of one's own slice of things of some cells is written. -/
theorem RowC.setN {sz : Nat} {s : Slc} {xs : List Value} {bs l : List Chunk} {w0 : Base} {w : World} {i : Nat} {v : Value} (h : RowC sz s xs bs) (st : St w0 (bs ++ l) w) (hi : i < s.len * sz) :
    IsAt s.ptr ∧ Writable w (pblk s.ptr) (poff s.ptr + i) 1 ∧ ∀ w', w' = World.puts (pblk s.ptr) (poff s.ptr + i) [v] w → ∃ bs', RowC sz s (xs.set i v) bs' ∧ St w0 (bs' ++ l) w' := by
  rcases h with ⟨hp, hl, hcz, rfl, rfl⟩ | ⟨b, pre, rest, suf, hp, rfl, hx, hr, hle⟩
  · rw [hl, Nat.zero_mul] at hi; omega
  · rw [hp]
    refine ⟨rfl, st.writable 0 rfl (by show pre.length + i + 1 ≤ _; simp; omega), fun w' hw => ?_⟩
    have hn := st.put0 hw
    refine ⟨[(b, pre ++ (xs.set i v ++ (rest ++ suf)))], .inr ⟨b, pre, rest, suf, hp, rfl, by rw [List.length_set]; exact hx, by rw [List.length_set]; exact hr, hle⟩, ?_⟩
    have e : putL (poff (some ⟨b, pre.length, none⟩ : Option Addr) + i) [v] (pre ++ (xs ++ (rest ++ suf))) = pre ++ (xs.set i v ++ (rest ++ suf)) := by
      rw [putL_one]
      show (pre ++ (xs ++ (rest ++ suf))).set (pre.length + i) v = _
      rw [List.set_append_right _ _ (by omega), show pre.length + i - pre.length = i from by omega, List.set_append_left _ _ (by omega)]
    rw [e] at hn
    exact hn
/-- Appending: the old row stays where it was, or is the beginning of the new one. -/
theorem RowC.appendK {by_ k : Nat} {e : TypeId} {sz : Nat} {s : Slc} {xs : List Value} {bs l : List Chunk} {w0 : Base} {w : World} {zs src : List Value} {K : Slc → World → Prop} (h : RowC sz s xs bs) (st : St w0 (bs ++ l) w)
    (hk : src.length = k * sz) (hk0 : 0 < k) (h1 : oneCells src = true) (hz : zs.length = sz) (hcap : (s.len + k) * by_ ≤ 140737488355328)
    (hK : ∀ s' bs' l' w', RowC sz s' (xs ++ src) bs' → St w0 (bs' ++ (l' ++ l)) w' → s'.len = s.len + k → ((s'.ptr = s.ptr ∧ l' = []) ∨ l' = bs) → K s' w') : AppendW sz by_ e zs s src k w K := by
  refine ⟨fun hc => ?_, fun hc => ⟨growslice_fits hc hcap, xs, h.src st, fun cap b w' hcl _ hb hw => ?_⟩⟩
  · rcases h with ⟨hp, hl, hcz, rfl, rfl⟩ | ⟨b, pre, rest, suf, hp, rfl, hx, hr, hle⟩
    · omega
    · have hroom : src.length ≤ rest.length := by
        have : (s.len + k) * sz ≤ s.cap * sz := Nat.mul_le_mul_right _ hc
        rw [Nat.add_mul] at this
        omega
      have hlen : poff s.ptr + s.len * sz = (pre ++ xs).length := by rw [hp]; show pre.length + s.len * sz = _; simp; omega
      have hpb : pblk s.ptr = b := by rw [hp]; rfl
      refine .inr ⟨by rw [hp]; rfl, ?_, h1, fun w' hw => ?_⟩
      · rw [hlen, hpb]
        exact st.writable 0 rfl (by simp; omega)
      · rw [hlen, hpb] at hw
        have hn := st.put0 hw
        have e1 : pre ++ (xs ++ (rest ++ suf)) = (pre ++ xs) ++ rest.take src.length ++ (rest.drop src.length ++ suf) := by
          conv => lhs; rw [← List.take_append_drop src.length rest]
          simp only [List.append_assoc]
        rw [e1, putL_append _ _ _ _ (by simp; omega)] at hn
        refine hK _ [(b, pre ++ ((xs ++ src) ++ (rest.drop src.length ++ suf)))] [] _ (.inr ⟨b, pre, rest.drop src.length, suf, hp, rfl, ?_, ?_, hc⟩) ?_ rfl (.inl ⟨rfl, rfl⟩)
        · simp [hx, hk, Nat.add_mul]
        · simp; omega
        · have e2 : pre ++ ((xs ++ src) ++ (rest.drop src.length ++ suf)) = (pre ++ xs) ++ src ++ (rest.drop src.length ++ suf) := by simp only [List.append_assoc]
          rw [e2]; exact hn
  · have hE : Ext w w.drew := Qt.ext ⟨1, rfl⟩
    have hbs : b = w.drew.heap.size := hb
    have st' := (st.keep hE).alloc hbs hw
    refine hK _ [(b, xs ++ src ++ (repCells (cap - (s.len + k)) zs).toList)] bs _ (.inr ⟨b, [], (repCells (cap - (s.len + k)) zs).toList, [], rfl, by simp, ?_, ?_, hcl⟩) st' rfl (.inr rfl)
    · simp only [List.length_append, hk, h.len, Nat.add_mul]
    · simp only [List.length_append, hk, h.len, repCells]
      simp only [List.length_flatten, List.map_replicate, hz, List.sum_replicate_nat]
      rw [← Nat.add_mul, ← Nat.add_mul]
      congr 1
      show s.len + k + (cap - (s.len + k)) = cap
      omega
theorem tab_set {d r : List Item} {it : Item} {i : Nat} {long : Slc} {cs : List Chunk} (hd : d.length = i) :
    ((d ++ it :: r).flatMap itemCells).set (i * 3 + 1) (slV long) = (d ++ ⟨it.l, long, it.n, cs⟩ :: r).flatMap itemCells := by
  have hl : (d.flatMap itemCells).length = i * 3 := by rw [flatMap_len itemCells_len, hd]
  rw [List.flatMap_append, List.flatMap_cons, List.flatMap_append, List.flatMap_cons, List.set_append_right _ _ (by omega), hl, show i * 3 + 1 - i * 3 = 1 from by omega]
  rfl
theorem tab_at {d r : List Item} {it : Item} {i : Nat} {w0 : Base} {w : World} {t : Slc} {tb l : List Chunk} (ro : RowC 3 t ((d ++ it :: r).flatMap itemCells) tb) (st : St w0 (tb ++ l) w) (hd : d.length = i) :
    IsAt t.ptr ∧ CellsAt w (pblk t.ptr) (poff t.ptr + i * 3) (itemCells it) := by
  have hl := ro.len
  rw [flatMap_len itemCells_len, List.length_append, List.length_cons] at hl
  obtain ⟨a, x, hx, hc⟩ := SrcAt.getN (ro.src st) itemCells_len (by omega) (i := (i : Int)) (by omega) (by omega)
  rw [Int.toNat_natCast] at hx hc
  rw [← hd, List.getElem?_append_right (Nat.le_refl _), Nat.sub_self, List.getElem?_cons_zero] at hx
  cases hx
  exact ⟨a, hc⟩


/-- Cells of one's own row are written. -/
theorem RowC.putN {sz : Nat} {s : Slc} {xs vs : List Value} {bs l : List Chunk} {w0 : Base} {w : World} {i : Nat} (h : RowC sz s xs bs) (st : St w0 (bs ++ l) w) (hv : 0 < vs.length) (hi : i + vs.length ≤ s.len * sz) :
    IsAt s.ptr ∧ Writable w (pblk s.ptr) (poff s.ptr + i) vs.length ∧ ∀ w', w' = World.puts (pblk s.ptr) (poff s.ptr + i) vs w → ∃ bs', RowC sz s (xs.take i ++ vs ++ xs.drop (i + vs.length)) bs' ∧ St w0 (bs' ++ l) w' := by
  rcases h with ⟨hp, hl, hcz, rfl, rfl⟩ | ⟨b, pre, rest, suf, hp, rfl, hx, hr, hle⟩
  · rw [hl, Nat.zero_mul] at hi; omega
  · rw [hp]
    refine ⟨rfl, st.writable 0 rfl (by show pre.length + i + vs.length ≤ _; simp; omega), fun w' hw => ?_⟩
    have hn := st.put0 hw
    have e0 : xs = xs.take i ++ ((xs.drop i).take vs.length ++ xs.drop (i + vs.length)) := by
      conv => lhs; rw [← List.take_append_drop i xs, ← List.take_append_drop vs.length (xs.drop i), List.drop_drop]
    have e1 : pre ++ (xs ++ (rest ++ suf)) = (pre ++ xs.take i) ++ (xs.drop i).take vs.length ++ (xs.drop (i + vs.length) ++ (rest ++ suf)) := by
      conv => lhs; rw [e0]
      simp only [List.append_assoc]
    have e2 : poff (some ⟨b, pre.length, none⟩ : Option Addr) + i = (pre ++ xs.take i).length := by
      show pre.length + i = _
      rw [List.length_append, List.length_take]; omega
    rw [e1, e2, putL_append _ _ _ _ (by rw [List.length_take, List.length_drop]; omega)] at hn
    refine ⟨[(b, pre ++ ((xs.take i ++ vs ++ xs.drop (i + vs.length)) ++ (rest ++ suf)))], .inr ⟨b, pre, rest, suf, hp, rfl, ?_, ?_, hle⟩, ?_⟩
    · simp only [List.length_append, List.length_take, List.length_drop]; omega
    · simp only [List.length_append, List.length_take, List.length_drop]; omega
    · have e3 : pre ++ ((xs.take i ++ vs ++ xs.drop (i + vs.length)) ++ (rest ++ suf)) = (pre ++ xs.take i) ++ vs ++ (xs.drop (i + vs.length) ++ (rest ++ suf)) := by simp only [List.append_assoc]
      rw [e3]; exact hn
theorem RowC.trimB {sz : Nat} {s : Slc} {ps ds : List Value} {bs : List Chunk} (h : RowC sz s (ps ++ ds) bs) (hp : ps.length = s.len * sz) : RowC sz s ps bs := by
  have hl := h.len
  rw [List.length_append] at hl
  have : ds = [] := List.eq_nil_of_length_eq_zero (by omega)
  rw [this, List.append_nil] at h
  exact h
theorem rep_len {α : Type} {f : α → List Value} {sz : Nat} (hf : ∀ x, (f x).length = sz) (k : Nat) (x : α) : ((List.replicate k x).flatMap f).length = k * sz := by rw [flatMap_len hf, List.length_replicate]
theorem rep_succ {α : Type} {f : α → List Value} (k : Nat) (x : α) : (List.replicate k x).flatMap f ++ f x = (List.replicate (k + 1) x).flatMap f := by rw [List.replicate_succ', List.flatMap_append, List.flatMap_cons, List.flatMap_nil, List.append_nil]
theorem rep_src {α : Type} {f : α → List Value} {sz p k : Nat} {x : α} {s t : Slc} {w : World} (hf : ∀ x, (f x).length = sz) (h : SrcAt w s sz ((List.replicate p x).flatMap f)) (hp : s.ptr = t.ptr) (hk : t.len = k) (hkp : k ≤ p) (hl : s.len = p) : SrcAt w t sz ((List.replicate k x).flatMap f) := by
  obtain ⟨_, hs2⟩ := h.pre (k := k) (by omega)
  have e : ((List.replicate p x).flatMap f).take (k * sz) = (List.replicate k x).flatMap f := by
    rw [show p = k + (p - k) from by omega, ← List.replicate_append_replicate, List.flatMap_append, List.take_left' (rep_len hf k x)]
  rw [e] at hs2
  refine ⟨by rw [rep_len hf, hk], ?_⟩
  rcases hs2 with h0 | h0
  · exact .inl h0
  · refine .inr ?_
    have h0' : IsAt s.ptr ∧ CellsAt w (pblk s.ptr) (poff s.ptr) ((List.replicate k x).flatMap f) := h0
    rw [hp] at h0'; exact h0'
/-- A kind's lists: its table, and each list in the state Ph. -/
def KindO (t : Slc) (its : List Item) (Ph : Item → Prop) (cs : List Chunk) : Prop := ∃ tb, RowC 3 t (its.flatMap itemCells) tb ∧ cs = tb ++ itsC its ∧ ∀ it ∈ its, Ph it
/-- The state of a walk over the lists: those ahead of place i are done. -/
def KindI (t : Slc) (m i : Nat) (Ph Ph' : Item → Prop) (cs : List Chunk) : Prop :=
  ∃ d r tb, d.length = i ∧ d.length + r.length = m ∧ RowC 3 t ((d ++ r).flatMap itemCells) tb ∧ cs = tb ++ itsC (d ++ r) ∧ (∀ it ∈ d, Ph' it) ∧ ∀ it ∈ r, Ph it
section
variable {w0 : Base} {w : World} {l cs : List Chunk} {C : List Value} {b : Nat} {t : Slc} {its : List Item} {Ph Ph' : Item → Prop}
theorem kind_new : KindO ⟨none, 0, 0⟩ [] Ph [] := ⟨[], RowC.nil, rfl, fun it h => (by cases h)⟩
theorem KindI.start (o : KindO t its Ph cs) : KindI t its.length 0 Ph Ph' cs := by
  obtain ⟨tb, ro, rfl, h⟩ := o
  exact ⟨[], its, tb, rfl, by simp, ro, rfl, fun it hit => (by cases hit), h⟩
theorem KindI.done {m : Nat} (o : KindI t m m Ph Ph' cs) : ∃ its, its.length = m ∧ KindO t its Ph' cs := by
  obtain ⟨d, r, tb, h1, h2, ro, rfl, h3, h4⟩ := o
  have : r = [] := List.eq_nil_of_length_eq_zero (by omega)
  subst this
  rw [List.append_nil] at *
  exact ⟨d, h1, tb, ro, rfl, h3⟩
theorem KindI.len {m i : Nat} (o : KindI t m i Ph Ph' cs) : t.len = m := by
  obtain ⟨d, r, tb, _, h, ro, _, _⟩ := o
  have := ro.len
  rw [flatMap_len itemCells_len, List.length_append] at this
  omega
theorem KindO.len (o : KindO t its Ph cs) : t.len = its.length := (KindI.start (Ph' := Ph) o).len
/-- The list at place i: its row in the table, and the memory apart. -/
theorem KindI.at_ {m i : Nat} (o : KindI t m i Ph Ph' cs) (st : St w0 ((b, C) :: (cs ++ l)) w) (hi : i < m) : ∃ d it r tb, d.length = i ∧ d.length + (r.length + 1) = m ∧ RowC 3 t ((d ++ it :: r).flatMap itemCells) tb ∧ (∀ x ∈ d, Ph' x) ∧ Ph it ∧ (∀ x ∈ r, Ph x) ∧
    IsAt t.ptr ∧ CellsAt w (pblk t.ptr) (poff t.ptr + i * 3) (itemCells it) ∧ St w0 (it.cs ++ (((b, C) :: tb) ++ ((itsC d ++ itsC r) ++ l))) w := by
  obtain ⟨d, r, tb, h1, h2, ro, rfl, h3, h4⟩ := o
  cases r with
  | nil => simp at h2; omega
  | cons it r =>
    rw [List.length_cons] at h2
    have st : St w0 (((b, C) :: tb) ++ ((itsC d ++ (it.cs ++ itsC r)) ++ l)) w := by rw [itsC_mid] at st; simpa using st
    have stt : St w0 (tb ++ ((b, C) :: ((itsC d ++ (it.cs ++ itsC r)) ++ l))) w := St.mid st
    obtain ⟨a, c⟩ := tab_at ro stt h1
    exact ⟨d, it, r, tb, h1, h2, ro, h3, h4 it (List.mem_cons_self ..), fun x hx => h4 x (List.mem_cons_of_mem _ hx), a, c, St.item.1 st⟩
/-- .. and put together again, the list done. -/
theorem KindI.next {m i : Nat} {d r : List Item} {it : Item} {tb : List Chunk} (h1 : d.length = i) (h2 : d.length + (r.length + 1) = m) (ro : RowC 3 t ((d ++ it :: r).flatMap itemCells) tb) (h3 : ∀ x ∈ d, Ph' x) (h : Ph' it) (h4 : ∀ x ∈ r, Ph x)
    (st : St w0 (it.cs ++ (((b, C) :: tb) ++ ((itsC d ++ itsC r) ++ l))) w) : ∃ cs, KindI t m (i + 1) Ph Ph' cs ∧ St w0 ((b, C) :: (cs ++ l)) w := by
  have e : (d ++ [it]) ++ r = d ++ it :: r := by simp
  refine ⟨_, ⟨d ++ [it], r, tb, by simp [h1], by simp; omega, by rw [e]; exact ro, rfl, fun x hx => ?_, h4⟩, ?_⟩
  · rcases List.mem_append.1 hx with hx | hx
    · exact h3 x hx
    · rw [List.mem_singleton] at hx; rw [hx]; exact h
  · rw [e, itsC_mid]
    have := St.item.2 st
    simpa using this
end
end Go.Proofs.YtpedclhflmhakaaGreatDoor

namespace Go.Proofs.YtpedclhflmhakaaGreatDoor
open Go Go.Shelf
set_option linter.unusedVariables false
set_option linter.unusedSimpArgs false

theorem ba_reflB (a : ByteArray) : (a == a) = true := by
  cases a
  rename_i x
  show (x == x) = true
  simp
def OkN (n : Int) : Prop := 0 ≤ n ∧ n ≤ 9000000000
def Tab (w : World) : Prop := Lib.TabIs Tryz.prog w "internal/strconv.uint64pow10" .u64 Lib.pow10Tab
theorem Tab.ext {w w' : World} (h : Tab w) (e : Ext w w') : Tab w' := by
  unfold Tab Lib.TabIs World.var? at *
  cases hg : Tryz.prog.globalNamed "internal/strconv.uint64pow10" with
  | none => rw [hg] at h; cases h
  | some g =>
    rw [hg] at h
    simp only [Option.bind_some] at h ⊢
    have hlt : g < w.heap.size := by
      rcases Nat.lt_or_ge g w.heap.size with h1 | h1
      · exact h1
      · rw [Array.getElem?_eq_none h1] at h; cases h
    rw [e.block g hlt]; exact h
theorem tab_of_laid {W : World} {n1 n2 : String} {d1 d2 : DataW Unit} {rest : List (String × DataW Unit)} {g : Nat} {t e : TypeId} {n : Nat}
    (hg : Tryz.prog.globalNamed "internal/strconv.uint64pow10" = some g) (hty : (Tryz.prog.globals[g]?).map (·.type) = some t) (ht : Tryz.prog.underlying t = some (.array n e)) (he : Tryz.prog.underlying e = some (.int .u64)) (hce : Tryz.prog.cellsOf e = 1) (hct : Tryz.prog.cellsOf t = n)
    (h : laidMet Tryz.prog ((n1, d1) :: (n2, d2) :: ("internal/strconv.uint64pow10", Lib.tabData .u64 Lib.pow10Tab) :: rest) W) : Tab W := by
  obtain ⟨ps, ⟨_, _, _, _, _, _, _, _, _, _, ⟨_, _, _, _, _, _, _, _, _, _, ⟨g', t', cs, fuel, p, q, hg', ht', hvar, hd, _, _⟩, _⟩, _⟩, _⟩ := h
  obtain rfl := Option.some.inj (hg.symm.trans hg')
  obtain rfl := Option.some.inj (hty.symm.trans ht')
  unfold Tab Lib.TabIs
  rw [hvar, ← Lib.cells_of_tab ht he hce hct hd]

def Tryz.laysItoa_ren : Go.Shelf.Ren := ⟨fun | 171 => 136 | 243 => 141 | 246 => 144 | 283 => 146 | 284 => 147 | 285 => 148 | 286 => 149 | 129 => 151 | 317 => 150 | 318 => 152 | 319 => 153 | 320 => 154 | 337 => 155 | 338 => 156 | n => n, fun | 3 => 3 | 9 => 9 | 2 => 2 | 4 => 4 | 171 => 216 | 0 => 0 | 53 => 217 | 37 => 144 | 5 => 5 | 173 => 220 | 212 => 223 | 51 => 203 | 20 => 20 | 213 => 224 | 46 => 213 | 232 => 227 | 233 => 228 | n => n, fun | 17 => 1 | 18 => 2 | 19 => 3 | n => n⟩
theorem Tryz.laysItoa : Go.Proofs.LaysM.n171 Tryz.prog Tryz.laysItoa_ren := {
  mixed := by kernel_rfl
  f129 := Tryz.func151.trans (congrArg some (by kernel_rfl))
  f171 := Tryz.func136.trans (congrArg some (by kernel_rfl))
  f243 := Tryz.func141.trans (congrArg some (by kernel_rfl))
  f246 := Tryz.func144.trans (congrArg some (by kernel_rfl))
  f283 := Tryz.func146.trans (congrArg some (by kernel_rfl))
  f284 := Tryz.func147.trans (congrArg some (by kernel_rfl))
  f285 := Tryz.func148.trans (congrArg some (by kernel_rfl))
  f286 := Tryz.func149.trans (congrArg some (by kernel_rfl))
  f317 := Tryz.func150.trans (congrArg some (by kernel_rfl))
  f318 := Tryz.func152.trans (congrArg some (by kernel_rfl))
  f319 := Tryz.func153.trans (congrArg some (by kernel_rfl))
  f320 := Tryz.func154.trans (congrArg some (by kernel_rfl))
  f337 := Tryz.func155.trans (congrArg some (by kernel_rfl))
  f338 := Tryz.func156.trans (congrArg some (by kernel_rfl))
  t0 := Tryz.underlying0
  a0 := Tryz.isAgg0
  z0 := Tryz.sizeOf0
  v0 := Tryz.zeroValue0
  t2 := Tryz.underlying2
  a2 := Tryz.isAgg2
  z2 := Tryz.sizeOf2
  v2 := Tryz.zeroValue2
  t3 := Tryz.underlying3
  a3 := Tryz.isAgg3
  z3 := Tryz.sizeOf3
  v3 := Tryz.zeroValue3
  t4 := Tryz.underlying4
  a4 := Tryz.isAgg4
  z4 := Tryz.sizeOf4
  v4 := Tryz.zeroValue4
  t5 := Tryz.underlying5
  a5 := Tryz.isAgg5
  z5 := Tryz.sizeOf5
  v5 := Tryz.zeroValue5
  t9 := Tryz.underlying9
  a9 := Tryz.isAgg9
  z9 := Tryz.sizeOf9
  v9 := Tryz.zeroValue9
  t20 := Tryz.underlying20
  a20 := Tryz.isAgg20
  z20 := Tryz.sizeOf20
  v20 := Tryz.zeroValue20
  t37 := Tryz.underlying144
  a37 := Tryz.isAgg144
  z37 := Tryz.sizeOf144
  v37 := Tryz.zeroValue144
  t46 := Tryz.underlying213
  a46 := Tryz.isAgg213
  z46 := Tryz.sizeOf213
  v46 := Tryz.zeroValue213
  t51 := Tryz.underlying203
  a51 := Tryz.isAgg203
  z51 := Tryz.sizeOf203
  v51 := Tryz.zeroValue203
  t53 := Tryz.underlying217
  a53 := Tryz.isAgg217
  z53 := Tryz.sizeOf217
  v53 := Tryz.zeroValue217
  t171 := Tryz.underlying216
  a171 := Tryz.isAgg216
  z171 := Tryz.sizeOf216
  v171 := Tryz.zeroValue216
  t173 := Tryz.underlying220
  a173 := Tryz.isAgg220
  z173 := Tryz.sizeOf220
  v173 := Tryz.zeroValue220
  t212 := Tryz.underlying223
  a212 := Tryz.isAgg223
  z212 := Tryz.sizeOf223
  v212 := Tryz.zeroValue223
  t213 := Tryz.underlying224
  a213 := Tryz.isAgg224
  z213 := Tryz.sizeOf224
  t232 := Tryz.underlying227
  a232 := Tryz.isAgg227
  z232 := Tryz.sizeOf227
  v232 := Tryz.zeroValue227
  t233 := Tryz.underlying228
  a233 := Tryz.isAgg228
  z233 := Tryz.sizeOf228
  v233 := Tryz.zeroValue228
  g17 := by kernel_rfl
  g18 := by kernel_rfl
  g19 := by kernel_rfl
  i0 := by kernel_rfl
  i2 := by kernel_rfl
  i3 := by kernel_rfl
  i4 := by kernel_rfl
  i5 := by kernel_rfl
  i9 := by kernel_rfl
  i20 := by kernel_rfl
  i37 := by kernel_rfl
  i46 := by kernel_rfl
  i51 := by kernel_rfl
  i53 := by kernel_rfl
  i171 := by kernel_rfl
  i173 := by kernel_rfl
  i212 := by kernel_rfl
  i232 := by kernel_rfl
  i233 := by kernel_rfl
  m17 := by kernel_rfl
  m18 := by kernel_rfl
  m19 := by kernel_rfl }
def wordV (n : Int) : ByteArray := (ByteArray.mk #[35]) ++ ⟨(Lib.itoa n).toArray⟩
theorem sp_Itoa {n : Int} {w : World} {R : ByteArray → World → Prop} (hn : OkN n) (ht : Tab w) (k : ∀ w', Ext w w' → R ⟨(Lib.itoa n).toArray⟩ w') : C_strconv_Itoa n w R := by
  refine Calls.mono (Any.strconv_Itoa Tryz.laysItoa n (by have := hn.1; omega) (by have := hn.2; omega) w ht) ?_
  rintro e w' ⟨rfl, q, os, rfl⟩
  refine ⟨_, rfl, k _ ⟨rfl, rfl, rfl, ?_, fun j hj => ?_⟩⟩
  · show w.heap.size ≤ (w.heap ++ os).size
    rw [Array.size_append]; omega
  · show (w.heap ++ os)[j]? = w.heap[j]?
    exact Array.getElem?_append_left hj
theorem sp_word {n : Int} {w : World} {R : ByteArray → World → Prop} (hn : OkN n) (ht : Tab w) (k : ∀ w', Ext w w' → R (wordV n) w') : C_towpathlaw01_word n w R := by
  apply S_towpathlaw01_word
  unfold F_towpathlaw01_word
  refine sp_Itoa hn ht fun w' e => ⟨?_, k w' e⟩
  have h1 : (⟨(Lib.itoa n).toArray⟩ : ByteArray).size = (Lib.itoa n).length := by show (Lib.itoa n).toArray.size = _; simp
  have h2 := Lib.itoa_length_le n (by have := hn.1; omega) (by have := hn.2; omega)
  have h3 : (ByteArray.mk #[35]).size = 1 := rfl
  rw [h1, h3]
  omega
end Go.Proofs.YtpedclhflmhakaaGreatDoor

namespace Go.Proofs.YtpedclhflmhakaaGreatDoor
open Go
set_option linter.unusedVariables false
set_option linter.unusedSimpArgs false
abbrev cel_Int (x : Int) : List Value := [Value.int .i64 x]
abbrev markV_Int (n : Int) : Int := IntKind.i64.wrap ((-1000) - n)
theorem cel_Int_len (x : Int) : (cel_Int x).length = 1 := rfl

/-! ### Int -/
def Kept_Int (it : Item) : Prop := OkN it.n ∧ it.l.len ≤ 1099511627776 ∧ ∃ xs, RowC 1 it.l xs it.cs
def Filled_Int (it : Item) : Prop := OkN it.n ∧ it.l.len ≤ 1099511627776 ∧ RowC 1 it.l ((List.replicate it.l.len (markV_Int it.n)).flatMap cel_Int) it.cs
def Grown_Int (k : Nat) (it : Item) (long : Slc) : Prop :=
  OkN it.n ∧ it.l.len ≤ 1099511627776 ∧ long.len = it.l.len + k ∧ ∃ c1 c2, it.cs = c1 ++ c2 ∧ RowC 1 long ((List.replicate (it.l.len + k) (markV_Int it.n)).flatMap cel_Int) c1 ∧
    (long.ptr = it.l.ptr ∨ ∀ w0 l w, St w0 (c2 ++ l) w → SrcAt w it.l 1 ((List.replicate it.l.len (markV_Int it.n)).flatMap cel_Int))
def Long_Int (it : Item) : Prop := Grown_Int 70 it it.long
section
variable {w0 : Base} {w : World} {l cs : List Chunk} {C : List Value} {b : Nat} {n : Int} {t : Slc} {its : List Item}

theorem sp_mark_Int {R : Int → World → Prop} (hn : OkN n) (ht : Tab w) (k : ∀ w', Ext w w' → R (markV_Int n) w') : C_towpathlaw01_markInt n w R := by
  apply S_towpathlaw01_markInt
  unfold F_towpathlaw01_markInt
  exact k w (Ext.refl _)
theorem sp_is_Int (hn : OkN n) (ht : Tab w) : C_towpathlaw01_isInt (markV_Int n) n w (fun (v44' : Bool) w'' => v44' = true ∧ Ext w w'') := by
  apply S_towpathlaw01_isInt
  unfold F_towpathlaw01_isInt
  exact ⟨beq_self_eq_true _, Ext.refl _⟩

theorem sp_keep_Int {s : Slc} {xs : List Value} {sc : List Chunk} {R : World → Prop} (o : KindO t its Kept_Int cs) (r : RowC 1 s xs sc) (st : St w0 ((b, C) :: (cs ++ (sc ++ l))) w) (hC0 : C[0]? = some (iV n)) (hCt : C[2]? = some (slV t))
    (hn : 0 ≤ n ∧ n ≤ 2000000000) (hl : its.length ≤ 2000000000) (hs : s.len ≤ 1099511627776) (k : ∀ t' its' cs' w', KindO t' its' Kept_Int cs' → its'.length = its.length + 1 → St w0 ((b, (C.set 0 (iV (n + 1))).set 2 (slV t')) :: (cs' ++ l)) w' → R w') : C_towpathlaw01_Book_keepInt (some ⟨b, 0, none⟩) s w R := by
  apply S_towpathlaw01_Book_keepInt
  unfold F_towpathlaw01_Book_keepInt
  have htl := o.len
  obtain ⟨tb, ro, rfl, hph⟩ := o
  have wn : IntKind.i64.wrap (n + 1) = n + 1 := i64_in _ (by omega) (by omega)
  have hCl : 2 < C.length := (List.getElem?_eq_some_iff.1 hCt).1
  refine ⟨rfl, n, st.cell 0 rfl hC0, st.writable 0 rfl (by show 0 + 1 ≤ _; omega), fun w1 hw1 w2 e2 => ?_⟩
  rw [wn] at hw1
  have st := (st.put0 hw1).drew e2
  have e0 : putL (poff (some ⟨b, 0, none⟩ : Option Addr)) [iV (n + 1)] C = C.set 0 (iV (n + 1)) := putL_one ..
  rw [e0] at st
  have hCt' : (C.set 0 (iV (n + 1)))[2]? = some (slV t) := by rw [List.getElem?_set_ne (by decide)]; exact hCt
  have hC0' : (C.set 0 (iV (n + 1)))[0]? = some (iV (n + 1)) := List.getElem?_set_self (by omega)
  have hCt'' : (C.set 0 (iV (n + 1)))[0 + 2]? = some (slV t) := by rw [Nat.zero_add]; exact hCt'
  refine ⟨rfl, t, st.cell 0 rfl hCt'', rfl, n + 1, st.cell 0 rfl hC0', fun b1 w3 hb1 hw3 => ?_⟩
  have st := st.alloc hb1 hw3
  refine ⟨st.cell 1 rfl hCt'', _, srcAt_newN hb1 hw3 rfl, ?_⟩
  have st : St w0 (tb ++ ((b, C.set 0 (iV (n + 1))) :: (itsC its ++ (sc ++ l)))) w3 := by
    have h : St w0 ((b, C.set 0 (iV (n + 1))) :: (tb ++ (itsC its ++ (sc ++ l)))) w3 := by have := st.drop1; simpa using this
    exact h.mid
  refine ro.append st rfl rfl rfl (by rw [htl]; omega) fun t' tb' w4 ro' st hlen => ?_
  have st := st.unmid
  refine ⟨rfl, st.writable 0 rfl (by rw [List.length_set]; show 0 + 2 + 1 ≤ _; omega), fun w5 hw5 => ?_⟩
  have st := st.put0 hw5
  have e1 : putL (poff (some ⟨b, 0, none⟩ : Option Addr) + 2) [slV t'] (C.set 0 (iV (n + 1))) = (C.set 0 (iV (n + 1))).set 2 (slV t') := by rw [putL_one]; rw [show poff (some ⟨b, 0, none⟩ : Option Addr) + 2 = 2 from Nat.zero_add _]
  rw [e1] at st
  refine k t' (its ++ [⟨s, ⟨none, 0, 0⟩, n + 1, sc⟩]) (tb' ++ itsC (its ++ [⟨s, ⟨none, 0, 0⟩, n + 1, sc⟩])) w5 ⟨tb', ?_, rfl, fun it hit => ?_⟩ (by simp) ?_
  · rw [List.flatMap_append]; exact ro'
  · rcases List.mem_append.1 hit with hit | hit
    · exact hph it hit
    · rw [List.mem_singleton] at hit
      rw [hit]
      exact ⟨⟨by show 0 ≤ n + 1; omega, by show n + 1 ≤ 9000000000; omega⟩, hs, xs, r⟩
  · rw [itsC_mid its _ []]
    unfold itsC at st ⊢
    simpa using st

theorem sp_fill_Int {R : World → Prop} (ht : Tab w0.w) (o : KindO t its Kept_Int cs) (st : St w0 ((b, C) :: (cs ++ l)) w) (hCt : C[0 + 2]? = some (slV t)) (hm : its.length ≤ 2000000000)
    (k : ∀ its' cs' w', KindO t its' Filled_Int cs' → its'.length = its.length → St w0 ((b, C) :: (cs' ++ l)) w' → R w') : C_towpathlaw01_Book_fillInt (some ⟨b, 0, none⟩) w R := by
  apply S_towpathlaw01_Book_fillInt
  unfold F_towpathlaw01_Book_fillInt
  generalize hml : its.length = m at *
  refine ⟨fun i w' => ∃ (j : Nat) (cs : List Chunk), i = (j : Int) ∧ j ≤ m ∧ KindI t m j Kept_Int Filled_Int cs ∧ St w0 ((b, C) :: (cs ++ l)) w', fun i _ => m - i.toNat, ⟨0, cs, rfl, by omega, by rw [← hml]; exact KindI.start o, st⟩, ?_⟩
  clear o st
  rintro i w1 ⟨j, cs, rfl, hj, o, st⟩
  unfold F_towpathlaw01_Book_fillInt_L0
  have htl := o.len
  refine ⟨rfl, t, st.cell 0 rfl hCt, fun h => ?_, fun h => ?_⟩
  · have h := of_decide_eq_true h
    obtain ⟨d, it, r, tb, h1, h2, ro, h3, ⟨hN, hlen, xs, hx⟩, h4, ha, hc, sti⟩ := o.at_ st (by omega)
    refine ⟨rfl, t, st.cell 0 rfl hCt, ha, by omega, h, ⟨it.l, it.long, it.n⟩, ?_, fun b1 w2 hb1 hw2 => ?_⟩
    · rw [Int.toNat_natCast]; exact hc
    have st := sti.alloc hb1 hw2
    clear sti
    refine ⟨st.writable 0 rfl (by simp), fun w3 hw3 => ?_⟩
    have st := st.put0 hw3
    have st : St w0 ((b1, itemCells it) :: (it.cs ++ (((b, C) :: tb) ++ ((itsC d ++ itsC r) ++ l)))) w3 := st
    refine ⟨fun k w' => ∃ (q : Nat) (ys : List Value) (cs : List Chunk), k = (q : Int) ∧ q ≤ it.l.len ∧ RowC 1 it.l ((List.replicate q (markV_Int it.n)).flatMap cel_Int ++ ys) cs ∧ St w0 ((b1, itemCells it) :: (cs ++ (((b, C) :: tb) ++ ((itsC d ++ itsC r) ++ l)))) w', fun k _ => it.l.len - k.toNat, ⟨0, xs, it.cs, rfl, by omega, by simpa using hx, st⟩, ?_⟩
    clear st
    rintro k4 w4 ⟨q, ys, cs, rfl, hq, hr, st⟩
    unfold F_towpathlaw01_Book_fillInt_L1
    refine ⟨it.l, st.cell 0 rfl rfl, fun hk => ?_, fun hk => ?_⟩
    · have hk := of_decide_eq_true hk
      intro w5 e5
      have st := st.drew e5
      refine ⟨it.l, st.cell 0 rfl rfl, it.n, st.cell 0 rfl rfl, sp_mark_Int hN (ht.ext st.ext) fun w6 e6 => ?_⟩
      have st := st.keep e6
      refine ⟨st.cell 0 rfl rfl, ?_⟩
      have hqs : (q + 1) * 1 ≤ it.l.len * 1 := Nat.mul_le_mul_right _ (by omega)
      obtain ⟨a, wr, hset⟩ := hr.putN (l := (b1, itemCells it) :: (((b, C) :: tb) ++ ((itsC d ++ itsC r) ++ l))) (vs := cel_Int (markV_Int it.n)) (i := q * 1) st.mid (by rw [cel_Int_len]; decide) (by rw [cel_Int_len]; omega)
      rw [cel_Int_len] at wr hset
      simp only [Nat.mul_one] at wr hset
      refine ⟨a, by omega, hk, ?_, fun w7 hw7 => ?_⟩
      · rw [Int.toNat_natCast]; exact wr
      rw [Int.toNat_natCast] at hw7
      obtain ⟨cs', hr', st⟩ := hset w7 hw7
      have wq : IntKind.i64.wrap ((q : Int) + 1) = ((q + 1 : Nat) : Int) := by rw [i64_in _ (by omega) (by omega)]; omega
      rw [wq]
      have hrl : ((List.replicate q (markV_Int it.n)).flatMap cel_Int).length = q * 1 := rep_len cel_Int_len q _
      refine ⟨⟨q + 1, ys.drop 1, cs', rfl, by omega, ?_, st.unmid⟩, by show _ - _ < _ - _; omega⟩
      have hrl1 : ((List.replicate q (markV_Int it.n)).flatMap cel_Int).length = q := by rw [hrl, Nat.mul_one]
      rw [List.take_left' hrl1, rep_succ, List.drop_append, hrl1, List.drop_eq_nil_of_le (by omega), List.nil_append, show q + 1 - q = 1 from by omega] at hr'
      exact hr'
    · have hk := of_decide_eq_false hk
      have hqe : q = it.l.len := by omega
      subst hqe
      have hr := hr.trimB (rep_len cel_Int_len _ _)
      have wj : IntKind.i64.wrap ((j : Int) + 1) = ((j + 1 : Nat) : Int) := by rw [i64_in _ (by omega) (by omega)]; omega
      rw [wj]
      obtain ⟨cs', o', st'⟩ := KindI.next (it := ⟨it.l, it.long, it.n, cs⟩) (Ph := Kept_Int) (Ph' := Filled_Int) h1 h2 (by simpa [itemCells] using ro) h3 ⟨hN, hlen, hr⟩ h4 st.drop1
      exact ⟨⟨j + 1, cs', rfl, by omega, o', st'⟩, by show _ - _ < _ - _; omega⟩
  · have h := of_decide_eq_false h
    have : j = m := by omega
    subst this
    obtain ⟨its', hl', o'⟩ := o.done
    exact k its' cs _ o' hl' st

theorem sp_grow_Int {R : World → Prop} (ht : Tab w0.w) (o : KindO t its Filled_Int cs) (st : St w0 ((b, C) :: (cs ++ l)) w) (hCt : C[0 + 2]? = some (slV t)) (hm : its.length ≤ 2000000000)
    (k : ∀ its' cs' w', KindO t its' Long_Int cs' → its'.length = its.length → St w0 ((b, C) :: (cs' ++ l)) w' → R w') : C_towpathlaw01_Book_growInt (some ⟨b, 0, none⟩) w R := by
  apply S_towpathlaw01_Book_growInt
  unfold F_towpathlaw01_Book_growInt
  generalize hml : its.length = m at *
  refine ⟨fun i w' => ∃ (j : Nat) (cs : List Chunk), i = (j : Int) ∧ j ≤ m ∧ KindI t m j Filled_Int Long_Int cs ∧ St w0 ((b, C) :: (cs ++ l)) w', fun i _ => m - i.toNat, ⟨0, cs, rfl, by omega, by rw [← hml]; exact KindI.start o, st⟩, ?_⟩
  clear o st
  rintro i w1 ⟨j, cs, rfl, hj, o, st⟩
  unfold F_towpathlaw01_Book_growInt_L0
  have htl := o.len
  refine ⟨rfl, t, st.cell 0 rfl hCt, fun h => ?_, fun h => ?_⟩
  · have h := of_decide_eq_true h
    obtain ⟨d, it, r, tb, h1, h2, ro, h3, ⟨hN, hlen, hx⟩, h4, ha, hc, sti⟩ := o.at_ st (by omega)
    refine ⟨rfl, t, st.cell 0 rfl hCt, ha, by omega, h, ⟨it.l, it.long, it.n⟩, ?_, fun b1 w2 hb1 hw2 => ?_⟩
    · rw [Int.toNat_natCast]; exact hc
    have st := sti.alloc hb1 hw2
    clear sti
    refine ⟨st.writable 0 rfl (by simp), fun w3 hw3 => ?_⟩
    have st := st.put0 hw3
    have st : St w0 ((b1, itemCells it) :: (it.cs ++ (((b, C) :: tb) ++ ((itsC d ++ itsC r) ++ l)))) w3 := st
    refine ⟨it.l, st.cell 0 rfl rfl, fun long k w' => ∃ (q : Nat) (cs : List Chunk), k = (q : Int) ∧ q ≤ 70 ∧ Grown_Int q ⟨it.l, long, it.n, cs⟩ long ∧ St w0 ((b1, itemCells it) :: (cs ++ (((b, C) :: tb) ++ ((itsC d ++ itsC r) ++ l)))) w', fun _ k _ => 70 - k.toNat, ⟨0, it.cs, rfl, by omega, ⟨hN, hlen, rfl, it.cs, [], by simp, hx, .inl rfl⟩, st⟩, ?_⟩
    clear st
    rintro long k4 w4 ⟨q, cs, rfl, hq, hg, st⟩
    unfold F_towpathlaw01_Book_growInt_L1
    refine ⟨fun hk => ?_, fun hk => ?_⟩
    · have hk := of_decide_eq_true hk
      refine ⟨it.n, st.cell 0 rfl rfl, sp_mark_Int hN (ht.ext st.ext) fun w5 e5 b2 w6 hb2 hw6 => ?_⟩
      have st := ((st.keep e5).alloc hb2 hw6).drop1
      refine ⟨_, srcAt_newN hb2 hw6 rfl, ?_⟩
      have wq : IntKind.i64.wrap ((q : Int) + 1) = ((q + 1 : Nat) : Int) := by rw [i64_in _ (by omega) (by omega)]; omega
      rw [wq]
      obtain ⟨_, _, hll, c1, c2, hcs, hg, hor⟩ := hg
      have hll : long.len = it.l.len + q := hll
      have hcs : cs = c1 ++ c2 := hcs
      subst hcs
      have st : St w0 (c1 ++ (c2 ++ ((b1, itemCells it) :: (((b, C) :: tb) ++ ((itsC d ++ itsC r) ++ l))))) w6 := by have := st.mid; rwa [List.append_assoc] at this
      refine hg.appendK (by_ := 8) st rfl (by omega) rfl rfl (by rw [hll]; omega) fun s' bs' l' w7 hr7 st hl7 hcase => ?_
      have hr7 : RowC 1 s' ((List.replicate (it.l.len + q) (markV_Int it.n)).flatMap cel_Int ++ cel_Int (markV_Int it.n)) bs' := hr7
      rw [rep_succ] at hr7
      have st : St w0 ((b1, itemCells it) :: ((bs' ++ (l' ++ c2)) ++ (((b, C) :: tb) ++ ((itsC d ++ itsC r) ++ l)))) w7 := by
        refine St.unmid ?_
        simpa only [List.append_assoc] using st
      refine ⟨⟨q + 1, bs' ++ (l' ++ c2), rfl, by omega, ⟨hN, hlen, by show s'.len = it.l.len + (q + 1); omega, bs', l' ++ c2, rfl, hr7, ?_⟩, st⟩, by show _ - _ < _ - _; omega⟩
      rcases hcase with ⟨hp7, rfl⟩ | hb7
      · rcases hor with hp | hsrc
        · exact .inl (hp7.trans hp)
        · exact .inr hsrc
      · have hb7' : l' = c1 := hb7
        subst hb7'
        refine .inr fun w0 l w st => ?_
        rw [List.append_assoc] at st
        rcases hor with hp | hsrc
        · exact rep_src cel_Int_len (hg.src st) hp rfl (by show it.l.len ≤ it.l.len + q; omega) hll
        · exact hsrc w0 l w st.drop
    · have hk := of_decide_eq_false hk
      obtain rfl : q = 70 := by omega
      have hcell : w4.cell? ⟨b, 0 + 2, none⟩ = some (slV t) := st.drop1.drop.cell 0 rfl hCt
      have st : St w0 (tb ++ ((b, C) :: (cs ++ ((itsC d ++ itsC r) ++ l)))) w4 := by
        have h := st.drop1.swap
        exact St.mid h
      have hlt : j * 3 + 1 < t.len * 3 := by omega
      obtain ⟨a, wr, hset⟩ := ro.setN (v := slV long) (i := j * 3 + 1) st hlt
      refine ⟨rfl, t, hcell, a, by omega, h, ?_, fun w8 hw8 => ?_⟩
      · rw [Int.toNat_natCast, Nat.add_assoc]; exact wr
      rw [Int.toNat_natCast, Nat.add_assoc] at hw8
      obtain ⟨tb', ro', st⟩ := hset w8 hw8
      rw [tab_set (cs := cs) h1] at ro'
      have wj : IntKind.i64.wrap ((j : Int) + 1) = ((j + 1 : Nat) : Int) := by rw [i64_in _ (by omega) (by omega)]; omega
      rw [wj]
      have st : St w0 (cs ++ (((b, C) :: tb') ++ ((itsC d ++ itsC r) ++ l))) w8 := by
        have h : St w0 (((b, C) :: tb') ++ (cs ++ ((itsC d ++ itsC r) ++ l))) w8 := St.unmid st
        exact h.swap
      obtain ⟨cs', o', st'⟩ := KindI.next (it := ⟨it.l, long, it.n, cs⟩) (Ph := Filled_Int) (Ph' := Long_Int) h1 h2 ro' h3 hg h4 st
      exact ⟨⟨j + 1, cs', rfl, by omega, o', st'⟩, by show _ - _ < _ - _; omega⟩
  · have h := of_decide_eq_false h
    have : j = m := by omega
    subst this
    obtain ⟨its', hl', o'⟩ := o.done
    exact k its' cs _ o' hl' st

theorem sp_look_Int {R : Bool → World → Prop} (ht : Tab w0.w) (o : KindO t its Long_Int cs) (st : St w0 ((b, C) :: (cs ++ l)) w) (hCt : C[0 + 2]? = some (slV t)) (hm : its.length ≤ 2000000000)
    (k : ∀ w', St w0 ((b, C) :: (cs ++ l)) w' → R true w') : C_towpathlaw01_Book_lookInt (some ⟨b, 0, none⟩) w R := by
  apply S_towpathlaw01_Book_lookInt
  unfold F_towpathlaw01_Book_lookInt
  generalize hml : its.length = m at *
  have hI : ∀ j, j ≤ m → KindI t m j Long_Int Long_Int cs := fun j hj => by
    obtain ⟨tb, ro, rfl, hph⟩ := o
    refine ⟨its.take j, its.drop j, tb, by rw [List.length_take]; omega, by rw [List.length_take, List.length_drop]; omega, by rw [List.take_append_drop]; exact ro, by rw [List.take_append_drop], fun it hit => hph it (List.mem_of_mem_take hit), fun it hit => hph it (List.mem_of_mem_drop hit)⟩
  refine ⟨fun i w' => ∃ (j : Nat), i = (j : Int) ∧ j ≤ m ∧ St w0 ((b, C) :: (cs ++ l)) w', fun i _ => m - i.toNat, ⟨0, rfl, by omega, st⟩, ?_⟩
  clear st
  rintro i w1 ⟨j, rfl, hj, st⟩
  unfold F_towpathlaw01_Book_lookInt_L0
  have o := hI j hj
  have htl := o.len
  refine ⟨rfl, t, st.cell 0 rfl hCt, fun h => ?_, fun h => ?_⟩
  · have h := of_decide_eq_true h
    obtain ⟨d, it, r, tb, h1, h2, ro, h3, ⟨hN, hlen, hll, c1, c2, hcs, hg, hor⟩, h4, ha, hc, sti⟩ := o.at_ st (by omega)
    refine ⟨rfl, t, st.cell 0 rfl hCt, ha, by omega, h, ⟨it.l, it.long, it.n⟩, ?_, fun b1 w2 hb1 hw2 => ?_⟩
    · rw [Int.toNat_natCast]; exact hc
    have sto := st.alloc hb1 hw2
    have st := sti.alloc hb1 hw2
    clear sti
    refine ⟨st.writable 0 rfl (by simp), fun w3 hw3 => ?_⟩
    have sto : St w0 ((b1, itemCells it) :: ((b, C) :: (cs ++ l))) w3 := sto.put0 hw3
    have st : St w0 ((b1, itemCells it) :: (it.cs ++ (((b, C) :: tb) ++ ((itsC d ++ itsC r) ++ l)))) w3 := st.put0 hw3
    refine ⟨it.long, st.cell 0 rfl rfl, it.l, st.cell 0 rfl rfl, fun hne => ?_, fun _ => ?_⟩
    · exfalso
      rw [hll, i64_in _ (by omega) (by omega)] at hne
      simp at hne
    refine ⟨fun k w' => ∃ (q : Nat), k = (q : Int) ∧ q ≤ it.long.len ∧ St w0 ((b1, itemCells it) :: ((b, C) :: (cs ++ l))) w' ∧ St w0 ((b1, itemCells it) :: (it.cs ++ (((b, C) :: tb) ++ ((itsC d ++ itsC r) ++ l)))) w', fun k _ => it.long.len - k.toNat, ⟨0, rfl, by omega, sto, st⟩, ?_⟩
    clear st sto
    rintro k4 w4 ⟨q, rfl, hq, sto, st⟩
    have hsrc : SrcAt w4 it.long 1 ((List.replicate (it.l.len + 70) (markV_Int it.n)).flatMap cel_Int) ∧ SrcAt w4 it.l 1 ((List.replicate it.l.len (markV_Int it.n)).flatMap cel_Int) := by
      have s1 := st.drop1
      rw [hcs, List.append_assoc] at s1
      refine ⟨hg.src s1, ?_⟩
      rcases hor with hp | hsrc
      · exact rep_src cel_Int_len (hg.src s1) hp rfl (by omega) hll
      · exact hsrc _ _ _ s1.drop
    have rep : ∀ (s : Slc) (p i : Nat), SrcAt w4 s 1 ((List.replicate p (markV_Int it.n)).flatMap cel_Int) → i < s.len → IsAt s.ptr ∧ CellsAt w4 (pblk s.ptr) (poff s.ptr + i * 1) (cel_Int (markV_Int it.n)) := fun s p i hs hi => by
      obtain ⟨a, x, hx, hc⟩ := SrcAt.getN hs cel_Int_len (by decide) (i := (i : Int)) (by omega) (by omega)
      rw [Int.toNat_natCast] at hx hc
      rw [(List.mem_replicate.1 (List.mem_of_getElem? hx)).2] at hc
      exact ⟨a, hc⟩
    unfold F_towpathlaw01_Book_lookInt_L1
    refine ⟨it.long, st.cell 0 rfl rfl, fun hk => ?_, fun hk => ?_⟩
    · have hk := of_decide_eq_true hk
      obtain ⟨a, hc1⟩ := rep it.long _ q hsrc.1 (by omega)
      refine ⟨it.long, st.cell 0 rfl rfl, a, by omega, hk, markV_Int it.n, by have h0 := cellsAt_iff.1 hc1 0 _ rfl; simpa using h0, it.n, st.cell 0 rfl rfl, true, fun w' e => sp_is_Int hN (ht.ext (st.ext.trans e)), fun hh => (by cases hh), fun _ => ?_⟩
      have wq : IntKind.i64.wrap ((q : Int) + 1) = ((q + 1 : Nat) : Int) := by rw [i64_in _ (by omega) (by omega)]; omega
      have fin : ∀ w', Ext w4 w' → (∃ (q' : Nat), ((q + 1 : Nat) : Int) = (q' : Int) ∧ q' ≤ it.long.len ∧ St w0 ((b1, itemCells it) :: ((b, C) :: (cs ++ l))) w' ∧ St w0 ((b1, itemCells it) :: (it.cs ++ (((b, C) :: tb) ++ ((itsC d ++ itsC r) ++ l)))) w') := fun w' e => ⟨q + 1, rfl, by omega, sto.keep e, st.keep e⟩
      refine ⟨it.l, st.cell 0 rfl rfl, fun hk2 => ?_, fun hk2 w10 e10 => ?_⟩
      · have hk2 := of_decide_eq_true hk2
        obtain ⟨a2, hc2⟩ := rep it.l _ q hsrc.2 (by omega)
        refine ⟨it.l, st.cell 0 rfl rfl, a2, by omega, hk2, markV_Int it.n, by have h0 := cellsAt_iff.1 hc2 0 _ rfl; simpa using h0, it.n, st.cell 0 rfl rfl, true, fun w' e => sp_is_Int hN (ht.ext (st.ext.trans e)), fun w9 e9 => ?_⟩
        unfold F_towpathlaw01_Book_lookInt_k2
        refine ⟨fun hh => (by cases hh), fun _ => ?_⟩
        rw [wq]
        exact ⟨fin _ e9, by show _ - _ < _ - _; omega⟩
      · unfold F_towpathlaw01_Book_lookInt_k2
        refine ⟨fun hh => (by cases hh), fun _ => ?_⟩
        rw [wq]
        exact ⟨fin _ e10, by show _ - _ < _ - _; omega⟩
    · have wj : IntKind.i64.wrap ((j : Int) + 1) = ((j + 1 : Nat) : Int) := by rw [i64_in _ (by omega) (by omega)]; omega
      rw [wj]
      exact ⟨⟨j + 1, rfl, by omega, sto.drop1⟩, by show _ - _ < _ - _; omega⟩
  · exact k _ st
end
theorem sp_KINDs_Int {w0 : Base} {w : World} {l sc cs : List Chunk} {C : List Value} {b : Nat} {n : Int} {t s : Slc} {its : List Item} {xs : List Value} {R : World → Prop} (o : KindO t its Kept_Int cs) (r : RowC 1 s xs sc) (st : St w0 ((b, C) :: (cs ++ (sc ++ l))) w) (hC0 : C[0]? = some (iV n)) (hCt : C[2]? = some (slV t)) (hn : 0 ≤ n ∧ n ≤ 2000000000) (hl : its.length ≤ 2000000000) (hs : s.len ≤ 1099511627776)
    (k : ∀ t' its' cs' w', KindO t' its' Kept_Int cs' → its'.length = its.length + 1 → St w0 ((b, (C.set 0 (iV (n + 1))).set 2 (slV t')) :: (cs' ++ l)) w' → R w') : C_towpathlaw01_Book_Ints (some ⟨b, 0, none⟩) s w R := by
  apply S_towpathlaw01_Book_Ints
  unfold F_towpathlaw01_Book_Ints
  exact sp_keep_Int o r st hC0 hCt hn hl hs k
end Go.Proofs.YtpedclhflmhakaaGreatDoor

namespace Go.Proofs.YtpedclhflmhakaaGreatDoor
open Go
set_option linter.unusedVariables false
set_option linter.unusedSimpArgs false
abbrev cel_Entry (v : T_api_Entry) : List Value := [Value.string v.Key, Value.string v.Val]
abbrev markV_Entry (n : Int) : T_api_Entry := ⟨wordV n, ByteArray.empty⟩
theorem cel_Entry_len (x : T_api_Entry) : (cel_Entry x).length = 2 := rfl

/-! ### Entry -/
def Kept_Entry (it : Item) : Prop := OkN it.n ∧ it.l.len ≤ 1099511627776 ∧ ∃ xs, RowC 2 it.l xs it.cs
def Filled_Entry (it : Item) : Prop := OkN it.n ∧ it.l.len ≤ 1099511627776 ∧ RowC 2 it.l ((List.replicate it.l.len (markV_Entry it.n)).flatMap cel_Entry) it.cs
def Grown_Entry (k : Nat) (it : Item) (long : Slc) : Prop :=
  OkN it.n ∧ it.l.len ≤ 1099511627776 ∧ long.len = it.l.len + k ∧ ∃ c1 c2, it.cs = c1 ++ c2 ∧ RowC 2 long ((List.replicate (it.l.len + k) (markV_Entry it.n)).flatMap cel_Entry) c1 ∧
    (long.ptr = it.l.ptr ∨ ∀ w0 l w, St w0 (c2 ++ l) w → SrcAt w it.l 2 ((List.replicate it.l.len (markV_Entry it.n)).flatMap cel_Entry))
def Long_Entry (it : Item) : Prop := Grown_Entry 70 it it.long
section
variable {w0 : Base} {w : World} {l cs : List Chunk} {C : List Value} {b : Nat} {n : Int} {t : Slc} {its : List Item}

theorem sp_mark_Entry {R : T_api_Entry → World → Prop} (hn : OkN n) (ht : Tab w) (k : ∀ w', Ext w w' → R (markV_Entry n) w') : C_towpathlaw01_markEntry n w R := by
  apply S_towpathlaw01_markEntry
  unfold F_towpathlaw01_markEntry
  intro b w1 hb hw
  have st := (St.start w).alloc hb hw
  refine sp_word hn (ht.ext st.ext) fun w2 e2 => ?_
  have st := st.keep e2
  refine ⟨st.writable 0 rfl (by simp), fun w2 hw2 => ?_⟩
  have st : St ⟨w, []⟩ [(b, cel_Entry (markV_Entry n))] w2 := st.put0 hw2
  exact ⟨markV_Entry n, (st.get 0 rfl).all, k w2 st.ext⟩
theorem sp_is_Entry (hn : OkN n) (ht : Tab w) : C_towpathlaw01_isEntry (markV_Entry n) n w (fun (v44' : Bool) w'' => v44' = true ∧ Ext w w'') := by
  apply S_towpathlaw01_isEntry
  unfold F_towpathlaw01_isEntry
  intro b w1 hb hw w2 hd
  have st := ((St.start w).alloc hb hw).drew hd
  refine ⟨markV_Entry n, (st.get 0 rfl).all, sp_word hn (ht.ext st.ext) fun w3 e3 => ?_⟩
  have st := st.keep e3
  refine ⟨(st.get 0 rfl).all, ?_, st.ext⟩
  rw [show (markV_Entry n).Key = wordV n from rfl, ba_reflB]; rfl
theorem sp_isK_Entry {R : Bool → World → Prop} (hn : OkN n) (ht : Tab w) (k : ∀ w', Ext w w' → R true w') : C_towpathlaw01_isEntry (markV_Entry n) n w R :=
  Calls.mono (sp_is_Entry hn ht) (by rintro e w' ⟨r, rfl, rfl, h⟩; exact ⟨true, rfl, k w' h⟩)

theorem sp_keep_Entry {s : Slc} {xs : List Value} {sc : List Chunk} {R : World → Prop} (o : KindO t its Kept_Entry cs) (r : RowC 2 s xs sc) (st : St w0 ((b, C) :: (cs ++ (sc ++ l))) w) (hC0 : C[0]? = some (iV n)) (hCt : C[5]? = some (slV t))
    (hn : 0 ≤ n ∧ n ≤ 2000000000) (hl : its.length ≤ 2000000000) (hs : s.len ≤ 1099511627776) (k : ∀ t' its' cs' w', KindO t' its' Kept_Entry cs' → its'.length = its.length + 1 → St w0 ((b, (C.set 0 (iV (n + 1))).set 5 (slV t')) :: (cs' ++ l)) w' → R w') : C_towpathlaw01_Book_keepEntry (some ⟨b, 0, none⟩) s w R := by
  apply S_towpathlaw01_Book_keepEntry
  unfold F_towpathlaw01_Book_keepEntry
  have htl := o.len
  obtain ⟨tb, ro, rfl, hph⟩ := o
  have wn : IntKind.i64.wrap (n + 1) = n + 1 := i64_in _ (by omega) (by omega)
  have hCl : 5 < C.length := (List.getElem?_eq_some_iff.1 hCt).1
  refine ⟨rfl, n, st.cell 0 rfl hC0, st.writable 0 rfl (by show 0 + 1 ≤ _; omega), fun w1 hw1 w2 e2 => ?_⟩
  rw [wn] at hw1
  have st := (st.put0 hw1).drew e2
  have e0 : putL (poff (some ⟨b, 0, none⟩ : Option Addr)) [iV (n + 1)] C = C.set 0 (iV (n + 1)) := putL_one ..
  rw [e0] at st
  have hCt' : (C.set 0 (iV (n + 1)))[5]? = some (slV t) := by rw [List.getElem?_set_ne (by decide)]; exact hCt
  have hC0' : (C.set 0 (iV (n + 1)))[0]? = some (iV (n + 1)) := List.getElem?_set_self (by omega)
  have hCt'' : (C.set 0 (iV (n + 1)))[0 + 5]? = some (slV t) := by rw [Nat.zero_add]; exact hCt'
  refine ⟨rfl, t, st.cell 0 rfl hCt'', rfl, n + 1, st.cell 0 rfl hC0', fun b1 w3 hb1 hw3 => ?_⟩
  have st := st.alloc hb1 hw3
  refine ⟨st.cell 1 rfl hCt'', _, srcAt_newN hb1 hw3 rfl, ?_⟩
  have st : St w0 (tb ++ ((b, C.set 0 (iV (n + 1))) :: (itsC its ++ (sc ++ l)))) w3 := by
    have h : St w0 ((b, C.set 0 (iV (n + 1))) :: (tb ++ (itsC its ++ (sc ++ l)))) w3 := by have := st.drop1; simpa using this
    exact h.mid
  refine ro.append st rfl rfl rfl (by rw [htl]; omega) fun t' tb' w4 ro' st hlen => ?_
  have st := st.unmid
  refine ⟨rfl, st.writable 0 rfl (by rw [List.length_set]; show 0 + 5 + 1 ≤ _; omega), fun w5 hw5 => ?_⟩
  have st := st.put0 hw5
  have e1 : putL (poff (some ⟨b, 0, none⟩ : Option Addr) + 5) [slV t'] (C.set 0 (iV (n + 1))) = (C.set 0 (iV (n + 1))).set 5 (slV t') := by rw [putL_one]; rw [show poff (some ⟨b, 0, none⟩ : Option Addr) + 5 = 5 from Nat.zero_add _]
  rw [e1] at st
  refine k t' (its ++ [⟨s, ⟨none, 0, 0⟩, n + 1, sc⟩]) (tb' ++ itsC (its ++ [⟨s, ⟨none, 0, 0⟩, n + 1, sc⟩])) w5 ⟨tb', ?_, rfl, fun it hit => ?_⟩ (by simp) ?_
  · rw [List.flatMap_append]; exact ro'
  · rcases List.mem_append.1 hit with hit | hit
    · exact hph it hit
    · rw [List.mem_singleton] at hit
      rw [hit]
      exact ⟨⟨by show 0 ≤ n + 1; omega, by show n + 1 ≤ 9000000000; omega⟩, hs, xs, r⟩
  · rw [itsC_mid its _ []]
    unfold itsC at st ⊢
    simpa using st

theorem sp_fill_Entry {R : World → Prop} (ht : Tab w0.w) (o : KindO t its Kept_Entry cs) (st : St w0 ((b, C) :: (cs ++ l)) w) (hCt : C[0 + 5]? = some (slV t)) (hm : its.length ≤ 2000000000)
    (k : ∀ its' cs' w', KindO t its' Filled_Entry cs' → its'.length = its.length → St w0 ((b, C) :: (cs' ++ l)) w' → R w') : C_towpathlaw01_Book_fillEntry (some ⟨b, 0, none⟩) w R := by
  apply S_towpathlaw01_Book_fillEntry
  unfold F_towpathlaw01_Book_fillEntry
  generalize hml : its.length = m at *
  refine ⟨fun i w' => ∃ (j : Nat) (cs : List Chunk), i = (j : Int) ∧ j ≤ m ∧ KindI t m j Kept_Entry Filled_Entry cs ∧ St w0 ((b, C) :: (cs ++ l)) w', fun i _ => m - i.toNat, ⟨0, cs, rfl, by omega, by rw [← hml]; exact KindI.start o, st⟩, ?_⟩
  clear o st
  rintro i w1 ⟨j, cs, rfl, hj, o, st⟩
  unfold F_towpathlaw01_Book_fillEntry_L0
  have htl := o.len
  refine ⟨rfl, t, st.cell 0 rfl hCt, fun h => ?_, fun h => ?_⟩
  · have h := of_decide_eq_true h
    obtain ⟨d, it, r, tb, h1, h2, ro, h3, ⟨hN, hlen, xs, hx⟩, h4, ha, hc, sti⟩ := o.at_ st (by omega)
    refine ⟨rfl, t, st.cell 0 rfl hCt, ha, by omega, h, ⟨it.l, it.long, it.n⟩, ?_, fun b1 w2 hb1 hw2 => ?_⟩
    · rw [Int.toNat_natCast]; exact hc
    have st := sti.alloc hb1 hw2
    clear sti
    refine ⟨st.writable 0 rfl (by simp), fun w3 hw3 => ?_⟩
    have st := st.put0 hw3
    have st : St w0 ((b1, itemCells it) :: (it.cs ++ (((b, C) :: tb) ++ ((itsC d ++ itsC r) ++ l)))) w3 := st
    refine ⟨fun k w' => ∃ (q : Nat) (ys : List Value) (cs : List Chunk), k = (q : Int) ∧ q ≤ it.l.len ∧ RowC 2 it.l ((List.replicate q (markV_Entry it.n)).flatMap cel_Entry ++ ys) cs ∧ St w0 ((b1, itemCells it) :: (cs ++ (((b, C) :: tb) ++ ((itsC d ++ itsC r) ++ l)))) w', fun k _ => it.l.len - k.toNat, ⟨0, xs, it.cs, rfl, by omega, by simpa using hx, st⟩, ?_⟩
    clear st
    rintro k4 w4 ⟨q, ys, cs, rfl, hq, hr, st⟩
    unfold F_towpathlaw01_Book_fillEntry_L1
    refine ⟨it.l, st.cell 0 rfl rfl, fun hk => ?_, fun hk => ?_⟩
    · have hk := of_decide_eq_true hk
      intro w5 e5
      have st := st.drew e5
      refine ⟨it.l, st.cell 0 rfl rfl, it.n, st.cell 0 rfl rfl, sp_mark_Entry hN (ht.ext st.ext) fun w6 e6 => ?_⟩
      have st := st.keep e6
      refine ⟨st.cell 0 rfl rfl, ?_⟩
      have hqs : (q + 1) * 2 ≤ it.l.len * 2 := Nat.mul_le_mul_right _ (by omega)
      obtain ⟨a, wr, hset⟩ := hr.putN (l := (b1, itemCells it) :: (((b, C) :: tb) ++ ((itsC d ++ itsC r) ++ l))) (vs := cel_Entry (markV_Entry it.n)) (i := q * 2) st.mid (by rw [cel_Entry_len]; decide) (by rw [cel_Entry_len]; omega)
      rw [cel_Entry_len] at wr hset
      skip
      refine ⟨a, by omega, hk, ?_, fun w7 hw7 => ?_⟩
      · rw [Int.toNat_natCast]; exact wr
      rw [Int.toNat_natCast] at hw7
      obtain ⟨cs', hr', st⟩ := hset w7 hw7
      have wq : IntKind.i64.wrap ((q : Int) + 1) = ((q + 1 : Nat) : Int) := by rw [i64_in _ (by omega) (by omega)]; omega
      rw [wq]
      have hrl : ((List.replicate q (markV_Entry it.n)).flatMap cel_Entry).length = q * 2 := rep_len cel_Entry_len q _
      refine ⟨⟨q + 1, ys.drop 2, cs', rfl, by omega, ?_, st.unmid⟩, by show _ - _ < _ - _; omega⟩
      skip
      rw [List.take_left' hrl, rep_succ, List.drop_append, hrl, List.drop_eq_nil_of_le (by omega), List.nil_append, show q * 2 + 2 - q * 2 = 2 from by omega] at hr'
      exact hr'
    · have hk := of_decide_eq_false hk
      have hqe : q = it.l.len := by omega
      subst hqe
      have hr := hr.trimB (rep_len cel_Entry_len _ _)
      have wj : IntKind.i64.wrap ((j : Int) + 1) = ((j + 1 : Nat) : Int) := by rw [i64_in _ (by omega) (by omega)]; omega
      rw [wj]
      obtain ⟨cs', o', st'⟩ := KindI.next (it := ⟨it.l, it.long, it.n, cs⟩) (Ph := Kept_Entry) (Ph' := Filled_Entry) h1 h2 (by simpa [itemCells] using ro) h3 ⟨hN, hlen, hr⟩ h4 st.drop1
      exact ⟨⟨j + 1, cs', rfl, by omega, o', st'⟩, by show _ - _ < _ - _; omega⟩
  · have h := of_decide_eq_false h
    have : j = m := by omega
    subst this
    obtain ⟨its', hl', o'⟩ := o.done
    exact k its' cs _ o' hl' st

theorem sp_grow_Entry {R : World → Prop} (ht : Tab w0.w) (o : KindO t its Filled_Entry cs) (st : St w0 ((b, C) :: (cs ++ l)) w) (hCt : C[0 + 5]? = some (slV t)) (hm : its.length ≤ 2000000000)
    (k : ∀ its' cs' w', KindO t its' Long_Entry cs' → its'.length = its.length → St w0 ((b, C) :: (cs' ++ l)) w' → R w') : C_towpathlaw01_Book_growEntry (some ⟨b, 0, none⟩) w R := by
  apply S_towpathlaw01_Book_growEntry
  unfold F_towpathlaw01_Book_growEntry
  generalize hml : its.length = m at *
  refine ⟨fun i w' => ∃ (j : Nat) (cs : List Chunk), i = (j : Int) ∧ j ≤ m ∧ KindI t m j Filled_Entry Long_Entry cs ∧ St w0 ((b, C) :: (cs ++ l)) w', fun i _ => m - i.toNat, ⟨0, cs, rfl, by omega, by rw [← hml]; exact KindI.start o, st⟩, ?_⟩
  clear o st
  rintro i w1 ⟨j, cs, rfl, hj, o, st⟩
  unfold F_towpathlaw01_Book_growEntry_L0
  have htl := o.len
  refine ⟨rfl, t, st.cell 0 rfl hCt, fun h => ?_, fun h => ?_⟩
  · have h := of_decide_eq_true h
    obtain ⟨d, it, r, tb, h1, h2, ro, h3, ⟨hN, hlen, hx⟩, h4, ha, hc, sti⟩ := o.at_ st (by omega)
    refine ⟨rfl, t, st.cell 0 rfl hCt, ha, by omega, h, ⟨it.l, it.long, it.n⟩, ?_, fun b1 w2 hb1 hw2 => ?_⟩
    · rw [Int.toNat_natCast]; exact hc
    have st := sti.alloc hb1 hw2
    clear sti
    refine ⟨st.writable 0 rfl (by simp), fun w3 hw3 => ?_⟩
    have st := st.put0 hw3
    have st : St w0 ((b1, itemCells it) :: (it.cs ++ (((b, C) :: tb) ++ ((itsC d ++ itsC r) ++ l)))) w3 := st
    refine ⟨it.l, st.cell 0 rfl rfl, fun long k w' => ∃ (q : Nat) (cs : List Chunk), k = (q : Int) ∧ q ≤ 70 ∧ Grown_Entry q ⟨it.l, long, it.n, cs⟩ long ∧ St w0 ((b1, itemCells it) :: (cs ++ (((b, C) :: tb) ++ ((itsC d ++ itsC r) ++ l)))) w', fun _ k _ => 70 - k.toNat, ⟨0, it.cs, rfl, by omega, ⟨hN, hlen, rfl, it.cs, [], by simp, hx, .inl rfl⟩, st⟩, ?_⟩
    clear st
    rintro long k4 w4 ⟨q, cs, rfl, hq, hg, st⟩
    unfold F_towpathlaw01_Book_growEntry_L1
    refine ⟨fun hk => ?_, fun hk => ?_⟩
    · have hk := of_decide_eq_true hk
      refine ⟨it.n, st.cell 0 rfl rfl, sp_mark_Entry hN (ht.ext st.ext) fun w5 e5 b2 w6 hb2 hw6 => ?_⟩
      have st := ((st.keep e5).alloc hb2 hw6).drop1
      refine ⟨_, srcAt_newN hb2 hw6 rfl, ?_⟩
      have wq : IntKind.i64.wrap ((q : Int) + 1) = ((q + 1 : Nat) : Int) := by rw [i64_in _ (by omega) (by omega)]; omega
      rw [wq]
      obtain ⟨_, _, hll, c1, c2, hcs, hg, hor⟩ := hg
      have hll : long.len = it.l.len + q := hll
      have hcs : cs = c1 ++ c2 := hcs
      subst hcs
      have st : St w0 (c1 ++ (c2 ++ ((b1, itemCells it) :: (((b, C) :: tb) ++ ((itsC d ++ itsC r) ++ l))))) w6 := by have := st.mid; rwa [List.append_assoc] at this
      refine hg.appendK (by_ := 32) st rfl (by omega) rfl rfl (by rw [hll]; omega) fun s' bs' l' w7 hr7 st hl7 hcase => ?_
      have hr7 : RowC 2 s' ((List.replicate (it.l.len + q) (markV_Entry it.n)).flatMap cel_Entry ++ cel_Entry (markV_Entry it.n)) bs' := hr7
      rw [rep_succ] at hr7
      have st : St w0 ((b1, itemCells it) :: ((bs' ++ (l' ++ c2)) ++ (((b, C) :: tb) ++ ((itsC d ++ itsC r) ++ l)))) w7 := by
        refine St.unmid ?_
        simpa only [List.append_assoc] using st
      refine ⟨⟨q + 1, bs' ++ (l' ++ c2), rfl, by omega, ⟨hN, hlen, by show s'.len = it.l.len + (q + 1); omega, bs', l' ++ c2, rfl, hr7, ?_⟩, st⟩, by show _ - _ < _ - _; omega⟩
      rcases hcase with ⟨hp7, rfl⟩ | hb7
      · rcases hor with hp | hsrc
        · exact .inl (hp7.trans hp)
        · exact .inr hsrc
      · have hb7' : l' = c1 := hb7
        subst hb7'
        refine .inr fun w0 l w st => ?_
        rw [List.append_assoc] at st
        rcases hor with hp | hsrc
        · exact rep_src cel_Entry_len (hg.src st) hp rfl (by show it.l.len ≤ it.l.len + q; omega) hll
        · exact hsrc w0 l w st.drop
    · have hk := of_decide_eq_false hk
      obtain rfl : q = 70 := by omega
      have hcell : w4.cell? ⟨b, 0 + 5, none⟩ = some (slV t) := st.drop1.drop.cell 0 rfl hCt
      have st : St w0 (tb ++ ((b, C) :: (cs ++ ((itsC d ++ itsC r) ++ l)))) w4 := by
        have h := st.drop1.swap
        exact St.mid h
      have hlt : j * 3 + 1 < t.len * 3 := by omega
      obtain ⟨a, wr, hset⟩ := ro.setN (v := slV long) (i := j * 3 + 1) st hlt
      refine ⟨rfl, t, hcell, a, by omega, h, ?_, fun w8 hw8 => ?_⟩
      · rw [Int.toNat_natCast, Nat.add_assoc]; exact wr
      rw [Int.toNat_natCast, Nat.add_assoc] at hw8
      obtain ⟨tb', ro', st⟩ := hset w8 hw8
      rw [tab_set (cs := cs) h1] at ro'
      have wj : IntKind.i64.wrap ((j : Int) + 1) = ((j + 1 : Nat) : Int) := by rw [i64_in _ (by omega) (by omega)]; omega
      rw [wj]
      have st : St w0 (cs ++ (((b, C) :: tb') ++ ((itsC d ++ itsC r) ++ l))) w8 := by
        have h : St w0 (((b, C) :: tb') ++ (cs ++ ((itsC d ++ itsC r) ++ l))) w8 := St.unmid st
        exact h.swap
      obtain ⟨cs', o', st'⟩ := KindI.next (it := ⟨it.l, long, it.n, cs⟩) (Ph := Filled_Entry) (Ph' := Long_Entry) h1 h2 ro' h3 hg h4 st
      exact ⟨⟨j + 1, cs', rfl, by omega, o', st'⟩, by show _ - _ < _ - _; omega⟩
  · have h := of_decide_eq_false h
    have : j = m := by omega
    subst this
    obtain ⟨its', hl', o'⟩ := o.done
    exact k its' cs _ o' hl' st

theorem sp_look_Entry {R : Bool → World → Prop} (ht : Tab w0.w) (o : KindO t its Long_Entry cs) (st : St w0 ((b, C) :: (cs ++ l)) w) (hCt : C[0 + 5]? = some (slV t)) (hm : its.length ≤ 2000000000)
    (k : ∀ w', St w0 ((b, C) :: (cs ++ l)) w' → R true w') : C_towpathlaw01_Book_lookEntry (some ⟨b, 0, none⟩) w R := by
  apply S_towpathlaw01_Book_lookEntry
  unfold F_towpathlaw01_Book_lookEntry
  generalize hml : its.length = m at *
  have hI : ∀ j, j ≤ m → KindI t m j Long_Entry Long_Entry cs := fun j hj => by
    obtain ⟨tb, ro, rfl, hph⟩ := o
    refine ⟨its.take j, its.drop j, tb, by rw [List.length_take]; omega, by rw [List.length_take, List.length_drop]; omega, by rw [List.take_append_drop]; exact ro, by rw [List.take_append_drop], fun it hit => hph it (List.mem_of_mem_take hit), fun it hit => hph it (List.mem_of_mem_drop hit)⟩
  refine ⟨fun i w' => ∃ (j : Nat), i = (j : Int) ∧ j ≤ m ∧ St w0 ((b, C) :: (cs ++ l)) w', fun i _ => m - i.toNat, ⟨0, rfl, by omega, st⟩, ?_⟩
  clear st
  rintro i w1 ⟨j, rfl, hj, st⟩
  unfold F_towpathlaw01_Book_lookEntry_L0
  have o := hI j hj
  have htl := o.len
  refine ⟨rfl, t, st.cell 0 rfl hCt, fun h => ?_, fun h => ?_⟩
  · have h := of_decide_eq_true h
    obtain ⟨d, it, r, tb, h1, h2, ro, h3, ⟨hN, hlen, hll, c1, c2, hcs, hg, hor⟩, h4, ha, hc, sti⟩ := o.at_ st (by omega)
    refine ⟨rfl, t, st.cell 0 rfl hCt, ha, by omega, h, ⟨it.l, it.long, it.n⟩, ?_, fun b1 w2 hb1 hw2 => ?_⟩
    · rw [Int.toNat_natCast]; exact hc
    have sto := st.alloc hb1 hw2
    have st := sti.alloc hb1 hw2
    clear sti
    refine ⟨st.writable 0 rfl (by simp), fun w3 hw3 => ?_⟩
    have sto : St w0 ((b1, itemCells it) :: ((b, C) :: (cs ++ l))) w3 := sto.put0 hw3
    have st : St w0 ((b1, itemCells it) :: (it.cs ++ (((b, C) :: tb) ++ ((itsC d ++ itsC r) ++ l)))) w3 := st.put0 hw3
    refine ⟨it.long, st.cell 0 rfl rfl, it.l, st.cell 0 rfl rfl, fun hne => ?_, fun _ => ?_⟩
    · exfalso
      rw [hll, i64_in _ (by omega) (by omega)] at hne
      simp at hne
    refine ⟨fun k w' => ∃ (q : Nat), k = (q : Int) ∧ q ≤ it.long.len ∧ St w0 ((b1, itemCells it) :: ((b, C) :: (cs ++ l))) w' ∧ St w0 ((b1, itemCells it) :: (it.cs ++ (((b, C) :: tb) ++ ((itsC d ++ itsC r) ++ l)))) w', fun k _ => it.long.len - k.toNat, ⟨0, rfl, by omega, sto, st⟩, ?_⟩
    clear st sto
    rintro k4 w4 ⟨q, rfl, hq, sto, st⟩
    have hsrc : SrcAt w4 it.long 2 ((List.replicate (it.l.len + 70) (markV_Entry it.n)).flatMap cel_Entry) ∧ SrcAt w4 it.l 2 ((List.replicate it.l.len (markV_Entry it.n)).flatMap cel_Entry) := by
      have s1 := st.drop1
      rw [hcs, List.append_assoc] at s1
      refine ⟨hg.src s1, ?_⟩
      rcases hor with hp | hsrc
      · exact rep_src cel_Entry_len (hg.src s1) hp rfl (by omega) hll
      · exact hsrc _ _ _ s1.drop
    have rep : ∀ (s : Slc) (p i : Nat), SrcAt w4 s 2 ((List.replicate p (markV_Entry it.n)).flatMap cel_Entry) → i < s.len → IsAt s.ptr ∧ CellsAt w4 (pblk s.ptr) (poff s.ptr + i * 2) (cel_Entry (markV_Entry it.n)) := fun s p i hs hi => by
      obtain ⟨a, x, hx, hc⟩ := SrcAt.getN hs cel_Entry_len (by decide) (i := (i : Int)) (by omega) (by omega)
      rw [Int.toNat_natCast] at hx hc
      rw [(List.mem_replicate.1 (List.mem_of_getElem? hx)).2] at hc
      exact ⟨a, hc⟩
    unfold F_towpathlaw01_Book_lookEntry_L1
    refine ⟨it.long, st.cell 0 rfl rfl, fun hk => ?_, fun hk => ?_⟩
    · have hk := of_decide_eq_true hk
      obtain ⟨a, hc1⟩ := rep it.long _ q hsrc.1 (by omega)
      have wq : IntKind.i64.wrap ((q : Int) + 1) = ((q + 1 : Nat) : Int) := by rw [i64_in _ (by omega) (by omega)]; omega
      have fin : ∀ w', Ext w4 w' → (∃ (q' : Nat), ((q + 1 : Nat) : Int) = (q' : Int) ∧ q' ≤ it.long.len ∧ St w0 ((b1, itemCells it) :: ((b, C) :: (cs ++ l))) w' ∧ St w0 ((b1, itemCells it) :: (it.cs ++ (((b, C) :: tb) ++ ((itsC d ++ itsC r) ++ l)))) w') := fun w' e => ⟨q + 1, rfl, by omega, sto.keep e, st.keep e⟩
      intro w6 hd6
      have e6 : Ext w4 w6 := Qt.ext hd6
      have st6 := st.keep e6
      refine ⟨it.long, st6.cell 0 rfl rfl, a, by omega, hk, markV_Entry it.n, by rw [Int.toNat_natCast]; exact e6.cells hc1, it.n, st6.cell 0 rfl rfl, sp_isK_Entry hN (ht.ext st6.ext) fun w7 e7 => ⟨fun hh => (by cases hh), fun _ => ?_⟩⟩
      have st7 := st6.keep e7
      refine ⟨it.l, st7.cell 0 rfl rfl, fun hk2 => ?_, fun hk2 => ?_⟩
      · have hk2 := of_decide_eq_true hk2
        obtain ⟨a2, hc2⟩ := rep it.l _ q hsrc.2 (by omega)
        refine ⟨it.l, st7.cell 0 rfl rfl, a2, by omega, hk2, markV_Entry it.n, by rw [Int.toNat_natCast]; exact (e6.trans e7).cells hc2, it.n, st7.cell 0 rfl rfl, sp_isK_Entry hN (ht.ext st7.ext) fun w9 e9 => ?_⟩
        unfold F_towpathlaw01_Book_lookEntry_k2
        refine ⟨fun hh => (by cases hh), fun _ => ?_⟩
        rw [wq]
        exact ⟨fin _ ((e6.trans e7).trans e9), by show _ - _ < _ - _; omega⟩
      · unfold F_towpathlaw01_Book_lookEntry_k2
        refine ⟨fun hh => (by cases hh), fun _ => ?_⟩
        rw [wq]
        exact ⟨fin _ (e6.trans e7), by show _ - _ < _ - _; omega⟩
    · have wj : IntKind.i64.wrap ((j : Int) + 1) = ((j + 1 : Nat) : Int) := by rw [i64_in _ (by omega) (by omega)]; omega
      rw [wj]
      exact ⟨⟨j + 1, rfl, by omega, sto.drop1⟩, by show _ - _ < _ - _; omega⟩
  · exact k _ st
end
theorem sp_KINDs_Entry {w0 : Base} {w : World} {l sc cs : List Chunk} {C : List Value} {b : Nat} {n : Int} {t s : Slc} {its : List Item} {xs : List Value} {R : World → Prop} (o : KindO t its Kept_Entry cs) (r : RowC 2 s xs sc) (st : St w0 ((b, C) :: (cs ++ (sc ++ l))) w) (hC0 : C[0]? = some (iV n)) (hCt : C[5]? = some (slV t)) (hn : 0 ≤ n ∧ n ≤ 2000000000) (hl : its.length ≤ 2000000000) (hs : s.len ≤ 1099511627776)
    (k : ∀ t' its' cs' w', KindO t' its' Kept_Entry cs' → its'.length = its.length + 1 → St w0 ((b, (C.set 0 (iV (n + 1))).set 5 (slV t')) :: (cs' ++ l)) w' → R w') : C_towpathlaw01_Book_Entries (some ⟨b, 0, none⟩) s w R := by
  apply S_towpathlaw01_Book_Entries
  unfold F_towpathlaw01_Book_Entries
  exact sp_keep_Entry o r st hC0 hCt hn hl hs k
end Go.Proofs.YtpedclhflmhakaaGreatDoor

namespace Go.Proofs.YtpedclhflmhakaaGreatDoor
open Go
set_option linter.unusedVariables false
set_option linter.unusedSimpArgs false
abbrev cel_Version (v : T_api_Version) : List Value := [iV v.Number, Value.string v.Val, Value.bool v.Drop]
abbrev markV_Version (n : Int) : T_api_Version := ⟨IntKind.i64.wrap ((-1000) - n), ByteArray.empty, false⟩
theorem cel_Version_len (x : T_api_Version) : (cel_Version x).length = 3 := rfl

/-! ### Version -/
def Kept_Version (it : Item) : Prop := OkN it.n ∧ it.l.len ≤ 1099511627776 ∧ ∃ xs, RowC 3 it.l xs it.cs
def Filled_Version (it : Item) : Prop := OkN it.n ∧ it.l.len ≤ 1099511627776 ∧ RowC 3 it.l ((List.replicate it.l.len (markV_Version it.n)).flatMap cel_Version) it.cs
def Grown_Version (k : Nat) (it : Item) (long : Slc) : Prop :=
  OkN it.n ∧ it.l.len ≤ 1099511627776 ∧ long.len = it.l.len + k ∧ ∃ c1 c2, it.cs = c1 ++ c2 ∧ RowC 3 long ((List.replicate (it.l.len + k) (markV_Version it.n)).flatMap cel_Version) c1 ∧
    (long.ptr = it.l.ptr ∨ ∀ w0 l w, St w0 (c2 ++ l) w → SrcAt w it.l 3 ((List.replicate it.l.len (markV_Version it.n)).flatMap cel_Version))
def Long_Version (it : Item) : Prop := Grown_Version 70 it it.long
section
variable {w0 : Base} {w : World} {l cs : List Chunk} {C : List Value} {b : Nat} {n : Int} {t : Slc} {its : List Item}

theorem sp_mark_Version {R : T_api_Version → World → Prop} (hn : OkN n) (ht : Tab w) (k : ∀ w', Ext w w' → R (markV_Version n) w') : C_towpathlaw01_markVersion n w R := by
  apply S_towpathlaw01_markVersion
  unfold F_towpathlaw01_markVersion
  intro b w1 hb hw
  have st := (St.start w).alloc hb hw
  refine ⟨st.writable 0 rfl (by simp), fun w2 hw2 => ?_⟩
  have st : St ⟨w, []⟩ [(b, cel_Version (markV_Version n))] w2 := st.put0 hw2
  exact ⟨markV_Version n, (st.get 0 rfl).all, k w2 st.ext⟩
theorem sp_is_Version (hn : OkN n) (ht : Tab w) : C_towpathlaw01_isVersion (markV_Version n) n w (fun (v44' : Bool) w'' => v44' = true ∧ Ext w w'') := by
  apply S_towpathlaw01_isVersion
  unfold F_towpathlaw01_isVersion
  intro b w1 hb hw
  have st := (St.start w).alloc hb hw
  refine ⟨markV_Version n, (st.get 0 rfl).all, ?_, st.ext⟩
  rw [beq_self_eq_true, show (markV_Version n).Val = ByteArray.empty from rfl, ba_reflB]; rfl


theorem sp_keep_Version {s : Slc} {xs : List Value} {sc : List Chunk} {R : World → Prop} (o : KindO t its Kept_Version cs) (r : RowC 3 s xs sc) (st : St w0 ((b, C) :: (cs ++ (sc ++ l))) w) (hC0 : C[0]? = some (iV n)) (hCt : C[6]? = some (slV t))
    (hn : 0 ≤ n ∧ n ≤ 2000000000) (hl : its.length ≤ 2000000000) (hs : s.len ≤ 1099511627776) (k : ∀ t' its' cs' w', KindO t' its' Kept_Version cs' → its'.length = its.length + 1 → St w0 ((b, (C.set 0 (iV (n + 1))).set 6 (slV t')) :: (cs' ++ l)) w' → R w') : C_towpathlaw01_Book_keepVersion (some ⟨b, 0, none⟩) s w R := by
  apply S_towpathlaw01_Book_keepVersion
  unfold F_towpathlaw01_Book_keepVersion
  have htl := o.len
  obtain ⟨tb, ro, rfl, hph⟩ := o
  have wn : IntKind.i64.wrap (n + 1) = n + 1 := i64_in _ (by omega) (by omega)
  have hCl : 6 < C.length := (List.getElem?_eq_some_iff.1 hCt).1
  refine ⟨rfl, n, st.cell 0 rfl hC0, st.writable 0 rfl (by show 0 + 1 ≤ _; omega), fun w1 hw1 w2 e2 => ?_⟩
  rw [wn] at hw1
  have st := (st.put0 hw1).drew e2
  have e0 : putL (poff (some ⟨b, 0, none⟩ : Option Addr)) [iV (n + 1)] C = C.set 0 (iV (n + 1)) := putL_one ..
  rw [e0] at st
  have hCt' : (C.set 0 (iV (n + 1)))[6]? = some (slV t) := by rw [List.getElem?_set_ne (by decide)]; exact hCt
  have hC0' : (C.set 0 (iV (n + 1)))[0]? = some (iV (n + 1)) := List.getElem?_set_self (by omega)
  have hCt'' : (C.set 0 (iV (n + 1)))[0 + 6]? = some (slV t) := by rw [Nat.zero_add]; exact hCt'
  refine ⟨rfl, t, st.cell 0 rfl hCt'', rfl, n + 1, st.cell 0 rfl hC0', fun b1 w3 hb1 hw3 => ?_⟩
  have st := st.alloc hb1 hw3
  refine ⟨st.cell 1 rfl hCt'', _, srcAt_newN hb1 hw3 rfl, ?_⟩
  have st : St w0 (tb ++ ((b, C.set 0 (iV (n + 1))) :: (itsC its ++ (sc ++ l)))) w3 := by
    have h : St w0 ((b, C.set 0 (iV (n + 1))) :: (tb ++ (itsC its ++ (sc ++ l)))) w3 := by have := st.drop1; simpa using this
    exact h.mid
  refine ro.append st rfl rfl rfl (by rw [htl]; omega) fun t' tb' w4 ro' st hlen => ?_
  have st := st.unmid
  refine ⟨rfl, st.writable 0 rfl (by rw [List.length_set]; show 0 + 6 + 1 ≤ _; omega), fun w5 hw5 => ?_⟩
  have st := st.put0 hw5
  have e1 : putL (poff (some ⟨b, 0, none⟩ : Option Addr) + 6) [slV t'] (C.set 0 (iV (n + 1))) = (C.set 0 (iV (n + 1))).set 6 (slV t') := by rw [putL_one]; rw [show poff (some ⟨b, 0, none⟩ : Option Addr) + 6 = 6 from Nat.zero_add _]
  rw [e1] at st
  refine k t' (its ++ [⟨s, ⟨none, 0, 0⟩, n + 1, sc⟩]) (tb' ++ itsC (its ++ [⟨s, ⟨none, 0, 0⟩, n + 1, sc⟩])) w5 ⟨tb', ?_, rfl, fun it hit => ?_⟩ (by simp) ?_
  · rw [List.flatMap_append]; exact ro'
  · rcases List.mem_append.1 hit with hit | hit
    · exact hph it hit
    · rw [List.mem_singleton] at hit
      rw [hit]
      exact ⟨⟨by show 0 ≤ n + 1; omega, by show n + 1 ≤ 9000000000; omega⟩, hs, xs, r⟩
  · rw [itsC_mid its _ []]
    unfold itsC at st ⊢
    simpa using st

theorem sp_fill_Version {R : World → Prop} (ht : Tab w0.w) (o : KindO t its Kept_Version cs) (st : St w0 ((b, C) :: (cs ++ l)) w) (hCt : C[0 + 6]? = some (slV t)) (hm : its.length ≤ 2000000000)
    (k : ∀ its' cs' w', KindO t its' Filled_Version cs' → its'.length = its.length → St w0 ((b, C) :: (cs' ++ l)) w' → R w') : C_towpathlaw01_Book_fillVersion (some ⟨b, 0, none⟩) w R := by
  apply S_towpathlaw01_Book_fillVersion
  unfold F_towpathlaw01_Book_fillVersion
  generalize hml : its.length = m at *
  refine ⟨fun i w' => ∃ (j : Nat) (cs : List Chunk), i = (j : Int) ∧ j ≤ m ∧ KindI t m j Kept_Version Filled_Version cs ∧ St w0 ((b, C) :: (cs ++ l)) w', fun i _ => m - i.toNat, ⟨0, cs, rfl, by omega, by rw [← hml]; exact KindI.start o, st⟩, ?_⟩
  clear o st
  rintro i w1 ⟨j, cs, rfl, hj, o, st⟩
  unfold F_towpathlaw01_Book_fillVersion_L0
  have htl := o.len
  refine ⟨rfl, t, st.cell 0 rfl hCt, fun h => ?_, fun h => ?_⟩
  · have h := of_decide_eq_true h
    obtain ⟨d, it, r, tb, h1, h2, ro, h3, ⟨hN, hlen, xs, hx⟩, h4, ha, hc, sti⟩ := o.at_ st (by omega)
    refine ⟨rfl, t, st.cell 0 rfl hCt, ha, by omega, h, ⟨it.l, it.long, it.n⟩, ?_, fun b1 w2 hb1 hw2 => ?_⟩
    · rw [Int.toNat_natCast]; exact hc
    have st := sti.alloc hb1 hw2
    clear sti
    refine ⟨st.writable 0 rfl (by simp), fun w3 hw3 => ?_⟩
    have st := st.put0 hw3
    have st : St w0 ((b1, itemCells it) :: (it.cs ++ (((b, C) :: tb) ++ ((itsC d ++ itsC r) ++ l)))) w3 := st
    refine ⟨fun k w' => ∃ (q : Nat) (ys : List Value) (cs : List Chunk), k = (q : Int) ∧ q ≤ it.l.len ∧ RowC 3 it.l ((List.replicate q (markV_Version it.n)).flatMap cel_Version ++ ys) cs ∧ St w0 ((b1, itemCells it) :: (cs ++ (((b, C) :: tb) ++ ((itsC d ++ itsC r) ++ l)))) w', fun k _ => it.l.len - k.toNat, ⟨0, xs, it.cs, rfl, by omega, by simpa using hx, st⟩, ?_⟩
    clear st
    rintro k4 w4 ⟨q, ys, cs, rfl, hq, hr, st⟩
    unfold F_towpathlaw01_Book_fillVersion_L1
    refine ⟨it.l, st.cell 0 rfl rfl, fun hk => ?_, fun hk => ?_⟩
    · have hk := of_decide_eq_true hk
      intro w5 e5
      have st := st.drew e5
      refine ⟨it.l, st.cell 0 rfl rfl, it.n, st.cell 0 rfl rfl, sp_mark_Version hN (ht.ext st.ext) fun w6 e6 => ?_⟩
      have st := st.keep e6
      refine ⟨st.cell 0 rfl rfl, ?_⟩
      have hqs : (q + 1) * 3 ≤ it.l.len * 3 := Nat.mul_le_mul_right _ (by omega)
      obtain ⟨a, wr, hset⟩ := hr.putN (l := (b1, itemCells it) :: (((b, C) :: tb) ++ ((itsC d ++ itsC r) ++ l))) (vs := cel_Version (markV_Version it.n)) (i := q * 3) st.mid (by rw [cel_Version_len]; decide) (by rw [cel_Version_len]; omega)
      rw [cel_Version_len] at wr hset
      skip
      refine ⟨a, by omega, hk, ?_, fun w7 hw7 => ?_⟩
      · rw [Int.toNat_natCast]; exact wr
      rw [Int.toNat_natCast] at hw7
      obtain ⟨cs', hr', st⟩ := hset w7 hw7
      have wq : IntKind.i64.wrap ((q : Int) + 1) = ((q + 1 : Nat) : Int) := by rw [i64_in _ (by omega) (by omega)]; omega
      rw [wq]
      have hrl : ((List.replicate q (markV_Version it.n)).flatMap cel_Version).length = q * 3 := rep_len cel_Version_len q _
      refine ⟨⟨q + 1, ys.drop 3, cs', rfl, by omega, ?_, st.unmid⟩, by show _ - _ < _ - _; omega⟩
      skip
      rw [List.take_left' hrl, rep_succ, List.drop_append, hrl, List.drop_eq_nil_of_le (by omega), List.nil_append, show q * 3 + 3 - q * 3 = 3 from by omega] at hr'
      exact hr'
    · have hk := of_decide_eq_false hk
      have hqe : q = it.l.len := by omega
      subst hqe
      have hr := hr.trimB (rep_len cel_Version_len _ _)
      have wj : IntKind.i64.wrap ((j : Int) + 1) = ((j + 1 : Nat) : Int) := by rw [i64_in _ (by omega) (by omega)]; omega
      rw [wj]
      obtain ⟨cs', o', st'⟩ := KindI.next (it := ⟨it.l, it.long, it.n, cs⟩) (Ph := Kept_Version) (Ph' := Filled_Version) h1 h2 (by simpa [itemCells] using ro) h3 ⟨hN, hlen, hr⟩ h4 st.drop1
      exact ⟨⟨j + 1, cs', rfl, by omega, o', st'⟩, by show _ - _ < _ - _; omega⟩
  · have h := of_decide_eq_false h
    have : j = m := by omega
    subst this
    obtain ⟨its', hl', o'⟩ := o.done
    exact k its' cs _ o' hl' st

theorem sp_grow_Version {R : World → Prop} (ht : Tab w0.w) (o : KindO t its Filled_Version cs) (st : St w0 ((b, C) :: (cs ++ l)) w) (hCt : C[0 + 6]? = some (slV t)) (hm : its.length ≤ 2000000000)
    (k : ∀ its' cs' w', KindO t its' Long_Version cs' → its'.length = its.length → St w0 ((b, C) :: (cs' ++ l)) w' → R w') : C_towpathlaw01_Book_growVersion (some ⟨b, 0, none⟩) w R := by
  apply S_towpathlaw01_Book_growVersion
  unfold F_towpathlaw01_Book_growVersion
  generalize hml : its.length = m at *
  refine ⟨fun i w' => ∃ (j : Nat) (cs : List Chunk), i = (j : Int) ∧ j ≤ m ∧ KindI t m j Filled_Version Long_Version cs ∧ St w0 ((b, C) :: (cs ++ l)) w', fun i _ => m - i.toNat, ⟨0, cs, rfl, by omega, by rw [← hml]; exact KindI.start o, st⟩, ?_⟩
  clear o st
  rintro i w1 ⟨j, cs, rfl, hj, o, st⟩
  unfold F_towpathlaw01_Book_growVersion_L0
  have htl := o.len
  refine ⟨rfl, t, st.cell 0 rfl hCt, fun h => ?_, fun h => ?_⟩
  · have h := of_decide_eq_true h
    obtain ⟨d, it, r, tb, h1, h2, ro, h3, ⟨hN, hlen, hx⟩, h4, ha, hc, sti⟩ := o.at_ st (by omega)
    refine ⟨rfl, t, st.cell 0 rfl hCt, ha, by omega, h, ⟨it.l, it.long, it.n⟩, ?_, fun b1 w2 hb1 hw2 => ?_⟩
    · rw [Int.toNat_natCast]; exact hc
    have st := sti.alloc hb1 hw2
    clear sti
    refine ⟨st.writable 0 rfl (by simp), fun w3 hw3 => ?_⟩
    have st := st.put0 hw3
    have st : St w0 ((b1, itemCells it) :: (it.cs ++ (((b, C) :: tb) ++ ((itsC d ++ itsC r) ++ l)))) w3 := st
    refine ⟨it.l, st.cell 0 rfl rfl, fun long k w' => ∃ (q : Nat) (cs : List Chunk), k = (q : Int) ∧ q ≤ 70 ∧ Grown_Version q ⟨it.l, long, it.n, cs⟩ long ∧ St w0 ((b1, itemCells it) :: (cs ++ (((b, C) :: tb) ++ ((itsC d ++ itsC r) ++ l)))) w', fun _ k _ => 70 - k.toNat, ⟨0, it.cs, rfl, by omega, ⟨hN, hlen, rfl, it.cs, [], by simp, hx, .inl rfl⟩, st⟩, ?_⟩
    clear st
    rintro long k4 w4 ⟨q, cs, rfl, hq, hg, st⟩
    unfold F_towpathlaw01_Book_growVersion_L1
    refine ⟨fun hk => ?_, fun hk => ?_⟩
    · have hk := of_decide_eq_true hk
      refine ⟨it.n, st.cell 0 rfl rfl, sp_mark_Version hN (ht.ext st.ext) fun w5 e5 b2 w6 hb2 hw6 => ?_⟩
      have st := ((st.keep e5).alloc hb2 hw6).drop1
      refine ⟨_, srcAt_newN hb2 hw6 rfl, ?_⟩
      have wq : IntKind.i64.wrap ((q : Int) + 1) = ((q + 1 : Nat) : Int) := by rw [i64_in _ (by omega) (by omega)]; omega
      rw [wq]
      obtain ⟨_, _, hll, c1, c2, hcs, hg, hor⟩ := hg
      have hll : long.len = it.l.len + q := hll
      have hcs : cs = c1 ++ c2 := hcs
      subst hcs
      have st : St w0 (c1 ++ (c2 ++ ((b1, itemCells it) :: (((b, C) :: tb) ++ ((itsC d ++ itsC r) ++ l))))) w6 := by have := st.mid; rwa [List.append_assoc] at this
      refine hg.appendK (by_ := 32) st rfl (by omega) rfl rfl (by rw [hll]; omega) fun s' bs' l' w7 hr7 st hl7 hcase => ?_
      have hr7 : RowC 3 s' ((List.replicate (it.l.len + q) (markV_Version it.n)).flatMap cel_Version ++ cel_Version (markV_Version it.n)) bs' := hr7
      rw [rep_succ] at hr7
      have st : St w0 ((b1, itemCells it) :: ((bs' ++ (l' ++ c2)) ++ (((b, C) :: tb) ++ ((itsC d ++ itsC r) ++ l)))) w7 := by
        refine St.unmid ?_
        simpa only [List.append_assoc] using st
      refine ⟨⟨q + 1, bs' ++ (l' ++ c2), rfl, by omega, ⟨hN, hlen, by show s'.len = it.l.len + (q + 1); omega, bs', l' ++ c2, rfl, hr7, ?_⟩, st⟩, by show _ - _ < _ - _; omega⟩
      rcases hcase with ⟨hp7, rfl⟩ | hb7
      · rcases hor with hp | hsrc
        · exact .inl (hp7.trans hp)
        · exact .inr hsrc
      · have hb7' : l' = c1 := hb7
        subst hb7'
        refine .inr fun w0 l w st => ?_
        rw [List.append_assoc] at st
        rcases hor with hp | hsrc
        · exact rep_src cel_Version_len (hg.src st) hp rfl (by show it.l.len ≤ it.l.len + q; omega) hll
        · exact hsrc w0 l w st.drop
    · have hk := of_decide_eq_false hk
      obtain rfl : q = 70 := by omega
      have hcell : w4.cell? ⟨b, 0 + 6, none⟩ = some (slV t) := st.drop1.drop.cell 0 rfl hCt
      have st : St w0 (tb ++ ((b, C) :: (cs ++ ((itsC d ++ itsC r) ++ l)))) w4 := by
        have h := st.drop1.swap
        exact St.mid h
      have hlt : j * 3 + 1 < t.len * 3 := by omega
      obtain ⟨a, wr, hset⟩ := ro.setN (v := slV long) (i := j * 3 + 1) st hlt
      refine ⟨rfl, t, hcell, a, by omega, h, ?_, fun w8 hw8 => ?_⟩
      · rw [Int.toNat_natCast, Nat.add_assoc]; exact wr
      rw [Int.toNat_natCast, Nat.add_assoc] at hw8
      obtain ⟨tb', ro', st⟩ := hset w8 hw8
      rw [tab_set (cs := cs) h1] at ro'
      have wj : IntKind.i64.wrap ((j : Int) + 1) = ((j + 1 : Nat) : Int) := by rw [i64_in _ (by omega) (by omega)]; omega
      rw [wj]
      have st : St w0 (cs ++ (((b, C) :: tb') ++ ((itsC d ++ itsC r) ++ l))) w8 := by
        have h : St w0 (((b, C) :: tb') ++ (cs ++ ((itsC d ++ itsC r) ++ l))) w8 := St.unmid st
        exact h.swap
      obtain ⟨cs', o', st'⟩ := KindI.next (it := ⟨it.l, long, it.n, cs⟩) (Ph := Filled_Version) (Ph' := Long_Version) h1 h2 ro' h3 hg h4 st
      exact ⟨⟨j + 1, cs', rfl, by omega, o', st'⟩, by show _ - _ < _ - _; omega⟩
  · have h := of_decide_eq_false h
    have : j = m := by omega
    subst this
    obtain ⟨its', hl', o'⟩ := o.done
    exact k its' cs _ o' hl' st

theorem sp_look_Version {R : Bool → World → Prop} (ht : Tab w0.w) (o : KindO t its Long_Version cs) (st : St w0 ((b, C) :: (cs ++ l)) w) (hCt : C[0 + 6]? = some (slV t)) (hm : its.length ≤ 2000000000)
    (k : ∀ w', St w0 ((b, C) :: (cs ++ l)) w' → R true w') : C_towpathlaw01_Book_lookVersion (some ⟨b, 0, none⟩) w R := by
  apply S_towpathlaw01_Book_lookVersion
  unfold F_towpathlaw01_Book_lookVersion
  generalize hml : its.length = m at *
  have hI : ∀ j, j ≤ m → KindI t m j Long_Version Long_Version cs := fun j hj => by
    obtain ⟨tb, ro, rfl, hph⟩ := o
    refine ⟨its.take j, its.drop j, tb, by rw [List.length_take]; omega, by rw [List.length_take, List.length_drop]; omega, by rw [List.take_append_drop]; exact ro, by rw [List.take_append_drop], fun it hit => hph it (List.mem_of_mem_take hit), fun it hit => hph it (List.mem_of_mem_drop hit)⟩
  refine ⟨fun i w' => ∃ (j : Nat), i = (j : Int) ∧ j ≤ m ∧ St w0 ((b, C) :: (cs ++ l)) w', fun i _ => m - i.toNat, ⟨0, rfl, by omega, st⟩, ?_⟩
  clear st
  rintro i w1 ⟨j, rfl, hj, st⟩
  unfold F_towpathlaw01_Book_lookVersion_L0
  have o := hI j hj
  have htl := o.len
  refine ⟨rfl, t, st.cell 0 rfl hCt, fun h => ?_, fun h => ?_⟩
  · have h := of_decide_eq_true h
    obtain ⟨d, it, r, tb, h1, h2, ro, h3, ⟨hN, hlen, hll, c1, c2, hcs, hg, hor⟩, h4, ha, hc, sti⟩ := o.at_ st (by omega)
    refine ⟨rfl, t, st.cell 0 rfl hCt, ha, by omega, h, ⟨it.l, it.long, it.n⟩, ?_, fun b1 w2 hb1 hw2 => ?_⟩
    · rw [Int.toNat_natCast]; exact hc
    have sto := st.alloc hb1 hw2
    have st := sti.alloc hb1 hw2
    clear sti
    refine ⟨st.writable 0 rfl (by simp), fun w3 hw3 => ?_⟩
    have sto : St w0 ((b1, itemCells it) :: ((b, C) :: (cs ++ l))) w3 := sto.put0 hw3
    have st : St w0 ((b1, itemCells it) :: (it.cs ++ (((b, C) :: tb) ++ ((itsC d ++ itsC r) ++ l)))) w3 := st.put0 hw3
    refine ⟨it.long, st.cell 0 rfl rfl, it.l, st.cell 0 rfl rfl, fun hne => ?_, fun _ => ?_⟩
    · exfalso
      rw [hll, i64_in _ (by omega) (by omega)] at hne
      simp at hne
    refine ⟨fun k w' => ∃ (q : Nat), k = (q : Int) ∧ q ≤ it.long.len ∧ St w0 ((b1, itemCells it) :: ((b, C) :: (cs ++ l))) w' ∧ St w0 ((b1, itemCells it) :: (it.cs ++ (((b, C) :: tb) ++ ((itsC d ++ itsC r) ++ l)))) w', fun k _ => it.long.len - k.toNat, ⟨0, rfl, by omega, sto, st⟩, ?_⟩
    clear st sto
    rintro k4 w4 ⟨q, rfl, hq, sto, st⟩
    have hsrc : SrcAt w4 it.long 3 ((List.replicate (it.l.len + 70) (markV_Version it.n)).flatMap cel_Version) ∧ SrcAt w4 it.l 3 ((List.replicate it.l.len (markV_Version it.n)).flatMap cel_Version) := by
      have s1 := st.drop1
      rw [hcs, List.append_assoc] at s1
      refine ⟨hg.src s1, ?_⟩
      rcases hor with hp | hsrc
      · exact rep_src cel_Version_len (hg.src s1) hp rfl (by omega) hll
      · exact hsrc _ _ _ s1.drop
    have rep : ∀ (s : Slc) (p i : Nat), SrcAt w4 s 3 ((List.replicate p (markV_Version it.n)).flatMap cel_Version) → i < s.len → IsAt s.ptr ∧ CellsAt w4 (pblk s.ptr) (poff s.ptr + i * 3) (cel_Version (markV_Version it.n)) := fun s p i hs hi => by
      obtain ⟨a, x, hx, hc⟩ := SrcAt.getN hs cel_Version_len (by decide) (i := (i : Int)) (by omega) (by omega)
      rw [Int.toNat_natCast] at hx hc
      rw [(List.mem_replicate.1 (List.mem_of_getElem? hx)).2] at hc
      exact ⟨a, hc⟩
    unfold F_towpathlaw01_Book_lookVersion_L1
    refine ⟨it.long, st.cell 0 rfl rfl, fun hk => ?_, fun hk => ?_⟩
    · have hk := of_decide_eq_true hk
      obtain ⟨a, hc1⟩ := rep it.long _ q hsrc.1 (by omega)
      refine ⟨it.long, st.cell 0 rfl rfl, a, by omega, hk, markV_Version it.n, by rw [Int.toNat_natCast]; exact hc1, it.n, st.cell 0 rfl rfl, true, fun w' e => sp_is_Version hN (ht.ext (st.ext.trans e)), fun hh => (by cases hh), fun _ => ?_⟩
      have wq : IntKind.i64.wrap ((q : Int) + 1) = ((q + 1 : Nat) : Int) := by rw [i64_in _ (by omega) (by omega)]; omega
      have fin : ∀ w', Ext w4 w' → (∃ (q' : Nat), ((q + 1 : Nat) : Int) = (q' : Int) ∧ q' ≤ it.long.len ∧ St w0 ((b1, itemCells it) :: ((b, C) :: (cs ++ l))) w' ∧ St w0 ((b1, itemCells it) :: (it.cs ++ (((b, C) :: tb) ++ ((itsC d ++ itsC r) ++ l)))) w') := fun w' e => ⟨q + 1, rfl, by omega, sto.keep e, st.keep e⟩
      refine ⟨it.l, st.cell 0 rfl rfl, fun hk2 => ?_, fun hk2 w10 e10 => ?_⟩
      · have hk2 := of_decide_eq_true hk2
        obtain ⟨a2, hc2⟩ := rep it.l _ q hsrc.2 (by omega)
        refine ⟨it.l, st.cell 0 rfl rfl, a2, by omega, hk2, markV_Version it.n, by rw [Int.toNat_natCast]; exact hc2, it.n, st.cell 0 rfl rfl, true, fun w' e => sp_is_Version hN (ht.ext (st.ext.trans e)), fun w9 e9 => ?_⟩
        unfold F_towpathlaw01_Book_lookVersion_k2
        refine ⟨fun hh => (by cases hh), fun _ => ?_⟩
        rw [wq]
        exact ⟨fin _ e9, by show _ - _ < _ - _; omega⟩
      · unfold F_towpathlaw01_Book_lookVersion_k2
        refine ⟨fun hh => (by cases hh), fun _ => ?_⟩
        rw [wq]
        exact ⟨fin _ e10, by show _ - _ < _ - _; omega⟩
    · have wj : IntKind.i64.wrap ((j : Int) + 1) = ((j + 1 : Nat) : Int) := by rw [i64_in _ (by omega) (by omega)]; omega
      rw [wj]
      exact ⟨⟨j + 1, rfl, by omega, sto.drop1⟩, by show _ - _ < _ - _; omega⟩
  · exact k _ st
end
theorem sp_KINDs_Version {w0 : Base} {w : World} {l sc cs : List Chunk} {C : List Value} {b : Nat} {n : Int} {t s : Slc} {its : List Item} {xs : List Value} {R : World → Prop} (o : KindO t its Kept_Version cs) (r : RowC 3 s xs sc) (st : St w0 ((b, C) :: (cs ++ (sc ++ l))) w) (hC0 : C[0]? = some (iV n)) (hCt : C[6]? = some (slV t)) (hn : 0 ≤ n ∧ n ≤ 2000000000) (hl : its.length ≤ 2000000000) (hs : s.len ≤ 1099511627776)
    (k : ∀ t' its' cs' w', KindO t' its' Kept_Version cs' → its'.length = its.length + 1 → St w0 ((b, (C.set 0 (iV (n + 1))).set 6 (slV t')) :: (cs' ++ l)) w' → R w') : C_towpathlaw01_Book_Versions (some ⟨b, 0, none⟩) s w R := by
  apply S_towpathlaw01_Book_Versions
  unfold F_towpathlaw01_Book_Versions
  exact sp_keep_Version o r st hC0 hCt hn hl hs k
end Go.Proofs.YtpedclhflmhakaaGreatDoor

namespace Go.Proofs.YtpedclhflmhakaaGreatDoor
open Go
set_option linter.unusedVariables false
set_option linter.unusedSimpArgs false
abbrev cel_Held (v : T_api_Held) : List Value := [Value.string v.Key, slV v.Versions]
abbrev markV_Held (n : Int) : T_api_Held := ⟨wordV n, ⟨none, 0, 0⟩⟩
theorem cel_Held_len (x : T_api_Held) : (cel_Held x).length = 2 := rfl

/-! ### Held -/
def Kept_Held (it : Item) : Prop := OkN it.n ∧ it.l.len ≤ 1099511627776 ∧ ∃ xs, RowC 2 it.l xs it.cs
def Filled_Held (it : Item) : Prop := OkN it.n ∧ it.l.len ≤ 1099511627776 ∧ RowC 2 it.l ((List.replicate it.l.len (markV_Held it.n)).flatMap cel_Held) it.cs
def Grown_Held (k : Nat) (it : Item) (long : Slc) : Prop :=
  OkN it.n ∧ it.l.len ≤ 1099511627776 ∧ long.len = it.l.len + k ∧ ∃ c1 c2, it.cs = c1 ++ c2 ∧ RowC 2 long ((List.replicate (it.l.len + k) (markV_Held it.n)).flatMap cel_Held) c1 ∧
    (long.ptr = it.l.ptr ∨ ∀ w0 l w, St w0 (c2 ++ l) w → SrcAt w it.l 2 ((List.replicate it.l.len (markV_Held it.n)).flatMap cel_Held))
def Long_Held (it : Item) : Prop := Grown_Held 70 it it.long
section
variable {w0 : Base} {w : World} {l cs : List Chunk} {C : List Value} {b : Nat} {n : Int} {t : Slc} {its : List Item}

theorem sp_mark_Held {R : T_api_Held → World → Prop} (hn : OkN n) (ht : Tab w) (k : ∀ w', Ext w w' → R (markV_Held n) w') : C_towpathlaw01_markHeld n w R := by
  apply S_towpathlaw01_markHeld
  unfold F_towpathlaw01_markHeld
  intro b w1 hb hw
  have st := (St.start w).alloc hb hw
  refine sp_word hn (ht.ext st.ext) fun w2 e2 => ?_
  have st := st.keep e2
  refine ⟨st.writable 0 rfl (by simp), fun w2 hw2 => ?_⟩
  have st : St ⟨w, []⟩ [(b, cel_Held (markV_Held n))] w2 := st.put0 hw2
  exact ⟨markV_Held n, (st.get 0 rfl).all, k w2 st.ext⟩
theorem sp_is_Held (hn : OkN n) (ht : Tab w) : C_towpathlaw01_isHeld (markV_Held n) n w (fun (v44' : Bool) w'' => v44' = true ∧ Ext w w'') := by
  apply S_towpathlaw01_isHeld
  unfold F_towpathlaw01_isHeld
  intro b w1 hb hw w2 hd
  have st : St ⟨w, []⟩ [(b, cel_Held (markV_Held n))] w2 := ((St.start w).alloc hb hw).drew hd
  refine ⟨wordV n, st.cell 0 rfl rfl, sp_word hn (ht.ext st.ext) fun w3 e3 => ?_⟩
  have st := st.keep e3
  refine ⟨st.cell 0 rfl rfl, fun _ => ⟨⟨none, 0, 0⟩, st.cell 0 rfl rfl, rfl, st.ext⟩, fun h => ?_⟩
  rw [beq_self_eq_true] at h; cases h
theorem sp_isK_Held {R : Bool → World → Prop} (hn : OkN n) (ht : Tab w) (k : ∀ w', Ext w w' → R true w') : C_towpathlaw01_isHeld (markV_Held n) n w R :=
  Calls.mono (sp_is_Held hn ht) (by rintro e w' ⟨r, rfl, rfl, h⟩; exact ⟨true, rfl, k w' h⟩)

theorem sp_keep_Held {s : Slc} {xs : List Value} {sc : List Chunk} {R : World → Prop} (o : KindO t its Kept_Held cs) (r : RowC 2 s xs sc) (st : St w0 ((b, C) :: (cs ++ (sc ++ l))) w) (hC0 : C[0]? = some (iV n)) (hCt : C[8]? = some (slV t))
    (hn : 0 ≤ n ∧ n ≤ 2000000000) (hl : its.length ≤ 2000000000) (hs : s.len ≤ 1099511627776) (k : ∀ t' its' cs' w', KindO t' its' Kept_Held cs' → its'.length = its.length + 1 → St w0 ((b, (C.set 0 (iV (n + 1))).set 8 (slV t')) :: (cs' ++ l)) w' → R w') : C_towpathlaw01_Book_keepHeld (some ⟨b, 0, none⟩) s w R := by
  apply S_towpathlaw01_Book_keepHeld
  unfold F_towpathlaw01_Book_keepHeld
  have htl := o.len
  obtain ⟨tb, ro, rfl, hph⟩ := o
  have wn : IntKind.i64.wrap (n + 1) = n + 1 := i64_in _ (by omega) (by omega)
  have hCl : 8 < C.length := (List.getElem?_eq_some_iff.1 hCt).1
  refine ⟨rfl, n, st.cell 0 rfl hC0, st.writable 0 rfl (by show 0 + 1 ≤ _; omega), fun w1 hw1 w2 e2 => ?_⟩
  rw [wn] at hw1
  have st := (st.put0 hw1).drew e2
  have e0 : putL (poff (some ⟨b, 0, none⟩ : Option Addr)) [iV (n + 1)] C = C.set 0 (iV (n + 1)) := putL_one ..
  rw [e0] at st
  have hCt' : (C.set 0 (iV (n + 1)))[8]? = some (slV t) := by rw [List.getElem?_set_ne (by decide)]; exact hCt
  have hC0' : (C.set 0 (iV (n + 1)))[0]? = some (iV (n + 1)) := List.getElem?_set_self (by omega)
  have hCt'' : (C.set 0 (iV (n + 1)))[0 + 8]? = some (slV t) := by rw [Nat.zero_add]; exact hCt'
  refine ⟨rfl, t, st.cell 0 rfl hCt'', rfl, n + 1, st.cell 0 rfl hC0', fun b1 w3 hb1 hw3 => ?_⟩
  have st := st.alloc hb1 hw3
  refine ⟨st.cell 1 rfl hCt'', _, srcAt_newN hb1 hw3 rfl, ?_⟩
  have st : St w0 (tb ++ ((b, C.set 0 (iV (n + 1))) :: (itsC its ++ (sc ++ l)))) w3 := by
    have h : St w0 ((b, C.set 0 (iV (n + 1))) :: (tb ++ (itsC its ++ (sc ++ l)))) w3 := by have := st.drop1; simpa using this
    exact h.mid
  refine ro.append st rfl rfl rfl (by rw [htl]; omega) fun t' tb' w4 ro' st hlen => ?_
  have st := st.unmid
  refine ⟨rfl, st.writable 0 rfl (by rw [List.length_set]; show 0 + 8 + 1 ≤ _; omega), fun w5 hw5 => ?_⟩
  have st := st.put0 hw5
  have e1 : putL (poff (some ⟨b, 0, none⟩ : Option Addr) + 8) [slV t'] (C.set 0 (iV (n + 1))) = (C.set 0 (iV (n + 1))).set 8 (slV t') := by rw [putL_one]; rw [show poff (some ⟨b, 0, none⟩ : Option Addr) + 8 = 8 from Nat.zero_add _]
  rw [e1] at st
  refine k t' (its ++ [⟨s, ⟨none, 0, 0⟩, n + 1, sc⟩]) (tb' ++ itsC (its ++ [⟨s, ⟨none, 0, 0⟩, n + 1, sc⟩])) w5 ⟨tb', ?_, rfl, fun it hit => ?_⟩ (by simp) ?_
  · rw [List.flatMap_append]; exact ro'
  · rcases List.mem_append.1 hit with hit | hit
    · exact hph it hit
    · rw [List.mem_singleton] at hit
      rw [hit]
      exact ⟨⟨by show 0 ≤ n + 1; omega, by show n + 1 ≤ 9000000000; omega⟩, hs, xs, r⟩
  · rw [itsC_mid its _ []]
    unfold itsC at st ⊢
    simpa using st

theorem sp_fill_Held {R : World → Prop} (ht : Tab w0.w) (o : KindO t its Kept_Held cs) (st : St w0 ((b, C) :: (cs ++ l)) w) (hCt : C[0 + 8]? = some (slV t)) (hm : its.length ≤ 2000000000)
    (k : ∀ its' cs' w', KindO t its' Filled_Held cs' → its'.length = its.length → St w0 ((b, C) :: (cs' ++ l)) w' → R w') : C_towpathlaw01_Book_fillHeld (some ⟨b, 0, none⟩) w R := by
  apply S_towpathlaw01_Book_fillHeld
  unfold F_towpathlaw01_Book_fillHeld
  generalize hml : its.length = m at *
  refine ⟨fun i w' => ∃ (j : Nat) (cs : List Chunk), i = (j : Int) ∧ j ≤ m ∧ KindI t m j Kept_Held Filled_Held cs ∧ St w0 ((b, C) :: (cs ++ l)) w', fun i _ => m - i.toNat, ⟨0, cs, rfl, by omega, by rw [← hml]; exact KindI.start o, st⟩, ?_⟩
  clear o st
  rintro i w1 ⟨j, cs, rfl, hj, o, st⟩
  unfold F_towpathlaw01_Book_fillHeld_L0
  have htl := o.len
  refine ⟨rfl, t, st.cell 0 rfl hCt, fun h => ?_, fun h => ?_⟩
  · have h := of_decide_eq_true h
    obtain ⟨d, it, r, tb, h1, h2, ro, h3, ⟨hN, hlen, xs, hx⟩, h4, ha, hc, sti⟩ := o.at_ st (by omega)
    refine ⟨rfl, t, st.cell 0 rfl hCt, ha, by omega, h, ⟨it.l, it.long, it.n⟩, ?_, fun b1 w2 hb1 hw2 => ?_⟩
    · rw [Int.toNat_natCast]; exact hc
    have st := sti.alloc hb1 hw2
    clear sti
    refine ⟨st.writable 0 rfl (by simp), fun w3 hw3 => ?_⟩
    have st := st.put0 hw3
    have st : St w0 ((b1, itemCells it) :: (it.cs ++ (((b, C) :: tb) ++ ((itsC d ++ itsC r) ++ l)))) w3 := st
    refine ⟨fun k w' => ∃ (q : Nat) (ys : List Value) (cs : List Chunk), k = (q : Int) ∧ q ≤ it.l.len ∧ RowC 2 it.l ((List.replicate q (markV_Held it.n)).flatMap cel_Held ++ ys) cs ∧ St w0 ((b1, itemCells it) :: (cs ++ (((b, C) :: tb) ++ ((itsC d ++ itsC r) ++ l)))) w', fun k _ => it.l.len - k.toNat, ⟨0, xs, it.cs, rfl, by omega, by simpa using hx, st⟩, ?_⟩
    clear st
    rintro k4 w4 ⟨q, ys, cs, rfl, hq, hr, st⟩
    unfold F_towpathlaw01_Book_fillHeld_L1
    refine ⟨it.l, st.cell 0 rfl rfl, fun hk => ?_, fun hk => ?_⟩
    · have hk := of_decide_eq_true hk
      intro w5 e5
      have st := st.drew e5
      refine ⟨it.l, st.cell 0 rfl rfl, it.n, st.cell 0 rfl rfl, sp_mark_Held hN (ht.ext st.ext) fun w6 e6 => ?_⟩
      have st := st.keep e6
      refine ⟨st.cell 0 rfl rfl, ?_⟩
      have hqs : (q + 1) * 2 ≤ it.l.len * 2 := Nat.mul_le_mul_right _ (by omega)
      obtain ⟨a, wr, hset⟩ := hr.putN (l := (b1, itemCells it) :: (((b, C) :: tb) ++ ((itsC d ++ itsC r) ++ l))) (vs := cel_Held (markV_Held it.n)) (i := q * 2) st.mid (by rw [cel_Held_len]; decide) (by rw [cel_Held_len]; omega)
      rw [cel_Held_len] at wr hset
      skip
      refine ⟨a, by omega, hk, ?_, fun w7 hw7 => ?_⟩
      · rw [Int.toNat_natCast]; exact wr
      rw [Int.toNat_natCast] at hw7
      obtain ⟨cs', hr', st⟩ := hset w7 hw7
      have wq : IntKind.i64.wrap ((q : Int) + 1) = ((q + 1 : Nat) : Int) := by rw [i64_in _ (by omega) (by omega)]; omega
      rw [wq]
      have hrl : ((List.replicate q (markV_Held it.n)).flatMap cel_Held).length = q * 2 := rep_len cel_Held_len q _
      refine ⟨⟨q + 1, ys.drop 2, cs', rfl, by omega, ?_, st.unmid⟩, by show _ - _ < _ - _; omega⟩
      skip
      rw [List.take_left' hrl, rep_succ, List.drop_append, hrl, List.drop_eq_nil_of_le (by omega), List.nil_append, show q * 2 + 2 - q * 2 = 2 from by omega] at hr'
      exact hr'
    · have hk := of_decide_eq_false hk
      have hqe : q = it.l.len := by omega
      subst hqe
      have hr := hr.trimB (rep_len cel_Held_len _ _)
      have wj : IntKind.i64.wrap ((j : Int) + 1) = ((j + 1 : Nat) : Int) := by rw [i64_in _ (by omega) (by omega)]; omega
      rw [wj]
      obtain ⟨cs', o', st'⟩ := KindI.next (it := ⟨it.l, it.long, it.n, cs⟩) (Ph := Kept_Held) (Ph' := Filled_Held) h1 h2 (by simpa [itemCells] using ro) h3 ⟨hN, hlen, hr⟩ h4 st.drop1
      exact ⟨⟨j + 1, cs', rfl, by omega, o', st'⟩, by show _ - _ < _ - _; omega⟩
  · have h := of_decide_eq_false h
    have : j = m := by omega
    subst this
    obtain ⟨its', hl', o'⟩ := o.done
    exact k its' cs _ o' hl' st

theorem sp_grow_Held {R : World → Prop} (ht : Tab w0.w) (o : KindO t its Filled_Held cs) (st : St w0 ((b, C) :: (cs ++ l)) w) (hCt : C[0 + 8]? = some (slV t)) (hm : its.length ≤ 2000000000)
    (k : ∀ its' cs' w', KindO t its' Long_Held cs' → its'.length = its.length → St w0 ((b, C) :: (cs' ++ l)) w' → R w') : C_towpathlaw01_Book_growHeld (some ⟨b, 0, none⟩) w R := by
  apply S_towpathlaw01_Book_growHeld
  unfold F_towpathlaw01_Book_growHeld
  generalize hml : its.length = m at *
  refine ⟨fun i w' => ∃ (j : Nat) (cs : List Chunk), i = (j : Int) ∧ j ≤ m ∧ KindI t m j Filled_Held Long_Held cs ∧ St w0 ((b, C) :: (cs ++ l)) w', fun i _ => m - i.toNat, ⟨0, cs, rfl, by omega, by rw [← hml]; exact KindI.start o, st⟩, ?_⟩
  clear o st
  rintro i w1 ⟨j, cs, rfl, hj, o, st⟩
  unfold F_towpathlaw01_Book_growHeld_L0
  have htl := o.len
  refine ⟨rfl, t, st.cell 0 rfl hCt, fun h => ?_, fun h => ?_⟩
  · have h := of_decide_eq_true h
    obtain ⟨d, it, r, tb, h1, h2, ro, h3, ⟨hN, hlen, hx⟩, h4, ha, hc, sti⟩ := o.at_ st (by omega)
    refine ⟨rfl, t, st.cell 0 rfl hCt, ha, by omega, h, ⟨it.l, it.long, it.n⟩, ?_, fun b1 w2 hb1 hw2 => ?_⟩
    · rw [Int.toNat_natCast]; exact hc
    have st := sti.alloc hb1 hw2
    clear sti
    refine ⟨st.writable 0 rfl (by simp), fun w3 hw3 => ?_⟩
    have st := st.put0 hw3
    have st : St w0 ((b1, itemCells it) :: (it.cs ++ (((b, C) :: tb) ++ ((itsC d ++ itsC r) ++ l)))) w3 := st
    refine ⟨it.l, st.cell 0 rfl rfl, fun long k w' => ∃ (q : Nat) (cs : List Chunk), k = (q : Int) ∧ q ≤ 70 ∧ Grown_Held q ⟨it.l, long, it.n, cs⟩ long ∧ St w0 ((b1, itemCells it) :: (cs ++ (((b, C) :: tb) ++ ((itsC d ++ itsC r) ++ l)))) w', fun _ k _ => 70 - k.toNat, ⟨0, it.cs, rfl, by omega, ⟨hN, hlen, rfl, it.cs, [], by simp, hx, .inl rfl⟩, st⟩, ?_⟩
    clear st
    rintro long k4 w4 ⟨q, cs, rfl, hq, hg, st⟩
    unfold F_towpathlaw01_Book_growHeld_L1
    refine ⟨fun hk => ?_, fun hk => ?_⟩
    · have hk := of_decide_eq_true hk
      refine ⟨it.n, st.cell 0 rfl rfl, sp_mark_Held hN (ht.ext st.ext) fun w5 e5 b2 w6 hb2 hw6 => ?_⟩
      have st := ((st.keep e5).alloc hb2 hw6).drop1
      refine ⟨_, srcAt_newN hb2 hw6 rfl, ?_⟩
      have wq : IntKind.i64.wrap ((q : Int) + 1) = ((q + 1 : Nat) : Int) := by rw [i64_in _ (by omega) (by omega)]; omega
      rw [wq]
      obtain ⟨_, _, hll, c1, c2, hcs, hg, hor⟩ := hg
      have hll : long.len = it.l.len + q := hll
      have hcs : cs = c1 ++ c2 := hcs
      subst hcs
      have st : St w0 (c1 ++ (c2 ++ ((b1, itemCells it) :: (((b, C) :: tb) ++ ((itsC d ++ itsC r) ++ l))))) w6 := by have := st.mid; rwa [List.append_assoc] at this
      refine hg.appendK (by_ := 40) st rfl (by omega) rfl rfl (by rw [hll]; omega) fun s' bs' l' w7 hr7 st hl7 hcase => ?_
      have hr7 : RowC 2 s' ((List.replicate (it.l.len + q) (markV_Held it.n)).flatMap cel_Held ++ cel_Held (markV_Held it.n)) bs' := hr7
      rw [rep_succ] at hr7
      have st : St w0 ((b1, itemCells it) :: ((bs' ++ (l' ++ c2)) ++ (((b, C) :: tb) ++ ((itsC d ++ itsC r) ++ l)))) w7 := by
        refine St.unmid ?_
        simpa only [List.append_assoc] using st
      refine ⟨⟨q + 1, bs' ++ (l' ++ c2), rfl, by omega, ⟨hN, hlen, by show s'.len = it.l.len + (q + 1); omega, bs', l' ++ c2, rfl, hr7, ?_⟩, st⟩, by show _ - _ < _ - _; omega⟩
      rcases hcase with ⟨hp7, rfl⟩ | hb7
      · rcases hor with hp | hsrc
        · exact .inl (hp7.trans hp)
        · exact .inr hsrc
      · have hb7' : l' = c1 := hb7
        subst hb7'
        refine .inr fun w0 l w st => ?_
        rw [List.append_assoc] at st
        rcases hor with hp | hsrc
        · exact rep_src cel_Held_len (hg.src st) hp rfl (by show it.l.len ≤ it.l.len + q; omega) hll
        · exact hsrc w0 l w st.drop
    · have hk := of_decide_eq_false hk
      obtain rfl : q = 70 := by omega
      have hcell : w4.cell? ⟨b, 0 + 8, none⟩ = some (slV t) := st.drop1.drop.cell 0 rfl hCt
      have st : St w0 (tb ++ ((b, C) :: (cs ++ ((itsC d ++ itsC r) ++ l)))) w4 := by
        have h := st.drop1.swap
        exact St.mid h
      have hlt : j * 3 + 1 < t.len * 3 := by omega
      obtain ⟨a, wr, hset⟩ := ro.setN (v := slV long) (i := j * 3 + 1) st hlt
      refine ⟨rfl, t, hcell, a, by omega, h, ?_, fun w8 hw8 => ?_⟩
      · rw [Int.toNat_natCast, Nat.add_assoc]; exact wr
      rw [Int.toNat_natCast, Nat.add_assoc] at hw8
      obtain ⟨tb', ro', st⟩ := hset w8 hw8
      rw [tab_set (cs := cs) h1] at ro'
      have wj : IntKind.i64.wrap ((j : Int) + 1) = ((j + 1 : Nat) : Int) := by rw [i64_in _ (by omega) (by omega)]; omega
      rw [wj]
      have st : St w0 (cs ++ (((b, C) :: tb') ++ ((itsC d ++ itsC r) ++ l))) w8 := by
        have h : St w0 (((b, C) :: tb') ++ (cs ++ ((itsC d ++ itsC r) ++ l))) w8 := St.unmid st
        exact h.swap
      obtain ⟨cs', o', st'⟩ := KindI.next (it := ⟨it.l, long, it.n, cs⟩) (Ph := Filled_Held) (Ph' := Long_Held) h1 h2 ro' h3 hg h4 st
      exact ⟨⟨j + 1, cs', rfl, by omega, o', st'⟩, by show _ - _ < _ - _; omega⟩
  · have h := of_decide_eq_false h
    have : j = m := by omega
    subst this
    obtain ⟨its', hl', o'⟩ := o.done
    exact k its' cs _ o' hl' st

theorem sp_look_Held {R : Bool → World → Prop} (ht : Tab w0.w) (o : KindO t its Long_Held cs) (st : St w0 ((b, C) :: (cs ++ l)) w) (hCt : C[0 + 8]? = some (slV t)) (hm : its.length ≤ 2000000000)
    (k : ∀ w', St w0 ((b, C) :: (cs ++ l)) w' → R true w') : C_towpathlaw01_Book_lookHeld (some ⟨b, 0, none⟩) w R := by
  apply S_towpathlaw01_Book_lookHeld
  unfold F_towpathlaw01_Book_lookHeld
  generalize hml : its.length = m at *
  have hI : ∀ j, j ≤ m → KindI t m j Long_Held Long_Held cs := fun j hj => by
    obtain ⟨tb, ro, rfl, hph⟩ := o
    refine ⟨its.take j, its.drop j, tb, by rw [List.length_take]; omega, by rw [List.length_take, List.length_drop]; omega, by rw [List.take_append_drop]; exact ro, by rw [List.take_append_drop], fun it hit => hph it (List.mem_of_mem_take hit), fun it hit => hph it (List.mem_of_mem_drop hit)⟩
  refine ⟨fun i w' => ∃ (j : Nat), i = (j : Int) ∧ j ≤ m ∧ St w0 ((b, C) :: (cs ++ l)) w', fun i _ => m - i.toNat, ⟨0, rfl, by omega, st⟩, ?_⟩
  clear st
  rintro i w1 ⟨j, rfl, hj, st⟩
  unfold F_towpathlaw01_Book_lookHeld_L0
  have o := hI j hj
  have htl := o.len
  refine ⟨rfl, t, st.cell 0 rfl hCt, fun h => ?_, fun h => ?_⟩
  · have h := of_decide_eq_true h
    obtain ⟨d, it, r, tb, h1, h2, ro, h3, ⟨hN, hlen, hll, c1, c2, hcs, hg, hor⟩, h4, ha, hc, sti⟩ := o.at_ st (by omega)
    refine ⟨rfl, t, st.cell 0 rfl hCt, ha, by omega, h, ⟨it.l, it.long, it.n⟩, ?_, fun b1 w2 hb1 hw2 => ?_⟩
    · rw [Int.toNat_natCast]; exact hc
    have sto := st.alloc hb1 hw2
    have st := sti.alloc hb1 hw2
    clear sti
    refine ⟨st.writable 0 rfl (by simp), fun w3 hw3 => ?_⟩
    have sto : St w0 ((b1, itemCells it) :: ((b, C) :: (cs ++ l))) w3 := sto.put0 hw3
    have st : St w0 ((b1, itemCells it) :: (it.cs ++ (((b, C) :: tb) ++ ((itsC d ++ itsC r) ++ l)))) w3 := st.put0 hw3
    refine ⟨it.long, st.cell 0 rfl rfl, it.l, st.cell 0 rfl rfl, fun hne => ?_, fun _ => ?_⟩
    · exfalso
      rw [hll, i64_in _ (by omega) (by omega)] at hne
      simp at hne
    refine ⟨fun k w' => ∃ (q : Nat), k = (q : Int) ∧ q ≤ it.long.len ∧ St w0 ((b1, itemCells it) :: ((b, C) :: (cs ++ l))) w' ∧ St w0 ((b1, itemCells it) :: (it.cs ++ (((b, C) :: tb) ++ ((itsC d ++ itsC r) ++ l)))) w', fun k _ => it.long.len - k.toNat, ⟨0, rfl, by omega, sto, st⟩, ?_⟩
    clear st sto
    rintro k4 w4 ⟨q, rfl, hq, sto, st⟩
    have hsrc : SrcAt w4 it.long 2 ((List.replicate (it.l.len + 70) (markV_Held it.n)).flatMap cel_Held) ∧ SrcAt w4 it.l 2 ((List.replicate it.l.len (markV_Held it.n)).flatMap cel_Held) := by
      have s1 := st.drop1
      rw [hcs, List.append_assoc] at s1
      refine ⟨hg.src s1, ?_⟩
      rcases hor with hp | hsrc
      · exact rep_src cel_Held_len (hg.src s1) hp rfl (by omega) hll
      · exact hsrc _ _ _ s1.drop
    have rep : ∀ (s : Slc) (p i : Nat), SrcAt w4 s 2 ((List.replicate p (markV_Held it.n)).flatMap cel_Held) → i < s.len → IsAt s.ptr ∧ CellsAt w4 (pblk s.ptr) (poff s.ptr + i * 2) (cel_Held (markV_Held it.n)) := fun s p i hs hi => by
      obtain ⟨a, x, hx, hc⟩ := SrcAt.getN hs cel_Held_len (by decide) (i := (i : Int)) (by omega) (by omega)
      rw [Int.toNat_natCast] at hx hc
      rw [(List.mem_replicate.1 (List.mem_of_getElem? hx)).2] at hc
      exact ⟨a, hc⟩
    unfold F_towpathlaw01_Book_lookHeld_L1
    refine ⟨it.long, st.cell 0 rfl rfl, fun hk => ?_, fun hk => ?_⟩
    · have hk := of_decide_eq_true hk
      obtain ⟨a, hc1⟩ := rep it.long _ q hsrc.1 (by omega)
      have wq : IntKind.i64.wrap ((q : Int) + 1) = ((q + 1 : Nat) : Int) := by rw [i64_in _ (by omega) (by omega)]; omega
      have fin : ∀ w', Ext w4 w' → (∃ (q' : Nat), ((q + 1 : Nat) : Int) = (q' : Int) ∧ q' ≤ it.long.len ∧ St w0 ((b1, itemCells it) :: ((b, C) :: (cs ++ l))) w' ∧ St w0 ((b1, itemCells it) :: (it.cs ++ (((b, C) :: tb) ++ ((itsC d ++ itsC r) ++ l)))) w') := fun w' e => ⟨q + 1, rfl, by omega, sto.keep e, st.keep e⟩
      intro w6 hd6
      have e6 : Ext w4 w6 := Qt.ext hd6
      have st6 := st.keep e6
      refine ⟨it.long, st6.cell 0 rfl rfl, a, by omega, hk, markV_Held it.n, by rw [Int.toNat_natCast]; exact e6.cells hc1, it.n, st6.cell 0 rfl rfl, sp_isK_Held hN (ht.ext st6.ext) fun w7 e7 => ⟨fun hh => (by cases hh), fun _ => ?_⟩⟩
      have st7 := st6.keep e7
      refine ⟨it.l, st7.cell 0 rfl rfl, fun hk2 => ?_, fun hk2 => ?_⟩
      · have hk2 := of_decide_eq_true hk2
        obtain ⟨a2, hc2⟩ := rep it.l _ q hsrc.2 (by omega)
        refine ⟨it.l, st7.cell 0 rfl rfl, a2, by omega, hk2, markV_Held it.n, by rw [Int.toNat_natCast]; exact (e6.trans e7).cells hc2, it.n, st7.cell 0 rfl rfl, sp_isK_Held hN (ht.ext st7.ext) fun w9 e9 => ?_⟩
        unfold F_towpathlaw01_Book_lookHeld_k2
        refine ⟨fun hh => (by cases hh), fun _ => ?_⟩
        rw [wq]
        exact ⟨fin _ ((e6.trans e7).trans e9), by show _ - _ < _ - _; omega⟩
      · unfold F_towpathlaw01_Book_lookHeld_k2
        refine ⟨fun hh => (by cases hh), fun _ => ?_⟩
        rw [wq]
        exact ⟨fin _ (e6.trans e7), by show _ - _ < _ - _; omega⟩
    · have wj : IntKind.i64.wrap ((j : Int) + 1) = ((j + 1 : Nat) : Int) := by rw [i64_in _ (by omega) (by omega)]; omega
      rw [wj]
      exact ⟨⟨j + 1, rfl, by omega, sto.drop1⟩, by show _ - _ < _ - _; omega⟩
  · exact k _ st
end
end Go.Proofs.YtpedclhflmhakaaGreatDoor

namespace Go.Proofs.YtpedclhflmhakaaGreatDoor
open Go
set_option linter.unusedVariables false
set_option linter.unusedSimpArgs false
section
variable {w0 : Base} {w : World} {l : List Chunk} {C : List Value} {b : Nat}
theorem sp_fill_Byte {R : World → Prop} (st : St w0 ((b, C) :: l) w) (hC : C[0 + 1]? = some (slV ⟨none, 0, 0⟩)) (k : R w) : C_towpathlaw01_Book_fillByte (some ⟨b, 0, none⟩) w R := by
  apply S_towpathlaw01_Book_fillByte
  unfold F_towpathlaw01_Book_fillByte
  refine ⟨fun i w' => i = 0 ∧ w' = w, fun _ _ => 0, ⟨rfl, rfl⟩, ?_⟩
  rintro i w' ⟨rfl, rfl⟩
  unfold F_towpathlaw01_Book_fillByte_L0
  exact ⟨rfl, ⟨none, 0, 0⟩, st.cell 0 rfl hC, fun h => (by simp at h), fun _ => k⟩
theorem sp_grow_Byte {R : World → Prop} (st : St w0 ((b, C) :: l) w) (hC : C[0 + 1]? = some (slV ⟨none, 0, 0⟩)) (k : R w) : C_towpathlaw01_Book_growByte (some ⟨b, 0, none⟩) w R := by
  apply S_towpathlaw01_Book_growByte
  unfold F_towpathlaw01_Book_growByte
  refine ⟨fun i w' => i = 0 ∧ w' = w, fun _ _ => 0, ⟨rfl, rfl⟩, ?_⟩
  rintro i w' ⟨rfl, rfl⟩
  unfold F_towpathlaw01_Book_growByte_L0
  exact ⟨rfl, ⟨none, 0, 0⟩, st.cell 0 rfl hC, fun h => (by simp at h), fun _ => k⟩
theorem sp_look_Byte {R : Bool → World → Prop} (st : St w0 ((b, C) :: l) w) (hC : C[0 + 1]? = some (slV ⟨none, 0, 0⟩)) (k : R true w) : C_towpathlaw01_Book_lookByte (some ⟨b, 0, none⟩) w R := by
  apply S_towpathlaw01_Book_lookByte
  unfold F_towpathlaw01_Book_lookByte
  refine ⟨fun i w' => i = 0 ∧ w' = w, fun _ _ => 0, ⟨rfl, rfl⟩, ?_⟩
  rintro i w' ⟨rfl, rfl⟩
  unfold F_towpathlaw01_Book_lookByte_L0
  exact ⟨rfl, ⟨none, 0, 0⟩, st.cell 0 rfl hC, fun h => (by simp at h), fun _ => k⟩
theorem sp_fill_Text {R : World → Prop} (st : St w0 ((b, C) :: l) w) (hC : C[0 + 3]? = some (slV ⟨none, 0, 0⟩)) (k : R w) : C_towpathlaw01_Book_fillText (some ⟨b, 0, none⟩) w R := by
  apply S_towpathlaw01_Book_fillText
  unfold F_towpathlaw01_Book_fillText
  refine ⟨fun i w' => i = 0 ∧ w' = w, fun _ _ => 0, ⟨rfl, rfl⟩, ?_⟩
  rintro i w' ⟨rfl, rfl⟩
  unfold F_towpathlaw01_Book_fillText_L0
  exact ⟨rfl, ⟨none, 0, 0⟩, st.cell 0 rfl hC, fun h => (by simp at h), fun _ => k⟩
theorem sp_grow_Text {R : World → Prop} (st : St w0 ((b, C) :: l) w) (hC : C[0 + 3]? = some (slV ⟨none, 0, 0⟩)) (k : R w) : C_towpathlaw01_Book_growText (some ⟨b, 0, none⟩) w R := by
  apply S_towpathlaw01_Book_growText
  unfold F_towpathlaw01_Book_growText
  refine ⟨fun i w' => i = 0 ∧ w' = w, fun _ _ => 0, ⟨rfl, rfl⟩, ?_⟩
  rintro i w' ⟨rfl, rfl⟩
  unfold F_towpathlaw01_Book_growText_L0
  exact ⟨rfl, ⟨none, 0, 0⟩, st.cell 0 rfl hC, fun h => (by simp at h), fun _ => k⟩
theorem sp_look_Text {R : Bool → World → Prop} (st : St w0 ((b, C) :: l) w) (hC : C[0 + 3]? = some (slV ⟨none, 0, 0⟩)) (k : R true w) : C_towpathlaw01_Book_lookText (some ⟨b, 0, none⟩) w R := by
  apply S_towpathlaw01_Book_lookText
  unfold F_towpathlaw01_Book_lookText
  refine ⟨fun i w' => i = 0 ∧ w' = w, fun _ _ => 0, ⟨rfl, rfl⟩, ?_⟩
  rintro i w' ⟨rfl, rfl⟩
  unfold F_towpathlaw01_Book_lookText_L0
  exact ⟨rfl, ⟨none, 0, 0⟩, st.cell 0 rfl hC, fun h => (by simp at h), fun _ => k⟩
theorem sp_fill_Write {R : World → Prop} (st : St w0 ((b, C) :: l) w) (hC : C[0 + 4]? = some (slV ⟨none, 0, 0⟩)) (k : R w) : C_towpathlaw01_Book_fillWrite (some ⟨b, 0, none⟩) w R := by
  apply S_towpathlaw01_Book_fillWrite
  unfold F_towpathlaw01_Book_fillWrite
  refine ⟨fun i w' => i = 0 ∧ w' = w, fun _ _ => 0, ⟨rfl, rfl⟩, ?_⟩
  rintro i w' ⟨rfl, rfl⟩
  unfold F_towpathlaw01_Book_fillWrite_L0
  exact ⟨rfl, ⟨none, 0, 0⟩, st.cell 0 rfl hC, fun h => (by simp at h), fun _ => k⟩
theorem sp_grow_Write {R : World → Prop} (st : St w0 ((b, C) :: l) w) (hC : C[0 + 4]? = some (slV ⟨none, 0, 0⟩)) (k : R w) : C_towpathlaw01_Book_growWrite (some ⟨b, 0, none⟩) w R := by
  apply S_towpathlaw01_Book_growWrite
  unfold F_towpathlaw01_Book_growWrite
  refine ⟨fun i w' => i = 0 ∧ w' = w, fun _ _ => 0, ⟨rfl, rfl⟩, ?_⟩
  rintro i w' ⟨rfl, rfl⟩
  unfold F_towpathlaw01_Book_growWrite_L0
  exact ⟨rfl, ⟨none, 0, 0⟩, st.cell 0 rfl hC, fun h => (by simp at h), fun _ => k⟩
theorem sp_look_Write {R : Bool → World → Prop} (st : St w0 ((b, C) :: l) w) (hC : C[0 + 4]? = some (slV ⟨none, 0, 0⟩)) (k : R true w) : C_towpathlaw01_Book_lookWrite (some ⟨b, 0, none⟩) w R := by
  apply S_towpathlaw01_Book_lookWrite
  unfold F_towpathlaw01_Book_lookWrite
  refine ⟨fun i w' => i = 0 ∧ w' = w, fun _ _ => 0, ⟨rfl, rfl⟩, ?_⟩
  rintro i w' ⟨rfl, rfl⟩
  unfold F_towpathlaw01_Book_lookWrite_L0
  exact ⟨rfl, ⟨none, 0, 0⟩, st.cell 0 rfl hC, fun h => (by simp at h), fun _ => k⟩
theorem sp_fill_Txn {R : World → Prop} (st : St w0 ((b, C) :: l) w) (hC : C[0 + 7]? = some (slV ⟨none, 0, 0⟩)) (k : R w) : C_towpathlaw01_Book_fillTxn (some ⟨b, 0, none⟩) w R := by
  apply S_towpathlaw01_Book_fillTxn
  unfold F_towpathlaw01_Book_fillTxn
  refine ⟨fun i w' => i = 0 ∧ w' = w, fun _ _ => 0, ⟨rfl, rfl⟩, ?_⟩
  rintro i w' ⟨rfl, rfl⟩
  unfold F_towpathlaw01_Book_fillTxn_L0
  exact ⟨rfl, ⟨none, 0, 0⟩, st.cell 0 rfl hC, fun h => (by simp at h), fun _ => k⟩
theorem sp_grow_Txn {R : World → Prop} (st : St w0 ((b, C) :: l) w) (hC : C[0 + 7]? = some (slV ⟨none, 0, 0⟩)) (k : R w) : C_towpathlaw01_Book_growTxn (some ⟨b, 0, none⟩) w R := by
  apply S_towpathlaw01_Book_growTxn
  unfold F_towpathlaw01_Book_growTxn
  refine ⟨fun i w' => i = 0 ∧ w' = w, fun _ _ => 0, ⟨rfl, rfl⟩, ?_⟩
  rintro i w' ⟨rfl, rfl⟩
  unfold F_towpathlaw01_Book_growTxn_L0
  exact ⟨rfl, ⟨none, 0, 0⟩, st.cell 0 rfl hC, fun h => (by simp at h), fun _ => k⟩
theorem sp_look_Txn {R : Bool → World → Prop} (st : St w0 ((b, C) :: l) w) (hC : C[0 + 7]? = some (slV ⟨none, 0, 0⟩)) (k : R true w) : C_towpathlaw01_Book_lookTxn (some ⟨b, 0, none⟩) w R := by
  apply S_towpathlaw01_Book_lookTxn
  unfold F_towpathlaw01_Book_lookTxn
  refine ⟨fun i w' => i = 0 ∧ w' = w, fun _ _ => 0, ⟨rfl, rfl⟩, ?_⟩
  rintro i w' ⟨rfl, rfl⟩
  unfold F_towpathlaw01_Book_lookTxn_L0
  exact ⟨rfl, ⟨none, 0, 0⟩, st.cell 0 rfl hC, fun h => (by simp at h), fun _ => k⟩
theorem sp_fill_HeldList {R : World → Prop} (st : St w0 ((b, C) :: l) w) (hC : C[0 + 9]? = some (slV ⟨none, 0, 0⟩)) (k : R w) : C_towpathlaw01_Book_fillHeldList (some ⟨b, 0, none⟩) w R := by
  apply S_towpathlaw01_Book_fillHeldList
  unfold F_towpathlaw01_Book_fillHeldList
  refine ⟨fun i w' => i = 0 ∧ w' = w, fun _ _ => 0, ⟨rfl, rfl⟩, ?_⟩
  rintro i w' ⟨rfl, rfl⟩
  unfold F_towpathlaw01_Book_fillHeldList_L0
  exact ⟨rfl, ⟨none, 0, 0⟩, st.cell 0 rfl hC, fun h => (by simp at h), fun _ => k⟩
theorem sp_grow_HeldList {R : World → Prop} (st : St w0 ((b, C) :: l) w) (hC : C[0 + 9]? = some (slV ⟨none, 0, 0⟩)) (k : R w) : C_towpathlaw01_Book_growHeldList (some ⟨b, 0, none⟩) w R := by
  apply S_towpathlaw01_Book_growHeldList
  unfold F_towpathlaw01_Book_growHeldList
  refine ⟨fun i w' => i = 0 ∧ w' = w, fun _ _ => 0, ⟨rfl, rfl⟩, ?_⟩
  rintro i w' ⟨rfl, rfl⟩
  unfold F_towpathlaw01_Book_growHeldList_L0
  exact ⟨rfl, ⟨none, 0, 0⟩, st.cell 0 rfl hC, fun h => (by simp at h), fun _ => k⟩
theorem sp_look_HeldList {R : Bool → World → Prop} (st : St w0 ((b, C) :: l) w) (hC : C[0 + 9]? = some (slV ⟨none, 0, 0⟩)) (k : R true w) : C_towpathlaw01_Book_lookHeldList (some ⟨b, 0, none⟩) w R := by
  apply S_towpathlaw01_Book_lookHeldList
  unfold F_towpathlaw01_Book_lookHeldList
  refine ⟨fun i w' => i = 0 ∧ w' = w, fun _ _ => 0, ⟨rfl, rfl⟩, ?_⟩
  rintro i w' ⟨rfl, rfl⟩
  unfold F_towpathlaw01_Book_lookHeldList_L0
  exact ⟨rfl, ⟨none, 0, 0⟩, st.cell 0 rfl hC, fun h => (by simp at h), fun _ => k⟩
theorem sp_fill_Event {R : World → Prop} (st : St w0 ((b, C) :: l) w) (hC : C[0 + 10]? = some (slV ⟨none, 0, 0⟩)) (k : R w) : C_towpathlaw01_Book_fillEvent (some ⟨b, 0, none⟩) w R := by
  apply S_towpathlaw01_Book_fillEvent
  unfold F_towpathlaw01_Book_fillEvent
  refine ⟨fun i w' => i = 0 ∧ w' = w, fun _ _ => 0, ⟨rfl, rfl⟩, ?_⟩
  rintro i w' ⟨rfl, rfl⟩
  unfold F_towpathlaw01_Book_fillEvent_L0
  exact ⟨rfl, ⟨none, 0, 0⟩, st.cell 0 rfl hC, fun h => (by simp at h), fun _ => k⟩
theorem sp_grow_Event {R : World → Prop} (st : St w0 ((b, C) :: l) w) (hC : C[0 + 10]? = some (slV ⟨none, 0, 0⟩)) (k : R w) : C_towpathlaw01_Book_growEvent (some ⟨b, 0, none⟩) w R := by
  apply S_towpathlaw01_Book_growEvent
  unfold F_towpathlaw01_Book_growEvent
  refine ⟨fun i w' => i = 0 ∧ w' = w, fun _ _ => 0, ⟨rfl, rfl⟩, ?_⟩
  rintro i w' ⟨rfl, rfl⟩
  unfold F_towpathlaw01_Book_growEvent_L0
  exact ⟨rfl, ⟨none, 0, 0⟩, st.cell 0 rfl hC, fun h => (by simp at h), fun _ => k⟩
theorem sp_look_Event {R : Bool → World → Prop} (st : St w0 ((b, C) :: l) w) (hC : C[0 + 10]? = some (slV ⟨none, 0, 0⟩)) (k : R true w) : C_towpathlaw01_Book_lookEvent (some ⟨b, 0, none⟩) w R := by
  apply S_towpathlaw01_Book_lookEvent
  unfold F_towpathlaw01_Book_lookEvent
  refine ⟨fun i w' => i = 0 ∧ w' = w, fun _ _ => 0, ⟨rfl, rfl⟩, ?_⟩
  rintro i w' ⟨rfl, rfl⟩
  unfold F_towpathlaw01_Book_lookEvent_L0
  exact ⟨rfl, ⟨none, 0, 0⟩, st.cell 0 rfl hC, fun h => (by simp at h), fun _ => k⟩
theorem sp_fill_Answer {R : World → Prop} (st : St w0 ((b, C) :: l) w) (hC : C[0 + 11]? = some (slV ⟨none, 0, 0⟩)) (k : R w) : C_towpathlaw01_Book_fillAnswer (some ⟨b, 0, none⟩) w R := by
  apply S_towpathlaw01_Book_fillAnswer
  unfold F_towpathlaw01_Book_fillAnswer
  refine ⟨fun i w' => i = 0 ∧ w' = w, fun _ _ => 0, ⟨rfl, rfl⟩, ?_⟩
  rintro i w' ⟨rfl, rfl⟩
  unfold F_towpathlaw01_Book_fillAnswer_L0
  exact ⟨rfl, ⟨none, 0, 0⟩, st.cell 0 rfl hC, fun h => (by simp at h), fun _ => k⟩
theorem sp_grow_Answer {R : World → Prop} (st : St w0 ((b, C) :: l) w) (hC : C[0 + 11]? = some (slV ⟨none, 0, 0⟩)) (k : R w) : C_towpathlaw01_Book_growAnswer (some ⟨b, 0, none⟩) w R := by
  apply S_towpathlaw01_Book_growAnswer
  unfold F_towpathlaw01_Book_growAnswer
  refine ⟨fun i w' => i = 0 ∧ w' = w, fun _ _ => 0, ⟨rfl, rfl⟩, ?_⟩
  rintro i w' ⟨rfl, rfl⟩
  unfold F_towpathlaw01_Book_growAnswer_L0
  exact ⟨rfl, ⟨none, 0, 0⟩, st.cell 0 rfl hC, fun h => (by simp at h), fun _ => k⟩
theorem sp_look_Answer {R : Bool → World → Prop} (st : St w0 ((b, C) :: l) w) (hC : C[0 + 11]? = some (slV ⟨none, 0, 0⟩)) (k : R true w) : C_towpathlaw01_Book_lookAnswer (some ⟨b, 0, none⟩) w R := by
  apply S_towpathlaw01_Book_lookAnswer
  unfold F_towpathlaw01_Book_lookAnswer
  refine ⟨fun i w' => i = 0 ∧ w' = w, fun _ _ => 0, ⟨rfl, rfl⟩, ?_⟩
  rintro i w' ⟨rfl, rfl⟩
  unfold F_towpathlaw01_Book_lookAnswer_L0
  exact ⟨rfl, ⟨none, 0, 0⟩, st.cell 0 rfl hC, fun h => (by simp at h), fun _ => k⟩
end
def bookC (n : Int) (t0 t1 t2 t3 : Slc) : List Value := [iV n, slV ⟨none, 0, 0⟩, slV t0, slV ⟨none, 0, 0⟩, slV ⟨none, 0, 0⟩, slV t1, slV t2, slV ⟨none, 0, 0⟩, slV t3, slV ⟨none, 0, 0⟩, slV ⟨none, 0, 0⟩, slV ⟨none, 0, 0⟩]
theorem sp_Apart {w0 : Base} {w : World} {l cs0 cs1 cs2 cs3 : List Chunk} {b : Nat} {n : Int} {t0 t1 t2 t3 : Slc} {its0 its1 its2 its3 : List Item} {R : Bool → World → Prop} (ht : Tab w0.w) (o0 : KindO t0 its0 Kept_Int cs0) (hm0 : its0.length ≤ 2000000000) (o1 : KindO t1 its1 Kept_Entry cs1) (hm1 : its1.length ≤ 2000000000) (o2 : KindO t2 its2 Kept_Version cs2) (hm2 : its2.length ≤ 2000000000) (o3 : KindO t3 its3 Kept_Held cs3) (hm3 : its3.length ≤ 2000000000) (st : St w0 ((b, bookC n t0 t1 t2 t3) :: (cs0 ++ (cs1 ++ (cs2 ++ (cs3 ++ l))))) w)
    (k : ∀ cs0 cs1 cs2 cs3 w', St w0 ((b, bookC n t0 t1 t2 t3) :: (cs0 ++ (cs1 ++ (cs2 ++ (cs3 ++ l))))) w' → R true w') : C_towpathlaw01_Book_Apart (some ⟨b, 0, none⟩) w R := by
  apply S_towpathlaw01_Book_Apart
  unfold F_towpathlaw01_Book_Apart
  refine sp_fill_Byte st rfl ?_
  refine sp_fill_Int ht o0 st rfl (by omega) fun its0 cs0 w o0 hl0 st => ?_
  have hm0 : its0.length ≤ 2000000000 := by omega
  refine sp_fill_Text st rfl ?_
  refine sp_fill_Write st rfl ?_
  have st : St w0 ((b, bookC n t0 t1 t2 t3) :: (cs1 ++ (cs0 ++ (cs2 ++ (cs3 ++ l))))) w := st.perm (perm_of_sum fun f_ => by simp <;> omega)
  refine sp_fill_Entry ht o1 st rfl (by omega) fun its1 cs1 w o1 hl1 st => ?_
  have hm1 : its1.length ≤ 2000000000 := by omega
  have st : St w0 ((b, bookC n t0 t1 t2 t3) :: (cs0 ++ (cs1 ++ (cs2 ++ (cs3 ++ l))))) w := st.perm (perm_of_sum fun f_ => by simp <;> omega)
  have st : St w0 ((b, bookC n t0 t1 t2 t3) :: (cs2 ++ (cs0 ++ (cs1 ++ (cs3 ++ l))))) w := st.perm (perm_of_sum fun f_ => by simp <;> omega)
  refine sp_fill_Version ht o2 st rfl (by omega) fun its2 cs2 w o2 hl2 st => ?_
  have hm2 : its2.length ≤ 2000000000 := by omega
  have st : St w0 ((b, bookC n t0 t1 t2 t3) :: (cs0 ++ (cs1 ++ (cs2 ++ (cs3 ++ l))))) w := st.perm (perm_of_sum fun f_ => by simp <;> omega)
  refine sp_fill_Txn st rfl ?_
  have st : St w0 ((b, bookC n t0 t1 t2 t3) :: (cs3 ++ (cs0 ++ (cs1 ++ (cs2 ++ l))))) w := st.perm (perm_of_sum fun f_ => by simp <;> omega)
  refine sp_fill_Held ht o3 st rfl (by omega) fun its3 cs3 w o3 hl3 st => ?_
  have hm3 : its3.length ≤ 2000000000 := by omega
  have st : St w0 ((b, bookC n t0 t1 t2 t3) :: (cs0 ++ (cs1 ++ (cs2 ++ (cs3 ++ l))))) w := st.perm (perm_of_sum fun f_ => by simp <;> omega)
  refine sp_fill_HeldList st rfl ?_
  refine sp_fill_Event st rfl ?_
  refine sp_fill_Answer st rfl ?_
  refine sp_grow_Byte st rfl ?_
  refine sp_grow_Int ht o0 st rfl (by omega) fun its0 cs0 w o0 hl0 st => ?_
  have hm0 : its0.length ≤ 2000000000 := by omega
  refine sp_grow_Text st rfl ?_
  refine sp_grow_Write st rfl ?_
  have st : St w0 ((b, bookC n t0 t1 t2 t3) :: (cs1 ++ (cs0 ++ (cs2 ++ (cs3 ++ l))))) w := st.perm (perm_of_sum fun f_ => by simp <;> omega)
  refine sp_grow_Entry ht o1 st rfl (by omega) fun its1 cs1 w o1 hl1 st => ?_
  have hm1 : its1.length ≤ 2000000000 := by omega
  have st : St w0 ((b, bookC n t0 t1 t2 t3) :: (cs0 ++ (cs1 ++ (cs2 ++ (cs3 ++ l))))) w := st.perm (perm_of_sum fun f_ => by simp <;> omega)
  have st : St w0 ((b, bookC n t0 t1 t2 t3) :: (cs2 ++ (cs0 ++ (cs1 ++ (cs3 ++ l))))) w := st.perm (perm_of_sum fun f_ => by simp <;> omega)
  refine sp_grow_Version ht o2 st rfl (by omega) fun its2 cs2 w o2 hl2 st => ?_
  have hm2 : its2.length ≤ 2000000000 := by omega
  have st : St w0 ((b, bookC n t0 t1 t2 t3) :: (cs0 ++ (cs1 ++ (cs2 ++ (cs3 ++ l))))) w := st.perm (perm_of_sum fun f_ => by simp <;> omega)
  refine sp_grow_Txn st rfl ?_
  have st : St w0 ((b, bookC n t0 t1 t2 t3) :: (cs3 ++ (cs0 ++ (cs1 ++ (cs2 ++ l))))) w := st.perm (perm_of_sum fun f_ => by simp <;> omega)
  refine sp_grow_Held ht o3 st rfl (by omega) fun its3 cs3 w o3 hl3 st => ?_
  have hm3 : its3.length ≤ 2000000000 := by omega
  have st : St w0 ((b, bookC n t0 t1 t2 t3) :: (cs0 ++ (cs1 ++ (cs2 ++ (cs3 ++ l))))) w := st.perm (perm_of_sum fun f_ => by simp <;> omega)
  refine sp_grow_HeldList st rfl ?_
  refine sp_grow_Event st rfl ?_
  refine sp_grow_Answer st rfl ?_
  refine sp_look_Byte st rfl ?_
  refine ⟨fun _ => ?_, fun h => (by cases h)⟩
  refine sp_look_Int ht o0 st rfl (by omega) fun w st => ?_
  refine ⟨fun _ => ?_, fun h => (by cases h)⟩
  refine sp_look_Text st rfl ?_
  refine ⟨fun _ => ?_, fun h => (by cases h)⟩
  refine sp_look_Write st rfl ?_
  refine ⟨fun _ => ?_, fun h => (by cases h)⟩
  have st : St w0 ((b, bookC n t0 t1 t2 t3) :: (cs1 ++ (cs0 ++ (cs2 ++ (cs3 ++ l))))) w := st.perm (perm_of_sum fun f_ => by simp <;> omega)
  refine sp_look_Entry ht o1 st rfl (by omega) fun w st => ?_
  have st : St w0 ((b, bookC n t0 t1 t2 t3) :: (cs0 ++ (cs1 ++ (cs2 ++ (cs3 ++ l))))) w := st.perm (perm_of_sum fun f_ => by simp <;> omega)
  refine ⟨fun _ => ?_, fun h => (by cases h)⟩
  have st : St w0 ((b, bookC n t0 t1 t2 t3) :: (cs2 ++ (cs0 ++ (cs1 ++ (cs3 ++ l))))) w := st.perm (perm_of_sum fun f_ => by simp <;> omega)
  refine sp_look_Version ht o2 st rfl (by omega) fun w st => ?_
  have st : St w0 ((b, bookC n t0 t1 t2 t3) :: (cs0 ++ (cs1 ++ (cs2 ++ (cs3 ++ l))))) w := st.perm (perm_of_sum fun f_ => by simp <;> omega)
  refine ⟨fun _ => ?_, fun h => (by cases h)⟩
  refine sp_look_Txn st rfl ?_
  refine ⟨fun _ => ?_, fun h => (by cases h)⟩
  have st : St w0 ((b, bookC n t0 t1 t2 t3) :: (cs3 ++ (cs0 ++ (cs1 ++ (cs2 ++ l))))) w := st.perm (perm_of_sum fun f_ => by simp <;> omega)
  refine sp_look_Held ht o3 st rfl (by omega) fun w st => ?_
  have st : St w0 ((b, bookC n t0 t1 t2 t3) :: (cs0 ++ (cs1 ++ (cs2 ++ (cs3 ++ l))))) w := st.perm (perm_of_sum fun f_ => by simp <;> omega)
  refine ⟨fun _ => ?_, fun h => (by cases h)⟩
  refine sp_look_HeldList st rfl ?_
  refine ⟨fun _ => ?_, fun h => (by cases h)⟩
  refine sp_look_Event st rfl ?_
  refine ⟨fun _ => ?_, fun h => (by cases h)⟩
  refine sp_look_Answer st rfl ?_
  exact k _ _ _ _ _ st
end Go.Proofs.YtpedclhflmhakaaGreatDoor

namespace Go.Proofs.YtpedclhflmhakaaGreatDoor
open Go
set_option linter.unusedVariables false
set_option linter.unusedSimpArgs false

section
variable {w0 : Base} {w : World} {l cs sc : List Chunk} {C : List Value} {b : Nat} {n : Int} {t s : Slc} {its : List Item} {xs : List Value} {R : World → Prop}
theorem sp_Book_Req (o : KindO t its Kept_Int cs) {q : Rq} (r : RowC 1 s xs sc) (st : St w0 ((b, C) :: (cs ++ (sc ++ l))) w) (hC0 : C[0]? = some (iV n)) (hCt : C[2]? = some (slV t)) (hn : 0 ≤ n ∧ n ≤ 2000000000) (hl : its.length ≤ 2000000000) (hs : s.len ≤ 1099511627776)
    (k : ∀ t' its' cs' w', KindO t' its' Kept_Int cs' → its'.length = its.length + 1 → St w0 ((b, (C.set 0 (iV (n + 1))).set 2 (slV t')) :: (cs' ++ l)) w' → R w') : C_towpathlaw01_Book_Req (some ⟨b, 0, none⟩) (rqT q s) w R := by
  apply S_towpathlaw01_Book_Req
  unfold F_towpathlaw01_Book_Req
  intro b5 w19 hb5 hw19
  have st19 := st.alloc (cs := rqV q s) hb5 hw19
  exact ⟨s, st19.cell 0 rfl rfl, sp_KINDs_Int o r st19.drop1 hC0 hCt hn hl hs k⟩
theorem sp_Book_Ans (o : KindO t its Kept_Entry cs) {a : T_api_Answer} (r : RowC 2 a.Entries xs sc) (st : St w0 ((b, C) :: (cs ++ (sc ++ l))) w) (hC0 : C[0]? = some (iV n)) (hCt : C[5]? = some (slV t)) (hn : 0 ≤ n ∧ n ≤ 2000000000) (hl : its.length ≤ 2000000000) (hs : a.Entries.len ≤ 1099511627776)
    (k : ∀ t' its' cs' w', KindO t' its' Kept_Entry cs' → its'.length = its.length + 1 → St w0 ((b, (C.set 0 (iV (n + 1))).set 5 (slV t')) :: (cs' ++ l)) w' → R w') : C_towpathlaw01_Book_Answer (some ⟨b, 0, none⟩) a w R := by
  apply S_towpathlaw01_Book_Answer
  unfold F_towpathlaw01_Book_Answer
  intro b5 w19 hb5 hw19
  have st19 := st.alloc (cs := anT a) hb5 hw19
  exact ⟨a.Entries, st19.cell 0 rfl rfl, sp_KINDs_Entry o r st19.drop1 hC0 hCt hn hl hs k⟩
end
theorem sp_Book_Helds {w0 : Base} {w : World} {l hc cs2 cs3 : List Chunk} {b : Nat} {n : Int} {sl t0 t1 t2 t3 : Slc} {hs : List Hd} {its2 its3 : List Item} {R : World → Prop} (o2 : KindO t2 its2 Kept_Version cs2) (o3 : KindO t3 its3 Kept_Held cs3) (hh : HdsO sl hs hc)
    (st : St w0 ((b, bookC n t0 t1 t2 t3) :: (cs2 ++ (cs3 ++ (hc ++ l)))) w) (hn : 0 ≤ n ∧ n + hs.length ≤ 1999999999) (h2 : its2.length + hs.length ≤ 1999999999) (h3 : its3.length ≤ 1999999999) (hb : ∀ h ∈ hs, h.2.length ≤ 1048576) (hl : hs.length ≤ 16777216)
    (k : ∀ t2' its2' cs2' t3' its3' cs3' w', KindO t2' its2' Kept_Version cs2' → its2'.length = its2.length + hs.length → KindO t3' its3' Kept_Held cs3' → its3'.length = its3.length + 1 → St w0 ((b, bookC (n + hs.length + 1) t0 t1 t2' t3') :: (cs2' ++ (cs3' ++ l))) w' → R w') : C_towpathlaw01_Book_Helds (some ⟨b, 0, none⟩) sl w R := by
  apply S_towpathlaw01_Book_Helds
  obtain ⟨vsl, tb, wb, rfl, r, ps⟩ := hh
  have hll := ps.len
  have hzl : (hs.zip vsl).length = hs.length := by rw [List.length_zip, hll, Nat.min_self]
  have hsl : sl.len = hs.length := by have := r.len; rw [flatMap_len (sz := 2) (fun _ => rfl), hzl] at this; omega
  refine ⟨fun i w' => ∃ (p : Nat) (t2 : Slc) (its2' : List Item) (cs2 wb : List Chunk), i = (p : Int) ∧ p ≤ sl.len ∧ KindO t2 its2' Kept_Version cs2 ∧ its2'.length = its2.length + p ∧ Parts InV (hs.drop p) (vsl.drop p) wb ∧ St w0 ((b, bookC (n + p) t0 t1 t2 t3) :: (cs2 ++ (cs3 ++ (tb ++ (wb ++ l))))) w', fun i _ => sl.len - i.toNat, ⟨0, t2, its2, cs2, wb, rfl, by omega, o2, rfl, by simpa using ps, by simpa using st⟩, ?_⟩
  clear st o2 ps
  rintro i w1 ⟨p, t2, its2', cs2, wb, rfl, hp, o2, hl2, ps, st⟩
  unfold F_towpathlaw01_Book_Helds_L0
  refine ⟨fun hi => ?_, fun hi => ?_⟩
  · have hi := of_decide_eq_true hi
    have hpl : p < hs.length := by omega
    have st' : St w0 (tb ++ ((b, bookC (n + p) t0 t1 t2 t3) :: (cs2 ++ (cs3 ++ (wb ++ l))))) w1 := st.perm (perm_of_sum fun f_ => by simp <;> omega)
    obtain ⟨a, x, hx, hc⟩ := SrcAt.getN (r.src st') (fun _ => rfl) (by decide) (i := (p : Int)) (by omega) (by omega)
    rw [Int.toNat_natCast] at hx hc
    obtain ⟨hx1, hx2⟩ := List.getElem?_zip_eq_some.1 hx
    obtain ⟨g1, g1'⟩ := List.getElem?_eq_some_iff.1 hx1
    obtain ⟨g2, g2'⟩ := List.getElem?_eq_some_iff.1 hx2
    rw [List.drop_eq_getElem_cons g1, List.drop_eq_getElem_cons g2, g1', g2'] at ps
    obtain ⟨c, wb', rfl, hi2, ps⟩ := ps.cons
    have wp : IntKind.i64.wrap ((p : Int) + 1) = ((p + 1 : Nat) : Int) := by rw [i64_in _ (by omega) (by omega)]; omega
    have hsm := hb _ (List.mem_of_getElem? hx1)
    have hi2 : RowC 3 x.2 (x.1.2.flatMap verV) c := hi2
    have htw : x.2.len = x.1.2.length := by have := hi2.len; rw [flatMap_len (sz := 3) (fun _ => rfl)] at this; omega
    refine ⟨a, by omega, hi, x.2, by rw [Int.toNat_natCast]; exact hc.2.1, ?_⟩
    have st2 : St w0 ((b, bookC (n + p) t0 t1 t2 t3) :: (cs2 ++ (c ++ (cs3 ++ (tb ++ (wb' ++ l)))))) w1 := st.perm (perm_of_sum fun f_ => by simp <;> omega)
    refine sp_KINDs_Version o2 hi2 st2 rfl rfl (by omega) (by omega) (by omega) fun t2' its2'' cs2' w2 o2' hl2' st3 => ?_
    have st3 : St w0 ((b, bookC (n + p + 1) t0 t1 t2' t3) :: (cs2' ++ (cs3 ++ (tb ++ (wb' ++ l))))) w2 := st3
    rw [wp]
    have e : n + ((p + 1 : Nat) : Int) = n + p + 1 := by omega
    exact ⟨⟨p + 1, t2', its2'', cs2', wb', rfl, by omega, o2', by omega, ps, by rw [e]; exact st3⟩, by show _ - _ < _ - _; omega⟩
  · have hi := of_decide_eq_false hi
    obtain rfl : p = hs.length := by omega
    rw [List.drop_length, List.drop_of_length_le (by omega)] at ps
    obtain rfl : wb = [] := ps
    have st2 : St w0 ((b, bookC (n + hs.length) t0 t1 t2 t3) :: (cs3 ++ (tb ++ (cs2 ++ l)))) w1 := st.perm (perm_of_sum fun f_ => by simp <;> omega)
    refine sp_keep_Held o3 r st2 rfl rfl (by omega) (by omega) (by omega) fun t3' its3' cs3' w2 o3' hl3 st3 => ?_
    have st3 : St w0 ((b, bookC (n + hs.length + 1) t0 t1 t2 t3') :: (cs3' ++ (cs2 ++ l))) w2 := st3
    exact k t2 its2' cs2 t3' its3' cs3' w2 o2 hl2 o3' hl3 (st3.perm (perm_of_sum fun f_ => by simp <;> omega))

/-- A task, and a book of all that it has told in some rounds. -/
def OwnI (w0 : Base) (bk : Nat) (t : Option Addr) (p : Nat) (w : World) : Prop :=
  ∃ (m : Option TkM) (cs : List Chunk) (n : Int) (t0 t1 t2 t3 : Slc) (its0 its1 its2 its3 : List Item) (cs0 cs1 cs2 cs3 d : List Chunk), TkO t m cs ∧ KindO t0 its0 Kept_Int cs0 ∧ KindO t1 its1 Kept_Entry cs1 ∧ KindO t2 its2 Kept_Version cs2 ∧ KindO t3 its3 Kept_Held cs3 ∧
    (its0.length ≤ p ∧ its1.length ≤ p ∧ its2.length ≤ 16777216 * p ∧ its3.length ≤ p) ∧ (0 ≤ n ∧ n ≤ 16777219 * p) ∧ St w0 ((bk, bookC n t0 t1 t2 t3) :: (cs0 ++ (cs1 ++ (cs2 ++ (cs3 ++ (cs ++ d)))))) w
theorem sp_own_k1 {w0 : Base} {w : World} {bk p : Nat} {t : Option Addr} {i : Int} {again_ : Int → World → Prop} (h : OwnI w0 bk t p w) (hp : p < 40) (k : ∀ w', OwnI w0 bk t (p + 1) w' → again_ (IntKind.i64.wrap (i + 1)) w') : F_towpathlaw17_CallOwn_k1 t bk i again_ w := by
  obtain ⟨m, cs, n, t0, t1, t2, t3, its0, its1, its2, its3, cs0, cs1, cs2, cs3, d, o, o0, o1, o2, o3, hl, hn, st⟩ := h
  unfold F_towpathlaw17_CallOwn_k1
  have st0 : St w0 (cs ++ ((bk, bookC n t0 t1 t2 t3) :: (cs0 ++ (cs1 ++ (cs2 ++ (cs3 ++ d)))))) w := st.perm (perm_of_sum fun f_ => by simp <;> omega)
  refine sp_tk_Next o st0 fun s rb w1 r1 st1 b w2 hb hw2 => ?_
  have z1 := r1.len
  have nbl := next_bey o
  rw [List.length_map] at z1
  have st2 := st1.alloc (cs := zRq) hb hw2
  refine ⟨st2.writable 0 rfl (by decide), fun w3 hw3 => ?_⟩
  have st3 : St w0 ((b, rqV (nextM m).2.1 s) :: (rb ++ (cs ++ ((bk, bookC n t0 t1 t2 t3) :: (cs0 ++ (cs1 ++ (cs2 ++ (cs3 ++ d)))))))) w3 := st2.put0 hw3
  have st3 : St w0 (cs ++ ((b, rqV (nextM m).2.1 s) :: (rb ++ ((bk, bookC n t0 t1 t2 t3) :: (cs0 ++ (cs1 ++ (cs2 ++ (cs3 ++ d)))))))) w3 := st3.perm (perm_of_sum fun f_ => by simp <;> omega)
  refine sp_tk_Answer o st3 fun sa held ec hc d2 w10 ra hh st10 b2 w11 hb2 hw11 => ?_
  have st11 := st10.alloc (cs := anT zAn) hb2 hw11
  refine ⟨st11.writable 0 rfl (by decide), fun w12 hw12 => ?_⟩
  have st12 : St w0 ((b2, anT ⟨0, (anR m).mark, (anR m).ok, sa, (anR m).cnt⟩) :: (ec ++ (hc ++ (cs ++ (d2 ++ ((b, rqV (nextM m).2.1 s) :: (rb ++ ((bk, bookC n t0 t1 t2 t3) :: (cs0 ++ (cs1 ++ (cs2 ++ (cs3 ++ d)))))))))))) w12 := st11.put0 hw12
  have st12 : St w0 ((bk, bookC n t0 t1 t2 t3) :: (cs0 ++ (rb ++ ((b2, anT ⟨0, (anR m).mark, (anR m).ok, sa, (anR m).cnt⟩) :: (b, rqV (nextM m).2.1 s) :: (ec ++ (hc ++ (cs1 ++ (cs2 ++ (cs3 ++ (cs ++ (d2 ++ d))))))))))) w12 := st12.perm (perm_of_sum fun f_ => by simp <;> omega)
  have st12q : St w0 ((b, rqV (nextM m).2.1 s) :: (b2, anT ⟨0, (anR m).mark, (anR m).ok, sa, (anR m).cnt⟩) :: ((bk, bookC n t0 t1 t2 t3) :: (cs0 ++ (rb ++ (ec ++ (hc ++ (cs1 ++ (cs2 ++ (cs3 ++ (cs ++ (d2 ++ d)))))))))))  w12 := st12.perm (perm_of_sum fun f_ => by simp <;> omega)
  refine ⟨rqT (nextM m).2.1 s, (st12q.get 0 rfl).all, ?_⟩
  obtain ⟨as1, as2, as3⟩ := ans_small o
  have hsl := ra.len
  rw [flatMap_len (sz := 2) (fun _ => rfl)] at hsl
  refine sp_Book_Req o0 r1 st12 rfl rfl (by omega) (by omega) (by omega) fun t0' its0' cs0' w13 o0' hl0 st13 => ?_
  have st13 : St w0 ((bk, bookC (n + 1) t0' t1 t2 t3) :: (cs0' ++ ((b2, anT ⟨0, (anR m).mark, (anR m).ok, sa, (anR m).cnt⟩) :: (b, rqV (nextM m).2.1 s) :: (ec ++ (hc ++ (cs1 ++ (cs2 ++ (cs3 ++ (cs ++ (d2 ++ d)))))))))) w13 := st13
  have st13 : St w0 ((b2, anT ⟨0, (anR m).mark, (anR m).ok, sa, (anR m).cnt⟩) :: ((bk, bookC (n + 1) t0' t1 t2 t3) :: (cs1 ++ (ec ++ (cs0' ++ ((b, rqV (nextM m).2.1 s) :: (hc ++ (cs2 ++ (cs3 ++ (cs ++ (d2 ++ d))))))))))) w13 := st13.perm (perm_of_sum fun f_ => by simp <;> omega)
  refine ⟨⟨0, (anR m).mark, (anR m).ok, sa, (anR m).cnt⟩, (st13.get 0 rfl).all, ?_⟩
  refine sp_Book_Ans (a := ⟨0, (anR m).mark, (anR m).ok, sa, (anR m).cnt⟩) o1 ra st13.drop1 rfl rfl (by omega) (by omega) (by show sa.len ≤ _; omega) fun t1' its1' cs1' w14 o1' hl1 st14 => ?_
  have st14 : St w0 ((bk, bookC (n + 1 + 1) t0' t1' t2 t3) :: (cs1' ++ (cs0' ++ ((b, rqV (nextM m).2.1 s) :: (hc ++ (cs2 ++ (cs3 ++ (cs ++ (d2 ++ d))))))))) w14 := st14
  have st14 : St w0 ((bk, bookC (n + 1 + 1) t0' t1' t2 t3) :: (cs2 ++ (cs3 ++ (hc ++ (cs0' ++ (cs1' ++ ((b, rqV (nextM m).2.1 s) :: (cs ++ (d2 ++ d))))))))) w14 := st14.perm (perm_of_sum fun f_ => by simp <;> omega)
  refine sp_Book_Helds o2 o3 hh st14 (by omega) (by omega) (by omega) as3 as2 fun t2' its2' cs2' t3' its3' cs3' w15 o2' hl2 o3' hl3 st15 => ?_
  exact k w15 ⟨m, cs, n + 1 + 1 + ((anR m).hs.length : Int) + 1, t0', t1', t2', t3', its0', its1', its2', its3', cs0', cs1', cs2', cs3', (b, rqV (nextM m).2.1 s) :: (d2 ++ d), o, o0', o1', o2', o3', by omega, by omega, st15.perm (perm_of_sum fun f_ => by simp <;> omega)⟩

theorem law_CallOwn (x0 : T_towpathlaw17_Made) (x1 : Slc) (w : World) (h0 : Ok_T_towpathlaw17_Made w x0) (h1 : OkSlU w x1 9 120 (fun es => ∃ e_ : T_towpathlaw17_Ask, es = askT e_ ∧ (Ok_T_towpathlaw17_Ask w e_))) (hT : Tab w) : C_towpathlaw17_CallOwn x0 x1 w (fun b w' => b = true ∧ RowKit.Below w.heap.size w w') := by
  obtain ⟨asks, hs, hcl, hcap, hlen, hok⟩ := ok_list (f := askT) (Pr := Ok_T_towpathlaw17_Ask w) h1.1 (fun es ⟨e, he, hb⟩ => ⟨e, he, hb⟩) (fun _ => rfl) (by decide)
  apply S_towpathlaw17_CallOwn
  unfold F_towpathlaw17_CallOwn
  intro b w1 hb hw
  obtain ⟨md, hmd⟩ : ∃ md : List Value, md = [Value.int .i64 x0.Number, Value.int .i64 x0.Config.Lanes, Value.int .i64 x0.Config.Shards, Value.int .i64 x0.Config.Window, Value.int .i64 x0.Config.Queue, Value.int .u8 x0.Call.Kind, Value.string x0.Call.Key, Value.string x0.Call.End] := ⟨_, rfl⟩
  have st1 : St ⟨w, []⟩ [(b, md)] w1 := by rw [hmd]; exact (St.start w).alloc hb hw
  have rd : ∀ {l : List Chunk} {w' : World}, St ⟨w, []⟩ (l ++ [(b, md)]) w' → w'.cell? ⟨b, 0, none⟩ = some (Value.int .i64 x0.Number) ∧ CellsAt w' b 1 (cfgV x0.Config) ∧ CellsAt w' b 5 (callV x0.Call) := fun {l w'} st' => by
    have st' : St ⟨w, []⟩ ((b, md) :: l) w' := st'.perm (perm_of_sum fun f_ => by simp <;> omega)
    rw [hmd] at st'
    exact ⟨st'.cell 0 rfl rfl, ⟨st'.cell 0 rfl rfl, st'.cell 0 rfl rfl, st'.cell 0 rfl rfl, st'.cell 0 rfl rfl, trivial⟩, ⟨st'.cell 0 rfl rfl, st'.cell 0 rfl rfl, st'.cell 0 rfl rfl, trivial⟩⟩
  obtain ⟨r1, r2, r3⟩ := rd (l := []) st1
  refine ⟨x0.Number, r1, x0.Config, r2, x0.Call, r3, ?_⟩
  refine sp_call_New st1 (fun hne w2 st2 => ⟨fun _ => sp_lives fun w4 e4 => ⟨rfl, (st2.keep e4).below⟩, fun h => ?_⟩) (fun he b2 cs w2 o2 st2 => ⟨fun h => by simp at h, fun _ bk w3 hbk hw3 => ?_⟩)
  · rw [bne_eq_false_iff_eq] at h
    exact absurd h hne
  have st3 : St ⟨w, []⟩ ((bk, bookC 0 ⟨none, 0, 0⟩ ⟨none, 0, 0⟩ ⟨none, 0, 0⟩ ⟨none, 0, 0⟩) :: (cs ++ [(b, md)])) w3 := st2.alloc hbk hw3
  refine ⟨fun i w' => ∃ (p : Nat), i = (p : Int) ∧ p ≤ x1.len ∧ p ≤ 40 ∧ OwnI ⟨w, []⟩ bk (some ⟨b2, 0, none⟩) p w', fun i _ => x1.len - i.toNat, ⟨0, rfl, by omega, by omega, _, cs, 0, _, _, _, _, [], [], [], [], [], [], [], [], [(b, md)], o2, kind_new, kind_new, kind_new, kind_new, by simp, by omega, by simpa using st3⟩, ?_⟩
  clear st3 hw3 hbk st2 o2
  rintro i w4 ⟨p, rfl, hp, hp4, hI⟩
  unfold F_towpathlaw17_CallOwn_L0
  refine ⟨fun hi => ?_, fun _ => ?_⟩
  · simp only [Bool.and_eq_true, decide_eq_true_eq] at hi
    have wp : IntKind.i64.wrap ((p : Int) + 1) = ((p + 1 : Nat) : Int) := by rw [i64_in _ (by omega) (by omega)]; omega
    have fin : ∀ {w' : World}, OwnI ⟨w, []⟩ bk (some ⟨b2, 0, none⟩) p w' → F_towpathlaw17_CallOwn_k1 (some ⟨b2, 0, none⟩) bk ((p : Nat) : Int) (fun (i' : Int) w' => (∃ (p : Nat), i' = (p : Int) ∧ p ≤ x1.len ∧ p ≤ 40 ∧ OwnI ⟨w, []⟩ bk (some ⟨b2, 0, none⟩) p w') ∧ x1.len - i'.toNat < x1.len - ((p : Nat) : Int).toNat) w' := fun {w'} h => by
      refine sp_own_k1 h (by omega) fun w'' h' => ?_
      rw [wp]
      exact ⟨⟨p + 1, rfl, by omega, by omega, h'⟩, by omega⟩
    obtain ⟨m, cs, n, t0, t1, t2, t3, its0, its1, its2, its3, cs0, cs1, cs2, cs3, d, o, o0, o1, o2, o3, hl, hn, st⟩ := hI
    obtain ⟨a, y, hy, hc⟩ := SrcAt.getN (st.ext.src hs) (fun _ => rfl) (by decide) (i := (p : Int)) (by omega) hi.1
    rw [Int.toNat_natCast] at hy
    obtain ⟨xs, es, os, hin, hsm⟩ := ask_inU (hok y (List.mem_of_getElem? hy))
    obtain ⟨c0, c1, c2, c3, c4, c5, c6, c7, c8, _⟩ := hc
    have st0 : St ⟨w, []⟩ (cs ++ ((bk, bookC n t0 t1 t2 t3) :: (cs0 ++ (cs1 ++ (cs2 ++ (cs3 ++ d)))))) w4 := st.perm (perm_of_sum fun f_ => by simp <;> omega)
    have back : ∀ {m' : Option TkM} {cs' d' : List Chunk} {w' : World}, TkO (some ⟨b2, 0, none⟩) m' cs' → St ⟨w, []⟩ (cs' ++ (d' ++ ((bk, bookC n t0 t1 t2 t3) :: (cs0 ++ (cs1 ++ (cs2 ++ (cs3 ++ d))))))) w' → OwnI ⟨w, []⟩ bk (some ⟨b2, 0, none⟩) p w' := fun {m' cs' d' w'} o' st' =>
      ⟨m', cs', n, t0, t1, t2, t3, its0, its1, its2, its3, cs0, cs1, cs2, cs3, d' ++ d, o', o0, o1, o2, o3, hl, hn, st'.perm (perm_of_sum fun f_ => by simp <;> omega)⟩
    refine ⟨a, by omega, hi.1, y.Kind, c0, fun h1 => ?_, fun h1 => ⟨fun h2 => ?_, fun h2 => ?_⟩⟩
    · intro w16 hd16
      have e16 : Ext w4 w16 := Qt.ext hd16
      refine ⟨a, by omega, hi.1, y.Mark, e16.cell c1, a, by omega, hi.1, y.Least, e16.cell c2, a, by omega, hi.1, y.Beyond, e16.cell c3, ?_⟩
      exact sp_tk_Begin (bey := xs) o (st0.keep e16) (fun B l w' hB st' => by have := st'.ext; rw [hB] at this; exact this.src hin.bey) hin.blen fun cs' d1 w5 o5 st5 => fin (back o5 st5)
    · refine ⟨a, by omega, hi.1, y.Resp, ⟨c4, c5, c6, c7, c8, trivial⟩, ?_⟩
      exact sp_tk_GotTw o st0 hin.rsp hsm fun cs' d1 w5 o5 st5 => fin (back o5 st5)
    · exact sp_tk_Sent o st0 fun cs' d1 w5 o5 st5 => fin (back o5 st5)
  · obtain ⟨m, cs, n, t0, t1, t2, t3, its0, its1, its2, its3, cs0, cs1, cs2, cs3, d, o, o0, o1, o2, o3, hl, hn, st⟩ := hI
    exact sp_Apart hT o0 (by omega) o1 (by omega) o2 (by omega) o3 (by omega) st fun cs0 cs1 cs2 cs3 w5 st5 => ⟨fun _ => sp_lives fun w7 e7 => ⟨rfl, (st5.keep e7).below⟩, fun h => (by cases h)⟩
end Go.Proofs.YtpedclhflmhakaaGreatDoor

