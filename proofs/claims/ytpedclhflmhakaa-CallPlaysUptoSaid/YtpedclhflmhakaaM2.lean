/- Chapter 17: law: any task, any asks. -/
import Derived.Test.YtpedclhflmhakaaM1
import Derived.Test.YtpedclhflmhakaaGslices
import Derived.Test.YtpedclhflmhakaaGcall
import Derived.Shelf.Small.Strs
import Derived.Ground.NamesProg
import Derived.Test.YtpedclhflmhakaaGtowpathref15
import Derived.Test.YtpedclhflmhakaaGtowpathref17
import Derived.Test.YtpedclhflmhakaaGtowpathlaw17
import Derived.Test.YtpedclhflmhakaaGCallPlays
namespace Go.Proofs.Ytpedclhflmhakaa
open Go
set_option linter.unusedVariables false
set_option linter.unusedSimpArgs false

theorem half_nat {i j : Nat} (h : i + j ≤ 4611686018427387904) : IntKind.i64.wrap (Int.fdiv (IntKind.u64.wrap (IntKind.i64.wrap ((i : Int) + (j : Int)))) (2 ^ 1)) = (((i + j) / 2 : Nat) : Int) := by
  rw [i64_in ((i : Int) + (j : Int)) (by omega) (by omega), u64_in _ (by omega) (by omega), show (i : Int) + (j : Int) = ((i + j : Nat) : Int) from by omega]
  rw [show Int.fdiv ((i + j : Nat) : Int) (2 ^ 1) = (((i + j) / 2 : Nat) : Int) from fdiv_nat (i + j) 2, i64_in _ (by omega) (by omega)]
theorem at_mid {α : Type} {P X S : List α} {c : Nat} (h1 : P.length ≤ c) (h2 : c < P.length + X.length) : (P ++ (X ++ S))[c]? = X[c - P.length]? := by
  rw [List.getElem?_append_right h1, List.getElem?_append_left (by omega)]
theorem at_mid2 {α : Type} {P X Y S : List α} {c : Nat} (h1 : P.length + X.length ≤ c) (h2 : c < P.length + X.length + Y.length) : (P ++ (X ++ (Y ++ S)))[c]? = Y[c - P.length - X.length]? := by
  rw [List.getElem?_append_right (by omega), List.getElem?_append_right (by omega), List.getElem?_append_left (by omega)]
theorem set_at {α : Type} (L : List α) {v u : α} {T : List α} : (L ++ (v :: T)).set L.length u = L ++ (u :: T) := by rw [List.set_append_right _ _ (Nat.le_refl _), Nat.sub_self]; rfl
theorem merge_all {α : Type} {O : Ord α} {X Y L R : List α} {s e : Nat} (sX : O.Sorted X) (sY : O.Sorted Y)
    (hc : (∀ x ∈ X.drop s, ∀ y ∈ Y.take e, O.lt y x = true) ∧ (∀ x ∈ X.take s, ∀ y ∈ Y.drop e, O.lt y x = false))
    (sL : O.Sorted L) (eL : O.Same (X.take s ++ Y.take e) L) (sR : O.Sorted R) (eR : O.Same (X.drop s ++ Y.drop e) R) : O.Sorted (L ++ R) ∧ O.Same (X ++ Y) (L ++ R) := by
  have := Ord.merge_step (A1 := X.take s) (A2 := X.drop s) (B1 := Y.take e) (B2 := Y.drop e) (by rw [List.take_append_drop]; exact sX) (by rw [List.take_append_drop]; exact sY) hc.1 hc.2 sL eL sR eR
  rw [List.take_append_drop, List.take_append_drop] at this
  exact this
section
variable {w0 : Base} {w : World} {fr : List Chunk} {data : Slc}
/-- Two neighbours change places. -/
theorem ArH.swap1 {L T : List T_api_Held} {x y : T_api_Held} (h : ArH w0 fr data (L ++ (x :: y :: T)) w) :
    IsAt data.ptr ∧ L.length + 1 < data.len ∧ CellsAt w (pblk data.ptr) (poff data.ptr + (L.length + 1) * 2) (hT y) ∧ CellsAt w (pblk data.ptr) (poff data.ptr + L.length * 2) (hT x) ∧
    Writable w (pblk data.ptr) (poff data.ptr + L.length * 2) 2 ∧ ∀ w', w' = World.puts (pblk data.ptr) (poff data.ptr + L.length * 2) (hT y) w →
    Writable w' (pblk data.ptr) (poff data.ptr + (L.length + 1) * 2) 2 ∧ ∀ w'', w'' = World.puts (pblk data.ptr) (poff data.ptr + (L.length + 1) * 2) (hT x) w' → ArH w0 fr data (L ++ (y :: x :: T)) w'' := by
  have hl := h.len
  have hll : (L ++ (x :: y :: T)).length = L.length + (T.length + 2) := by simp
  obtain ⟨a1, x1, hx1, c1⟩ := h.get (i := L.length) (by omega)
  obtain ⟨_, y1, hy1, c2⟩ := h.get (i := L.length + 1) (by omega)
  rw [List.getElem?_append_right (Nat.le_refl _), Nat.sub_self] at hx1
  rw [List.getElem?_append_right (by omega), show L.length + 1 - L.length = 1 from by omega] at hy1
  obtain rfl : x = x1 := Option.some.inj hx1
  obtain rfl : y = y1 := Option.some.inj hy1
  obtain ⟨wr1, s1⟩ := h.set (i := L.length) (by omega) y
  refine ⟨a1, by omega, c2, c1, wr1, fun w' hw' => ?_⟩
  have h1 := s1 w' hw'
  rw [set_at] at h1
  have e1 : L ++ (y :: y :: T) = (L ++ [y]) ++ (y :: T) := by simp
  rw [e1] at h1
  obtain ⟨wr2, s2⟩ := h1.set (i := L.length + 1) (by simp) x
  refine ⟨wr2, fun w'' hw'' => ?_⟩
  have h2 := s2 w'' hw''
  rw [show L.length + 1 = (L ++ [y]).length from by simp, set_at] at h2
  simpa using h2
theorem sp_mergeL1 {P Y S : List T_api_Held} {x : T_api_Held} {p : Nat} {R : World → Prop} (hp : p ≤ Y.length) (h : ArH w0 fr data (P ++ (x :: (Y ++ S))) w) (hl : P.length + (Y.length + S.length) + 1 ≤ 2305843009213693952)
    (k : ∀ w', ArH w0 fr data (P ++ (Y.take p ++ (x :: (Y.drop p ++ S)))) w' → R w') :
    ∃ (I : Int → World → Prop) (μ : Int → World → Nat), I (P.length : Int) w ∧ ∀ (k_ : Int) w, I k_ w → F_slices_symMergeCmpFunc_api_Held_L1 data R ((P.length + 1 + p : Nat) : Int) (fun (k_' : Int) w' => I k_' w' ∧ μ k_' w' < μ k_ w) k_ w := by
  refine ⟨fun k_ w' => ∃ r : Nat, k_ = ((P.length + r : Nat) : Int) ∧ r ≤ p ∧ ArH w0 fr data (P ++ (Y.take r ++ (x :: (Y.drop r ++ S)))) w', fun k_ _ => P.length + p - k_.toNat, ⟨0, rfl, by omega, by simpa using h⟩, ?_⟩
  clear h
  rintro k_ w1 ⟨r, rfl, hr, h⟩
  unfold F_slices_symMergeCmpFunc_api_Held_L1
  have e1 : IntKind.i64.wrap (((P.length + 1 + p : Nat) : Int) - 1) = ((P.length + p : Nat) : Int) := by rw [i64_in _ (by omega) (by omega)]; omega
  rw [e1]
  refine ⟨fun hi w2 hw2 => ?_, fun hi => ?_⟩
  · have hi := of_decide_eq_true hi
    have h := h.drew hw2
    have hrY : r < Y.length := by omega
    rw [List.drop_eq_getElem_cons hrY] at h
    have hyt : Y.take (r + 1) = Y.take r ++ [Y[r]] := by rw [List.take_add_one, List.getElem?_eq_getElem hrY]; rfl
    generalize Y[r] = y at *
    have hL : (P ++ Y.take r).length = P.length + r := by rw [List.length_append, List.length_take, Nat.min_eq_left (by omega)]
    rw [show P ++ (Y.take r ++ (x :: (y :: Y.drop (r + 1) ++ S))) = (P ++ Y.take r) ++ (x :: y :: (Y.drop (r + 1) ++ S)) from by simp] at h
    obtain ⟨a1, hlt, c2, c1, wr1, s1⟩ := h.swap1
    rw [hL] at hlt c2 c1 wr1 s1
    have e2 : IntKind.i64.wrap (((P.length + r : Nat) : Int) + 1) = ((P.length + r + 1 : Nat) : Int) := by rw [i64_in _ (by omega) (by omega)]; omega
    rw [e2]
    simp only [Int.toNat_natCast]
    refine ⟨a1, by omega, by omega, y, c2, a1, by omega, by omega, x, c1, a1, by omega, by omega, wr1, fun w6 hw6 => ?_⟩
    obtain ⟨wr2, s2⟩ := s1 w6 hw6
    refine ⟨a1, by omega, by omega, wr2, fun w7 hw7 => ?_⟩
    have h7 := s2 w7 hw7
    refine ⟨⟨r + 1, by omega, by omega, ?_⟩, by show _ - _ < _ - _; omega⟩
    rw [hyt]
    simpa using h7
  · have hi := of_decide_eq_false hi
    obtain rfl : r = p := by omega
    exact k w1 h
theorem sp_mergeL3 {P X S : List T_api_Held} {y : T_api_Held} {p : Nat} {R : World → Prop} (hp : p ≤ X.length) (h : ArH w0 fr data (P ++ (X ++ (y :: S))) w) (hl : P.length + (X.length + S.length) + 1 ≤ 2305843009213693952)
    (k : ∀ w', ArH w0 fr data (P ++ (X.take p ++ (y :: (X.drop p ++ S)))) w' → R w') :
    ∃ (I : Int → World → Prop) (μ : Int → World → Nat), I ((P.length + X.length : Nat) : Int) w ∧ ∀ (k_ : Int) w, I k_ w → F_slices_symMergeCmpFunc_api_Held_L3 data R ((P.length + p : Nat) : Int) (fun (k_' : Int) w' => I k_' w' ∧ μ k_' w' < μ k_ w) k_ w := by
  refine ⟨fun k_ w' => ∃ r : Nat, k_ = ((P.length + r : Nat) : Int) ∧ p ≤ r ∧ r ≤ X.length ∧ ArH w0 fr data (P ++ (X.take r ++ (y :: (X.drop r ++ S)))) w', fun k_ _ => k_.toNat, ⟨X.length, rfl, hp, Nat.le_refl _, by simpa using h⟩, ?_⟩
  clear h
  rintro k_ w1 ⟨r, rfl, hr, hr2, h⟩
  unfold F_slices_symMergeCmpFunc_api_Held_L3
  refine ⟨fun hi w2 hw2 => ?_, fun hi => ?_⟩
  · have hi := of_decide_eq_true hi
    have h := h.drew hw2
    obtain ⟨r, rfl⟩ : ∃ r', r = r' + 1 := ⟨r - 1, by omega⟩
    have hrX : r < X.length := by omega
    have hxt : X.take (r + 1) = X.take r ++ [X[r]] := by rw [List.take_add_one, List.getElem?_eq_getElem hrX]; rfl
    have hxd : X.drop r = X[r] :: X.drop (r + 1) := List.drop_eq_getElem_cons hrX
    generalize X[r] = x at *
    rw [hxt] at h
    have hL : (P ++ X.take r).length = P.length + r := by rw [List.length_append, List.length_take, Nat.min_eq_left (by omega)]
    rw [show P ++ ((X.take r ++ [x]) ++ (y :: (X.drop (r + 1) ++ S))) = (P ++ X.take r) ++ (x :: y :: (X.drop (r + 1) ++ S)) from by simp] at h
    -- data[k], data[k-1] = data[k-1], data[k]: the latter is written first
    have hdl := h.len
    have hll : ((P ++ X.take r) ++ (x :: y :: (X.drop (r + 1) ++ S))).length = P.length + r + ((X.drop (r + 1) ++ S).length + 2) := by rw [List.length_append, hL]; simp only [List.length_cons]
    obtain ⟨a1, hlt, c2, c1, _, _⟩ := h.swap1
    rw [hL] at hlt c2 c1
    have e2 : IntKind.i64.wrap (((P.length + (r + 1) : Nat) : Int) - 1) = ((P.length + r : Nat) : Int) := by rw [i64_in _ (by omega) (by omega)]; omega
    rw [e2]
    simp only [Int.toNat_natCast]
    rw [show P.length + (r + 1) = P.length + r + 1 from by omega]
    obtain ⟨wr1, s1⟩ := h.set (i := P.length + r + 1) (by omega) x
    refine ⟨a1, by omega, by omega, x, c1, a1, by omega, by omega, y, c2, a1, by omega, by omega, wr1, fun w6 hw6 => ?_⟩
    have h6 := s1 w6 hw6
    rw [show (P ++ X.take r) ++ (x :: y :: (X.drop (r + 1) ++ S)) = ((P ++ X.take r) ++ [x]) ++ (y :: (X.drop (r + 1) ++ S)) from by simp, show P.length + r + 1 = ((P ++ X.take r) ++ [x]).length from by rw [List.length_append, hL]; rfl, set_at, show ((P ++ X.take r) ++ [x]) ++ (x :: (X.drop (r + 1) ++ S)) = (P ++ X.take r) ++ (x :: x :: (X.drop (r + 1) ++ S)) from by simp] at h6
    obtain ⟨wr2, s2⟩ := h6.set (i := P.length + r) (by rw [List.length_append, hL]; simp only [List.length_cons]; omega) y
    refine ⟨a1, by omega, by omega, wr2, fun w7 hw7 => ?_⟩
    have h7 := s2 w7 hw7
    rw [← hL, set_at] at h7
    refine ⟨⟨r, rfl, by omega, by omega, ?_⟩, by omega⟩
    rw [hxd]
    simpa using h7
  · have hi := of_decide_eq_false hi
    obtain rfl : r = p := by omega
    exact k w1 h
theorem sp_merge1 {O : Ord T_api_Held} {P Y S : List T_api_Held} {x : T_api_Held} {cmp : Value} {R : World → Prop} (hc : CmpH w0 fr data O cmp) (h : ArH w0 fr data (P ++ ([x] ++ (Y ++ S))) w) (hl : P.length + (Y.length + S.length) + 1 ≤ 2305843009213693952)
    (sY : O.Sorted Y) (k : ∀ Z w', O.Sorted Z → O.Same ([x] ++ Y) Z → ArH w0 fr data (P ++ (Z ++ S)) w' → R w') :
    ∃ (I : Int → Int → World → Prop) (μ : Int → Int → World → Nat), I ((P.length + 1 : Nat) : Int) ((P.length + 1 + Y.length : Nat) : Int) w ∧
      ∀ (i j : Int) w, I i j w → F_slices_symMergeCmpFunc_api_Held_L0 data (P.length : Int) cmp R (fun (i' : Int) (j' : Int) w' => I i' j' w' ∧ μ i' j' w' < μ i j w) i j w := by
  have sX : O.Sorted [x] := List.pairwise_singleton _ _
  refine ⟨fun i j w' => ∃ p q : Nat, i = ((P.length + 1 + p : Nat) : Int) ∧ j = ((P.length + 1 + q : Nat) : Int) ∧ p ≤ q ∧ q ≤ Y.length ∧ (0 < p → ∃ y, Y[p - 1]? = some y ∧ O.lt y x = true) ∧ (q < Y.length → ∃ y, Y[q]? = some y ∧ O.lt y x = false) ∧ ArH w0 fr data (P ++ ([x] ++ (Y ++ S))) w',
    fun i j _ => j.toNat - i.toNat, ⟨0, Y.length, rfl, rfl, by omega, by omega, fun h => by omega, fun h => by omega, h⟩, ?_⟩
  clear h
  rintro i j w1 ⟨p, q, rfl, rfl, hpq, hq, fp, fq, h⟩
  unfold F_slices_symMergeCmpFunc_api_Held_L0
  refine ⟨fun hi w2 hw2 => ?_, fun hi => ?_⟩
  · have hi := of_decide_eq_true hi
    have h := h.drew hw2
    have hdl := h.len
    have hll : (P ++ ([x] ++ (Y ++ S))).length = P.length + (Y.length + S.length) + 1 := by simp; omega
    rw [half_nat (by omega), show (P.length + 1 + p + (P.length + 1 + q)) / 2 = P.length + 1 + (p + q) / 2 from by omega]
    obtain ⟨a1, y, hy, c1⟩ := h.get (i := P.length + 1 + (p + q) / 2) (by omega)
    obtain ⟨_, x1, hx1, c2⟩ := h.get (i := P.length) (by omega)
    rw [at_mid2 (by show P.length + 1 ≤ _; omega) (by show _ < P.length + 1 + Y.length; omega), show P.length + 1 + (p + q) / 2 - P.length - [x].length = (p + q) / 2 from by show _ - 1 = _; omega] at hy
    rw [at_mid (Nat.le_refl _) (by show _ < P.length + 1; omega), Nat.sub_self] at hx1
    obtain rfl : x = x1 := Option.some.inj hx1
    have e2 : IntKind.i64.wrap (((P.length + 1 + (p + q) / 2 : Nat) : Int) + 1) = ((P.length + 1 + ((p + q) / 2 + 1) : Nat) : Int) := by rw [i64_in _ (by omega) (by omega)]; omega
    rw [e2]
    simp only [Int.toNat_natCast]
    refine ⟨a1, by omega, by omega, y, c1, a1, by omega, by omega, x, c2, CallsV.mono (hc y x _ _ h) ?_⟩
    rintro e w3 ⟨v, rfl, hv, h3⟩
    refine ⟨v, rfl, fun hlt => ⟨⟨(p + q) / 2 + 1, q, rfl, rfl, by omega, hq, fun _ => ⟨y, hy, by rw [← hv]; exact hlt⟩, fq, h3⟩, by omega⟩, fun hge => ⟨⟨p, (p + q) / 2, rfl, rfl, by omega, by omega, fp, fun _ => ⟨y, hy, by rw [← hv]; exact hge⟩, h3⟩, by omega⟩⟩
  · have hi := of_decide_eq_false hi
    obtain rfl : p = q := by omega
    refine sp_mergeL1 (x := x) (S := S) hq (by simpa using h) hl fun w' h' => ?_
    have ct := Ord.merge_cut (O := O) (X := [x]) (Y := Y) (s := 0) (e := p) sX sY (fun _ h0 => (by obtain ⟨y, hy, hl⟩ := fp h0; exact ⟨x, y, rfl, hy, hl⟩)) (fun h0 => by omega)
    have ct1 := Ord.merge_cut (O := O) (X := [x]) (Y := Y) (s := 1) (e := p) sX sY (fun h0 => by simp at h0) (fun _ h0 => (by obtain ⟨y, hy, hl⟩ := fq h0; exact ⟨x, y, rfl, hy, hl⟩))
    have sT : O.Sorted (Y.take p) := sY.sublist (List.take_sublist _ _)
    have sD : O.Sorted (Y.drop p) := sY.sublist (List.drop_sublist _ _)
    have m := merge_all (L := Y.take p) (R := [x] ++ Y.drop p) sX sY ct sT (by rw [List.take_zero, List.nil_append]; exact Ord.Same.refl _) (sX.app sD fun a ha b hb => ct1.2 a (by simpa using ha) b hb) (Ord.Same.refl _)
    refine k _ w' m.1 m.2 ?_
    simpa using h'
theorem sp_merge2 {O : Ord T_api_Held} {P X S : List T_api_Held} {y : T_api_Held} {cmp : Value} {R : World → Prop} (hc : CmpH w0 fr data O cmp) (h : ArH w0 fr data (P ++ (X ++ ([y] ++ S))) w) (hl : P.length + (X.length + S.length) + 1 ≤ 2305843009213693952)
    (sX : O.Sorted X) (k : ∀ Z w', O.Sorted Z → O.Same (X ++ [y]) Z → ArH w0 fr data (P ++ (Z ++ S)) w' → R w') :
    ∃ (I : Int → Int → World → Prop) (μ : Int → Int → World → Nat), I (P.length : Int) ((P.length + X.length : Nat) : Int) w ∧
      ∀ (i j : Int) w, I i j w → F_slices_symMergeCmpFunc_api_Held_L2 data ((P.length + X.length : Nat) : Int) cmp R (fun (i' : Int) (j' : Int) w' => I i' j' w' ∧ μ i' j' w' < μ i j w) i j w := by
  have sY : O.Sorted [y] := List.pairwise_singleton _ _
  refine ⟨fun i j w' => ∃ p q : Nat, i = ((P.length + p : Nat) : Int) ∧ j = ((P.length + q : Nat) : Int) ∧ p ≤ q ∧ q ≤ X.length ∧ (0 < p → ∃ x, X[p - 1]? = some x ∧ O.lt y x = false) ∧ (q < X.length → ∃ x, X[q]? = some x ∧ O.lt y x = true) ∧ ArH w0 fr data (P ++ (X ++ ([y] ++ S))) w',
    fun i j _ => j.toNat - i.toNat, ⟨0, X.length, rfl, rfl, by omega, by omega, fun h => by omega, fun h => by omega, h⟩, ?_⟩
  clear h
  rintro i j w1 ⟨p, q, rfl, rfl, hpq, hq, fp, fq, h⟩
  unfold F_slices_symMergeCmpFunc_api_Held_L2
  refine ⟨fun hi w2 hw2 => ?_, fun hi => ?_⟩
  · have hi := of_decide_eq_true hi
    have h := h.drew hw2
    have hdl := h.len
    have hll : (P ++ (X ++ ([y] ++ S))).length = P.length + (X.length + S.length) + 1 := by simp; omega
    rw [half_nat (by omega), show (P.length + p + (P.length + q)) / 2 = P.length + (p + q) / 2 from by omega]
    obtain ⟨a1, y1, hy, c1⟩ := h.get (i := P.length + X.length) (by omega)
    obtain ⟨_, x, hx, c2⟩ := h.get (i := P.length + (p + q) / 2) (by omega)
    rw [at_mid2 (Nat.le_refl _) (by show _ < P.length + X.length + 1; omega), show P.length + X.length - P.length - X.length = 0 from by omega] at hy
    rw [at_mid (by omega) (by omega), show P.length + (p + q) / 2 - P.length = (p + q) / 2 from by omega] at hx
    obtain rfl : y = y1 := Option.some.inj hy
    have e2 : IntKind.i64.wrap (((P.length + (p + q) / 2 : Nat) : Int) + 1) = ((P.length + ((p + q) / 2 + 1) : Nat) : Int) := by rw [i64_in _ (by omega) (by omega)]; omega
    rw [e2]
    simp only [Int.toNat_natCast]
    refine ⟨a1, by omega, by omega, y, c1, a1, by omega, by omega, x, c2, CallsV.mono (hc y x _ _ h) ?_⟩
    rintro e w3 ⟨v, rfl, hv, h3⟩
    refine ⟨v, rfl, fun hge => ⟨⟨(p + q) / 2 + 1, q, rfl, rfl, by omega, hq, fun _ => ⟨x, hx, by rw [hv] at hge; simpa using hge⟩, fq, h3⟩, by omega⟩, fun hlt => ⟨⟨p, (p + q) / 2, rfl, rfl, by omega, by omega, fp, fun _ => ⟨x, hx, by rw [hv] at hlt; simpa using hlt⟩, h3⟩, by omega⟩⟩
  · have hi := of_decide_eq_false hi
    obtain rfl : p = q := by omega
    refine sp_mergeL3 (y := y) (S := S) hq (by simpa using h) hl fun w' h' => ?_
    have ct := Ord.merge_cut (O := O) (X := X) (Y := [y]) (s := p) (e := 1) sX sY (fun h0 _ => (by obtain ⟨x, hx, hl⟩ := fq h0; exact ⟨x, y, hx, rfl, hl⟩)) (fun _ h0 => by simp at h0)
    have ct1 := Ord.merge_cut (O := O) (X := X) (Y := [y]) (s := p) (e := 0) sX sY (fun _ h0 => by omega) (fun h0 _ => (by obtain ⟨x, hx, hl⟩ := fp h0; exact ⟨x, y, hx, rfl, hl⟩))
    have sT : O.Sorted (X.take p) := sX.sublist (List.take_sublist _ _)
    have sD : O.Sorted (X.drop p) := sX.sublist (List.drop_sublist _ _)
    have m := merge_all (L := X.take p ++ [y]) (R := X.drop p) sX sY ct (sT.app sY fun a ha b hb => ct1.2 a ha b (by simpa using hb)) (by show O.Same (X.take p ++ [y]) _; exact Ord.Same.refl _) sD (by show O.Same (X.drop p ++ []) _; rw [List.append_nil]; exact Ord.Same.refl _)
    refine k _ w' m.1 m.2 ?_
    simpa using h'
end
end Go.Proofs.Ytpedclhflmhakaa

namespace Go.Proofs.Ytpedclhflmhakaa
open Go
set_option linter.unusedVariables false
set_option linter.unusedSimpArgs false

section
variable {w0 : Base} {w : World} {fr : List Chunk} {data : Slc}
/-- Two stretches, of which one may be empty, are merged by a call, if there is one. -/
theorem same_nil_left {α : Type} {O : Ord α} {X Y : List α} (h : X = [] ∨ Y = []) (sX : O.Sorted X) (sY : O.Sorted Y) : O.Sorted (X ++ Y) := by
  rcases h with rfl | rfl
  · simpa using sY
  · simpa using sX
set_option maxHeartbeats 2000000 in
theorem sp_symMergeH {O : Ord T_api_Held} {cmp : Value} (hc : CmpH w0 fr data O cmp) : ∀ (n : Nat) {P X Y S : List T_api_Held} {a m b : Int} {w : World} {R : World → Prop}, X.length + Y.length ≤ n → ArH w0 fr data (P ++ (X ++ (Y ++ S))) w → 0 < X.length → 0 < Y.length →
    a = (P.length : Int) → m = ((P.length + X.length : Nat) : Int) → b = ((P.length + X.length + Y.length : Nat) : Int) → P.length + (X.length + (Y.length + S.length)) ≤ 1152921504606846976 → O.Sorted X → O.Sorted Y →
    (∀ Z w', O.Sorted Z → O.Same (X ++ Y) Z → Z.length = X.length + Y.length → ArH w0 fr data (P ++ (Z ++ S)) w' → R w') → C_slices_symMergeCmpFunc_api_Held data a m b cmp w R := by
  intro n
  induction n with
  | zero => intro P X Y S a m b w R hn h hX hY; omega
  | succ n ih =>
    intro P X Y S a m b w R hn h hX hY ha hm hb hl sX sY k
    subst ha hm hb
    apply S_slices_symMergeCmpFunc_api_Held
    unfold F_slices_symMergeCmpFunc_api_Held
    have e1 : IntKind.i64.wrap (((P.length + X.length : Nat) : Int) - (P.length : Int)) = (X.length : Int) := by rw [i64_in _ (by omega) (by omega)]; omega
    have e2 : IntKind.i64.wrap (((P.length + X.length + Y.length : Nat) : Int) - ((P.length + X.length : Nat) : Int)) = (Y.length : Int) := by rw [i64_in _ (by omega) (by omega)]; omega
    rw [e1, e2]
    refine ⟨fun h1 => ?_, fun h1 => ⟨fun h2 => ?_, fun h2 => ?_⟩⟩
    · have h1 : X.length = 1 := by have : (X.length : Int) = 1 := by simpa using h1
                                   omega
      obtain ⟨x, rfl⟩ := List.length_eq_one_iff.1 h1
      exact sp_merge1 hc h (by simp at hl; omega) sY fun Z w' sZ eZ h' => k Z w' sZ eZ (by have := h'.len; have h3 := h.len; simp at this h3; simp; omega) h'
    · have h2 : Y.length = 1 := by have : (Y.length : Int) = 1 := by simpa using h2
                                   omega
      obtain ⟨y, rfl⟩ := List.length_eq_one_iff.1 h2
      exact sp_merge2 hc h (by simp at hl; omega) sX fun Z w' sZ eZ h' => k Z w' sZ eZ (by have := h'.len; have h3 := h.len; simp at this h3; simp; omega) h'
    have h1 : X.length ≠ 1 := by have : (X.length : Int) ≠ 1 := by simpa using h1
                                 omega
    have h2 : Y.length ≠ 1 := by have : (Y.length : Int) ≠ 1 := by simpa using h2
                                 omega
    rw [half_nat (by omega)]
    obtain ⟨mid, hmid⟩ : ∃ mid, mid = (P.length + (P.length + X.length + Y.length)) / 2 := ⟨_, rfl⟩
    have hm1 : 2 * mid ≤ P.length + (P.length + X.length + Y.length) := by omega
    have hm2 : P.length + (P.length + X.length + Y.length) ≤ 2 * mid + 1 := by omega
    rw [← hmid]
    have e3 : IntKind.i64.wrap ((mid : Int) + ((P.length + X.length : Nat) : Int)) = ((mid + (P.length + X.length) : Nat) : Int) := by rw [i64_in _ (by omega) (by omega)]; omega
    have e5 : IntKind.i64.wrap (((mid + (P.length + X.length) : Nat) : Int) - 1) = ((mid + (P.length + X.length) - 1 : Nat) : Int) := by rw [i64_in _ (by omega) (by omega)]; omega
    rw [e3]
    -- what the search begins with
    have key : ∀ (lo hi : Nat), (P.length + X.length > mid → lo + Y.length = mid ∧ hi = mid) → (¬ P.length + X.length > mid → lo = P.length ∧ hi = P.length + X.length) →
        F_slices_symMergeCmpFunc_api_Held_k4 data (P.length : Int) ((P.length + X.length : Nat) : Int) ((P.length + X.length + Y.length : Nat) : Int) cmp R (lo : Int) (hi : Int) w := by
      intro lo hi c1 c2
      have hlohi : P.length ≤ lo ∧ lo ≤ hi ∧ hi ≤ P.length + X.length ∧ mid + (P.length + X.length) - lo ≤ P.length + X.length + Y.length ∧ P.length + X.length ≤ mid + (P.length + X.length) - hi ∧ hi ≤ mid := by
        by_cases c : P.length + X.length > mid
        · obtain ⟨h5, h6⟩ := c1 c; omega
        · obtain ⟨h5, h6⟩ := c2 c; omega
      obtain ⟨hlo0, hlohi, hhi0, hlo1, hhi1, hhi2⟩ := hlohi
      unfold F_slices_symMergeCmpFunc_api_Held_k4
      refine ⟨fun i j w' => ∃ p q : Nat, i = (p : Int) ∧ j = (q : Int) ∧ lo ≤ p ∧ p ≤ q ∧ q ≤ hi ∧ (lo < p → ∃ x y, X[p - 1 - P.length]? = some x ∧ Y[mid - p]? = some y ∧ O.lt y x = false) ∧
        (q < hi → ∃ x y, X[q - P.length]? = some x ∧ Y[mid - 1 - q]? = some y ∧ O.lt y x = true) ∧ ArH w0 fr data (P ++ (X ++ (Y ++ S))) w', fun i j _ => j.toNat - i.toNat, ⟨lo, hi, rfl, rfl, Nat.le_refl _, hlohi, Nat.le_refl _, fun h => by omega, fun h => by omega, h⟩, ?_⟩
      clear h
      rintro i j w1 ⟨p, q, rfl, rfl, hp0, hpq, hq0, fp, fq, h⟩
      have hdl := h.len
      have hll : (P ++ (X ++ (Y ++ S))).length = P.length + (X.length + (Y.length + S.length)) := by simp
      unfold F_slices_symMergeCmpFunc_api_Held_L5
      rw [half_nat (by omega), ← hmid, e3, e5, half_nat (by omega)]
      refine ⟨fun hi' w2 hw2 => ?_, fun hi' => ?_⟩
      · have hi' := of_decide_eq_true hi'
        have h := h.drew hw2
        obtain ⟨c, hcd⟩ : ∃ c, c = (p + q) / 2 := ⟨_, rfl⟩
        have hc1 : p ≤ c ∧ c < q := by omega
        rw [← hcd]
        have e6 : IntKind.i64.wrap (((mid + (P.length + X.length) - 1 : Nat) : Int) - (c : Int)) = ((mid + (P.length + X.length) - 1 - c : Nat) : Int) := by rw [i64_in _ (by omega) (by omega)]; omega
        have e7 : IntKind.i64.wrap ((c : Int) + 1) = ((c + 1 : Nat) : Int) := by rw [i64_in _ (by omega) (by omega)]; omega
        rw [e6, e7]
        obtain ⟨a1, y, hy, cy⟩ := h.get (i := mid + (P.length + X.length) - 1 - c) (by omega)
        obtain ⟨_, x, hx, cx⟩ := h.get (i := c) (by omega)
        rw [at_mid2 (by omega) (by omega), show mid + (P.length + X.length) - 1 - c - P.length - X.length = mid - 1 - c from by omega] at hy
        rw [at_mid (by omega) (by omega)] at hx
        simp only [Int.toNat_natCast]
        refine ⟨a1, by omega, by omega, y, cy, a1, by omega, by omega, x, cx, CallsV.mono (hc y x _ _ h) ?_⟩
        rintro e w3 ⟨v, rfl, hv, h3⟩
        refine ⟨v, rfl, fun hge => ⟨⟨c + 1, q, rfl, rfl, by omega, by omega, hq0, fun _ => ⟨x, y, by rw [show c + 1 - 1 - P.length = c - P.length from by omega]; exact hx, by rw [show mid - (c + 1) = mid - 1 - c from by omega]; exact hy, by rw [hv] at hge; simpa using hge⟩, fq, h3⟩, by omega⟩,
          fun hlt => ⟨⟨p, c, rfl, rfl, hp0, by omega, by omega, fp, fun _ => ⟨x, y, hx, hy, by rw [hv] at hlt; simpa using hlt⟩, h3⟩, by omega⟩⟩
      · have hi' := of_decide_eq_false hi'
        obtain rfl : p = q := by omega
        have e8 : IntKind.i64.wrap (((mid + (P.length + X.length) : Nat) : Int) - (p : Int)) = ((P.length + X.length + (mid - p) : Nat) : Int) := by rw [i64_in _ (by omega) (by omega)]; omega
        rw [e8]
        have ct := Ord.merge_cut (O := O) (X := X) (Y := Y) (s := p - P.length) (e := mid - p) sX sY
          (fun g1 g2 => (by
            obtain ⟨x, y, hx, hy, hl⟩ := fq (by
              by_cases c : P.length + X.length > mid
              · obtain ⟨h5, h6⟩ := c1 c; omega
              · obtain ⟨h5, h6⟩ := c2 c; omega)
            exact ⟨x, y, hx, by rw [show mid - p - 1 = mid - 1 - p from by omega]; exact hy, hl⟩))
          (fun g1 g2 => (by
            obtain ⟨x, y, hx, hy, hl⟩ := fp (by
              by_cases c : P.length + X.length > mid
              · obtain ⟨h5, h6⟩ := c1 c; omega
              · obtain ⟨h5, h6⟩ := c2 c; omega)
            exact ⟨x, y, by rw [show p - P.length - 1 = p - 1 - P.length from by omega]; exact hx, hy, hl⟩))
        have lx1 : (X.take (p - P.length)).length = p - P.length := by rw [List.length_take]; omega
        have lx2 : (X.drop (p - P.length)).length = X.length - (p - P.length) := List.length_drop ..
        have ly1 : (Y.take (mid - p)).length = mid - p := by rw [List.length_take]; omega
        have ly2 : (Y.drop (mid - p)).length = Y.length - (mid - p) := List.length_drop ..
        have sX1 : O.Sorted (X.take (p - P.length)) := sX.sublist (List.take_sublist _ _)
        have sX2 : O.Sorted (X.drop (p - P.length)) := sX.sublist (List.drop_sublist _ _)
        have sY1 : O.Sorted (Y.take (mid - p)) := sY.sublist (List.take_sublist _ _)
        have sY2 : O.Sorted (Y.drop (mid - p)) := sY.sublist (List.drop_sublist _ _)
        have mer : ∀ {L T : List T_api_Held}, O.Sorted L → O.Same (X.take (p - P.length) ++ Y.take (mid - p)) L → O.Sorted T → O.Same (X.drop (p - P.length) ++ Y.drop (mid - p)) T → O.Sorted (L ++ T) ∧ O.Same (X ++ Y) (L ++ T) := fun sL eL sR eR => merge_all sX sY ct sL eL sR eR
        have eX : X = X.take (p - P.length) ++ X.drop (p - P.length) := (List.take_append_drop ..).symm
        have eY : Y = Y.take (mid - p) ++ Y.drop (mid - p) := (List.take_append_drop ..).symm
        have hXl : X.length = p - P.length + (X.length - (p - P.length)) := by omega
        generalize X.take (p - P.length) = X1 at *
        generalize X.drop (p - P.length) = X2 at *
        generalize Y.take (mid - p) = Y1 at *
        generalize Y.drop (mid - p) = Y2 at *
        -- behind the rotation
        have rest : ∀ w2, ArH w0 fr data (P ++ (X1 ++ (Y1 ++ (X2 ++ (Y2 ++ S))))) w2 → F_slices_symMergeCmpFunc_api_Held_k6 data (P.length : Int) ((P.length + X.length : Nat) : Int) ((P.length + X.length + Y.length : Nat) : Int) cmp R (p : Int) w2 := by
          intro w2 h2
          unfold F_slices_symMergeCmpFunc_api_Held_k6
          rw [half_nat (by omega), ← hmid]
          -- behind the first half
          have rest2 : ∀ L w3, O.Sorted L → O.Same (X1 ++ Y1) L → L.length = X1.length + Y1.length → ArH w0 fr data (P ++ (L ++ (X2 ++ (Y2 ++ S)))) w3 → F_slices_symMergeCmpFunc_api_Held_k7 data (P.length : Int) ((P.length + X.length : Nat) : Int) ((P.length + X.length + Y.length : Nat) : Int) cmp R (p : Int) w3 := by
            intro L w3 sL eL lL h3
            unfold F_slices_symMergeCmpFunc_api_Held_k7
            rw [half_nat (by omega), ← hmid, e3, e8]
            have fin : ∀ T w4, O.Sorted T → O.Same (X2 ++ Y2) T → T.length = X2.length + Y2.length → ArH w0 fr data (P ++ (L ++ (T ++ S))) w4 → R w4 := fun T w4 sT eT lT h4 => by
              have := mer sL eL sT eT
              exact k (L ++ T) w4 this.1 this.2 (by rw [List.length_append]; omega) (by simpa only [List.append_assoc] using h4)
            refine ⟨fun hh => ?_, fun hh => ?_⟩
            · simp only [Bool.and_eq_true, decide_eq_true_eq] at hh
              refine ih (P := P ++ L) (X := X2) (Y := Y2) (S := S) (by omega) (by simpa only [List.append_assoc] using h3) (by omega) (by omega) (by rw [List.length_append]; omega) (by rw [List.length_append]; omega) (by rw [List.length_append]; omega) (by rw [List.length_append]; omega) sX2 sY2 fun Z w' sZ eZ lZ h' => ?_
              exact fin Z w' sZ eZ lZ (by simpa only [List.append_assoc] using h')
            · refine fin (X2 ++ Y2) w3 (same_nil_left ?_ sX2 sY2) (Ord.Same.refl _) (List.length_append ..) (by simpa only [List.append_assoc] using h3)
              simp only [Bool.and_eq_false_iff, decide_eq_false_iff_not] at hh
              rcases hh with hh | hh
              · exact .inl (List.eq_nil_of_length_eq_zero (by omega))
              · exact .inr (List.eq_nil_of_length_eq_zero (by omega))
          refine ⟨fun hh => ?_, fun hh => ?_⟩
          · simp only [Bool.and_eq_true, decide_eq_true_eq] at hh
            refine ih (P := P) (X := X1) (Y := Y1) (S := X2 ++ (Y2 ++ S)) (by omega) h2 (by omega) (by omega) rfl (by omega) (by omega) (by simp only [List.length_append]; omega) sX1 sY1 fun Z w' sZ eZ lZ h' => ?_
            exact rest2 Z w' sZ eZ lZ h'
          · refine rest2 (X1 ++ Y1) w2 (same_nil_left ?_ sX1 sY1) (Ord.Same.refl _) (List.length_append ..) (by simpa only [List.append_assoc] using h2)
            simp only [Bool.and_eq_false_iff, decide_eq_false_iff_not] at hh
            rcases hh with hh | hh
            · exact .inl (List.eq_nil_of_length_eq_zero (by omega))
            · exact .inr (List.eq_nil_of_length_eq_zero (by omega))
        have h : ArH w0 fr data ((P ++ X1) ++ (X2 ++ (Y1 ++ (Y2 ++ S)))) w1 := by
          rw [eX, eY] at h
          simpa only [List.append_assoc] using h
        refine ⟨fun hh => ?_, fun hh => ?_⟩
        · simp only [Bool.and_eq_true, decide_eq_true_eq] at hh
          refine sp_rotateH h (by omega) (by omega) (by rw [List.length_append]; omega) (by rw [List.length_append]; omega) (by rw [List.length_append]; omega) (by simp only [List.length_append]; omega) fun w2 h2 => ?_
          exact rest w2 (by simpa only [List.append_assoc] using h2)
        · refine rest w1 ?_
          simp only [Bool.and_eq_false_iff, decide_eq_false_iff_not] at hh
          rcases hh with hh | hh
          · have : X2 = [] := List.eq_nil_of_length_eq_zero (by omega)
            subst this
            simpa only [List.append_assoc, List.nil_append] using h
          · have : Y1 = [] := List.eq_nil_of_length_eq_zero (by omega)
            subst this
            simpa only [List.append_assoc, List.nil_append] using h
    refine ⟨fun hgt => ?_, fun hgt => ?_⟩
    · have hgt := of_decide_eq_true hgt
      have e4 : IntKind.i64.wrap (((mid + (P.length + X.length) : Nat) : Int) - ((P.length + X.length + Y.length : Nat) : Int)) = ((mid - Y.length : Nat) : Int) := by rw [i64_in _ (by omega) (by omega)]; omega
      rw [e4]
      exact key (mid - Y.length) mid (fun _ => ⟨by omega, rfl⟩) (fun c => absurd (show P.length + X.length > mid by omega) c)
    · have hgt := of_decide_eq_false hgt
      exact key P.length (P.length + X.length) (fun c => absurd (show ((P.length + X.length : Nat) : Int) > (mid : Int) by omega) hgt) (fun _ => ⟨rfl, rfl⟩)
end
end Go.Proofs.Ytpedclhflmhakaa

namespace Go.Proofs.Ytpedclhflmhakaa
open Go
set_option linter.unusedVariables false
set_option linter.unusedSimpArgs false

/-- A list in blocks of one length, each sorted; the last one may be shorter. -/
def Blocks {α : Type} (O : Ord α) (n : Nat) : List (List α) → Prop
  | [] => True
  | [B] => O.Sorted B ∧ B.length ≤ n
  | B :: C :: r => O.Sorted B ∧ B.length = n ∧ Blocks O n (C :: r)
section
variable {α : Type} {O : Ord α}
theorem Blocks.cons {n : Nat} {B : List α} {r : List (List α)} (s : O.Sorted B) (h : B.length = n) (hr : Blocks O n r) : Blocks O n (B :: r) := by
  cases r with
  | nil => exact ⟨s, by omega⟩
  | cons C r => exact ⟨s, h, hr⟩
theorem Blocks.tail {n : Nat} {B : List α} {r : List (List α)} (h : Blocks O n (B :: r)) : Blocks O n r := by
  cases r with
  | nil => trivial
  | cons C r => exact h.2.2
theorem Blocks.head {n : Nat} {B : List α} {r : List (List α)} (h : Blocks O n (B :: r)) : O.Sorted B ∧ B.length ≤ n ∧ (r ≠ [] → B.length = n) := by
  cases r with
  | nil => exact ⟨h.1, h.2, fun h => absurd rfl h⟩
  | cons C r => exact ⟨h.1, by have := h.2.1; omega, fun _ => h.2.1⟩
/-- Whole blocks, one behind the other. -/
def Whole {α : Type} (O : Ord α) (n : Nat) (l : List (List α)) : Prop := ∀ B ∈ l, O.Sorted B ∧ B.length = n
theorem Whole.blocks {n : Nat} : ∀ {l r : List (List α)}, Whole O n l → Blocks O n r → Blocks O n (l ++ r)
  | [], r, _, hr => hr
  | B :: l, r, hl, hr => Blocks.cons (hl B (List.mem_cons_self ..)).1 (hl B (List.mem_cons_self ..)).2 (Whole.blocks (l := l) (fun C hC => hl C (List.mem_cons_of_mem _ hC)) hr)
theorem Whole.len {n : Nat} : ∀ {l : List (List α)}, Whole O n l → l.flatten.length = l.length * n
  | [], _ => by simp
  | B :: l, h => by
    rw [List.flatten_cons, List.length_append, Whole.len (l := l) fun C hC => h C (List.mem_cons_of_mem _ hC), (h B (List.mem_cons_self ..)).2, List.length_cons, Nat.add_mul]; omega
theorem Whole.snoc {n : Nat} {l : List (List α)} {B : List α} (h : Whole O n l) (s : O.Sorted B) (hB : B.length = n) : Whole O n (l ++ [B]) := fun C hC => by
  rcases List.mem_append.1 hC with hC | hC
  · exact h C hC
  · rw [List.mem_singleton.1 hC]; exact ⟨s, hB⟩
end
section
variable {w0 : Base} {w : World} {fr : List Chunk} {data : Slc}
theorem sp_stableH {O : Ord T_api_Held} {cmp : Value} {L : List T_api_Held} {n : Int} {R : World → Prop} (hc : CmpH w0 fr data O cmp) (h : ArH w0 fr data L w) (hn : n = (L.length : Int)) (hl : L.length ≤ 288230376151711744)
    (k : ∀ Z w', O.Sorted Z → O.Same L Z → Z.length = L.length → ArH w0 fr data Z w' → R w') : C_slices_stableCmpFunc_api_Held data n cmp w R := by
  subst hn
  apply S_slices_stableCmpFunc_api_Held
  unfold F_slices_stableCmpFunc_api_Held
  -- blocks of twenty
  refine ⟨fun a b w' => ∃ (D : List (List T_api_Held)) (T : List T_api_Held), a = (D.flatten.length : Int) ∧ b = ((D.flatten.length + 20 : Nat) : Int) ∧ Whole O 20 D ∧ O.Same L (D.flatten ++ T) ∧ D.flatten.length + T.length = L.length ∧ ArH w0 fr data (D.flatten ++ T) w',
    fun a b _ => L.length + 20 - b.toNat, ⟨[], L, rfl, rfl, fun B hB => (by cases hB), Ord.Same.refl _, by simp, h⟩, ?_⟩
  clear h
  rintro a b w1 ⟨D, T, rfl, rfl, hD, eL, hlen, h⟩
  unfold F_slices_stableCmpFunc_api_Held_L0
  refine ⟨fun hb => ?_, fun hb => ?_⟩
  · have hb := of_decide_eq_true hb
    have lt1 : (T.take 20).length = 20 := by rw [List.length_take]; omega
    have eT : T = T.take 20 ++ T.drop 20 := (List.take_append_drop ..).symm
    have lT : T.length = 20 + (T.drop 20).length := by conv => lhs; rw [eT]
                                                       rw [List.length_append, lt1]
    rw [eT] at h eL
    generalize T.take 20 = X at *
    generalize T.drop 20 = Y at *
    refine sp_insertionH hc h rfl (by omega) (by simp only [List.length_append]; omega) fun Z w2 sZ eZ lZ h2 => ?_
    have e1 : IntKind.i64.wrap (((D.flatten.length + 20 : Nat) : Int) + 20) = ((D.flatten.length + 20 + 20 : Nat) : Int) := by rw [i64_in _ (by omega) (by omega)]; omega
    rw [e1]
    have ed : (D ++ [Z]).flatten = D.flatten ++ Z := by simp
    have ld : (D ++ [Z]).flatten.length = D.flatten.length + 20 := by rw [ed, List.length_append]; omega
    refine ⟨⟨D ++ [Z], Y, by rw [ld], by rw [ld], hD.snoc sZ (by omega), ?_, by omega, by rw [ed, List.append_assoc]; exact h2⟩, by show _ - _ < _ - _; omega⟩
    rw [ed, List.append_assoc]
    exact eL.trans ((Ord.Same.refl _).app (eZ.app (Ord.Same.refl _)))
  · have hb := of_decide_eq_false hb
    refine sp_insertionH (P := D.flatten) (X := T) (S := []) hc (by simpa using h) rfl (by omega) (by simp only [List.length_append, List.length_nil]; omega) fun Z w2 sZ eZ lZ h2 => ?_
    rw [List.append_nil] at h2
    have hB : Blocks O 20 (D ++ [Z]) := hD.blocks ⟨sZ, by omega⟩
    have ed : (D ++ [Z]).flatten = D.flatten ++ Z := by simp
    have eL2 : O.Same L (D ++ [Z]).flatten := by rw [ed]; exact eL.trans ((Ord.Same.refl _).app eZ)
    have h2 : ArH w0 fr data (D ++ [Z]).flatten w2 := by rw [ed]; exact h2
    have ll : (D ++ [Z]).flatten.length = L.length := by rw [ed, List.length_append]; omega
    generalize D ++ [Z] = BB at *
    clear eL hlen h hD eZ lZ sZ hb ed
    -- blocks that double
    refine ⟨fun bs w' => ∃ (s : Nat) (BB : List (List T_api_Held)), bs = (s : Int) ∧ 0 < s ∧ s ≤ 2 * L.length + 20 ∧ Blocks O s BB ∧ O.Same L BB.flatten ∧ BB.flatten.length = L.length ∧ ArH w0 fr data BB.flatten w', fun bs _ => 2 * L.length + 20 - bs.toNat,
      ⟨20, BB, rfl, by omega, by omega, hB, eL2, ll, h2⟩, ?_⟩
    clear hB eL2 h2 ll
    rintro bs w3 ⟨s, BB, rfl, hs0, hs1, hB, eL, ll, h⟩
    unfold F_slices_stableCmpFunc_api_Held_L1
    refine ⟨fun hlt => ?_, fun hge => ?_⟩
    rotate_left
    · have hge := of_decide_eq_false hge
      cases BB with
      | nil => exact k [] w3 List.Pairwise.nil (by simpa using eL) (by simpa using ll) (by simpa using h)
      | cons B r =>
        obtain ⟨sB, lB, hr⟩ := hB.head
        cases r with
        | nil => exact k B w3 sB (by simpa using eL) (by simpa using ll) (by simpa using h)
        | cons C r =>
          have h1 := hr (by simp)
          have hC : C = [] ∧ r.flatten = [] := by
            rw [List.flatten_cons, List.flatten_cons, List.length_append, List.length_append] at ll
            exact ⟨List.eq_nil_of_length_eq_zero (by omega), List.eq_nil_of_length_eq_zero (by omega)⟩
          have ef : (B :: C :: r).flatten = B := by rw [List.flatten_cons, List.flatten_cons, hC.1, hC.2]; simp
          rw [ef] at eL ll h
          exact k B w3 sB eL ll h
    have hlt := of_decide_eq_true hlt
    have e1 : IntKind.i64.wrap (2 * (s : Int)) = ((2 * s : Nat) : Int) := by rw [i64_in _ (by omega) (by omega)]; omega
    have e2 : IntKind.i64.wrap ((s : Int) * 2) = ((2 * s : Nat) : Int) := by rw [i64_in _ (by omega) (by omega)]; omega
    refine ⟨fun a b w' => ∃ (D U : List (List T_api_Held)), a = (D.flatten.length : Int) ∧ b = ((D.flatten.length + 2 * s : Nat) : Int) ∧ Whole O (2 * s) D ∧ Blocks O s U ∧ O.Same L (D.flatten ++ U.flatten) ∧ D.flatten.length + U.flatten.length = L.length ∧ ArH w0 fr data (D.flatten ++ U.flatten) w',
      fun a b _ => L.length + 2 * s - b.toNat, ⟨[], BB, rfl, by rw [e1]; simp, fun B hB => (by cases hB), hB, by simpa using eL, by simpa using ll, by simpa using h⟩, ?_⟩
    clear hB eL ll h
    rintro a b w4 ⟨D, U, rfl, rfl, hD, hU, eL, ll, h⟩
    unfold F_slices_stableCmpFunc_api_Held_L2
    have e3 : IntKind.i64.wrap ((D.flatten.length : Int) + (s : Int)) = ((D.flatten.length + s : Nat) : Int) := by rw [i64_in _ (by omega) (by omega)]; omega
    have e4 : IntKind.i64.wrap (((D.flatten.length + 2 * s : Nat) : Int) + ((2 * s : Nat) : Int)) = ((D.flatten.length + 2 * s + 2 * s : Nat) : Int) := by rw [i64_in _ (by omega) (by omega)]; omega
    rw [e3, e1, e4]
    refine ⟨fun hb => ?_, fun hb => ?_⟩
    · have hb := of_decide_eq_true hb
      -- two whole blocks
      obtain ⟨B, C, r, hBC⟩ : ∃ B C r, U = B :: C :: r := by
        cases U with
        | nil => have h0 : ([] : List (List T_api_Held)).flatten.length = 0 := rfl
                 omega
        | cons B r => cases r with
          | nil =>
            have := hU.head.2.1
            have h0 : ([B] : List (List T_api_Held)).flatten.length = B.length := by simp
            omega
          | cons C r => exact ⟨B, C, r, rfl⟩
      subst hBC
      obtain ⟨sB, _, lB⟩ := hU.head
      have lB := lB (by simp)
      obtain ⟨sC, lC, lC2⟩ := hU.tail.head
      have lC : C.length = s := by
        by_cases hr : r = []
        · subst hr
          have h0 : ([B, C] : List (List T_api_Held)).flatten.length = B.length + C.length := by simp
          omega
        · exact lC2 hr
      have e5 : D.flatten ++ (B :: C :: r).flatten = D.flatten ++ (B ++ (C ++ r.flatten)) := by simp
      rw [e5] at h eL
      have l5 : (B :: C :: r).flatten.length = B.length + (C.length + r.flatten.length) := by simp
      refine sp_symMergeH hc (B.length + C.length) (Nat.le_refl _) h (by omega) (by omega) rfl (by omega) (by omega) (by omega) sB sC fun Z w5 sZ eZ lZ h5 => ?_
      have ed : (D ++ [Z]).flatten = D.flatten ++ Z := by simp
      have ld : (D ++ [Z]).flatten.length = D.flatten.length + 2 * s := by rw [ed, List.length_append]; omega
      refine ⟨⟨D ++ [Z], r, by rw [ld], by rw [ld], hD.snoc sZ (by omega), hU.tail.tail, ?_, by omega, by rw [ed, List.append_assoc]; exact h5⟩, by show _ - _ < _ - _; omega⟩
      rw [ed, List.append_assoc]
      refine eL.trans ((Ord.Same.refl _).app ?_)
      have := eZ.app (Ord.Same.refl r.flatten)
      rwa [List.append_assoc] at this
    · have hb := of_decide_eq_false hb
      have fin : ∀ Z w5, O.Sorted Z → Z.length ≤ 2 * s → O.Same L (D.flatten ++ Z) → D.flatten.length + Z.length = L.length → ArH w0 fr data (D.flatten ++ Z) w5 → F_slices_stableCmpFunc_api_Held_k3 (s : Int) (fun bs' w' => (∃ (s : Nat) (BB : List (List T_api_Held)), bs' = (s : Int) ∧ 0 < s ∧ s ≤ 2 * L.length + 20 ∧ Blocks O s BB ∧ O.Same L BB.flatten ∧ BB.flatten.length = L.length ∧ ArH w0 fr data BB.flatten w') ∧ 2 * L.length + 20 - bs'.toNat < 2 * L.length + 20 - ((s : Int)).toNat) w5 := by
        intro Z w5 sZ lZ eZ l5 h5
        unfold F_slices_stableCmpFunc_api_Held_k3
        rw [e2]
        have ed : (D ++ [Z]).flatten = D.flatten ++ Z := by simp
        exact ⟨⟨2 * s, D ++ [Z], rfl, by omega, by omega, hD.blocks ⟨sZ, lZ⟩, by rw [ed]; exact eZ, by rw [ed, List.length_append]; exact l5, by rw [ed]; exact h5⟩, by omega⟩
      refine ⟨fun hm => ?_, fun hm => ?_⟩
      · have hm := of_decide_eq_true hm
        obtain ⟨B, C, r, hBC⟩ : ∃ B C r, U = B :: C :: r := by
          cases U with
          | nil => have h0 : ([] : List (List T_api_Held)).flatten.length = 0 := rfl
                   omega
          | cons B r => cases r with
            | nil =>
              have := hU.head.2.1
              have h0 : ([B] : List (List T_api_Held)).flatten.length = B.length := by simp
              omega
            | cons C r => exact ⟨B, C, r, rfl⟩
        subst hBC
        obtain ⟨sB, _, lB⟩ := hU.head
        have lB := lB (by simp)
        obtain ⟨sC, lC, lC2⟩ := hU.tail.head
        have l5 : (B :: C :: r).flatten.length = B.length + (C.length + r.flatten.length) := by simp
        have hrf : r.flatten = [] := by
          by_cases hr : r = []
          · subst hr; rfl
          · have := lC2 hr
            omega
        rw [hrf] at l5
        have e5 : D.flatten ++ (B :: C :: r).flatten = D.flatten ++ (B ++ (C ++ [])) := by simp [hrf]
        rw [e5] at h eL
        simp only [List.length_nil] at l5
        refine sp_symMergeH hc (B.length + C.length) (Nat.le_refl _) h (by omega) (by omega) rfl (by omega) (by omega) (by simp only [List.length_nil]; omega) sB sC fun Z w5 sZ eZ lZ h5 => ?_
        rw [List.append_nil] at h5
        refine fin Z w5 sZ (by omega) ?_ (by omega) h5
        rw [List.append_nil] at eL
        exact eL.trans ((Ord.Same.refl _).app eZ)
      · have hm := of_decide_eq_false hm
        cases U with
        | nil => exact fin [] w4 List.Pairwise.nil (by simp) (by simpa using eL) (by simpa using ll) (by simpa using h)
        | cons B r =>
          obtain ⟨sB, lB, hr⟩ := hU.head
          have hrf : r.flatten = [] := by
            by_cases hr0 : r = []
            · subst hr0; rfl
            · have h1 := hr hr0
              rw [List.flatten_cons, List.length_append] at ll
              exact List.eq_nil_of_length_eq_zero (by omega)
          rw [List.flatten_cons, hrf, List.append_nil] at h eL ll
          exact fin B w4 sB (by omega) eL ll h
theorem sp_sortStableH {O : Ord T_api_Held} {cmp : Value} {L : List T_api_Held} {R : World → Prop} (hc : CmpH w0 fr data O cmp) (h : ArH w0 fr data L w) (hl : L.length ≤ 288230376151711744)
    (k : ∀ w', ArH w0 fr data (O.insAll [] L) w' → R w') : C_slices_SortStableFunc_api_Held_api_Held data cmp w R := by
  apply S_slices_SortStableFunc_api_Held_api_Held
  unfold F_slices_SortStableFunc_api_Held_api_Held
  refine sp_stableH hc h (by rw [h.len]) hl fun Z w' sZ eZ lZ h' => k w' ?_
  have := Ord.insAll_unique (O := O) (l := []) (xs := L) List.Pairwise.nil sZ eZ
  rw [← this]
  exact h'
end
end Go.Proofs.Ytpedclhflmhakaa

namespace Go.Proofs.Ytpedclhflmhakaa
open Go
set_option linter.unusedVariables false
set_option linter.unusedSimpArgs false

section
variable {w0 : Base} {w : World} {fr : List Chunk} {data : Slc}
/-- The row that is sorted. -/
def ArE (w0 : Base) (fr : List Chunk) (data : Slc) (l : List T_api_Entry) (w : World) : Prop := ∃ d, RowC 2 data (l.flatMap entT) d ∧ St w0 (d ++ fr) w
theorem ArE.len {l : List T_api_Entry} (h : ArE w0 fr data l w) : data.len = l.length := by
  obtain ⟨d, r, _⟩ := h
  have := r.len
  rw [flatMap_len (sz := 2) (fun _ => rfl)] at this; omega
theorem ArE.drew {l : List T_api_Entry} {w' : World} (h : ArE w0 fr data l w) (hw : ∃ k, w' = w.drewN k) : ArE w0 fr data l w' := by
  obtain ⟨d, r, st⟩ := h
  exact ⟨d, r, st.drew hw⟩
theorem ArE.get {l : List T_api_Entry} (h : ArE w0 fr data l w) {i : Nat} (hi : i < l.length) : IsAt data.ptr ∧ ∃ x, l[i]? = some x ∧ CellsAt w (pblk data.ptr) (poff data.ptr + i * 2) (entT x) := by
  have hl := h.len
  obtain ⟨d, r, st⟩ := h
  obtain ⟨a, x, hx, hc⟩ := SrcAt.getN (r.src st) (fun _ => rfl) (by decide) (i := (i : Int)) (by omega) (by omega)
  rw [Int.toNat_natCast] at hx hc
  exact ⟨a, x, hx, hc⟩
theorem ArE.set {l : List T_api_Entry} (h : ArE w0 fr data l w) {i : Nat} (hi : i < l.length) (y : T_api_Entry) :
    Writable w (pblk data.ptr) (poff data.ptr + i * 2) 2 ∧ ∀ w', w' = World.puts (pblk data.ptr) (poff data.ptr + i * 2) (entT y) w → ArE w0 fr data (l.set i y) w' := by
  have hl := h.len
  obtain ⟨d, r, st⟩ := h
  obtain ⟨a, wr, set⟩ := RowC.setN (sz := 2) (f := entT) (i := i) (fun _ => rfl) (by decide) r st (by omega) y
  refine ⟨wr, fun w' hw => ?_⟩
  obtain ⟨d', r', st'⟩ := set w' hw
  exact ⟨d', r', st'⟩
theorem sp_swapRangeE {l : List T_api_Entry} {a b n : Nat} {cmp : Value} {R : World → Prop} (h : ArE w0 fr data l w) (h1 : a + n ≤ b) (h2 : b + n ≤ l.length) (hl : l.length ≤ 4611686018427387904)
    (k : ∀ w', ArE w0 fr data (swN l a b n) w' → R w') : C_slices_swapRangeCmpFunc_api_Entry data (a : Int) (b : Int) (n : Int) cmp w R := by
  apply S_slices_swapRangeCmpFunc_api_Entry
  unfold F_slices_swapRangeCmpFunc_api_Entry
  refine ⟨fun i w' => ∃ p : Nat, i = (p : Int) ∧ p ≤ n ∧ ArE w0 fr data (swN l a b p) w', fun i _ => n - i.toNat, ⟨0, rfl, by omega, h⟩, ?_⟩
  clear h
  rintro i w1 ⟨p, rfl, hp, h⟩
  unfold F_slices_swapRangeCmpFunc_api_Entry_L0
  refine ⟨fun hi w2 hw2 => ?_, fun hi => ?_⟩
  · have hi := of_decide_eq_true hi
    have h := h.drew hw2
    have hll := swN_len l a b p
    have hdl := h.len
    have wa : IntKind.i64.wrap ((a : Int) + (p : Int)) = ((a + p : Nat) : Int) := by rw [i64_in _ (by omega) (by omega)]; omega
    have wb : IntKind.i64.wrap ((b : Int) + (p : Int)) = ((b + p : Nat) : Int) := by rw [i64_in _ (by omega) (by omega)]; omega
    have wp : IntKind.i64.wrap ((p : Int) + 1) = ((p + 1 : Nat) : Int) := by rw [i64_in _ (by omega) (by omega)]; omega
    rw [wa, wb, wp]
    obtain ⟨at_, y, hy, hcy⟩ := h.get (i := b + p) (by omega)
    obtain ⟨_, x, hx, hcx⟩ := h.get (i := a + p) (by omega)
    obtain ⟨wr1, set1⟩ := h.set (i := a + p) (by omega) y
    simp only [Int.toNat_natCast]
    refine ⟨at_, by omega, by omega, y, hcy, at_, by omega, by omega, x, hcx, at_, by omega, by omega, wr1, fun w3 hw3 => ?_⟩
    have h3 := set1 w3 hw3
    obtain ⟨wr2, set2⟩ := h3.set (i := b + p) (by rw [List.length_set]; omega) x
    refine ⟨at_, by omega, by omega, wr2, fun w4 hw4 => ⟨⟨p + 1, rfl, by omega, ?_⟩, by show _ - _ < _ - _; omega⟩⟩
    have h4 := set2 w4 hw4
    have e : swN l a b (p + 1) = ((swN l a b p).set (a + p) y).set (b + p) x := by
      rw [swN]; unfold swp; rw [hx, hy]
    rw [e]; exact h4
  · have hi := of_decide_eq_false hi
    obtain rfl : p = n := by omega
    exact k w1 h
end
end Go.Proofs.Ytpedclhflmhakaa

namespace Go.Proofs.Ytpedclhflmhakaa
open Go
set_option linter.unusedVariables false
set_option linter.unusedSimpArgs false

section
variable {w0 : Base} {w : World} {fr : List Chunk} {data : Slc}
theorem sp_swapBlocksE {P X M Y S : List T_api_Entry} {l : List T_api_Entry} {a b n : Int} {cmp : Value} {R : World → Prop} (hlist : l = P ++ (X ++ (M ++ (Y ++ S)))) (h : ArE w0 fr data l w) (hxy : X.length = Y.length) (ha : a = (P.length : Int)) (hb : b = ((P.length + (X.length + M.length) : Nat) : Int)) (hn : n = (X.length : Int))
    (hl : l.length ≤ 4611686018427387904) (k : ∀ w', ArE w0 fr data (P ++ (Y ++ (M ++ (X ++ S)))) w' → R w') : C_slices_swapRangeCmpFunc_api_Entry data a b n cmp w R := by
  subst hlist ha hb hn
  refine sp_swapRangeE h (by omega) (by simp; omega) hl fun w' h' => k w' ?_
  rw [swN_blocks hxy] at h'
  exact h'
theorem sp_rotateE {P X Y S : List T_api_Entry} {a m b : Int} {cmp : Value} {R : World → Prop} (h : ArE w0 fr data (P ++ (X ++ (Y ++ S))) w) (hX : 0 < X.length) (hY : 0 < Y.length) (ha : a = (P.length : Int)) (hm : m = ((P.length + X.length : Nat) : Int)) (hb : b = ((P.length + X.length + Y.length : Nat) : Int))
    (hl : (P ++ (X ++ (Y ++ S))).length ≤ 4611686018427387904) (k : ∀ w', ArE w0 fr data (P ++ (Y ++ (X ++ S))) w' → R w') : C_slices_rotateCmpFunc_api_Entry data a m b cmp w R := by
  apply S_slices_rotateCmpFunc_api_Entry
  unfold F_slices_rotateCmpFunc_api_Entry
  have hl' : P.length + (X.length + (Y.length + S.length)) ≤ 4611686018427387904 := by simpa using hl
  refine ⟨fun i j w' => ∃ P' X' Y' S' : List T_api_Entry, i = (X'.length : Int) ∧ j = (Y'.length : Int) ∧ 0 < X'.length ∧ 0 < Y'.length ∧ P'.length + X'.length = P.length + X.length ∧ P' ++ (Y' ++ (X' ++ S')) = P ++ (Y ++ (X ++ S)) ∧ ArE w0 fr data (P' ++ (X' ++ (Y' ++ S'))) w', fun i j _ => i.toNat + j.toNat, ⟨P, X, Y, S, ?_, ?_, hX, hY, rfl, rfl, h⟩, ?_⟩
  · rw [hm, ha, i64_in _ (by omega) (by omega)]; omega
  · rw [hm, hb, i64_in _ (by omega) (by omega)]; omega
  clear h
  rintro i j w1 ⟨P', X', Y', S', rfl, rfl, h1, h2, h3, h4, h⟩
  have h5 : P'.length + (Y'.length + (X'.length + S'.length)) = P.length + (Y.length + (X.length + S.length)) := by have := congrArg List.length h4; simpa using this
  have hlen : (P' ++ (X' ++ (Y' ++ S'))).length ≤ 4611686018427387904 := by simp; omega
  unfold F_slices_rotateCmpFunc_api_Entry_L0
  have e1 : IntKind.i64.wrap (m - (X'.length : Int)) = (P'.length : Int) := by rw [hm, i64_in _ (by omega) (by omega)]; omega
  refine ⟨fun hne => ⟨fun hgt => ?_, fun hgt => ?_⟩, fun heq => ?_⟩
  · have hgt := of_decide_eq_true hgt
    have hx1 : (X'.take Y'.length).length = Y'.length := by rw [List.length_take]; omega
    have hx2 : (X'.drop Y'.length).length = X'.length - Y'.length := List.length_drop ..
    have hX' : X' = X'.take Y'.length ++ X'.drop Y'.length := (List.take_append_drop ..).symm
    generalize X'.take Y'.length = A at *
    generalize X'.drop Y'.length = B at *
    rw [e1]
    refine sp_swapBlocksE (P := P') (X := A) (M := B) (Y := Y') (S := S') (by rw [hX']; simp only [List.append_assoc]) h hx1 rfl (by rw [hm]; omega) (by rw [hx1]) hlen fun w2 h' => ?_
    have e2 : IntKind.i64.wrap ((X'.length : Int) - (Y'.length : Int)) = (B.length : Int) := by rw [i64_in _ (by omega) (by omega)]; omega
    rw [e2]
    refine ⟨⟨P' ++ Y', B, A, S', rfl, by rw [hx1], by omega, by omega, by rw [List.length_append]; omega, ?_, ?_⟩, by show ((B.length : Int).toNat + (Y'.length : Int).toNat) < ((X'.length : Int).toNat + (Y'.length : Int).toNat); omega⟩
    · rw [← h4, hX']; simp only [List.append_assoc]
    · simpa only [List.append_assoc] using h'
  · have hgt := of_decide_eq_false hgt
    have hne : (X'.length : Int) ≠ (Y'.length : Int) := bne_iff_ne.1 hne
    have hy1 : (Y'.take (Y'.length - X'.length)).length = Y'.length - X'.length := by rw [List.length_take]; omega
    have hy2 : (Y'.drop (Y'.length - X'.length)).length = X'.length := by rw [List.length_drop]; omega
    have hY' : Y' = Y'.take (Y'.length - X'.length) ++ Y'.drop (Y'.length - X'.length) := (List.take_append_drop ..).symm
    generalize Y'.take (Y'.length - X'.length) = A at *
    generalize Y'.drop (Y'.length - X'.length) = B at *
    rw [e1]
    have e3 : IntKind.i64.wrap (IntKind.i64.wrap (m + (Y'.length : Int)) - (X'.length : Int)) = ((P'.length + (X'.length + A.length) : Nat) : Int) := by
      rw [hm, i64_in (((P.length + X.length : Nat) : Int) + (Y'.length : Int)) (by omega) (by omega), i64_in _ (by omega) (by omega)]; omega
    rw [e3]
    refine sp_swapBlocksE (P := P') (X := X') (M := A) (Y := B) (S := S') (by rw [hY']; simp only [List.append_assoc]) h hy2.symm rfl rfl rfl hlen fun w2 h' => ?_
    have e2 : IntKind.i64.wrap ((Y'.length : Int) - (X'.length : Int)) = (A.length : Int) := by rw [i64_in _ (by omega) (by omega)]; omega
    rw [e2]
    refine ⟨⟨P', B, A, X' ++ S', by rw [hy2], rfl, by omega, by omega, by omega, ?_, h'⟩, by show ((X'.length : Int).toNat + (A.length : Int).toNat) < ((X'.length : Int).toNat + (Y'.length : Int).toNat); omega⟩
    rw [← h4, hY']; simp only [List.append_assoc]
  · have heq : (X'.length : Int) = (Y'.length : Int) := bne_eq_false_iff_eq.1 heq
    rw [e1]
    refine sp_swapBlocksE (P := P') (X := X') (M := []) (Y := Y') (S := S') (by simp) h (by omega) rfl (by rw [hm]; simp; omega) rfl hlen fun w2 h' => k w2 ?_
    rw [← h4]
    simpa using h'
end
end Go.Proofs.Ytpedclhflmhakaa

namespace Go.Proofs.Ytpedclhflmhakaa
open Go
set_option linter.unusedVariables false
set_option linter.unusedSimpArgs false

abbrev aggE (x : T_api_Entry) : Value := Value.agg #[Value.string x.Key, Value.string x.Val]
section
variable {w0 : Base} {w : World} {fr : List Chunk} {data : Slc}
/-- The compare function keeps to an order, and leaves the row alone. -/
def CmpE (w0 : Base) (fr : List Chunk) (data : Slc) (O : Ord T_api_Entry) (cmp : Value) : Prop :=
  ∀ (x y : T_api_Entry) (l : List T_api_Entry) (w : World), ArE w0 fr data l w → CallsV (P := Try.prog) cmp #[aggE x, aggE y] w (fun e w' => ∃ v : Int, e = Ending.returned (Value.int .i64 v) ∧ decide (v < 0) = O.lt x y ∧ ArE w0 fr data l w')
theorem sp_insertionE {O : Ord T_api_Entry} {P X S : List T_api_Entry} {a b : Int} {cmp : Value} {R : World → Prop} (hc : CmpE w0 fr data O cmp) (h : ArE w0 fr data (P ++ (X ++ S)) w) (ha : a = (P.length : Int)) (hb : b = ((P.length + X.length : Nat) : Int)) (hl : (P ++ (X ++ S)).length ≤ 4611686018427387904)
    (k : ∀ Z w', O.Sorted Z → O.Same X Z → Z.length = X.length → ArE w0 fr data (P ++ (Z ++ S)) w' → R w') : C_slices_insertionSortCmpFunc_api_Entry data a b cmp w R := by
  apply S_slices_insertionSortCmpFunc_api_Entry
  unfold F_slices_insertionSortCmpFunc_api_Entry
  have hl' : P.length + (X.length + S.length) ≤ 4611686018427387904 := by simpa using hl
  subst ha hb
  have w1 : IntKind.i64.wrap ((P.length : Int) + 1) = ((P.length + 1 : Nat) : Int) := by rw [i64_in _ (by omega) (by omega)]; omega
  rw [w1]
  refine ⟨fun i w' => ∃ (Z Y : List T_api_Entry), i = ((P.length + (if Z = [] then 1 else Z.length) : Nat) : Int) ∧ (Z = [] → X = []) ∧ O.Sorted Z ∧ O.Same X (Z ++ Y) ∧ Z.length + Y.length = X.length ∧ ArE w0 fr data (P ++ (Z ++ (Y ++ S))) w', fun i _ => P.length + X.length + 1 - i.toNat, ?_, ?_⟩
  · cases X with
    | nil => exact ⟨[], [], rfl, fun _ => rfl, List.Pairwise.nil, Ord.Same.refl _, rfl, h⟩
    | cons x X => exact ⟨[x], X, rfl, fun h => (by cases h), List.pairwise_singleton _ _, Ord.Same.refl _, by simp; omega, h⟩
  clear h
  rintro i w2 ⟨Z, Y, rfl, hz, sZ, eZ, hzl, h⟩
  unfold F_slices_insertionSortCmpFunc_api_Entry_L0
  refine ⟨fun hi => ?_, fun hi => ?_⟩
  rotate_left
  · have hi := of_decide_eq_false hi
    have hY : Y = [] := by
      cases Z with
      | nil => rw [hz rfl] at hzl; simpa using hzl
      | cons z Z => rw [if_neg (by simp)] at hi; exact List.eq_nil_of_length_eq_zero (by omega)
    subst hY
    rw [List.append_nil] at eZ
    exact k Z w2 sZ eZ (by simpa using hzl) h
  have hi := of_decide_eq_true hi
  cases Y with
  | nil =>
    cases Z with
    | nil => rw [hz rfl, if_pos rfl] at hi; simp at hi; omega
    | cons z Z => rw [if_neg (by simp)] at hi; simp at hzl; simp at hi; omega
  | cons x Y =>
    have hz0 : Z ≠ [] := fun e => by rw [e, hz e] at hzl; simp at hzl
    rw [if_neg hz0] at hi ⊢
    have hzl2 : Z.length + (Y.length + 1) = X.length := by simpa using hzl
    refine ⟨fun j w' => ∃ (A B : List T_api_Entry), Z = A ++ B ∧ j = ((P.length + A.length : Nat) : Int) ∧ (∀ z ∈ B, O.lt x z = true) ∧ ArE w0 fr data (P ++ (A ++ (x :: (B ++ (Y ++ S))))) w', fun j _ => j.toNat, ⟨Z, [], by simp, rfl, fun z h => (by cases h), by simpa using h⟩, ?_⟩
    clear h
    rintro j w3 ⟨A, B, hZ, rfl, hB, h⟩
    have hab : Z.length = A.length + B.length := by rw [hZ, List.length_append]
    unfold F_slices_insertionSortCmpFunc_api_Entry_L1
    intro w4 hw4
    have h := h.drew hw4
    have wn : IntKind.i64.wrap (((P.length + Z.length : Nat) : Int) + 1) = ((P.length + (Z.length + 1) : Nat) : Int) := by rw [i64_in _ (by omega) (by omega)]; omega
    have stop : ∀ {w5 : World} {ag : Int → World → Prop}, (∀ y ∈ A, O.lt x y = false) → ArE w0 fr data (P ++ (A ++ (x :: (B ++ (Y ++ S))))) w5 → F_slices_insertionSortCmpFunc_api_Entry_k2 data ((P.length + Z.length : Nat) : Int) (fun i' w' => (∃ (Z Y : List T_api_Entry), i' = ((P.length + (if Z = [] then 1 else Z.length) : Nat) : Int) ∧ (Z = [] → X = []) ∧ O.Sorted Z ∧ O.Same X (Z ++ Y) ∧ Z.length + Y.length = X.length ∧ ArE w0 fr data (P ++ (Z ++ (Y ++ S))) w') ∧ P.length + X.length + 1 - i'.toNat < P.length + X.length + 1 - (((P.length + Z.length : Nat) : Int)).toNat) ((P.length + A.length : Nat) : Int) ag false w5 := fun hA h' => by
      unfold F_slices_insertionSortCmpFunc_api_Entry_k2
      refine ⟨fun h => (by cases h), fun _ => ?_⟩
      rw [wn]
      refine ⟨⟨A ++ (x :: B), Y, ?_, fun h => (by simp at h), ?_, ?_, by simp; omega, by simpa only [List.append_assoc, List.cons_append] using h'⟩, by omega⟩
      · rw [if_neg (by simp), List.length_append, List.length_cons, hab]
        congr 1
      · rw [hZ] at sZ
        refine sZ.left.app (List.pairwise_cons.2 ⟨fun z hz => O.asym _ _ (hB z hz), sZ.right⟩) fun y hy z hz => ?_
        rcases List.mem_cons.1 hz with rfl | hz
        · exact hA y hy
        · exact sZ.cross y hy z hz
      · refine eZ.trans ?_
        have t := (Ord.Same.refl (O := O) A).app ((Ord.Same.turn (O := O) (a := B) (b := [x]) (fun z hz y hy => by rw [List.mem_singleton.1 hy]; exact hB z hz)).app (Ord.Same.refl Y))
        rw [hZ]
        simpa only [List.append_assoc, List.singleton_append, List.cons_append, List.nil_append] using t
    refine ⟨fun hj => ?_, fun hj => ?_⟩
    rotate_left
    · have hj := of_decide_eq_false hj
      have hA : A = [] := List.eq_nil_of_length_eq_zero (by omega)
      exact stop (fun y hy => (by rw [hA] at hy; cases hy)) h
    have hj := of_decide_eq_true hj
    obtain ⟨A, y, rfl⟩ : ∃ A' y, A = A' ++ [y] := ⟨A.dropLast, A.getLast (fun e => by rw [e] at hj; simp at hj), (List.dropLast_concat_getLast _).symm⟩
    have hall : ∀ {v : T_api_Entry} {T : List T_api_Entry} (L : List T_api_Entry), (L ++ (v :: T))[L.length]? = some v := fun L => by rw [List.getElem?_append_right (Nat.le_refl _), Nat.sub_self]; rfl
    have hset : ∀ {v u : T_api_Entry} {T : List T_api_Entry} (L : List T_api_Entry), (L ++ (v :: T)).set L.length u = L ++ (u :: T) := fun L => by rw [List.set_append_right _ _ (Nat.le_refl _), Nat.sub_self]; rfl
    have hjl : P.length + (A ++ [y]).length = (P ++ (A ++ [y])).length := List.length_append.symm
    have hjl1 : P.length + A.length = (P ++ A).length := List.length_append.symm
    have hAl : (A ++ [y]).length = A.length + 1 := by simp
    have lenl : (P ++ ((A ++ [y]) ++ (x :: (B ++ (Y ++ S))))).length = P.length + (X.length + S.length) := by simp; omega
    have wj : IntKind.i64.wrap (((P.length + (A ++ [y]).length : Nat) : Int) - 1) = ((P.length + A.length : Nat) : Int) := by rw [hAl, i64_in _ (by omega) (by omega)]; omega
    have hdl := h.len
    rw [wj]
    have gx : (P ++ ((A ++ [y]) ++ (x :: (B ++ (Y ++ S)))))[P.length + (A ++ [y]).length]? = some x := by rw [hjl, ← List.append_assoc]; exact hall _
    have gy : (P ++ ((A ++ [y]) ++ (x :: (B ++ (Y ++ S)))))[P.length + A.length]? = some y := by
      rw [hjl1, show P ++ ((A ++ [y]) ++ (x :: (B ++ (Y ++ S)))) = (P ++ A) ++ (y :: (x :: (B ++ (Y ++ S)))) from by simp only [List.append_assoc, List.singleton_append]]
      exact hall _
    have at2 : ∀ {w' : World}, ArE w0 fr data (P ++ ((A ++ [y]) ++ (x :: (B ++ (Y ++ S))))) w' → IsAt data.ptr ∧ CellsAt w' (pblk data.ptr) (poff data.ptr + (P.length + (A ++ [y]).length) * 2) (entT x) ∧ CellsAt w' (pblk data.ptr) (poff data.ptr + (P.length + A.length) * 2) (entT y) := fun h' => by
      obtain ⟨a1, x1, hx1, hc1⟩ := h'.get (i := P.length + (A ++ [y]).length) (by omega)
      obtain ⟨a2, y1, hy1, hc2⟩ := h'.get (i := P.length + A.length) (by omega)
      rw [gx] at hx1; rw [gy] at hy1
      obtain rfl := Option.some.inj hx1
      obtain rfl := Option.some.inj hy1
      exact ⟨a1, hc1, hc2⟩
    obtain ⟨at_, cx, cy⟩ := at2 h
    simp only [Int.toNat_natCast]
    refine ⟨at_, by omega, by omega, x, cx, at_, by omega, by omega, y, cy, CallsV.mono (hc x y _ _ h) ?_⟩
    rintro e w5 ⟨v, rfl, hv, h5⟩
    refine ⟨v, rfl, ?_⟩
    cases hlt : O.lt x y with
    | false =>
      rw [hv, hlt]
      refine stop (fun z hz => ?_) h5
      rcases List.mem_append.1 hz with hz | hz
      · rw [hZ] at sZ
        exact O.tr z y x (sZ.left.cross z hz y (List.mem_singleton_self _)) hlt
      · rw [List.mem_singleton.1 hz]; exact hlt
    | true =>
      rw [hv, hlt]
      unfold F_slices_insertionSortCmpFunc_api_Entry_k2
      refine ⟨fun _ w6 hw6 => ?_, fun h => (by cases h)⟩
      have h6 := h5.drew hw6
      obtain ⟨at_, cx, cy⟩ := at2 h6
      rw [wj]
      simp only [Int.toNat_natCast]
      obtain ⟨wr1, set1⟩ := h6.set (i := P.length + (A ++ [y]).length) (by omega) y
      refine ⟨at_, by omega, by omega, y, cy, at_, by omega, by omega, x, cx, at_, by omega, by omega, wr1, fun w7 hw7 => ?_⟩
      have h7 := set1 w7 hw7
      rw [hjl, ← List.append_assoc, hset, List.append_assoc] at h7
      rw [show P ++ ((A ++ [y]) ++ (y :: (B ++ (Y ++ S)))) = (P ++ A) ++ (y :: (y :: (B ++ (Y ++ S)))) from by simp only [List.append_assoc, List.singleton_append]] at h7
      obtain ⟨wr2, set2⟩ := h7.set (i := P.length + A.length) (by simp) x
      refine ⟨at_, by omega, by omega, wr2, fun w8 hw8 => ?_⟩
      have h8 := set2 w8 hw8
      rw [hjl1, hset, List.append_assoc] at h8
      refine ⟨⟨A, y :: B, by rw [hZ]; simp only [List.append_assoc, List.singleton_append], rfl, fun z hz => ?_, by simpa only [List.cons_append] using h8⟩, by omega⟩
      rcases List.mem_cons.1 hz with rfl | hz
      · exact hlt
      · exact hB z hz
end
end Go.Proofs.Ytpedclhflmhakaa

namespace Go.Proofs.Ytpedclhflmhakaa
open Go
set_option linter.unusedVariables false
set_option linter.unusedSimpArgs false

section
variable {w0 : Base} {w : World} {fr : List Chunk} {data : Slc}
/-- Two neighbours change places. -/
theorem ArE.swap1 {L T : List T_api_Entry} {x y : T_api_Entry} (h : ArE w0 fr data (L ++ (x :: y :: T)) w) :
    IsAt data.ptr ∧ L.length + 1 < data.len ∧ CellsAt w (pblk data.ptr) (poff data.ptr + (L.length + 1) * 2) (entT y) ∧ CellsAt w (pblk data.ptr) (poff data.ptr + L.length * 2) (entT x) ∧
    Writable w (pblk data.ptr) (poff data.ptr + L.length * 2) 2 ∧ ∀ w', w' = World.puts (pblk data.ptr) (poff data.ptr + L.length * 2) (entT y) w →
    Writable w' (pblk data.ptr) (poff data.ptr + (L.length + 1) * 2) 2 ∧ ∀ w'', w'' = World.puts (pblk data.ptr) (poff data.ptr + (L.length + 1) * 2) (entT x) w' → ArE w0 fr data (L ++ (y :: x :: T)) w'' := by
  have hl := h.len
  have hll : (L ++ (x :: y :: T)).length = L.length + (T.length + 2) := by simp
  obtain ⟨a1, x1, hx1, c1⟩ := h.get (i := L.length) (by omega)
  obtain ⟨_, y1, hy1, c2⟩ := h.get (i := L.length + 1) (by omega)
  rw [List.getElem?_append_right (Nat.le_refl _), Nat.sub_self] at hx1
  rw [List.getElem?_append_right (by omega), show L.length + 1 - L.length = 1 from by omega] at hy1
  obtain rfl : x = x1 := Option.some.inj hx1
  obtain rfl : y = y1 := Option.some.inj hy1
  obtain ⟨wr1, s1⟩ := h.set (i := L.length) (by omega) y
  refine ⟨a1, by omega, c2, c1, wr1, fun w' hw' => ?_⟩
  have h1 := s1 w' hw'
  rw [set_at] at h1
  have e1 : L ++ (y :: y :: T) = (L ++ [y]) ++ (y :: T) := by simp
  rw [e1] at h1
  obtain ⟨wr2, s2⟩ := h1.set (i := L.length + 1) (by simp) x
  refine ⟨wr2, fun w'' hw'' => ?_⟩
  have h2 := s2 w'' hw''
  rw [show L.length + 1 = (L ++ [y]).length from by simp, set_at] at h2
  simpa using h2
theorem sp_mergeL1E {P Y S : List T_api_Entry} {x : T_api_Entry} {p : Nat} {R : World → Prop} (hp : p ≤ Y.length) (h : ArE w0 fr data (P ++ (x :: (Y ++ S))) w) (hl : P.length + (Y.length + S.length) + 1 ≤ 2305843009213693952)
    (k : ∀ w', ArE w0 fr data (P ++ (Y.take p ++ (x :: (Y.drop p ++ S)))) w' → R w') :
    ∃ (I : Int → World → Prop) (μ : Int → World → Nat), I (P.length : Int) w ∧ ∀ (k_ : Int) w, I k_ w → F_slices_symMergeCmpFunc_api_Entry_L1 data R ((P.length + 1 + p : Nat) : Int) (fun (k_' : Int) w' => I k_' w' ∧ μ k_' w' < μ k_ w) k_ w := by
  refine ⟨fun k_ w' => ∃ r : Nat, k_ = ((P.length + r : Nat) : Int) ∧ r ≤ p ∧ ArE w0 fr data (P ++ (Y.take r ++ (x :: (Y.drop r ++ S)))) w', fun k_ _ => P.length + p - k_.toNat, ⟨0, rfl, by omega, by simpa using h⟩, ?_⟩
  clear h
  rintro k_ w1 ⟨r, rfl, hr, h⟩
  unfold F_slices_symMergeCmpFunc_api_Entry_L1
  have e1 : IntKind.i64.wrap (((P.length + 1 + p : Nat) : Int) - 1) = ((P.length + p : Nat) : Int) := by rw [i64_in _ (by omega) (by omega)]; omega
  rw [e1]
  refine ⟨fun hi w2 hw2 => ?_, fun hi => ?_⟩
  · have hi := of_decide_eq_true hi
    have h := h.drew hw2
    have hrY : r < Y.length := by omega
    rw [List.drop_eq_getElem_cons hrY] at h
    have hyt : Y.take (r + 1) = Y.take r ++ [Y[r]] := by rw [List.take_add_one, List.getElem?_eq_getElem hrY]; rfl
    generalize Y[r] = y at *
    have hL : (P ++ Y.take r).length = P.length + r := by rw [List.length_append, List.length_take, Nat.min_eq_left (by omega)]
    rw [show P ++ (Y.take r ++ (x :: (y :: Y.drop (r + 1) ++ S))) = (P ++ Y.take r) ++ (x :: y :: (Y.drop (r + 1) ++ S)) from by simp] at h
    obtain ⟨a1, hlt, c2, c1, wr1, s1⟩ := h.swap1
    rw [hL] at hlt c2 c1 wr1 s1
    have e2 : IntKind.i64.wrap (((P.length + r : Nat) : Int) + 1) = ((P.length + r + 1 : Nat) : Int) := by rw [i64_in _ (by omega) (by omega)]; omega
    rw [e2]
    simp only [Int.toNat_natCast]
    refine ⟨a1, by omega, by omega, y, c2, a1, by omega, by omega, x, c1, a1, by omega, by omega, wr1, fun w6 hw6 => ?_⟩
    obtain ⟨wr2, s2⟩ := s1 w6 hw6
    refine ⟨a1, by omega, by omega, wr2, fun w7 hw7 => ?_⟩
    have h7 := s2 w7 hw7
    refine ⟨⟨r + 1, by omega, by omega, ?_⟩, by show _ - _ < _ - _; omega⟩
    rw [hyt]
    simpa using h7
  · have hi := of_decide_eq_false hi
    obtain rfl : r = p := by omega
    exact k w1 h
theorem sp_mergeL3E {P X S : List T_api_Entry} {y : T_api_Entry} {p : Nat} {R : World → Prop} (hp : p ≤ X.length) (h : ArE w0 fr data (P ++ (X ++ (y :: S))) w) (hl : P.length + (X.length + S.length) + 1 ≤ 2305843009213693952)
    (k : ∀ w', ArE w0 fr data (P ++ (X.take p ++ (y :: (X.drop p ++ S)))) w' → R w') :
    ∃ (I : Int → World → Prop) (μ : Int → World → Nat), I ((P.length + X.length : Nat) : Int) w ∧ ∀ (k_ : Int) w, I k_ w → F_slices_symMergeCmpFunc_api_Entry_L3 data R ((P.length + p : Nat) : Int) (fun (k_' : Int) w' => I k_' w' ∧ μ k_' w' < μ k_ w) k_ w := by
  refine ⟨fun k_ w' => ∃ r : Nat, k_ = ((P.length + r : Nat) : Int) ∧ p ≤ r ∧ r ≤ X.length ∧ ArE w0 fr data (P ++ (X.take r ++ (y :: (X.drop r ++ S)))) w', fun k_ _ => k_.toNat, ⟨X.length, rfl, hp, Nat.le_refl _, by simpa using h⟩, ?_⟩
  clear h
  rintro k_ w1 ⟨r, rfl, hr, hr2, h⟩
  unfold F_slices_symMergeCmpFunc_api_Entry_L3
  refine ⟨fun hi w2 hw2 => ?_, fun hi => ?_⟩
  · have hi := of_decide_eq_true hi
    have h := h.drew hw2
    obtain ⟨r, rfl⟩ : ∃ r', r = r' + 1 := ⟨r - 1, by omega⟩
    have hrX : r < X.length := by omega
    have hxt : X.take (r + 1) = X.take r ++ [X[r]] := by rw [List.take_add_one, List.getElem?_eq_getElem hrX]; rfl
    have hxd : X.drop r = X[r] :: X.drop (r + 1) := List.drop_eq_getElem_cons hrX
    generalize X[r] = x at *
    rw [hxt] at h
    have hL : (P ++ X.take r).length = P.length + r := by rw [List.length_append, List.length_take, Nat.min_eq_left (by omega)]
    rw [show P ++ ((X.take r ++ [x]) ++ (y :: (X.drop (r + 1) ++ S))) = (P ++ X.take r) ++ (x :: y :: (X.drop (r + 1) ++ S)) from by simp] at h
    -- data[k], data[k-1] = data[k-1], data[k]: the latter is written first
    have hdl := h.len
    have hll : ((P ++ X.take r) ++ (x :: y :: (X.drop (r + 1) ++ S))).length = P.length + r + ((X.drop (r + 1) ++ S).length + 2) := by rw [List.length_append, hL]; simp only [List.length_cons]
    obtain ⟨a1, hlt, c2, c1, _, _⟩ := h.swap1
    rw [hL] at hlt c2 c1
    have e2 : IntKind.i64.wrap (((P.length + (r + 1) : Nat) : Int) - 1) = ((P.length + r : Nat) : Int) := by rw [i64_in _ (by omega) (by omega)]; omega
    rw [e2]
    simp only [Int.toNat_natCast]
    rw [show P.length + (r + 1) = P.length + r + 1 from by omega]
    obtain ⟨wr1, s1⟩ := h.set (i := P.length + r + 1) (by omega) x
    refine ⟨a1, by omega, by omega, x, c1, a1, by omega, by omega, y, c2, a1, by omega, by omega, wr1, fun w6 hw6 => ?_⟩
    have h6 := s1 w6 hw6
    rw [show (P ++ X.take r) ++ (x :: y :: (X.drop (r + 1) ++ S)) = ((P ++ X.take r) ++ [x]) ++ (y :: (X.drop (r + 1) ++ S)) from by simp, show P.length + r + 1 = ((P ++ X.take r) ++ [x]).length from by rw [List.length_append, hL]; rfl, set_at, show ((P ++ X.take r) ++ [x]) ++ (x :: (X.drop (r + 1) ++ S)) = (P ++ X.take r) ++ (x :: x :: (X.drop (r + 1) ++ S)) from by simp] at h6
    obtain ⟨wr2, s2⟩ := h6.set (i := P.length + r) (by rw [List.length_append, hL]; simp only [List.length_cons]; omega) y
    refine ⟨a1, by omega, by omega, wr2, fun w7 hw7 => ?_⟩
    have h7 := s2 w7 hw7
    rw [← hL, set_at] at h7
    refine ⟨⟨r, rfl, by omega, by omega, ?_⟩, by omega⟩
    rw [hxd]
    simpa using h7
  · have hi := of_decide_eq_false hi
    obtain rfl : r = p := by omega
    exact k w1 h
theorem sp_merge1E {O : Ord T_api_Entry} {P Y S : List T_api_Entry} {x : T_api_Entry} {cmp : Value} {R : World → Prop} (hc : CmpE w0 fr data O cmp) (h : ArE w0 fr data (P ++ ([x] ++ (Y ++ S))) w) (hl : P.length + (Y.length + S.length) + 1 ≤ 2305843009213693952)
    (sY : O.Sorted Y) (k : ∀ Z w', O.Sorted Z → O.Same ([x] ++ Y) Z → ArE w0 fr data (P ++ (Z ++ S)) w' → R w') :
    ∃ (I : Int → Int → World → Prop) (μ : Int → Int → World → Nat), I ((P.length + 1 : Nat) : Int) ((P.length + 1 + Y.length : Nat) : Int) w ∧
      ∀ (i j : Int) w, I i j w → F_slices_symMergeCmpFunc_api_Entry_L0 data (P.length : Int) cmp R (fun (i' : Int) (j' : Int) w' => I i' j' w' ∧ μ i' j' w' < μ i j w) i j w := by
  have sX : O.Sorted [x] := List.pairwise_singleton _ _
  refine ⟨fun i j w' => ∃ p q : Nat, i = ((P.length + 1 + p : Nat) : Int) ∧ j = ((P.length + 1 + q : Nat) : Int) ∧ p ≤ q ∧ q ≤ Y.length ∧ (0 < p → ∃ y, Y[p - 1]? = some y ∧ O.lt y x = true) ∧ (q < Y.length → ∃ y, Y[q]? = some y ∧ O.lt y x = false) ∧ ArE w0 fr data (P ++ ([x] ++ (Y ++ S))) w',
    fun i j _ => j.toNat - i.toNat, ⟨0, Y.length, rfl, rfl, by omega, by omega, fun h => by omega, fun h => by omega, h⟩, ?_⟩
  clear h
  rintro i j w1 ⟨p, q, rfl, rfl, hpq, hq, fp, fq, h⟩
  unfold F_slices_symMergeCmpFunc_api_Entry_L0
  refine ⟨fun hi w2 hw2 => ?_, fun hi => ?_⟩
  · have hi := of_decide_eq_true hi
    have h := h.drew hw2
    have hdl := h.len
    have hll : (P ++ ([x] ++ (Y ++ S))).length = P.length + (Y.length + S.length) + 1 := by simp; omega
    rw [half_nat (by omega), show (P.length + 1 + p + (P.length + 1 + q)) / 2 = P.length + 1 + (p + q) / 2 from by omega]
    obtain ⟨a1, y, hy, c1⟩ := h.get (i := P.length + 1 + (p + q) / 2) (by omega)
    obtain ⟨_, x1, hx1, c2⟩ := h.get (i := P.length) (by omega)
    rw [at_mid2 (by show P.length + 1 ≤ _; omega) (by show _ < P.length + 1 + Y.length; omega), show P.length + 1 + (p + q) / 2 - P.length - [x].length = (p + q) / 2 from by show _ - 1 = _; omega] at hy
    rw [at_mid (Nat.le_refl _) (by show _ < P.length + 1; omega), Nat.sub_self] at hx1
    obtain rfl : x = x1 := Option.some.inj hx1
    have e2 : IntKind.i64.wrap (((P.length + 1 + (p + q) / 2 : Nat) : Int) + 1) = ((P.length + 1 + ((p + q) / 2 + 1) : Nat) : Int) := by rw [i64_in _ (by omega) (by omega)]; omega
    rw [e2]
    simp only [Int.toNat_natCast]
    refine ⟨a1, by omega, by omega, y, c1, a1, by omega, by omega, x, c2, CallsV.mono (hc y x _ _ h) ?_⟩
    rintro e w3 ⟨v, rfl, hv, h3⟩
    refine ⟨v, rfl, fun hlt => ⟨⟨(p + q) / 2 + 1, q, rfl, rfl, by omega, hq, fun _ => ⟨y, hy, by rw [← hv]; exact hlt⟩, fq, h3⟩, by omega⟩, fun hge => ⟨⟨p, (p + q) / 2, rfl, rfl, by omega, by omega, fp, fun _ => ⟨y, hy, by rw [← hv]; exact hge⟩, h3⟩, by omega⟩⟩
  · have hi := of_decide_eq_false hi
    obtain rfl : p = q := by omega
    refine sp_mergeL1E (x := x) (S := S) hq (by simpa using h) hl fun w' h' => ?_
    have ct := Ord.merge_cut (O := O) (X := [x]) (Y := Y) (s := 0) (e := p) sX sY (fun _ h0 => (by obtain ⟨y, hy, hl⟩ := fp h0; exact ⟨x, y, rfl, hy, hl⟩)) (fun h0 => by omega)
    have ct1 := Ord.merge_cut (O := O) (X := [x]) (Y := Y) (s := 1) (e := p) sX sY (fun h0 => by simp at h0) (fun _ h0 => (by obtain ⟨y, hy, hl⟩ := fq h0; exact ⟨x, y, rfl, hy, hl⟩))
    have sT : O.Sorted (Y.take p) := sY.sublist (List.take_sublist _ _)
    have sD : O.Sorted (Y.drop p) := sY.sublist (List.drop_sublist _ _)
    have m := merge_all (L := Y.take p) (R := [x] ++ Y.drop p) sX sY ct sT (by rw [List.take_zero, List.nil_append]; exact Ord.Same.refl _) (sX.app sD fun a ha b hb => ct1.2 a (by simpa using ha) b hb) (Ord.Same.refl _)
    refine k _ w' m.1 m.2 ?_
    simpa using h'
theorem sp_merge2E {O : Ord T_api_Entry} {P X S : List T_api_Entry} {y : T_api_Entry} {cmp : Value} {R : World → Prop} (hc : CmpE w0 fr data O cmp) (h : ArE w0 fr data (P ++ (X ++ ([y] ++ S))) w) (hl : P.length + (X.length + S.length) + 1 ≤ 2305843009213693952)
    (sX : O.Sorted X) (k : ∀ Z w', O.Sorted Z → O.Same (X ++ [y]) Z → ArE w0 fr data (P ++ (Z ++ S)) w' → R w') :
    ∃ (I : Int → Int → World → Prop) (μ : Int → Int → World → Nat), I (P.length : Int) ((P.length + X.length : Nat) : Int) w ∧
      ∀ (i j : Int) w, I i j w → F_slices_symMergeCmpFunc_api_Entry_L2 data ((P.length + X.length : Nat) : Int) cmp R (fun (i' : Int) (j' : Int) w' => I i' j' w' ∧ μ i' j' w' < μ i j w) i j w := by
  have sY : O.Sorted [y] := List.pairwise_singleton _ _
  refine ⟨fun i j w' => ∃ p q : Nat, i = ((P.length + p : Nat) : Int) ∧ j = ((P.length + q : Nat) : Int) ∧ p ≤ q ∧ q ≤ X.length ∧ (0 < p → ∃ x, X[p - 1]? = some x ∧ O.lt y x = false) ∧ (q < X.length → ∃ x, X[q]? = some x ∧ O.lt y x = true) ∧ ArE w0 fr data (P ++ (X ++ ([y] ++ S))) w',
    fun i j _ => j.toNat - i.toNat, ⟨0, X.length, rfl, rfl, by omega, by omega, fun h => by omega, fun h => by omega, h⟩, ?_⟩
  clear h
  rintro i j w1 ⟨p, q, rfl, rfl, hpq, hq, fp, fq, h⟩
  unfold F_slices_symMergeCmpFunc_api_Entry_L2
  refine ⟨fun hi w2 hw2 => ?_, fun hi => ?_⟩
  · have hi := of_decide_eq_true hi
    have h := h.drew hw2
    have hdl := h.len
    have hll : (P ++ (X ++ ([y] ++ S))).length = P.length + (X.length + S.length) + 1 := by simp; omega
    rw [half_nat (by omega), show (P.length + p + (P.length + q)) / 2 = P.length + (p + q) / 2 from by omega]
    obtain ⟨a1, y1, hy, c1⟩ := h.get (i := P.length + X.length) (by omega)
    obtain ⟨_, x, hx, c2⟩ := h.get (i := P.length + (p + q) / 2) (by omega)
    rw [at_mid2 (Nat.le_refl _) (by show _ < P.length + X.length + 1; omega), show P.length + X.length - P.length - X.length = 0 from by omega] at hy
    rw [at_mid (by omega) (by omega), show P.length + (p + q) / 2 - P.length = (p + q) / 2 from by omega] at hx
    obtain rfl : y = y1 := Option.some.inj hy
    have e2 : IntKind.i64.wrap (((P.length + (p + q) / 2 : Nat) : Int) + 1) = ((P.length + ((p + q) / 2 + 1) : Nat) : Int) := by rw [i64_in _ (by omega) (by omega)]; omega
    rw [e2]
    simp only [Int.toNat_natCast]
    refine ⟨a1, by omega, by omega, y, c1, a1, by omega, by omega, x, c2, CallsV.mono (hc y x _ _ h) ?_⟩
    rintro e w3 ⟨v, rfl, hv, h3⟩
    refine ⟨v, rfl, fun hge => ⟨⟨(p + q) / 2 + 1, q, rfl, rfl, by omega, hq, fun _ => ⟨x, hx, by rw [hv] at hge; simpa using hge⟩, fq, h3⟩, by omega⟩, fun hlt => ⟨⟨p, (p + q) / 2, rfl, rfl, by omega, by omega, fp, fun _ => ⟨x, hx, by rw [hv] at hlt; simpa using hlt⟩, h3⟩, by omega⟩⟩
  · have hi := of_decide_eq_false hi
    obtain rfl : p = q := by omega
    refine sp_mergeL3E (y := y) (S := S) hq (by simpa using h) hl fun w' h' => ?_
    have ct := Ord.merge_cut (O := O) (X := X) (Y := [y]) (s := p) (e := 1) sX sY (fun h0 _ => (by obtain ⟨x, hx, hl⟩ := fq h0; exact ⟨x, y, hx, rfl, hl⟩)) (fun _ h0 => by simp at h0)
    have ct1 := Ord.merge_cut (O := O) (X := X) (Y := [y]) (s := p) (e := 0) sX sY (fun _ h0 => by omega) (fun h0 _ => (by obtain ⟨x, hx, hl⟩ := fp h0; exact ⟨x, y, hx, rfl, hl⟩))
    have sT : O.Sorted (X.take p) := sX.sublist (List.take_sublist _ _)
    have sD : O.Sorted (X.drop p) := sX.sublist (List.drop_sublist _ _)
    have m := merge_all (L := X.take p ++ [y]) (R := X.drop p) sX sY ct (sT.app sY fun a ha b hb => ct1.2 a ha b (by simpa using hb)) (by show O.Same (X.take p ++ [y]) _; exact Ord.Same.refl _) sD (by show O.Same (X.drop p ++ []) _; rw [List.append_nil]; exact Ord.Same.refl _)
    refine k _ w' m.1 m.2 ?_
    simpa using h'
end
end Go.Proofs.Ytpedclhflmhakaa

namespace Go.Proofs.Ytpedclhflmhakaa
open Go
set_option linter.unusedVariables false
set_option linter.unusedSimpArgs false

section
variable {w0 : Base} {w : World} {fr : List Chunk} {data : Slc}
set_option maxHeartbeats 2000000 in
theorem sp_symMergeE {O : Ord T_api_Entry} {cmp : Value} (hc : CmpE w0 fr data O cmp) : ∀ (n : Nat) {P X Y S : List T_api_Entry} {a m b : Int} {w : World} {R : World → Prop}, X.length + Y.length ≤ n → ArE w0 fr data (P ++ (X ++ (Y ++ S))) w → 0 < X.length → 0 < Y.length →
    a = (P.length : Int) → m = ((P.length + X.length : Nat) : Int) → b = ((P.length + X.length + Y.length : Nat) : Int) → P.length + (X.length + (Y.length + S.length)) ≤ 1152921504606846976 → O.Sorted X → O.Sorted Y →
    (∀ Z w', O.Sorted Z → O.Same (X ++ Y) Z → Z.length = X.length + Y.length → ArE w0 fr data (P ++ (Z ++ S)) w' → R w') → C_slices_symMergeCmpFunc_api_Entry data a m b cmp w R := by
  intro n
  induction n with
  | zero => intro P X Y S a m b w R hn h hX hY; omega
  | succ n ih =>
    intro P X Y S a m b w R hn h hX hY ha hm hb hl sX sY k
    subst ha hm hb
    apply S_slices_symMergeCmpFunc_api_Entry
    unfold F_slices_symMergeCmpFunc_api_Entry
    have e1 : IntKind.i64.wrap (((P.length + X.length : Nat) : Int) - (P.length : Int)) = (X.length : Int) := by rw [i64_in _ (by omega) (by omega)]; omega
    have e2 : IntKind.i64.wrap (((P.length + X.length + Y.length : Nat) : Int) - ((P.length + X.length : Nat) : Int)) = (Y.length : Int) := by rw [i64_in _ (by omega) (by omega)]; omega
    rw [e1, e2]
    refine ⟨fun h1 => ?_, fun h1 => ⟨fun h2 => ?_, fun h2 => ?_⟩⟩
    · have h1 : X.length = 1 := by have : (X.length : Int) = 1 := by simpa using h1
                                   omega
      obtain ⟨x, rfl⟩ := List.length_eq_one_iff.1 h1
      exact sp_merge1E hc h (by simp at hl; omega) sY fun Z w' sZ eZ h' => k Z w' sZ eZ (by have := h'.len; have h3 := h.len; simp at this h3; simp; omega) h'
    · have h2 : Y.length = 1 := by have : (Y.length : Int) = 1 := by simpa using h2
                                   omega
      obtain ⟨y, rfl⟩ := List.length_eq_one_iff.1 h2
      exact sp_merge2E hc h (by simp at hl; omega) sX fun Z w' sZ eZ h' => k Z w' sZ eZ (by have := h'.len; have h3 := h.len; simp at this h3; simp; omega) h'
    have h1 : X.length ≠ 1 := by have : (X.length : Int) ≠ 1 := by simpa using h1
                                 omega
    have h2 : Y.length ≠ 1 := by have : (Y.length : Int) ≠ 1 := by simpa using h2
                                 omega
    rw [half_nat (by omega)]
    obtain ⟨mid, hmid⟩ : ∃ mid, mid = (P.length + (P.length + X.length + Y.length)) / 2 := ⟨_, rfl⟩
    have hm1 : 2 * mid ≤ P.length + (P.length + X.length + Y.length) := by omega
    have hm2 : P.length + (P.length + X.length + Y.length) ≤ 2 * mid + 1 := by omega
    rw [← hmid]
    have e3 : IntKind.i64.wrap ((mid : Int) + ((P.length + X.length : Nat) : Int)) = ((mid + (P.length + X.length) : Nat) : Int) := by rw [i64_in _ (by omega) (by omega)]; omega
    have e5 : IntKind.i64.wrap (((mid + (P.length + X.length) : Nat) : Int) - 1) = ((mid + (P.length + X.length) - 1 : Nat) : Int) := by rw [i64_in _ (by omega) (by omega)]; omega
    rw [e3]
    -- what the search begins with
    have key : ∀ (lo hi : Nat), (P.length + X.length > mid → lo + Y.length = mid ∧ hi = mid) → (¬ P.length + X.length > mid → lo = P.length ∧ hi = P.length + X.length) →
        F_slices_symMergeCmpFunc_api_Entry_k4 data (P.length : Int) ((P.length + X.length : Nat) : Int) ((P.length + X.length + Y.length : Nat) : Int) cmp R (lo : Int) (hi : Int) w := by
      intro lo hi c1 c2
      have hlohi : P.length ≤ lo ∧ lo ≤ hi ∧ hi ≤ P.length + X.length ∧ mid + (P.length + X.length) - lo ≤ P.length + X.length + Y.length ∧ P.length + X.length ≤ mid + (P.length + X.length) - hi ∧ hi ≤ mid := by
        by_cases c : P.length + X.length > mid
        · obtain ⟨h5, h6⟩ := c1 c; omega
        · obtain ⟨h5, h6⟩ := c2 c; omega
      obtain ⟨hlo0, hlohi, hhi0, hlo1, hhi1, hhi2⟩ := hlohi
      unfold F_slices_symMergeCmpFunc_api_Entry_k4
      refine ⟨fun i j w' => ∃ p q : Nat, i = (p : Int) ∧ j = (q : Int) ∧ lo ≤ p ∧ p ≤ q ∧ q ≤ hi ∧ (lo < p → ∃ x y, X[p - 1 - P.length]? = some x ∧ Y[mid - p]? = some y ∧ O.lt y x = false) ∧
        (q < hi → ∃ x y, X[q - P.length]? = some x ∧ Y[mid - 1 - q]? = some y ∧ O.lt y x = true) ∧ ArE w0 fr data (P ++ (X ++ (Y ++ S))) w', fun i j _ => j.toNat - i.toNat, ⟨lo, hi, rfl, rfl, Nat.le_refl _, hlohi, Nat.le_refl _, fun h => by omega, fun h => by omega, h⟩, ?_⟩
      clear h
      rintro i j w1 ⟨p, q, rfl, rfl, hp0, hpq, hq0, fp, fq, h⟩
      have hdl := h.len
      have hll : (P ++ (X ++ (Y ++ S))).length = P.length + (X.length + (Y.length + S.length)) := by simp
      unfold F_slices_symMergeCmpFunc_api_Entry_L5
      rw [half_nat (by omega), ← hmid, e3, e5, half_nat (by omega)]
      refine ⟨fun hi' w2 hw2 => ?_, fun hi' => ?_⟩
      · have hi' := of_decide_eq_true hi'
        have h := h.drew hw2
        obtain ⟨c, hcd⟩ : ∃ c, c = (p + q) / 2 := ⟨_, rfl⟩
        have hc1 : p ≤ c ∧ c < q := by omega
        rw [← hcd]
        have e6 : IntKind.i64.wrap (((mid + (P.length + X.length) - 1 : Nat) : Int) - (c : Int)) = ((mid + (P.length + X.length) - 1 - c : Nat) : Int) := by rw [i64_in _ (by omega) (by omega)]; omega
        have e7 : IntKind.i64.wrap ((c : Int) + 1) = ((c + 1 : Nat) : Int) := by rw [i64_in _ (by omega) (by omega)]; omega
        rw [e6, e7]
        obtain ⟨a1, y, hy, cy⟩ := h.get (i := mid + (P.length + X.length) - 1 - c) (by omega)
        obtain ⟨_, x, hx, cx⟩ := h.get (i := c) (by omega)
        rw [at_mid2 (by omega) (by omega), show mid + (P.length + X.length) - 1 - c - P.length - X.length = mid - 1 - c from by omega] at hy
        rw [at_mid (by omega) (by omega)] at hx
        simp only [Int.toNat_natCast]
        refine ⟨a1, by omega, by omega, y, cy, a1, by omega, by omega, x, cx, CallsV.mono (hc y x _ _ h) ?_⟩
        rintro e w3 ⟨v, rfl, hv, h3⟩
        refine ⟨v, rfl, fun hge => ⟨⟨c + 1, q, rfl, rfl, by omega, by omega, hq0, fun _ => ⟨x, y, by rw [show c + 1 - 1 - P.length = c - P.length from by omega]; exact hx, by rw [show mid - (c + 1) = mid - 1 - c from by omega]; exact hy, by rw [hv] at hge; simpa using hge⟩, fq, h3⟩, by omega⟩,
          fun hlt => ⟨⟨p, c, rfl, rfl, hp0, by omega, by omega, fp, fun _ => ⟨x, y, hx, hy, by rw [hv] at hlt; simpa using hlt⟩, h3⟩, by omega⟩⟩
      · have hi' := of_decide_eq_false hi'
        obtain rfl : p = q := by omega
        have e8 : IntKind.i64.wrap (((mid + (P.length + X.length) : Nat) : Int) - (p : Int)) = ((P.length + X.length + (mid - p) : Nat) : Int) := by rw [i64_in _ (by omega) (by omega)]; omega
        rw [e8]
        have ct := Ord.merge_cut (O := O) (X := X) (Y := Y) (s := p - P.length) (e := mid - p) sX sY
          (fun g1 g2 => (by
            obtain ⟨x, y, hx, hy, hl⟩ := fq (by
              by_cases c : P.length + X.length > mid
              · obtain ⟨h5, h6⟩ := c1 c; omega
              · obtain ⟨h5, h6⟩ := c2 c; omega)
            exact ⟨x, y, hx, by rw [show mid - p - 1 = mid - 1 - p from by omega]; exact hy, hl⟩))
          (fun g1 g2 => (by
            obtain ⟨x, y, hx, hy, hl⟩ := fp (by
              by_cases c : P.length + X.length > mid
              · obtain ⟨h5, h6⟩ := c1 c; omega
              · obtain ⟨h5, h6⟩ := c2 c; omega)
            exact ⟨x, y, by rw [show p - P.length - 1 = p - 1 - P.length from by omega]; exact hx, hy, hl⟩))
        have lx1 : (X.take (p - P.length)).length = p - P.length := by rw [List.length_take]; omega
        have lx2 : (X.drop (p - P.length)).length = X.length - (p - P.length) := List.length_drop ..
        have ly1 : (Y.take (mid - p)).length = mid - p := by rw [List.length_take]; omega
        have ly2 : (Y.drop (mid - p)).length = Y.length - (mid - p) := List.length_drop ..
        have sX1 : O.Sorted (X.take (p - P.length)) := sX.sublist (List.take_sublist _ _)
        have sX2 : O.Sorted (X.drop (p - P.length)) := sX.sublist (List.drop_sublist _ _)
        have sY1 : O.Sorted (Y.take (mid - p)) := sY.sublist (List.take_sublist _ _)
        have sY2 : O.Sorted (Y.drop (mid - p)) := sY.sublist (List.drop_sublist _ _)
        have mer : ∀ {L T : List T_api_Entry}, O.Sorted L → O.Same (X.take (p - P.length) ++ Y.take (mid - p)) L → O.Sorted T → O.Same (X.drop (p - P.length) ++ Y.drop (mid - p)) T → O.Sorted (L ++ T) ∧ O.Same (X ++ Y) (L ++ T) := fun sL eL sR eR => merge_all sX sY ct sL eL sR eR
        have eX : X = X.take (p - P.length) ++ X.drop (p - P.length) := (List.take_append_drop ..).symm
        have eY : Y = Y.take (mid - p) ++ Y.drop (mid - p) := (List.take_append_drop ..).symm
        have hXl : X.length = p - P.length + (X.length - (p - P.length)) := by omega
        generalize X.take (p - P.length) = X1 at *
        generalize X.drop (p - P.length) = X2 at *
        generalize Y.take (mid - p) = Y1 at *
        generalize Y.drop (mid - p) = Y2 at *
        -- behind the rotation
        have rest : ∀ w2, ArE w0 fr data (P ++ (X1 ++ (Y1 ++ (X2 ++ (Y2 ++ S))))) w2 → F_slices_symMergeCmpFunc_api_Entry_k6 data (P.length : Int) ((P.length + X.length : Nat) : Int) ((P.length + X.length + Y.length : Nat) : Int) cmp R (p : Int) w2 := by
          intro w2 h2
          unfold F_slices_symMergeCmpFunc_api_Entry_k6
          rw [half_nat (by omega), ← hmid]
          -- behind the first half
          have rest2 : ∀ L w3, O.Sorted L → O.Same (X1 ++ Y1) L → L.length = X1.length + Y1.length → ArE w0 fr data (P ++ (L ++ (X2 ++ (Y2 ++ S)))) w3 → F_slices_symMergeCmpFunc_api_Entry_k7 data (P.length : Int) ((P.length + X.length : Nat) : Int) ((P.length + X.length + Y.length : Nat) : Int) cmp R (p : Int) w3 := by
            intro L w3 sL eL lL h3
            unfold F_slices_symMergeCmpFunc_api_Entry_k7
            rw [half_nat (by omega), ← hmid, e3, e8]
            have fin : ∀ T w4, O.Sorted T → O.Same (X2 ++ Y2) T → T.length = X2.length + Y2.length → ArE w0 fr data (P ++ (L ++ (T ++ S))) w4 → R w4 := fun T w4 sT eT lT h4 => by
              have := mer sL eL sT eT
              exact k (L ++ T) w4 this.1 this.2 (by rw [List.length_append]; omega) (by simpa only [List.append_assoc] using h4)
            refine ⟨fun hh => ?_, fun hh => ?_⟩
            · simp only [Bool.and_eq_true, decide_eq_true_eq] at hh
              refine ih (P := P ++ L) (X := X2) (Y := Y2) (S := S) (by omega) (by simpa only [List.append_assoc] using h3) (by omega) (by omega) (by rw [List.length_append]; omega) (by rw [List.length_append]; omega) (by rw [List.length_append]; omega) (by rw [List.length_append]; omega) sX2 sY2 fun Z w' sZ eZ lZ h' => ?_
              exact fin Z w' sZ eZ lZ (by simpa only [List.append_assoc] using h')
            · refine fin (X2 ++ Y2) w3 (same_nil_left ?_ sX2 sY2) (Ord.Same.refl _) (List.length_append ..) (by simpa only [List.append_assoc] using h3)
              simp only [Bool.and_eq_false_iff, decide_eq_false_iff_not] at hh
              rcases hh with hh | hh
              · exact .inl (List.eq_nil_of_length_eq_zero (by omega))
              · exact .inr (List.eq_nil_of_length_eq_zero (by omega))
          refine ⟨fun hh => ?_, fun hh => ?_⟩
          · simp only [Bool.and_eq_true, decide_eq_true_eq] at hh
            refine ih (P := P) (X := X1) (Y := Y1) (S := X2 ++ (Y2 ++ S)) (by omega) h2 (by omega) (by omega) rfl (by omega) (by omega) (by simp only [List.length_append]; omega) sX1 sY1 fun Z w' sZ eZ lZ h' => ?_
            exact rest2 Z w' sZ eZ lZ h'
          · refine rest2 (X1 ++ Y1) w2 (same_nil_left ?_ sX1 sY1) (Ord.Same.refl _) (List.length_append ..) (by simpa only [List.append_assoc] using h2)
            simp only [Bool.and_eq_false_iff, decide_eq_false_iff_not] at hh
            rcases hh with hh | hh
            · exact .inl (List.eq_nil_of_length_eq_zero (by omega))
            · exact .inr (List.eq_nil_of_length_eq_zero (by omega))
        have h : ArE w0 fr data ((P ++ X1) ++ (X2 ++ (Y1 ++ (Y2 ++ S)))) w1 := by
          rw [eX, eY] at h
          simpa only [List.append_assoc] using h
        refine ⟨fun hh => ?_, fun hh => ?_⟩
        · simp only [Bool.and_eq_true, decide_eq_true_eq] at hh
          refine sp_rotateE h (by omega) (by omega) (by rw [List.length_append]; omega) (by rw [List.length_append]; omega) (by rw [List.length_append]; omega) (by simp only [List.length_append]; omega) fun w2 h2 => ?_
          exact rest w2 (by simpa only [List.append_assoc] using h2)
        · refine rest w1 ?_
          simp only [Bool.and_eq_false_iff, decide_eq_false_iff_not] at hh
          rcases hh with hh | hh
          · have : X2 = [] := List.eq_nil_of_length_eq_zero (by omega)
            subst this
            simpa only [List.append_assoc, List.nil_append] using h
          · have : Y1 = [] := List.eq_nil_of_length_eq_zero (by omega)
            subst this
            simpa only [List.append_assoc, List.nil_append] using h
    refine ⟨fun hgt => ?_, fun hgt => ?_⟩
    · have hgt := of_decide_eq_true hgt
      have e4 : IntKind.i64.wrap (((mid + (P.length + X.length) : Nat) : Int) - ((P.length + X.length + Y.length : Nat) : Int)) = ((mid - Y.length : Nat) : Int) := by rw [i64_in _ (by omega) (by omega)]; omega
      rw [e4]
      exact key (mid - Y.length) mid (fun _ => ⟨by omega, rfl⟩) (fun c => absurd (show P.length + X.length > mid by omega) c)
    · have hgt := of_decide_eq_false hgt
      exact key P.length (P.length + X.length) (fun c => absurd (show ((P.length + X.length : Nat) : Int) > (mid : Int) by omega) hgt) (fun _ => ⟨rfl, rfl⟩)
end
end Go.Proofs.Ytpedclhflmhakaa

namespace Go.Proofs.Ytpedclhflmhakaa
open Go
set_option linter.unusedVariables false
set_option linter.unusedSimpArgs false

section
variable {α : Type} {O : Ord α}
end
section
variable {w0 : Base} {w : World} {fr : List Chunk} {data : Slc}
theorem sp_stableE {O : Ord T_api_Entry} {cmp : Value} {L : List T_api_Entry} {n : Int} {R : World → Prop} (hc : CmpE w0 fr data O cmp) (h : ArE w0 fr data L w) (hn : n = (L.length : Int)) (hl : L.length ≤ 288230376151711744)
    (k : ∀ Z w', O.Sorted Z → O.Same L Z → Z.length = L.length → ArE w0 fr data Z w' → R w') : C_slices_stableCmpFunc_api_Entry data n cmp w R := by
  subst hn
  apply S_slices_stableCmpFunc_api_Entry
  unfold F_slices_stableCmpFunc_api_Entry
  -- blocks of twenty
  refine ⟨fun a b w' => ∃ (D : List (List T_api_Entry)) (T : List T_api_Entry), a = (D.flatten.length : Int) ∧ b = ((D.flatten.length + 20 : Nat) : Int) ∧ Whole O 20 D ∧ O.Same L (D.flatten ++ T) ∧ D.flatten.length + T.length = L.length ∧ ArE w0 fr data (D.flatten ++ T) w',
    fun a b _ => L.length + 20 - b.toNat, ⟨[], L, rfl, rfl, fun B hB => (by cases hB), Ord.Same.refl _, by simp, h⟩, ?_⟩
  clear h
  rintro a b w1 ⟨D, T, rfl, rfl, hD, eL, hlen, h⟩
  unfold F_slices_stableCmpFunc_api_Entry_L0
  refine ⟨fun hb => ?_, fun hb => ?_⟩
  · have hb := of_decide_eq_true hb
    have lt1 : (T.take 20).length = 20 := by rw [List.length_take]; omega
    have eT : T = T.take 20 ++ T.drop 20 := (List.take_append_drop ..).symm
    have lT : T.length = 20 + (T.drop 20).length := by conv => lhs; rw [eT]
                                                       rw [List.length_append, lt1]
    rw [eT] at h eL
    generalize T.take 20 = X at *
    generalize T.drop 20 = Y at *
    refine sp_insertionE hc h rfl (by omega) (by simp only [List.length_append]; omega) fun Z w2 sZ eZ lZ h2 => ?_
    have e1 : IntKind.i64.wrap (((D.flatten.length + 20 : Nat) : Int) + 20) = ((D.flatten.length + 20 + 20 : Nat) : Int) := by rw [i64_in _ (by omega) (by omega)]; omega
    rw [e1]
    have ed : (D ++ [Z]).flatten = D.flatten ++ Z := by simp
    have ld : (D ++ [Z]).flatten.length = D.flatten.length + 20 := by rw [ed, List.length_append]; omega
    refine ⟨⟨D ++ [Z], Y, by rw [ld], by rw [ld], hD.snoc sZ (by omega), ?_, by omega, by rw [ed, List.append_assoc]; exact h2⟩, by show _ - _ < _ - _; omega⟩
    rw [ed, List.append_assoc]
    exact eL.trans ((Ord.Same.refl _).app (eZ.app (Ord.Same.refl _)))
  · have hb := of_decide_eq_false hb
    refine sp_insertionE (P := D.flatten) (X := T) (S := []) hc (by simpa using h) rfl (by omega) (by simp only [List.length_append, List.length_nil]; omega) fun Z w2 sZ eZ lZ h2 => ?_
    rw [List.append_nil] at h2
    have hB : Blocks O 20 (D ++ [Z]) := hD.blocks ⟨sZ, by omega⟩
    have ed : (D ++ [Z]).flatten = D.flatten ++ Z := by simp
    have eL2 : O.Same L (D ++ [Z]).flatten := by rw [ed]; exact eL.trans ((Ord.Same.refl _).app eZ)
    have h2 : ArE w0 fr data (D ++ [Z]).flatten w2 := by rw [ed]; exact h2
    have ll : (D ++ [Z]).flatten.length = L.length := by rw [ed, List.length_append]; omega
    generalize D ++ [Z] = BB at *
    clear eL hlen h hD eZ lZ sZ hb ed
    -- blocks that double
    refine ⟨fun bs w' => ∃ (s : Nat) (BB : List (List T_api_Entry)), bs = (s : Int) ∧ 0 < s ∧ s ≤ 2 * L.length + 20 ∧ Blocks O s BB ∧ O.Same L BB.flatten ∧ BB.flatten.length = L.length ∧ ArE w0 fr data BB.flatten w', fun bs _ => 2 * L.length + 20 - bs.toNat,
      ⟨20, BB, rfl, by omega, by omega, hB, eL2, ll, h2⟩, ?_⟩
    clear hB eL2 h2 ll
    rintro bs w3 ⟨s, BB, rfl, hs0, hs1, hB, eL, ll, h⟩
    unfold F_slices_stableCmpFunc_api_Entry_L1
    refine ⟨fun hlt => ?_, fun hge => ?_⟩
    rotate_left
    · have hge := of_decide_eq_false hge
      cases BB with
      | nil => exact k [] w3 List.Pairwise.nil (by simpa using eL) (by simpa using ll) (by simpa using h)
      | cons B r =>
        obtain ⟨sB, lB, hr⟩ := hB.head
        cases r with
        | nil => exact k B w3 sB (by simpa using eL) (by simpa using ll) (by simpa using h)
        | cons C r =>
          have h1 := hr (by simp)
          have hC : C = [] ∧ r.flatten = [] := by
            rw [List.flatten_cons, List.flatten_cons, List.length_append, List.length_append] at ll
            exact ⟨List.eq_nil_of_length_eq_zero (by omega), List.eq_nil_of_length_eq_zero (by omega)⟩
          have ef : (B :: C :: r).flatten = B := by rw [List.flatten_cons, List.flatten_cons, hC.1, hC.2]; simp
          rw [ef] at eL ll h
          exact k B w3 sB eL ll h
    have hlt := of_decide_eq_true hlt
    have e1 : IntKind.i64.wrap (2 * (s : Int)) = ((2 * s : Nat) : Int) := by rw [i64_in _ (by omega) (by omega)]; omega
    have e2 : IntKind.i64.wrap ((s : Int) * 2) = ((2 * s : Nat) : Int) := by rw [i64_in _ (by omega) (by omega)]; omega
    refine ⟨fun a b w' => ∃ (D U : List (List T_api_Entry)), a = (D.flatten.length : Int) ∧ b = ((D.flatten.length + 2 * s : Nat) : Int) ∧ Whole O (2 * s) D ∧ Blocks O s U ∧ O.Same L (D.flatten ++ U.flatten) ∧ D.flatten.length + U.flatten.length = L.length ∧ ArE w0 fr data (D.flatten ++ U.flatten) w',
      fun a b _ => L.length + 2 * s - b.toNat, ⟨[], BB, rfl, by rw [e1]; simp, fun B hB => (by cases hB), hB, by simpa using eL, by simpa using ll, by simpa using h⟩, ?_⟩
    clear hB eL ll h
    rintro a b w4 ⟨D, U, rfl, rfl, hD, hU, eL, ll, h⟩
    unfold F_slices_stableCmpFunc_api_Entry_L2
    have e3 : IntKind.i64.wrap ((D.flatten.length : Int) + (s : Int)) = ((D.flatten.length + s : Nat) : Int) := by rw [i64_in _ (by omega) (by omega)]; omega
    have e4 : IntKind.i64.wrap (((D.flatten.length + 2 * s : Nat) : Int) + ((2 * s : Nat) : Int)) = ((D.flatten.length + 2 * s + 2 * s : Nat) : Int) := by rw [i64_in _ (by omega) (by omega)]; omega
    rw [e3, e1, e4]
    refine ⟨fun hb => ?_, fun hb => ?_⟩
    · have hb := of_decide_eq_true hb
      -- two whole blocks
      obtain ⟨B, C, r, hBC⟩ : ∃ B C r, U = B :: C :: r := by
        cases U with
        | nil => have h0 : ([] : List (List T_api_Entry)).flatten.length = 0 := rfl
                 omega
        | cons B r => cases r with
          | nil =>
            have := hU.head.2.1
            have h0 : ([B] : List (List T_api_Entry)).flatten.length = B.length := by simp
            omega
          | cons C r => exact ⟨B, C, r, rfl⟩
      subst hBC
      obtain ⟨sB, _, lB⟩ := hU.head
      have lB := lB (by simp)
      obtain ⟨sC, lC, lC2⟩ := hU.tail.head
      have lC : C.length = s := by
        by_cases hr : r = []
        · subst hr
          have h0 : ([B, C] : List (List T_api_Entry)).flatten.length = B.length + C.length := by simp
          omega
        · exact lC2 hr
      have e5 : D.flatten ++ (B :: C :: r).flatten = D.flatten ++ (B ++ (C ++ r.flatten)) := by simp
      rw [e5] at h eL
      have l5 : (B :: C :: r).flatten.length = B.length + (C.length + r.flatten.length) := by simp
      refine sp_symMergeE hc (B.length + C.length) (Nat.le_refl _) h (by omega) (by omega) rfl (by omega) (by omega) (by omega) sB sC fun Z w5 sZ eZ lZ h5 => ?_
      have ed : (D ++ [Z]).flatten = D.flatten ++ Z := by simp
      have ld : (D ++ [Z]).flatten.length = D.flatten.length + 2 * s := by rw [ed, List.length_append]; omega
      refine ⟨⟨D ++ [Z], r, by rw [ld], by rw [ld], hD.snoc sZ (by omega), hU.tail.tail, ?_, by omega, by rw [ed, List.append_assoc]; exact h5⟩, by show _ - _ < _ - _; omega⟩
      rw [ed, List.append_assoc]
      refine eL.trans ((Ord.Same.refl _).app ?_)
      have := eZ.app (Ord.Same.refl r.flatten)
      rwa [List.append_assoc] at this
    · have hb := of_decide_eq_false hb
      have fin : ∀ Z w5, O.Sorted Z → Z.length ≤ 2 * s → O.Same L (D.flatten ++ Z) → D.flatten.length + Z.length = L.length → ArE w0 fr data (D.flatten ++ Z) w5 → F_slices_stableCmpFunc_api_Entry_k3 (s : Int) (fun bs' w' => (∃ (s : Nat) (BB : List (List T_api_Entry)), bs' = (s : Int) ∧ 0 < s ∧ s ≤ 2 * L.length + 20 ∧ Blocks O s BB ∧ O.Same L BB.flatten ∧ BB.flatten.length = L.length ∧ ArE w0 fr data BB.flatten w') ∧ 2 * L.length + 20 - bs'.toNat < 2 * L.length + 20 - ((s : Int)).toNat) w5 := by
        intro Z w5 sZ lZ eZ l5 h5
        unfold F_slices_stableCmpFunc_api_Entry_k3
        rw [e2]
        have ed : (D ++ [Z]).flatten = D.flatten ++ Z := by simp
        exact ⟨⟨2 * s, D ++ [Z], rfl, by omega, by omega, hD.blocks ⟨sZ, lZ⟩, by rw [ed]; exact eZ, by rw [ed, List.length_append]; exact l5, by rw [ed]; exact h5⟩, by omega⟩
      refine ⟨fun hm => ?_, fun hm => ?_⟩
      · have hm := of_decide_eq_true hm
        obtain ⟨B, C, r, hBC⟩ : ∃ B C r, U = B :: C :: r := by
          cases U with
          | nil => have h0 : ([] : List (List T_api_Entry)).flatten.length = 0 := rfl
                   omega
          | cons B r => cases r with
            | nil =>
              have := hU.head.2.1
              have h0 : ([B] : List (List T_api_Entry)).flatten.length = B.length := by simp
              omega
            | cons C r => exact ⟨B, C, r, rfl⟩
        subst hBC
        obtain ⟨sB, _, lB⟩ := hU.head
        have lB := lB (by simp)
        obtain ⟨sC, lC, lC2⟩ := hU.tail.head
        have l5 : (B :: C :: r).flatten.length = B.length + (C.length + r.flatten.length) := by simp
        have hrf : r.flatten = [] := by
          by_cases hr : r = []
          · subst hr; rfl
          · have := lC2 hr
            omega
        rw [hrf] at l5
        have e5 : D.flatten ++ (B :: C :: r).flatten = D.flatten ++ (B ++ (C ++ [])) := by simp [hrf]
        rw [e5] at h eL
        simp only [List.length_nil] at l5
        refine sp_symMergeE hc (B.length + C.length) (Nat.le_refl _) h (by omega) (by omega) rfl (by omega) (by omega) (by simp only [List.length_nil]; omega) sB sC fun Z w5 sZ eZ lZ h5 => ?_
        rw [List.append_nil] at h5
        refine fin Z w5 sZ (by omega) ?_ (by omega) h5
        rw [List.append_nil] at eL
        exact eL.trans ((Ord.Same.refl _).app eZ)
      · have hm := of_decide_eq_false hm
        cases U with
        | nil => exact fin [] w4 List.Pairwise.nil (by simp) (by simpa using eL) (by simpa using ll) (by simpa using h)
        | cons B r =>
          obtain ⟨sB, lB, hr⟩ := hU.head
          have hrf : r.flatten = [] := by
            by_cases hr0 : r = []
            · subst hr0; rfl
            · have h1 := hr hr0
              rw [List.flatten_cons, List.length_append] at ll
              exact List.eq_nil_of_length_eq_zero (by omega)
          rw [List.flatten_cons, hrf, List.append_nil] at h eL ll
          exact fin B w4 sB (by omega) eL ll h
theorem sp_sortStableE {O : Ord T_api_Entry} {cmp : Value} {L : List T_api_Entry} {R : World → Prop} (hc : CmpE w0 fr data O cmp) (h : ArE w0 fr data L w) (hl : L.length ≤ 288230376151711744)
    (k : ∀ w', ArE w0 fr data (O.insAll [] L) w' → R w') : C_slices_SortStableFunc_api_Entry_api_Entry data cmp w R := by
  apply S_slices_SortStableFunc_api_Entry_api_Entry
  unfold F_slices_SortStableFunc_api_Entry_api_Entry
  refine sp_stableE hc h (by rw [h.len]) hl fun Z w' sZ eZ lZ h' => k w' ?_
  have := Ord.insAll_unique (O := O) (l := []) (xs := L) List.Pairwise.nil sZ eZ
  rw [← this]
  exact h'
end
end Go.Proofs.Ytpedclhflmhakaa

namespace Go.Proofs.Ytpedclhflmhakaa
open Go Go.Shelf
set_option linter.unusedVariables false
set_option linter.unusedSimpArgs false

def Try.laysCompare_ren : Go.Shelf.Ren := ⟨fun | 106 => 93 | 213 => 115 | 265 => 130 | n => n, fun | 9 => 9 | 3 => 3 | n => n, fun | n => n⟩
theorem Try.laysCompare : Go.Proofs.Lays.n106 Try.prog Try.laysCompare_ren := {
  mixed := by kernel_rfl
  f106 := Try.func93.trans (congrArg some (by kernel_rfl))
  f213 := Try.func115.trans (congrArg some (by kernel_rfl))
  f265 := Try.func130.trans (congrArg some (by kernel_rfl))
  t3 := Try.underlying3
  a3 := Try.isAgg3
  z3 := Try.sizeOf3
  v3 := Try.zeroValue3
  t9 := Try.underlying9
  a9 := Try.isAgg9
  z9 := Try.sizeOf9
  v9 := Try.zeroValue9 }
theorem sp_Compare {a b : ByteArray} {w : World} {R : Int → World → Prop} (k : R (Lib.compareBytes a.data.toList b.data.toList) w) : C_strings_Compare a b w R := by
  refine Calls.mono (Any.strings_Compare Try.laysCompare a b w) ?_
  rintro e w' ⟨rfl, rfl⟩
  exact ⟨_, rfl, k⟩
def OHk : Ord T_api_Held := OB.on (fun h : T_api_Held => h.Key)
def OEk : Ord T_api_Entry := OB.on (fun h : T_api_Entry => h.Key)
section
variable {w0 : Base} {w : World} {fr : List Chunk} {data : Slc}
theorem ArH.ext {l : List T_api_Held} {w' : World} (h : ArH w0 fr data l w) (e : Ext w w') : ArH w0 fr data l w' := by
  obtain ⟨d, r, st⟩ := h
  exact ⟨d, r, st.keep e⟩
theorem ArE.ext {l : List T_api_Entry} {w' : World} (h : ArE w0 fr data l w) (e : Ext w w') : ArE w0 fr data l w' := by
  obtain ⟨d, r, st⟩ := h
  exact ⟨d, r, st.keep e⟩
theorem cmpH_key : CmpH w0 fr data OHk (Value.func (.func 92) #[] #[]) := by
  intro x y l w h
  refine CallsV.mk (all := #[aggH x, aggH y]) (by kernel_rfl) rfl ?_
  have hh : C_call_Task_Answer_1 x y w (fun v w' => decide (v < 0) = OHk.lt x y ∧ ArH w0 fr data l w') := by
    apply S_call_Task_Answer_1
    unfold F_call_Task_Answer_1
    intro b1 w1 hb1 hw1 b2 w2 hb2 hw2
    have st : St ⟨w, []⟩ [(b2, hT y), (b1, hT x)] w2 := ((St.start w).alloc (cs := hT x) hb1 hw1).alloc (cs := hT y) hb2 hw2
    exact ⟨x.Key, st.cell 1 rfl rfl, y.Key, st.cell 0 rfl rfl, sp_Compare ⟨cmp_lt _ _, h.ext st.ext⟩⟩
  refine Calls.mono hh ?_
  rintro e w' ⟨v, rfl, h1, h2⟩
  exact ⟨v, rfl, h1, h2⟩
theorem cmpE_key : CmpE w0 fr data OEk (Value.func (.func 113) #[] #[]) := by
  intro x y l w h
  refine CallsV.mk (all := #[aggE x, aggE y]) (by kernel_rfl) rfl ?_
  have hh : C_call_entries_1 x y w (fun v w' => decide (v < 0) = OEk.lt x y ∧ ArE w0 fr data l w') := by
    apply S_call_entries_1
    unfold F_call_entries_1
    intro b1 w1 hb1 hw1 b2 w2 hb2 hw2
    have st : St ⟨w, []⟩ [(b2, entT y), (b1, entT x)] w2 := ((St.start w).alloc (cs := entT x) hb1 hw1).alloc (cs := entT y) hb2 hw2
    exact ⟨x.Key, st.cell 1 rfl rfl, y.Key, st.cell 0 rfl rfl, sp_Compare ⟨cmp_lt _ _, h.ext st.ext⟩⟩
  refine Calls.mono hh ?_
  rintro e w' ⟨v, rfl, h1, h2⟩
  exact ⟨v, rfl, h1, h2⟩
/-- A row of one's own, sorted. -/
theorem sp_sortH {L : List T_api_Held} {s : Slc} {rb : List Chunk} {R : World → Prop} (r : RowC 2 s (L.flatMap hT) rb) (st : St w0 (rb ++ fr) w) (hl : L.length ≤ 288230376151711744)
    (k : ∀ rb' w', RowC 2 s ((OHk.insAll [] L).flatMap hT) rb' → St w0 (rb' ++ fr) w' → R w') : C_slices_SortStableFunc_api_Held_api_Held s (Value.func (.func 92) #[] #[]) w R :=
  sp_sortStableH (O := OHk) cmpH_key ⟨rb, r, st⟩ hl fun w' ⟨rb', r', st'⟩ => k rb' w' r' st'
theorem sp_sortE {L : List T_api_Entry} {s : Slc} {rb : List Chunk} {R : World → Prop} (r : RowC 2 s (L.flatMap entT) rb) (st : St w0 (rb ++ fr) w) (hl : L.length ≤ 288230376151711744)
    (k : ∀ rb' w', RowC 2 s ((OEk.insAll [] L).flatMap entT) rb' → St w0 (rb' ++ fr) w' → R w') : C_slices_SortStableFunc_api_Entry_api_Entry s (Value.func (.func 113) #[] #[]) w R :=
  sp_sortStableE (O := OEk) cmpE_key ⟨rb, r, st⟩ hl fun w' ⟨rb', r', st'⟩ => k rb' w' r' st'
end
end Go.Proofs.Ytpedclhflmhakaa

namespace Go.Proofs.Ytpedclhflmhakaa
open Go
set_option linter.unusedVariables false
set_option linter.unusedSimpArgs false

section
variable {w : World} {a b : Slc}
theorem sp_SameIntsT {xs : List Int} {R : Bool → World → Prop} (ha : SrcAt w a 1 (xs.flatMap fun x => [iV x])) (hb : SrcAt w b 1 (xs.flatMap fun x => [iV x])) (hl : a.len ≤ 4611686018427387904)
    (k : ∀ w', Ext w w' → R true w') : C_towpathlaw01_SameInts a b w R := by
  apply S_towpathlaw01_SameInts
  unfold F_towpathlaw01_SameInts
  have la := ha.1
  have lb := hb.1
  rw [flatMap_len (sz := 1) (fun _ => rfl)] at la lb
  refine ⟨fun h => absurd h (by rw [bne_iff_ne]; omega), fun _ => ?_⟩
  refine ⟨fun i w' => Ext w w' ∧ ∃ p : Nat, i = (p : Int) ∧ p ≤ a.len, fun i _ => a.len - i.toNat, ⟨Ext.refl _, 0, rfl, by omega⟩, ?_⟩
  rintro i w1 ⟨e, p, rfl, h1⟩
  unfold F_towpathlaw01_SameInts_L0
  refine ⟨fun hi => ?_, fun _ => k w1 e⟩
  have hi := of_decide_eq_true hi
  obtain ⟨pa, x, hx, hc⟩ := SrcAt.getN (e.src ha) (fun _ => rfl) (by decide) (i := (p : Int)) (by omega) (by omega)
  obtain ⟨pb, y, hy, hd⟩ := SrcAt.getN (e.src hb) (fun _ => rfl) (by decide) (i := (p : Int)) (by omega) (by omega)
  obtain rfl : x = y := by rw [hx] at hy; exact Option.some.inj hy
  have wi : IntKind.i64.wrap ((p : Int) + 1) = ((p + 1 : Nat) : Int) := by rw [i64_in _ (by omega) (by omega)]; omega
  rw [Nat.mul_one] at hc hd
  refine ⟨pa, by omega, hi, x, hc.1, pb, by omega, by omega, x, hd.1, fun w2 e2 => ⟨fun hne => (by simp at hne), fun _ => ?_⟩⟩
  rw [wi]
  exact ⟨⟨e.trans e2, p + 1, rfl, by omega⟩, by show _ - _ < _ - _; omega⟩
theorem sp_SameVerT {xs : List T_api_Version} {R : Bool → World → Prop} (ha : SrcAt w a 3 (xs.flatMap verT)) (hb : SrcAt w b 3 (xs.flatMap verT)) (hl : a.len ≤ 4611686018427387904)
    (k : ∀ w', Ext w w' → R true w') : C_towpathlaw01_SameVersions a b w R := by
  apply S_towpathlaw01_SameVersions
  unfold F_towpathlaw01_SameVersions
  have la := ha.1
  have lb := hb.1
  rw [flatMap_len (sz := 3) (fun _ => rfl)] at la lb
  refine ⟨fun h => absurd h (by rw [bne_iff_ne]; omega), fun _ => ?_⟩
  refine ⟨fun i w' => Ext w w' ∧ ∃ p : Nat, i = (p : Int) ∧ p ≤ a.len, fun i _ => a.len - i.toNat, ⟨Ext.refl _, 0, rfl, by omega⟩, ?_⟩
  rintro i w1 ⟨e, p, rfl, h1⟩
  unfold F_towpathlaw01_SameVersions_L0
  refine ⟨fun hi => ?_, fun _ => k w1 e⟩
  have hi := of_decide_eq_true hi
  obtain ⟨pa, x, hx, hc⟩ := SrcAt.getN (e.src ha) (fun _ => rfl) (by decide) (i := (p : Int)) (by omega) (by omega)
  obtain ⟨pb, y, hy, hd⟩ := SrcAt.getN (e.src hb) (fun _ => rfl) (by decide) (i := (p : Int)) (by omega) (by omega)
  obtain rfl : x = y := by rw [hx] at hy; exact Option.some.inj hy
  have wi : IntKind.i64.wrap ((p : Int) + 1) = ((p + 1 : Nat) : Int) := by rw [i64_in _ (by omega) (by omega)]; omega
  refine ⟨pa, by omega, hi, x, hc, pb, by omega, by omega, x, hd, fun w2 e2 => ⟨fun hne => (by rw [ba_refl, beq_self_eq_true, beq_self_eq_true] at hne; cases hne), fun _ => ?_⟩⟩
  rw [wi]
  exact ⟨⟨e.trans e2, p + 1, rfl, by omega⟩, by show _ - _ < _ - _; omega⟩
theorem sp_SameEntT {xs : List T_api_Entry} {R : Bool → World → Prop} (ha : SrcAt w a 2 (xs.flatMap entT)) (hb : SrcAt w b 2 (xs.flatMap entT)) (hl : a.len ≤ 4611686018427387904)
    (k : ∀ w', Ext w w' → R true w') : C_towpathlaw01_SameEntries a b w R := by
  apply S_towpathlaw01_SameEntries
  unfold F_towpathlaw01_SameEntries
  have la := ha.1
  have lb := hb.1
  rw [flatMap_len (sz := 2) (fun _ => rfl)] at la lb
  refine ⟨fun h => absurd h (by rw [bne_iff_ne]; omega), fun _ => ?_⟩
  refine ⟨fun i w' => Ext w w' ∧ ∃ p : Nat, i = (p : Int) ∧ p ≤ a.len, fun i _ => a.len - i.toNat, ⟨Ext.refl _, 0, rfl, by omega⟩, ?_⟩
  rintro i w1 ⟨e, p, rfl, h1⟩
  unfold F_towpathlaw01_SameEntries_L0
  refine ⟨fun hi => ?_, fun _ => k w1 e⟩
  have hi := of_decide_eq_true hi
  obtain ⟨pa, x, hx, hc⟩ := SrcAt.getN (e.src ha) (fun _ => rfl) (by decide) (i := (p : Int)) (by omega) (by omega)
  obtain ⟨pb, y, hy, hd⟩ := SrcAt.getN (e.src hb) (fun _ => rfl) (by decide) (i := (p : Int)) (by omega) (by omega)
  obtain rfl : x = y := by rw [hx] at hy; exact Option.some.inj hy
  have wi : IntKind.i64.wrap ((p : Int) + 1) = ((p + 1 : Nat) : Int) := by rw [i64_in _ (by omega) (by omega)]; omega
  refine ⟨pa, by omega, hi, x, hc, pb, by omega, by omega, x, hd, fun w2 e2 => ⟨fun hne => (by rw [ba_refl, ba_refl] at hne; cases hne), fun _ => ?_⟩⟩
  rw [wi]
  exact ⟨⟨e.trans e2, p + 1, rfl, by omega⟩, by show _ - _ < _ - _; omega⟩
theorem sp_SameHeldT {x y : T_api_Held} {vs : List T_api_Version} {R : Bool → World → Prop} (hk : x.Key = y.Key) (ha : SrcAt w x.Versions 3 (vs.flatMap verT)) (hb : SrcAt w y.Versions 3 (vs.flatMap verT)) (hl : x.Versions.len ≤ 4611686018427387904)
    (k : ∀ w', Ext w w' → R true w') : C_towpathlaw01_SameHeld x y w R := by
  apply S_towpathlaw01_SameHeld
  unfold F_towpathlaw01_SameHeld
  intro b w1 hb1 hw b1 w2 hb2 hw1
  have st2 : St ⟨w, []⟩ [(b1, hldT (y.Key, y.Versions)), (b, hldT (x.Key, x.Versions))] w2 := ((St.start w).alloc (cs := hldT (x.Key, x.Versions)) hb1 hw).alloc (cs := hldT (y.Key, y.Versions)) hb2 hw1
  refine ⟨x.Key, st2.cell 1 rfl rfl, y.Key, st2.cell 0 rfl rfl, fun _ => ⟨x.Versions, st2.cell 1 rfl rfl, y.Versions, st2.cell 0 rfl rfl, ?_⟩, fun h => ?_⟩
  · exact sp_SameVerT (st2.ext.src ha) (st2.ext.src hb) hl fun w3 e3 => k w3 (st2.keep e3).ext
  · rw [hk, beq_self_eq_true] at h; cases h
/-- Two rows of held keys that say the same. -/
theorem sp_SameHldsT {xs ys : List (ByteArray × Slc)} {R : Bool → World → Prop} (ha : SrcAt w a 2 (xs.flatMap hldT)) (hb : SrcAt w b 2 (ys.flatMap hldT)) (hl : a.len ≤ 4611686018427387904) (hxy : xs.length = ys.length)
    (at_ : ∀ (i : Nat) x y, xs[i]? = some x → ys[i]? = some y → x.1 = y.1 ∧ x.2.len ≤ 4611686018427387904 ∧ ∃ vs : List T_api_Version, SrcAt w x.2 3 (vs.flatMap verT) ∧ SrcAt w y.2 3 (vs.flatMap verT))
    (k : ∀ w', Ext w w' → R true w') : C_towpathlaw01_SameHelds a b w R := by
  apply S_towpathlaw01_SameHelds
  unfold F_towpathlaw01_SameHelds
  have la := ha.1
  have lb := hb.1
  rw [flatMap_len (sz := 2) (fun _ => rfl)] at la lb
  refine ⟨fun h => absurd h (by rw [bne_iff_ne]; omega), fun _ => ?_⟩
  refine ⟨fun i w' => Ext w w' ∧ ∃ p : Nat, i = (p : Int) ∧ p ≤ a.len, fun i _ => a.len - i.toNat, ⟨Ext.refl _, 0, rfl, by omega⟩, ?_⟩
  rintro i w1 ⟨e, p, rfl, h1⟩
  unfold F_towpathlaw01_SameHelds_L0
  refine ⟨fun hi => ?_, fun _ => k w1 e⟩
  have hi := of_decide_eq_true hi
  obtain ⟨pa, x, hx, hc⟩ := SrcAt.getN (e.src ha) (fun _ => rfl) (by decide) (i := (p : Int)) (by omega) (by omega)
  obtain ⟨pb, y, hy, hd⟩ := SrcAt.getN (e.src hb) (fun _ => rfl) (by decide) (i := (p : Int)) (by omega) (by omega)
  rw [Int.toNat_natCast] at hx hy
  obtain ⟨h3, h4, vs, h5, h6⟩ := at_ p x y hx hy
  have wi : IntKind.i64.wrap ((p : Int) + 1) = ((p + 1 : Nat) : Int) := by rw [i64_in _ (by omega) (by omega)]; omega
  refine ⟨pa, by omega, hi, ⟨x.1, x.2⟩, hc, pb, by omega, by omega, ⟨y.1, y.2⟩, hd, true, fun w' e' => ?_, fun w2 e2 => ⟨fun hne => (by simp at hne), fun _ => ?_⟩⟩
  · exact sp_SameHeldT (x := ⟨x.1, x.2⟩) (y := ⟨y.1, y.2⟩) h3 ((e.trans e').src h5) ((e.trans e').src h6) h4 fun w'' e'' => ⟨rfl, e''⟩
  rw [wi]
  exact ⟨⟨e.trans e2, p + 1, rfl, by omega⟩, by show _ - _ < _ - _; omega⟩
end
end Go.Proofs.Ytpedclhflmhakaa

namespace Go.Proofs.Ytpedclhflmhakaa
open Go
set_option linter.unusedVariables false
set_option linter.unusedSimpArgs false

def OE : Ord Ent := OB.on (fun e : Ent => e.Key)
def OH : Ord Hd := OB.on (fun h : Hd => h.1)
structure Ans where
  ok : Bool
  es : List Ent
  cnt : Int
  hs : List Hd
/-- One reply more. -/
def ansStep (k : Int) (a : Ans) (r : Rp) : Ans :=
  if k = 1 then { a with ok := decide (r.ents.length = 1), es := if r.ents.length = 1 then r.ents else a.es }
  else if k = 2 then { a with es := OE.insAll a.es r.ents }
  else if k = 3 then { a with cnt := IntKind.i64.wrap (a.cnt + r.count) }
  else { a with hs := a.hs ++ r.held }
def ans0 : Ans := ⟨true, [], 0, []⟩
def ansAt (m : TkM) (i : Nat) : Ans := (m.reps.take i).foldl (ansStep m.call.Kind) ans0
def ansM (m : TkM) : Ans := ansAt m m.reps.length
theorem ansAt_zero (m : TkM) : ansAt m 0 = ans0 := by unfold ansAt; rw [List.take_zero]; rfl
theorem ansAt_succ {m : TkM} {i : Nat} {r : Rp} (h : m.reps[i]? = some r) : ansAt m (i + 1) = ansStep m.call.Kind (ansAt m i) r := by
  unfold ansAt
  rw [List.take_add_one, h, List.foldl_append]; rfl
theorem ansAt_sorted {m : TkM} (hk : m.call.Kind ≠ 1) : ∀ {i : Nat}, i ≤ m.reps.length → OE.Sorted (ansAt m i).es
  | 0, _ => by rw [ansAt_zero]; exact List.Pairwise.nil
  | i + 1, h => by
    have ih := ansAt_sorted (m := m) hk (i := i) (by omega)
    rw [ansAt_succ (List.getElem?_eq_getElem (show i < m.reps.length by omega))]
    unfold ansStep
    rw [if_neg hk]
    split
    · exact Ord.insAll_sorted ih
    split
    · exact ih
    · exact ih
theorem ansAt_len {m : TkM} (ok : m.Ok) : ∀ {i : Nat}, i ≤ m.reps.length → (ansAt m i).es.length ≤ i * 1048576 ∧ (ansAt m i).hs.length ≤ i * 1048576 ∧ ∀ h ∈ (ansAt m i).hs, h.2.length ≤ 1048576
  | 0, _ => by rw [ansAt_zero]; exact ⟨Nat.zero_le _, Nat.zero_le _, fun h hh => (by cases hh)⟩
  | i + 1, h => by
    have ih := ansAt_len ok (i := i) (by omega)
    have hr := List.getElem?_eq_getElem (show i < m.reps.length by omega)
    have sm := ok.small _ (List.mem_of_getElem? hr)
    rw [ansAt_succ hr]
    have h1 := sm.ents
    have h2 := sm.held
    unfold ansStep
    split
    · refine ⟨?_, by show (ansAt m i).hs.length ≤ _; omega, ih.2.2⟩
      show (if _ then _ else _ : List Ent).length ≤ _
      split <;> omega
    split
    · refine ⟨?_, by show (ansAt m i).hs.length ≤ _; omega, ih.2.2⟩
      show (OE.insAll _ _).length ≤ _
      rw [Ord.insAll_len]; omega
    split
    · exact ⟨by show (ansAt m i).es.length ≤ _; omega, by show (ansAt m i).hs.length ≤ _; omega, ih.2.2⟩
    · refine ⟨by show (ansAt m i).es.length ≤ _; omega, ?_, fun h hh => ?_⟩
      · show ((ansAt m i).hs ++ _).length ≤ _
        rw [List.length_append]; omega
      · rcases List.mem_append.1 hh with hh | hh
        · exact ih.2.2 h hh
        · exact sm.vers h hh
theorem insAll_self {α : Type} {O : Ord α} {A : List α} (s : O.Sorted A) : O.insAll [] A = A := (Ord.insAll_unique (O := O) (l := []) (xs := A) List.Pairwise.nil s (Ord.Same.refl _)).symm
/-- What is sorted anew with others behind it. -/
theorem insAll_more {α : Type} {O : Ord α} {A E : List α} (s : O.Sorted A) : O.insAll [] (A ++ E) = O.insAll A E := by rw [Ord.insAll_app, insAll_self s]

/-! ### Rows with parts, sorted -/
theorem parts_list {α σ : Type} {In : α → σ → List Chunk → Prop} : ∀ {xs : List α} {sls : List σ} {cs : List Chunk}, Parts In xs sls cs → ∃ ts : List (α × σ × List Chunk), xs = ts.map (fun t => t.1) ∧ sls = ts.map (fun t => t.2.1) ∧ cs = ts.flatMap (fun t => t.2.2) ∧ ∀ t ∈ ts, In t.1 t.2.1 t.2.2
  | [], [], _, h => ⟨[], rfl, rfl, h, fun t ht => (by cases ht)⟩
  | [], _ :: _, _, h => h.elim
  | _ :: _, [], _, h => h.elim
  | x :: xs, s :: sls, cs, ⟨c, cs', e, h1, h2⟩ => by
    obtain ⟨ts, e1, e2, e3, h3⟩ := parts_list h2
    refine ⟨(x, s, c) :: ts, by rw [List.map_cons, ← e1], by rw [List.map_cons, ← e2], by rw [List.flatMap_cons, ← e3, e], fun t ht => ?_⟩
    rcases List.mem_cons.1 ht with rfl | ht
    · exact h1
    · exact h3 t ht
theorem list_parts {α σ : Type} {In : α → σ → List Chunk → Prop} : ∀ {ts : List (α × σ × List Chunk)}, (∀ t ∈ ts, In t.1 t.2.1 t.2.2) → Parts In (ts.map fun t => t.1) (ts.map fun t => t.2.1) (ts.flatMap fun t => t.2.2)
  | [], _ => rfl
  | t :: ts, h => ⟨t.2.2, ts.flatMap (fun t => t.2.2), by rw [List.flatMap_cons], h t (List.mem_cons_self ..), list_parts fun u hu => h u (List.mem_cons_of_mem _ hu)⟩
theorem zip_maps {α σ : Type} : ∀ ts : List (α × σ × List Chunk), (ts.map fun t => t.1).zip (ts.map fun t => t.2.1) = ts.map fun t => (t.1, t.2.1)
  | [] => rfl
  | t :: ts => by rw [List.map_cons, List.map_cons, List.zip_cons_cons, zip_maps ts, List.map_cons]
end Go.Proofs.Ytpedclhflmhakaa

namespace Go.Proofs.Ytpedclhflmhakaa
open Go
set_option linter.unusedVariables false
set_option linter.unusedSimpArgs false

theorem RowC.none0 {sz : Nat} {s : Slc} {xs : List Value} {bs : List Chunk} (h : RowC sz s xs bs) : RowC sz ⟨s.ptr, 0, s.cap⟩ [] bs := by
  rcases h with ⟨hp, hl, hc, rfl, rfl⟩ | ⟨b, pre, rest, suf, hp, rfl, h1, h2, h3⟩
  · exact .inl ⟨hp, rfl, hc, rfl, rfl⟩
  · exact .inr ⟨b, pre, xs ++ rest, suf, hp, by simp, by simp, by simpa using h2, by show 0 ≤ s.cap; omega⟩
theorem oneCells_rep : ∀ (n : Nat), oneCells (repCells n [Value.string ByteArray.empty, Value.string ByteArray.empty]).toList = true
  | n => by
    unfold oneCells
    refine List.all_eq_true.2 fun v hv => ?_
    simp only [repCells, List.mem_flatten, List.mem_replicate] at hv
    obtain ⟨l, ⟨_, rfl⟩, hv⟩ := hv
    simp only [List.mem_cons, List.not_mem_nil, or_false] at hv
    rcases hv with rfl | rfl <;> rfl
section
variable {w0 : Base} {w : World} {fr : List Chunk}
theorem sp_GrowE {n : Nat} {R : Slc → World → Prop} (st : St w0 fr w) (hn : n ≤ 1073741824) (k : ∀ s rb w', RowC 2 s [] rb → St w0 (rb ++ fr) w' → s.len = 0 → R s w') : C_slices_Grow_api_Entry_api_Entry ⟨none, 0, 0⟩ (n : Int) w R := by
  apply S_slices_Grow_api_Entry_api_Entry
  unfold F_slices_Grow_api_Entry_api_Entry
  have e0 : IntKind.i64.wrap (((0 : Nat) : Int) - ((0 : Nat) : Int)) = 0 := by rw [i64_in _ (by omega) (by omega)]; omega
  have e1 : IntKind.i64.wrap ((n : Int) - 0) = (n : Int) := by rw [i64_in _ (by omega) (by omega)]; omega
  rw [e0, e1]
  refine ⟨fun h => absurd (of_decide_eq_true h) (by omega), fun _ => ⟨fun hp => ?_, fun hp => ?_⟩⟩
  · refine ⟨by omega, by omega, by omega, by omega, ?_⟩
    rw [Int.toNat_natCast]
    refine RowC.append (s := ⟨none, 0, 0⟩) (xs := []) (bs := []) (l := fr) RowC.nil st (by simp [repCells, List.length_flatten]) (oneCells_rep n) rfl (by show (0 + n) * 32 ≤ _; omega) fun s' rb w' r st' hl' => ?_
    refine ⟨by omega, by show ((0 : Nat) : Int) ≤ _; omega, ?_⟩
    unfold F_slices_Grow_api_Entry_api_Entry_k0
    exact k _ rb w' r.none0 st' rfl
  · unfold F_slices_Grow_api_Entry_api_Entry_k0
    exact k _ [] w RowC.nil st rfl
/-- The lists that are put together, in memory. -/
structure LsAt (w : World) (l_ : Slc) (ls : List (Slc × List T_api_Entry)) : Prop where
  tab : SrcAt w l_ 1 (ls.flatMap fun p => [slV p.1])
  src : ∀ p ∈ ls, SrcAt w p.1 2 (p.2.flatMap entT)
theorem sp_ConcatE {l_ : Slc} {ls : List (Slc × List T_api_Entry)} {R : Slc → World → Prop} (st : St w0 fr w) (hs : ∀ l w', St w0 (l ++ fr) w' → LsAt w' l_ ls) (hb : (ls.flatMap fun p => p.2).length ≤ 1073741824) (hll : ls.length ≤ 16)
    (k : ∀ s rb w', RowC 2 s ((ls.flatMap fun p => p.2).flatMap entT) rb → St w0 (rb ++ fr) w' → R s w') : C_slices_Concat_api_Entry_api_Entry l_ w R := by
  apply S_slices_Concat_api_Entry_api_Entry
  unfold F_slices_Concat_api_Entry_api_Entry
  have h0 := hs [] w st
  have hlen : l_.len = ls.length := by
    have := h0.tab.1
    rw [flatMap_len (sz := 1) (fun _ => rfl)] at this; omega
  have pl : ∀ p ∈ ls, p.1.len = p.2.length := fun p hp => by
    have := (h0.src p hp).1
    rw [flatMap_len (sz := 2) (fun _ => rfl)] at this; omega
  have take_le : ∀ i, ((ls.take i).flatMap fun p => p.2).length ≤ (ls.flatMap fun p => p.2).length := fun i => by
    conv => rhs; rw [← List.take_append_drop i ls]
    rw [List.flatMap_append, List.length_append]; omega
  have take_s : ∀ {i : Nat} {p : Slc × List T_api_Entry}, ls[i]? = some p → (ls.take (i + 1)).flatMap (fun p => p.2) = (ls.take i).flatMap (fun p => p.2) ++ p.2 := fun {i p} h => by
    rw [List.take_add_one, h, List.flatMap_append]; simp
  have at_ : ∀ {i : Nat} {l : List Chunk} {w' : World}, St w0 (l ++ fr) w' → i < ls.length → IsAt l_.ptr ∧ ∃ p, ls[i]? = some p ∧ w'.cell? ⟨pblk l_.ptr, poff l_.ptr + i, none⟩ = some (slV p.1) := fun {i l w'} st' hi => by
    obtain ⟨a, p, hp, hc⟩ := SrcAt.getN (hs l w' st').tab (fun _ => rfl) (by decide) (i := (i : Int)) (by omega) (by omega)
    rw [Int.toNat_natCast] at hp hc
    rw [Nat.mul_one] at hc
    exact ⟨a, p, hp, hc.1⟩
  refine ⟨fun size i w' => ∃ p : Nat, i = (p : Int) ∧ p ≤ ls.length ∧ size = (((ls.take p).flatMap fun p => p.2).length : Int) ∧ w' = w, fun _ i _ => ls.length - i.toNat, ⟨0, rfl, by omega, by simp, rfl⟩, ?_⟩
  rintro size i w' ⟨p, rfl, hp, rfl, rfl⟩
  unfold F_slices_Concat_api_Entry_api_Entry_L0
  have wp : IntKind.i64.wrap ((p : Int) + 1) = ((p + 1 : Nat) : Int) := by rw [i64_in _ (by omega) (by omega)]; omega
  refine ⟨fun hi => ?_, fun hi => ?_⟩
  · have hi := of_decide_eq_true hi
    obtain ⟨a, x, hx, hc⟩ := at_ (l := []) (i := p) st (by omega)
    have h1 := pl x (List.mem_of_getElem? hx)
    have h2 := take_le (p + 1)
    have h3 := take_s hx
    rw [h3, List.length_append] at h2
    have ws : IntKind.i64.wrap ((((ls.take p).flatMap fun p => p.2).length : Int) + ((x.1.len : Nat) : Int)) = (((ls.take (p + 1)).flatMap fun p => p.2).length : Int) := by
      rw [h3, List.length_append, i64_in _ (by omega) (by omega)]; omega
    refine ⟨a, by omega, hi, x.1, by rw [Int.toNat_natCast]; exact hc, fun h => absurd (of_decide_eq_true h) (by rw [ws]; omega), fun _ => ?_⟩
    rw [ws, wp]
    exact ⟨⟨p + 1, rfl, by omega, rfl, rfl⟩, by show _ - _ < _ - _; omega⟩
  · have hi := of_decide_eq_false hi
    obtain rfl : p = ls.length := by omega
    rw [List.take_length]
    refine sp_GrowE st hb fun s rb w1 r st1 hl1 => ?_
    refine ⟨fun ns i w' => ∃ (p : Nat) (rb : List Chunk), i = (p : Int) ∧ p ≤ ls.length ∧ RowC 2 ns (((ls.take p).flatMap fun p => p.2).flatMap entT) rb ∧ ns.len = ((ls.take p).flatMap fun p => p.2).length ∧ St w0 (rb ++ fr) w', fun _ i _ => ls.length - i.toNat, ⟨0, rb, rfl, by omega, by simpa using r, by simpa using hl1, st1⟩, ?_⟩
    rintro ns i w2 ⟨p, rb, rfl, hp2, r, hl2, st2⟩
    unfold F_slices_Concat_api_Entry_api_Entry_L1
    have wp : IntKind.i64.wrap ((p : Int) + 1) = ((p + 1 : Nat) : Int) := by rw [i64_in _ (by omega) (by omega)]; omega
    refine ⟨fun hi => ?_, fun hi => ?_⟩
    · have hi := of_decide_eq_true hi
      obtain ⟨a, x, hx, hc⟩ := at_ (i := p) st2 (by omega)
      have h1 := pl x (List.mem_of_getElem? hx)
      have h2 := take_le (p + 1)
      have h3 := take_s hx
      rw [h3, List.length_append] at h2
      have hsx := (hs rb w2 st2).src x (List.mem_of_getElem? hx)
      refine ⟨a, by omega, hi, x.1, by rw [Int.toNat_natCast]; exact hc, x.2.flatMap entT, hsx, ?_⟩
      refine r.append st2 hsx.1 (one_Ent x.2) rfl (by omega) fun ns' rb' w3 r3 st3 hl3 => ?_
      rw [wp]
      refine ⟨⟨p + 1, rb', rfl, by omega, ?_, ?_, st3⟩, by show _ - _ < _ - _; omega⟩
      · rw [h3, List.flatMap_append]; exact r3
      · rw [h3, List.length_append, hl3]; omega
    · have hi := of_decide_eq_false hi
      obtain rfl : p = ls.length := by omega
      rw [List.take_length] at r
      exact k ns rb w2 r st2
theorem sp_entries {l_ : Slc} {ls : List (Slc × List T_api_Entry)} {R : Slc → World → Prop} (st : St w0 fr w) (hs : ∀ l w', St w0 (l ++ fr) w' → LsAt w' l_ ls) (hb : (ls.flatMap fun p => p.2).length ≤ 1073741824) (hll : ls.length ≤ 16)
    (k : ∀ s rb w', RowC 2 s ((OEk.insAll [] (ls.flatMap fun p => p.2)).flatMap entT) rb → St w0 (rb ++ fr) w' → R s w') : C_call_entries l_ w R := by
  apply S_call_entries
  unfold F_call_entries
  refine sp_ConcatE st hs hb hll fun s rb w1 r st1 => ?_
  exact sp_sortE r st1 (by omega) fun rb' w2 r2 st2 => k s rb' w2 r2 st2
end
end Go.Proofs.Ytpedclhflmhakaa

namespace Go.Proofs.Ytpedclhflmhakaa
open Go
set_option linter.unusedVariables false
set_option linter.unusedSimpArgs false

structure AnR where
  mark : Int
  ok : Bool
  es : List Ent
  cnt : Int
  hs : List Hd
def zAnR : AnR := ⟨0, false, [], 0, []⟩
def anE (m : Option TkM) : Int :=
  match m with
  | none => 2
  | some m => if allM (some m) = true then 0 else 6
def anR (m : Option TkM) : AnR :=
  match m with
  | none => zAnR
  | some m => if allM (some m) = true then ⟨m.mark, (ansM m).ok, (ansM m).es, (ansM m).cnt, OH.insAll [] (ansM m).hs⟩ else zAnR
abbrev hdH (p : Hd × Slc) : T_api_Held := ⟨p.1.1, p.2⟩
theorem zip_hT (hs : List Hd) (vsl : List Slc) : ((hs.zip vsl).flatMap fun p => hdV p.1.1 p.2) = ((hs.zip vsl).map hdH).flatMap hT := by rw [List.flatMap_map]
theorem hds_sort {hs : List Hd} {vsl : List Slc} {vb : List Chunk} (h : Parts InV hs vsl vb) :
    ∃ vsl' vb', Parts InV (OH.insAll [] hs) vsl' vb' ∧ vb.Perm vb' ∧ OHk.insAll [] ((hs.zip vsl).map hdH) = ((OH.insAll [] hs).zip vsl').map hdH := by
  obtain ⟨ts, rfl, rfl, rfl, hp⟩ := parts_list h
  have e1 : OHk.insAll [] (ts.map fun t => hdH (t.1, t.2.1)) = ((OB.on fun t : Hd × Slc × List Chunk => t.1.1).insAll [] ts).map fun t => hdH (t.1, t.2.1) :=
    Ord.insAll_map (O := OHk) (fun t : Hd × Slc × List Chunk => hdH (t.1, t.2.1)) ts []
  have e2 : OH.insAll [] (ts.map fun t => t.1) = ((OB.on fun t : Hd × Slc × List Chunk => t.1.1).insAll [] ts).map fun t => t.1 :=
    Ord.insAll_map (O := OH) (fun t : Hd × Slc × List Chunk => t.1) ts []
  have p : ((OB.on fun t : Hd × Slc × List Chunk => t.1.1).insAll [] ts).Perm ts := by simpa using Ord.insAll_perm (O := OB.on fun t : Hd × Slc × List Chunk => t.1.1) ts []
  refine ⟨((OB.on fun t : Hd × Slc × List Chunk => t.1.1).insAll [] ts).map fun t => t.2.1, ((OB.on fun t : Hd × Slc × List Chunk => t.1.1).insAll [] ts).flatMap fun t => t.2.2, ?_, (p.flatMap_right _).symm, ?_⟩
  · rw [e2]
    exact list_parts fun t ht => hp t (p.mem_iff.1 ht)
  · rw [e2, zip_maps, zip_maps, List.map_map, List.map_map]
    exact e1
section
variable {w0 : Base} {w : World} {fr cs : List Chunk} {t : Option Addr} {m : Option TkM}
theorem St.blkSrc {b n sz : Nat} {vs : List Value} {l : List Chunk} (st : St w0 ((b, vs) :: l) w) (h : vs.length = n * sz) : SrcAt w ⟨some ⟨b, 0, none⟩, n, n⟩ sz vs := (RowC.new (b := b) (n := n) (sz := sz) h).src (l := l) st
/-- Held keys that are read. -/
structure HeldIn (w0 : Base) (G : List Chunk) (sh : Slc) (held : List Hd) (vsl : List Slc) : Prop where
  len : vsl.length = held.length
  row : ∀ l w', St w0 (l ++ G) w' → SrcAt w' sh 2 ((held.zip vsl).flatMap fun p => hdV p.1.1 p.2)
  ver : ∀ (i : Nat) (h : Hd) (v : Slc), held[i]? = some h → vsl[i]? = some v → ∀ l w', St w0 (l ++ G) w' → SrcAt w' v 3 (h.2.flatMap verT)
/-- Replies that are read. -/
structure RepsIn (w0 : Base) (G : List Chunk) (ps : Slc) (reps : List Rp) (sls : List (Slc × Slc)) : Prop where
  len : sls.length = reps.length
  row : ∀ l w', St w0 (l ++ G) w' → SrcAt w' ps 5 ((reps.zip sls).flatMap fun p => rpV p.1 p.2)
  ent : ∀ (i : Nat) (r : Rp) (s : Slc × Slc), reps[i]? = some r → sls[i]? = some s → ∀ l w', St w0 (l ++ G) w' → SrcAt w' s.1 2 (r.ents.flatMap entT)
  held : ∀ (i : Nat) (r : Rp) (s : Slc × Slc), reps[i]? = some r → sls[i]? = some s → ∃ vsl, HeldIn w0 G s.2 r.held vsl
theorem HeldIn.more {G D : List Chunk} {sh : Slc} {held : List Hd} {vsl : List Slc} (h : HeldIn w0 G sh held vsl) : HeldIn w0 (D ++ G) sh held vsl :=
  ⟨h.len, fun l w' st => h.row (l ++ D) w' (by rw [List.append_assoc]; exact st), fun i x v h1 h2 l w' st => h.ver i x v h1 h2 (l ++ D) w' (by rw [List.append_assoc]; exact st)⟩
theorem heldIn {G g tb pb : List Chunk} {sh : Slc} {held : List Hd} {vsl : List Slc} (row : RowC 2 sh ((held.zip vsl).flatMap fun p => hdV p.1.1 p.2) tb) (parts : Parts InV held vsl pb) (hG : G.Perm (tb ++ (pb ++ g))) : HeldIn w0 G sh held vsl := by
  refine ⟨parts.len, fun l w' st => row.src (l := pb ++ (g ++ l)) ((st.perm (hG.append_left l)).perm (perm_of_sum fun f_ => by simp <;> omega)), fun i h v h1 h2 l w' st => ?_⟩
  obtain ⟨a, c, z, rfl, hi⟩ := parts.at_ h1 h2
  have hi : RowC 3 v (h.2.flatMap verV) c := hi
  exact hi.src (l := tb ++ (a ++ (z ++ (g ++ l)))) ((st.perm (hG.append_left l)).perm (perm_of_sum fun f_ => by simp <;> omega))
theorem repsIn {G g tp pb : List Chunk} {ps : Slc} {reps : List Rp} {sls : List (Slc × Slc)} (row : RowC 5 ps ((reps.zip sls).flatMap fun p => rpV p.1 p.2) tp) (parts : Parts InP reps sls pb) (hG : G.Perm (tp ++ (pb ++ g))) : RepsIn w0 G ps reps sls := by
  refine ⟨parts.len, fun l w' st => row.src (l := pb ++ (g ++ l)) ((st.perm (hG.append_left l)).perm (perm_of_sum fun f_ => by simp <;> omega)), fun i r s h1 h2 l w' st => ?_, fun i r s h1 h2 => ?_⟩
  · obtain ⟨a, c, z, rfl, hi⟩ := parts.at_ h1 h2
    obtain ⟨ec, hc, rfl, re, _⟩ := hi
    exact re.src (l := hc ++ (tp ++ (a ++ (z ++ (g ++ l))))) ((st.perm (hG.append_left l)).perm (perm_of_sum fun f_ => by simp <;> omega))
  · obtain ⟨a, c, z, rfl, hi⟩ := parts.at_ h1 h2
    obtain ⟨ec, hc, rfl, _, vsl, tb2, pb2, rfl, rt, pt⟩ := hi
    exact ⟨vsl, heldIn (g := tp ++ (a ++ (ec ++ (z ++ g)))) rt pt (hG.trans (perm_of_sum fun f_ => by simp <;> omega))⟩
theorem sp_ans_held {G tb vb : List Chunk} {hs : List Hd} {r : Rp} {sh held : Slc} {vsl vsr : List Slc} {t31 : Int} {again_ : Slc → Int → World → Prop} (hsm : r.Small) (hhs : hs.length ≤ 16777216) (hin : HeldIn w0 G sh r.held vsr)
    (rh : RowC 2 held ((hs.zip vsl).flatMap fun q => hdV q.1.1 q.2) tb) (pv : Parts InV hs vsl vb) (st : St w0 (tb ++ (vb ++ G)) w)
    (k : ∀ held2 vsl' tb' vb' w', RowC 2 held2 (((hs ++ r.held).zip vsl').flatMap fun q => hdV q.1.1 q.2) tb' → Parts InV (hs ++ r.held) vsl' vb' → St w0 (tb' ++ (vb' ++ G)) w' → F_call_Task_Answer_k1 t31 again_ held2 w') :
    ∃ (I : Slc → Int → World → Prop) (μ : Slc → Int → World → Nat), I held 0 w ∧ ∀ (held2 : Slc) (t76 : Int) w, I held2 t76 w → F_call_Task_Answer_L2 t31 again_ sh (fun (held2' : Slc) (t76' : Int) w' => I held2' t76' w' ∧ μ held2' t76' w' < μ held2 t76 w) held2 t76 w := by
  have hsh : sh.len = r.held.length := by
    have := (hin.row (tb ++ vb) w (by rw [List.append_assoc]; exact st)).1
    rw [zipRow_len (sz := 2) (fun _ => rfl) hin.len] at this; omega
  have hshl := hsm.held
  refine ⟨fun held2 j w' => ∃ (q : Nat) (vsl' : List Slc) (tb' vb' : List Chunk), j = (q : Int) ∧ q ≤ r.held.length ∧ RowC 2 held2 (((hs ++ r.held.take q).zip vsl').flatMap fun q => hdV q.1.1 q.2) tb' ∧ Parts InV (hs ++ r.held.take q) vsl' vb' ∧
    St w0 (tb' ++ (vb' ++ G)) w', fun _ j _ => r.held.length - j.toNat, ⟨0, vsl, tb, vb, rfl, by omega, by simpa using rh, by simpa using pv, st⟩, ?_⟩
  clear st rh pv
  rintro held2 j w20 ⟨q, vsl', tb', vb', rfl, hq, rh', pv', st20⟩
  unfold F_call_Task_Answer_L2
  have hvl := pv'.len
  refine ⟨fun hj => ?_, fun hj => ?_⟩
  · have hj := of_decide_eq_true hj
    obtain ⟨a2, y, hy, hcy⟩ := SrcAt.getN (hin.row (tb' ++ vb') w20 (by rw [List.append_assoc]; exact st20)) (fun _ => rfl) (by decide) (i := (q : Int)) (by omega) hj
    rw [Int.toNat_natCast] at hy
    obtain ⟨hy1, hy2⟩ := List.getElem?_zip_eq_some.1 hy
    obtain ⟨hd, sv⟩ := y
    simp only at hy1 hy2
    have hvs := hsm.vers hd (List.mem_of_getElem? hy1)
    have wq : IntKind.i64.wrap ((q : Int) + 1) = ((q + 1 : Nat) : Int) := by rw [i64_in _ (by omega) (by omega)]; omega
    refine ⟨a2, by omega, hj, ⟨hd.1, sv⟩, hcy, fun b5 w21 hb5 hw21 => ?_⟩
    have st21 := st20.alloc (cs := hldT (ByteArray.empty, ⟨none, 0, 0⟩)) hb5 hw21
    refine ⟨st21.writable 0 rfl (by decide), fun w22 hw22 w23 hw23 => ?_⟩
    have st22 : St w0 ((b5, hldT (hd.1, sv)) :: (tb' ++ (vb' ++ G))) w22 := st21.put0 hw22
    have st23 := st22.drew hw23
    have hsrc := hin.ver q hd sv hy1 hy2 ((b5, hldT (hd.1, sv)) :: (tb' ++ vb')) w23 (by rw [List.cons_append, List.append_assoc]; exact st23)
    have hsv : sv.len = hd.2.length := by
      have := hsrc.1
      rw [flatMap_len (sz := 3) (fun _ => rfl)] at this; omega
    refine ⟨hd.1, st23.cell 0 rfl rfl, sv, st23.cell 0 rfl rfl, sp_CloneVer hsrc (by omega) fun s3 rb w24 r24 st24 _ => ?_⟩
    have st24 := st23.more st24
    have st24 : St w0 ((b5, hldT (hd.1, sv)) :: (rb ++ (tb' ++ (vb' ++ G)))) w24 := st24.perm (perm_of_sum fun f_ => by simp <;> omega)
    refine ⟨st24.cell 0 rfl rfl, fun b6 w25 hb6 hw25 => ?_⟩
    have st25 := st24.alloc (cs := hldT (hd.1, s3)) hb6 hw25
    refine ⟨hldT (hd.1, s3), srcAt_newN hb6 hw25 rfl, ?_⟩
    have st25 : St w0 (tb' ++ (rb ++ (vb' ++ G))) w25 := st25.weak [(b6, hldT (hd.1, s3)), (b5, hldT (hd.1, sv))] (perm_of_sum fun f_ => by simp <;> omega)
    have hhl : held2.len = (hs ++ r.held.take q).length := by
      have := rh'.len
      rw [zipRow_len (sz := 2) (fun _ => rfl) hvl] at this; omega
    rw [List.length_append, List.length_take] at hhl
    refine rh'.append st25 rfl rfl rfl (by omega) fun held3 tb3 w26 r26 st26 hl26 => ?_
    rw [wq]
    refine ⟨⟨q + 1, vsl' ++ [s3], tb3, vb' ++ rb, rfl, by omega, ?_, ?_, st26.perm (perm_of_sum fun f_ => by simp <;> omega)⟩, by show _ - _ < _ - _; omega⟩
    · rw [List.take_add_one, hy1, show (some hd).toList = [hd] from rfl, ← List.append_assoc, zip_snoc hvl]
      exact r26
    · rw [List.take_add_one, hy1, show (some hd).toList = [hd] from rfl, ← List.append_assoc]
      exact pv'.snoc r24
  · have hj := of_decide_eq_false hj
    rw [List.take_of_length_le (by omega)] at rh' pv'
    exact k held2 vsl' tb' vb' w20 rh' pv' st20
/-- How far the answer is behind p replies. -/
def AnSt (w0 : Base) (m : TkM) (G : List Chunk) (b1 : Nat) (A : Ans) (held : Slc) (w : World) : Prop :=
  ∃ (s : Slc) (vsl : List Slc) (ec tb vb d : List Chunk), RowC 2 s (A.es.flatMap entT) ec ∧ RowC 2 held ((A.hs.zip vsl).flatMap fun q => hdV q.1.1 q.2) tb ∧ Parts InV A.hs vsl vb ∧ St w0 ((b1, anT ⟨0, m.mark, A.ok, s, A.cnt⟩) :: (ec ++ (tb ++ (vb ++ (d ++ G))))) w
theorem ans_row1 {r : Rp} {k : Int} (h : k = 1) (A : Ans) : ansStep k A r = { A with ok := decide (r.ents.length = 1), es := if r.ents.length = 1 then r.ents else A.es } := by unfold ansStep; rw [if_pos h]
theorem ans_row2 {r : Rp} {k : Int} (h : k = 2) (A : Ans) : ansStep k A r = { A with es := OE.insAll A.es r.ents } := by unfold ansStep; rw [if_neg (by omega), if_pos h]
theorem ans_row3 {r : Rp} {k : Int} (h : k = 3) (A : Ans) : ansStep k A r = { A with cnt := IntKind.i64.wrap (A.cnt + r.count) } := by unfold ansStep; rw [if_neg (by omega), if_neg (by omega), if_pos h]
theorem ans_row4 {r : Rp} {k : Int} (h : k = 4) (A : Ans) : ansStep k A r = { A with hs := A.hs ++ r.held } := by unfold ansStep; rw [if_neg (by omega), if_neg (by omega), if_neg (by omega)]
theorem sp_ans_round {G : List Chunk} {m : TkM} {b1 bt b : Nat} {ps held : Slc} {sls : List (Slc × Slc)} {p : Nat} {R : T_api_Answer → Slc → Int → World → Prop} {again_ : Slc → Int → World → Prop} (ok : m.Ok) (hp : p < m.reps.length) (hin : RepsIn w0 G ps m.reps sls)
    (hk : ∀ l w', St w0 (l ++ G) w' → w'.cell? ⟨bt, 5, none⟩ = some (Value.int .u8 m.call.Kind)) (h : AnSt w0 m G b1 (ansAt m p) held w)
    (k : ∀ held' w', AnSt w0 m G b1 (ansAt m (p + 1)) held' w' → again_ held' ((p + 1 : Nat) : Int) w') (hi : decide (((p : Nat) : Int) < ((ps.len : Nat) : Int)) = true)
    (no : decide (((p : Nat) : Int) < ((ps.len : Nat) : Int)) = false → C_slices_SortStableFunc_api_Held_api_Held held (Value.func (.func 92) #[] #[]) w (fun w27 => ∃ (v93 : T_api_Answer), CellsAt w27 b1 0 (anT v93) ∧ (Writable w27 b 0 5 ∧ (∀ w28, w28 = World.puts b 0 (anT v93) w27 → (∃ (res2 : T_api_Answer), CellsAt w28 b 0 (anT res2) ∧ (R res2 held 0 w28)))))) : F_call_Task_Answer_L0 (some ⟨bt, 0, none⟩) R b b1 ps again_ held (p : Int) w := by
  unfold F_call_Task_Answer_L0
  refine ⟨fun _ => ?_, no⟩
  have hi := of_decide_eq_true hi
  have hr16 := ok.few
  have hrm := ok.reps
  have hlen := ansAt_len ok (Nat.le_of_lt hp)
  obtain ⟨s, vsl, ec, tb, vb, d, rs2, rh, pv, st⟩ := h
  have wp : IntKind.i64.wrap ((p : Int) + 1) = ((p + 1 : Nat) : Int) := by rw [i64_in _ (by omega) (by omega)]; omega
  have stG : ∀ {x : Chunk} {w' : World}, St w0 (x :: (ec ++ (tb ++ (vb ++ (d ++ G))))) w' → St w0 ((x :: (ec ++ (tb ++ (vb ++ d)))) ++ G) w' := fun {x w'} h => by
    have e : (x :: (ec ++ (tb ++ (vb ++ d)))) ++ G = x :: (ec ++ (tb ++ (vb ++ (d ++ G)))) := by simp only [List.cons_append, List.append_assoc]
    rw [e]; exact h
  have stG2 : ∀ {x y : Chunk} {w' : World}, St w0 (x :: y :: (ec ++ (tb ++ (vb ++ (d ++ G))))) w' → St w0 ((x :: y :: (ec ++ (tb ++ (vb ++ d)))) ++ G) w' := fun {x y w'} h => by
    have e : (x :: y :: (ec ++ (tb ++ (vb ++ d)))) ++ G = x :: y :: (ec ++ (tb ++ (vb ++ (d ++ G)))) := by simp only [List.cons_append, List.append_assoc]
    rw [e]; exact h
  obtain ⟨a, x, hx, hc⟩ := SrcAt.getN (hin.row _ w (stG st)) (fun _ => rfl) (by decide) (i := (p : Int)) (by omega) hi
  rw [Int.toNat_natCast] at hx
  obtain ⟨hx1, hx2⟩ := List.getElem?_zip_eq_some.1 hx
  obtain ⟨r, se, sh⟩ := x
  simp only at hx1 hx2
  have hsucc := ansAt_succ hx1
  have hsm := ok.small r (List.mem_of_getElem? hx1)
  have hre := hin.ent p r (se, sh) hx1 hx2
  obtain ⟨vsr, hho⟩ := hin.held p r (se, sh) hx1 hx2
  have hel : r.ents.length = se.len := by
    have h0 := (hre _ w (stG st)).1
    rw [flatMap_len (sz := 2) (fun _ => rfl)] at h0
    have h0 : r.ents.length * 2 = se.len * 2 := h0
    omega
  have fin : ∀ (A : Ans) (held' : Slc) (w' : World), A = ansStep m.call.Kind (ansAt m p) r → AnSt w0 m G b1 A held' w' → F_call_Task_Answer_k1 (p : Int) again_ held' w' := fun A held' w' hA h' => by
    unfold F_call_Task_Answer_k1
    rw [wp]
    rw [← hsucc] at hA
    subst hA
    exact k held' w' h'
  refine ⟨a, by omega, hi, ⟨0, r.ok, se, sh, r.count⟩, hc, fun b2 w10 hb2 hw10 => ?_⟩
  have st10 := st.alloc (cs := rpV ⟨false, [], [], 0⟩ (⟨none, 0, 0⟩, ⟨none, 0, 0⟩)) hb2 hw10
  refine ⟨st10.writable 0 rfl (by show 0 + 5 ≤ 5; omega), fun w11 hw11 => ?_⟩
  have st11 : St w0 ((b2, rpV r (se, sh)) :: (b1, anT ⟨0, m.mark, (ansAt m p).ok, s, (ansAt m p).cnt⟩) :: (ec ++ (tb ++ (vb ++ (d ++ G))))) w11 := st10.put0 hw11
  clear st10 st
  refine ⟨rfl, m.call.Kind, hk _ w11 (stG2 st11), fun h1 => ?_, fun h1 => ⟨fun h2 => ?_, fun h2 => ⟨fun h3 => ?_, fun h3 => ⟨fun h4 => ?_, fun h4 => ?_⟩⟩⟩⟩
  · have h1 : m.call.Kind = 1 := by simpa using h1
    have hone := ok.one h1
    have hp0 : p = 0 := by omega
    subst hp0
    refine ⟨se, st11.cell 0 rfl rfl, st11.writable 1 rfl (by show 2 + 1 ≤ 5; omega), fun w12 hw12 => ?_⟩
    have st12 : St w0 ((b2, rpV r (se, sh)) :: (b1, anT ⟨0, m.mark, (((se.len : Nat) : Int) == 1), s, (ansAt m 0).cnt⟩) :: (ec ++ (tb ++ (vb ++ (d ++ G))))) w12 := st11.put1 hw12
    refine ⟨(((se.len : Nat) : Int) == 1), st12.cell 1 rfl rfl, fun hb => ?_, fun hb => ?_⟩
    · have hs1 : r.ents.length = 1 := by have : ((se.len : Nat) : Int) = 1 := by simpa using hb
                                         omega
      refine ⟨se, st12.cell 0 rfl rfl, fun b3 w13 hb3 hw13 => ?_⟩
      have st13 := st12.alloc (cs := [slV se]) hb3 hw13
      refine sp_entries (ls := [(se, r.ents)]) st13 (fun l w' st' => ⟨?_, fun q hq => ?_⟩) (by simp; omega) (by simp) fun s2 rb w14 r14 st14 => ?_
      · exact St.blkSrc (n := 1) (sz := 1) (vs := [slV se]) (l := l ++ ((b2, rpV r (se, sh)) :: (b1, anT ⟨0, m.mark, (((se.len : Nat) : Int) == 1), s, (ansAt m 0).cnt⟩) :: (ec ++ (tb ++ (vb ++ (d ++ G)))))) (st'.perm (perm_of_sum fun f_ => by simp <;> omega)) rfl
      · rw [List.mem_singleton.1 hq]
        exact hre (l ++ ((b3, [slV se]) :: (b2, rpV r (se, sh)) :: (b1, anT ⟨0, m.mark, (((se.len : Nat) : Int) == 1), s, (ansAt m 0).cnt⟩) :: (ec ++ (tb ++ (vb ++ d))))) w' (st'.perm (perm_of_sum fun f_ => by simp <;> omega))
      have st14 : St w0 ((b1, anT ⟨0, m.mark, (((se.len : Nat) : Int) == 1), s, (ansAt m 0).cnt⟩) :: (rb ++ (tb ++ (vb ++ (((b3, [slV se]) :: (b2, rpV r (se, sh)) :: (ec ++ d)) ++ G))))) w14 := st14.perm (perm_of_sum fun f_ => by simp <;> omega)
      refine ⟨st14.writable 0 rfl (by show 3 + 1 ≤ 5; omega), fun w15 hw15 => ?_⟩
      have st15 : St w0 ((b1, anT ⟨0, m.mark, (((se.len : Nat) : Int) == 1), s2, (ansAt m 0).cnt⟩) :: (rb ++ (tb ++ (vb ++ (((b3, [slV se]) :: (b2, rpV r (se, sh)) :: (ec ++ d)) ++ G))))) w15 := st14.put0 hw15
      refine fin _ held w15 (ans_row1 h1 _).symm ⟨s2, vsl, rb, tb, vb, (b3, [slV se]) :: (b2, rpV r (se, sh)) :: (ec ++ d), ?_, rh, pv, ?_⟩
      · show RowC 2 s2 ((if r.ents.length = 1 then r.ents else (ansAt m 0).es).flatMap entT) rb
        rw [if_pos hs1]
        obtain ⟨x, hx⟩ := List.length_eq_one_iff.1 hs1
        rw [hx] at r14 ⊢
        have e6 : OEk.insAll [] ([x] : List T_api_Entry) = [x] := rfl
        simp only [List.flatMap_cons, List.flatMap_nil, List.append_nil] at r14
        rw [e6] at r14
        exact r14
      · show St w0 ((b1, anT ⟨0, m.mark, decide (r.ents.length = 1), s2, (ansAt m 0).cnt⟩) :: _) w15
        rw [decide_eq_true hs1]
        rw [hb] at st15
        exact st15
    · have hs1 : ¬ r.ents.length = 1 := by have : ¬ ((se.len : Nat) : Int) = 1 := by simpa using hb
                                           omega
      refine fin _ held w12 (ans_row1 h1 _).symm ⟨s, vsl, ec, tb, vb, (b2, rpV r (se, sh)) :: d, ?_, rh, pv, ?_⟩
      · show RowC 2 s ((if r.ents.length = 1 then r.ents else (ansAt m 0).es).flatMap entT) ec
        rw [if_neg hs1]; exact rs2
      · show St w0 ((b1, anT ⟨0, m.mark, decide (r.ents.length = 1), s, (ansAt m 0).cnt⟩) :: _) w12
        rw [decide_eq_false hs1]
        rw [hb] at st12
        exact st12.perm (perm_of_sum fun f_ => by simp <;> omega)
  · have h1 : m.call.Kind ≠ 1 := by simpa using h1
    have h2 : m.call.Kind = 2 := by simpa using h2
    have hsort := ansAt_sorted h1 (Nat.le_of_lt hp)
    refine ⟨s, st11.cell 1 rfl rfl, se, st11.cell 0 rfl rfl, fun b4 w16 hb4 hw16 => ?_⟩
    have st16 := st11.alloc (cs := [slV s, slV se]) hb4 hw16
    have hse := hsm.ents
    refine sp_entries (ls := [(s, (ansAt m p).es), (se, r.ents)]) st16 (fun l w' st' => ⟨?_, fun q hq => ?_⟩) (by simp; omega) (by simp) fun s2 rb w17 r17 st17 => ?_
    · exact St.blkSrc (n := 2) (sz := 1) (vs := [slV s, slV se]) (l := l ++ ((b2, rpV r (se, sh)) :: (b1, anT ⟨0, m.mark, (ansAt m p).ok, s, (ansAt m p).cnt⟩) :: (ec ++ (tb ++ (vb ++ (d ++ G)))))) (st'.perm (perm_of_sum fun f_ => by simp <;> omega)) rfl
    · rcases List.mem_cons.1 hq with rfl | hq
      · exact rs2.src (l := l ++ ((b4, [slV s, slV se]) :: (b2, rpV r (se, sh)) :: (b1, anT ⟨0, m.mark, (ansAt m p).ok, s, (ansAt m p).cnt⟩) :: (tb ++ (vb ++ (d ++ G))))) (st'.perm (perm_of_sum fun f_ => by simp <;> omega))
      · rw [List.mem_singleton.1 hq]
        exact hre (l ++ ((b4, [slV s, slV se]) :: (b2, rpV r (se, sh)) :: (b1, anT ⟨0, m.mark, (ansAt m p).ok, s, (ansAt m p).cnt⟩) :: (ec ++ (tb ++ (vb ++ d))))) w' (st'.perm (perm_of_sum fun f_ => by simp <;> omega))
    have st17 : St w0 ((b1, anT ⟨0, m.mark, (ansAt m p).ok, s, (ansAt m p).cnt⟩) :: (rb ++ (tb ++ (vb ++ (((b4, [slV s, slV se]) :: (b2, rpV r (se, sh)) :: (ec ++ d)) ++ G))))) w17 := st17.perm (perm_of_sum fun f_ => by simp <;> omega)
    refine ⟨st17.writable 0 rfl (by show 3 + 1 ≤ 5; omega), fun w18 hw18 => ?_⟩
    have st18 : St w0 ((b1, anT ⟨0, m.mark, (ansAt m p).ok, s2, (ansAt m p).cnt⟩) :: (rb ++ (tb ++ (vb ++ (((b4, [slV s, slV se]) :: (b2, rpV r (se, sh)) :: (ec ++ d)) ++ G))))) w18 := st17.put0 hw18
    refine fin _ held w18 (ans_row2 h2 _).symm ⟨s2, vsl, rb, tb, vb, (b4, [slV s, slV se]) :: (b2, rpV r (se, sh)) :: (ec ++ d), ?_, rh, pv, st18⟩
    have e5 : OEk.insAll [] ((ansAt m p).es ++ r.ents) = OE.insAll (ansAt m p).es r.ents := insAll_more (O := OE) hsort
    have r17 : RowC 2 s2 ((OEk.insAll [] ((ansAt m p).es ++ r.ents)).flatMap entT) rb := by simpa using r17
    rw [e5] at r17
    exact r17
  · have h1 : m.call.Kind ≠ 1 := by simpa using h1
    have h2 : m.call.Kind ≠ 2 := by simpa using h2
    have h3 : m.call.Kind = 3 := by simpa using h3
    refine ⟨(ansAt m p).cnt, st11.cell 1 rfl rfl, r.count, st11.cell 0 rfl rfl, st11.writable 1 rfl (by show 4 + 1 ≤ 5; omega), fun w19 hw19 => ?_⟩
    have st19 : St w0 ((b2, rpV r (se, sh)) :: (b1, anT ⟨0, m.mark, (ansAt m p).ok, s, IntKind.i64.wrap ((ansAt m p).cnt + r.count)⟩) :: (ec ++ (tb ++ (vb ++ (d ++ G))))) w19 := st11.put1 hw19
    exact fin _ held w19 (ans_row3 h3 _).symm ⟨s, vsl, ec, tb, vb, (b2, rpV r (se, sh)) :: d, rs2, rh, pv, st19.perm (perm_of_sum fun f_ => by simp <;> omega)⟩
  · have h4 : m.call.Kind = 4 := by simpa using h4
    refine ⟨sh, st11.cell 0 rfl rfl, ?_⟩
    refine sp_ans_held (G := ((b2, rpV r (se, sh)) :: (b1, anT ⟨0, m.mark, (ansAt m p).ok, s, (ansAt m p).cnt⟩) :: (ec ++ d)) ++ G) hsm (by omega) hho.more rh pv (st11.perm (perm_of_sum fun f_ => by simp <;> omega)) fun held2 vsl' tb' vb' w' rh' pv' st' => ?_
    exact fin _ held2 w' (ans_row4 h4 _).symm ⟨s, vsl', ec, tb', vb', (b2, rpV r (se, sh)) :: d, rs2, rh', pv', st'.perm (perm_of_sum fun f_ => by simp <;> omega)⟩
  · have h1 : m.call.Kind ≠ 1 := by simpa using h1
    have h2 : m.call.Kind ≠ 2 := by simpa using h2
    have h3 : m.call.Kind ≠ 3 := by simpa using h3
    have h4 : m.call.Kind ≠ 4 := by simpa using h4
    have := ok.kind
    omega
theorem sp_tk_Answer {R : T_api_Answer → Slc → Int → World → Prop} (o : TkO t m cs) (st : St w0 (cs ++ fr) w)
    (k : ∀ s held ec hc d w', RowC 2 s ((anR m).es.flatMap entT) ec → HdsO held (anR m).hs hc → St w0 (ec ++ (hc ++ (cs ++ (d ++ fr)))) w' → R ⟨0, (anR m).mark, (anR m).ok, s, (anR m).cnt⟩ held (anE m) w') : C_call_Task_Answer t w R := by
  cases m with
  | none => exact sp_no_Answer o st fun w' st' => k ⟨none, 0, 0⟩ ⟨none, 0, 0⟩ [] [] [] w' RowC.nil HdsO.nil st'
  | some m =>
    apply S_call_Task_Answer
    unfold F_call_Task_Answer
    intro b w1 hb hw
    have st1 : St w0 ((b, anT zAn) :: (cs ++ fr)) w1 := st.alloc hb hw
    have st1b : St w0 (cs ++ ((b, anT zAn) :: fr)) w1 := st1.perm (perm_of_sum fun f_ => by simp <;> omega)
    refine sp_tk_there o st1b ⟨fun h => (by cases h), fun _ => ?_⟩
    refine sp_tk_All o st1b fun w2 st2 => ?_
    have st2a : St w0 ((b, anT zAn) :: (cs ++ fr)) w2 := st2.perm (perm_of_sum fun f_ => by simp <;> omega)
    refine ⟨fun h => ?_, fun h => ?_⟩
    · have ha : ¬ allM (some m) = true := by simpa using h
      refine ⟨st2a.writable 0 rfl (by decide), fun w3 hw3 => ?_⟩
      have st3 : St w0 ((b, anT zAn) :: (cs ++ fr)) w3 := st2a.put0 hw3
      have e1 : anR (some m) = zAnR := by unfold anR; simp only; rw [if_neg ha]
      have e2 : anE (some m) = 6 := by unfold anE; simp only; rw [if_neg ha]
      rw [e1, e2] at k
      exact ⟨zAn, (st3.get 0 rfl).all, k ⟨none, 0, 0⟩ ⟨none, 0, 0⟩ [] [] [(b, anT zAn)] w3 RowC.nil HdsO.nil (st3.perm (perm_of_sum fun f_ => by simp <;> omega))⟩
    have ha : allM (some m) = true := by simpa using h
    have e1 : anR (some m) = ⟨m.mark, (ansM m).ok, (ansM m).es, (ansM m).cnt, OH.insAll [] (ansM m).hs⟩ := by unfold anR; simp only; rw [if_pos ha]
    have e2 : anE (some m) = 0 := by unfold anE; simp only; rw [if_pos ha]
    rw [e1, e2] at k
    simp only at k
    obtain ⟨bt, rfl, rs, ps, rc, pc, ok, rfl, hr, hp⟩ := o
    obtain ⟨tkv, htkv⟩ : ∃ tkv, tkv = tkV m.number m.cfg m.call m.begun m.mark rs (m.out : Int) ps := ⟨_, rfl⟩
    have hrl := hp.len
    obtain ⟨sls, tp, pb, rfl, row, parts⟩ := hp
    rw [← htkv] at st2a k
    have c9 : tkv[9]? = some (iV m.mark) := by rw [htkv]; rfl
    have c5 : tkv[5]? = some (Value.int .u8 m.call.Kind) := by rw [htkv]; rfl
    have c12 : tkv[12]? = some (slV ps) := by rw [htkv]; rfl
    clear htkv
    refine ⟨rfl, m.mark, st2a.cell 1 rfl c9, fun b1 w6 hb1 hw6 => ?_⟩
    have st6 := st2a.alloc (cs := anT zAn) hb1 hw6
    refine ⟨st6.writable 0 rfl (by decide), fun w7 hw7 => ?_⟩
    have st7 : St w0 ((b1, anT ⟨0, m.mark, true, ⟨none, 0, 0⟩, 0⟩) :: (b, anT zAn) :: (((bt, tkv) :: (rc ++ (tp ++ pb))) ++ fr)) w7 := st6.put0 hw7
    refine ⟨rfl, ps, st7.cell 2 rfl c12, ?_⟩
    obtain ⟨G, hG⟩ : ∃ G, G = (b, anT zAn) :: (((bt, tkv) :: (rc ++ (tp ++ pb))) ++ fr) := ⟨_, rfl⟩
    have hin : RepsIn w0 G ps m.reps sls := repsIn (g := (b, anT zAn) :: (bt, tkv) :: (rc ++ fr)) row parts (by rw [hG]; exact (perm_of_sum fun f_ => by simp <;> omega))
    have hkc : ∀ l w', St w0 (l ++ G) w' → w'.cell? ⟨bt, 5, none⟩ = some (Value.int .u8 m.call.Kind) := fun l w' st' => by
      rw [hG] at st'
      have st' : St w0 ((bt, tkv) :: (l ++ ((b, anT zAn) :: (rc ++ (tp ++ (pb ++ fr)))))) w' := st'.perm (perm_of_sum fun f_ => by simp <;> omega)
      exact st'.cell 0 rfl c5
    have hb0 : G = (b, anT zAn) :: (((bt, tkv) :: (rc ++ (tp ++ pb))) ++ fr) := hG
    rw [← hG] at st7
    refine ⟨fun held i w' => ∃ p : Nat, i = (p : Int) ∧ p ≤ m.reps.length ∧ AnSt w0 m G b1 (ansAt m p) held w', fun _ i _ => m.reps.length - i.toNat,
      ⟨0, rfl, by omega, ⟨none, 0, 0⟩, [], [], [], [], [], by rw [ansAt_zero]; exact RowC.nil, by rw [ansAt_zero]; exact RowC.nil, by rw [ansAt_zero]; rfl, by rw [ansAt_zero]; exact st7⟩, ?_⟩
    clear st st1 st1b st2 st2a st6 st7
    rintro held i w8 ⟨p, rfl, hp, hst⟩
    by_cases hlt : p < m.reps.length
    · exact sp_ans_round ok hlt hin hkc hst (fun held' w' h' => ⟨⟨p + 1, rfl, by omega, h'⟩, by show _ - _ < _ - _; omega⟩) (decide_eq_true (by omega)) fun h => absurd (of_decide_eq_false h) (by omega)
    obtain rfl : p = m.reps.length := by omega
    have hlen := ansAt_len ok hp
    have hr16 := ok.few
    have hrm := ok.reps
    unfold F_call_Task_Answer_L0
    refine ⟨fun h => absurd (of_decide_eq_true h) (by omega), fun _ => ?_⟩
    obtain ⟨s, vsl, ec, tb, vb, d, rs2, rh, pv, st⟩ := hst
    have st : St w0 ((b1, anT ⟨0, m.mark, (ansM m).ok, s, (ansM m).cnt⟩) :: (ec ++ (tb ++ (vb ++ (d ++ G))))) w8 := st
    have stt : St w0 (tb ++ ((b1, anT ⟨0, m.mark, (ansM m).ok, s, (ansM m).cnt⟩) :: (ec ++ (vb ++ (d ++ G))))) w8 := st.perm (perm_of_sum fun f_ => by simp <;> omega)
    rw [zip_hT] at rh
    have hzl : (((ansAt m m.reps.length).hs.zip vsl).map hdH).length ≤ 288230376151711744 := by
      rw [List.length_map, List.length_zip]; omega
    refine sp_sortH rh stt hzl fun tb' w27 r27 st27 => ?_
    obtain ⟨vsl', vb', pv', hperm, he⟩ := hds_sort pv
    rw [he, ← zip_hT] at r27
    rw [hb0] at st27
    have st27 : St w0 ((b1, anT ⟨0, m.mark, (ansM m).ok, s, (ansM m).cnt⟩) :: (b, anT zAn) :: (tb' ++ (ec ++ (vb ++ (d ++ (((bt, tkv) :: (rc ++ (tp ++ pb))) ++ fr)))))) w27 := st27.perm (perm_of_sum fun f_ => by simp <;> omega)
    refine ⟨⟨0, m.mark, (ansM m).ok, s, (ansM m).cnt⟩, (st27.get 0 rfl).all, st27.writable 1 rfl (by decide), fun w28 hw28 => ?_⟩
    have st28 : St w0 ((b1, anT ⟨0, m.mark, (ansM m).ok, s, (ansM m).cnt⟩) :: (b, anT ⟨0, m.mark, (ansM m).ok, s, (ansM m).cnt⟩) :: (tb' ++ (ec ++ (vb ++ (d ++ (((bt, tkv) :: (rc ++ (tp ++ pb))) ++ fr)))))) w28 := st27.put1 hw28
    refine ⟨⟨0, m.mark, (ansM m).ok, s, (ansM m).cnt⟩, (st28.get 1 rfl).all, ?_⟩
    have st28 : St w0 (vb ++ ((b1, anT ⟨0, m.mark, (ansM m).ok, s, (ansM m).cnt⟩) :: (b, anT ⟨0, m.mark, (ansM m).ok, s, (ansM m).cnt⟩) :: (tb' ++ (ec ++ (d ++ (((bt, tkv) :: (rc ++ (tp ++ pb))) ++ fr)))))) w28 := st28.perm (perm_of_sum fun f_ => by simp <;> omega)
    have st28 := st28.perm (hperm.append_right _)
    exact k s held ec (tb' ++ vb') ((b1, anT ⟨0, m.mark, (ansM m).ok, s, (ansM m).cnt⟩) :: (b, anT ⟨0, m.mark, (ansM m).ok, s, (ansM m).cnt⟩) :: d) w28 rs2 ⟨vsl', tb', vb', rfl, r27, pv'⟩ (st28.perm (perm_of_sum fun f_ => by simp <;> omega))
end
end Go.Proofs.Ytpedclhflmhakaa

namespace Go.Proofs.Ytpedclhflmhakaa
open Go
set_option linter.unusedVariables false
set_option linter.unusedSimpArgs false

abbrev xkV (n : Int) (c : Cfg) (x : T_api_Call) (begun : Bool) (mark : Int) (ss qs : Slc) (asked : Int) (ps : Slc) : List Value :=
  [iV n, iV c.Lanes, iV c.Shards, iV c.Window, iV c.Queue, Value.int .u8 x.Kind, Value.string x.Key, Value.string x.End, Value.bool begun, iV mark, slV ss, slV qs, iV asked, slV ps]
def QsO (sl : Slc) (all : List (Int × Rq)) (cs : List Chunk) : Prop := ∃ sls tb pb, cs = tb ++ pb ∧ RowC 9 sl ((all.zip sls).flatMap fun p => rqV p.1.2 p.2) tb ∧ Parts InQ all sls pb
abbrev XP := T_api_Resp × List T_api_Entry × List HO
abbrev rpX (r : XP) : Rp := rpOf r.1 r.2.1 r.2.2
def XpO (W : World) (sl : Slc) (reps : List Rp) (cs : List Chunk) : Prop := ∃ rs : List XP, RowC 5 sl (rs.flatMap fun r => rspT r.1) cs ∧ reps = rs.map rpX ∧ ∀ r ∈ rs, RspAt W r.1 r.2.1 r.2.2
def XkS (W : World) (m : TkM) (b : Nat) (cs : List Chunk) : Prop :=
  ∃ (all : List (Int × Rq)) (ss qs ps : Slc) (sc qc pc : List Chunk), m.Ok ∧ m.out ≤ all.length ∧ all.length ≤ 16 ∧ all.drop m.out = m.rest ∧ (m.begun = false → all = []) ∧
    cs = (b, xkV m.number m.cfg m.call m.begun m.mark ss qs (m.out : Int) ps) :: (sc ++ (qc ++ pc)) ∧ RowC 1 ss (all.flatMap fun q => [iV q.1]) sc ∧ QsO qs all qc ∧ XpO W ps m.reps pc
def XkO (W : World) (t : Option Addr) (m : Option TkM) (cs : List Chunk) : Prop :=
  match m with
  | none => t = none ∧ cs = []
  | some m => ∃ b, t = some ⟨b, 0, none⟩ ∧ XkS W m b cs
theorem QsO.len {sl : Slc} {all : List (Int × Rq)} {cs : List Chunk} (o : QsO sl all cs) : sl.len = all.length := by
  obtain ⟨sls, tb, pb, rfl, r, ps⟩ := o
  have := r.len
  rw [zipRow_len (sz := 9) (fun _ => rfl) ps.len] at this
  omega
theorem XpO.len {W : World} {sl : Slc} {reps : List Rp} {cs : List Chunk} (o : XpO W sl reps cs) : sl.len = reps.length := by
  obtain ⟨rs, r, rfl, _⟩ := o
  have := r.len
  rw [flatMap_len (sz := 5) (fun _ => rfl)] at this
  rw [List.length_map]; omega
section
variable {w0 : Base} {w : World} {fr cs : List Chunk} {t : Option Addr} {m : Option TkM}
theorem sp_ref15_Key {s : ByteArray} {R : Bool → World → Prop} (h : R (decide (((s.size : Nat) : Int) > 0) && decide (((s.size : Nat) : Int) ≤ 64)) w) : C_towpathref15_Key s w R := by
  apply S_towpathref15_Key
  exact h
theorem xx_Check {c : T_api_Call} {R : Int → World → Prop} (k : ∀ w', Ext w w' → R (callE c) w') : C_towpathref17_Check c w R := by
  apply S_towpathref17_Check
  unfold F_towpathref17_Check
  intro b w1 hb hw
  have st : St ⟨w, []⟩ [(b, callV c)] w1 := (St.start w).alloc hb hw
  have k := k w1 st.ext
  have yes : callOk c → R 0 w1 := fun h => by unfold callE at k; rw [if_pos h] at k; exact k
  have no : ¬ callOk c → R 1 w1 := fun h => by unfold callE at k; rw [if_neg h] at k; exact k
  have k2 : ∀ {v : Bool}, v = decide (callOk c) → F_towpathref17_Check_k2 R v w1 := fun {v} hv => by
    unfold F_towpathref17_Check_k2 F_towpathref17_Check_k1
    subst hv
    exact ⟨fun h => yes (of_decide_eq_true h), fun h => no (of_decide_eq_false h)⟩
  have k3 : ∀ {v : Bool}, v = decide (callOk c) → F_towpathref17_Check_k3 R v w1 := fun {v} hv => by
    unfold F_towpathref17_Check_k3 F_towpathref17_Check_k1
    subst hv
    exact ⟨fun h => yes (of_decide_eq_true h), fun h => no (of_decide_eq_false h)⟩
  have k0 : ∀ {bare : Bool}, bare = decide (c.Key.size = 0 ∧ c.End.size = 0) → F_towpathref17_Check_k0 R b bare w1 := fun {bare} hbare => by
    unfold F_towpathref17_Check_k0
    have k4 : c.Kind ≠ 1 → c.Kind ≠ 2 → ∀ {v : Bool}, v = decide (c.Kind = 3 ∨ c.Kind = 4) → F_towpathref17_Check_k4 R bare v w1 := fun h1 h2 {v} hv => by
      unfold F_towpathref17_Check_k4 F_towpathref17_Check_k1
      subst hv
      refine ⟨fun h => ⟨fun hb => yes ?_, fun hb => no fun hc => ?_⟩, fun h => no fun hc => ?_⟩
      · have h := of_decide_eq_true h
        rw [hbare] at hb
        have hb := of_decide_eq_true hb
        exact .inr (.inr ⟨h, hb⟩)
      · rw [hbare] at hb
        have hb := of_decide_eq_false hb
        rcases hc with hc | hc | hc
        · exact h1 hc.1
        · exact h2 hc.1
        · exact hb hc.2
      · have h := of_decide_eq_false h
        rcases hc with hc | hc | hc
        · exact h1 hc.1
        · exact h2 hc.1
        · exact h hc.1
    refine ⟨c.Kind, st.cell 0 rfl rfl, fun h1 => ⟨c.Key, st.cell 0 rfl rfl, sp_ref15_Key ⟨fun hk => ⟨c.End, st.cell 0 rfl rfl, k2 ?_⟩, fun hk => k2 ?_⟩⟩, fun h1 => ⟨fun h2 => ⟨c.Key, st.cell 0 rfl rfl, fun h3 => ⟨c.End, st.cell 0 rfl rfl, k3 ?_⟩, fun h3 => k3 ?_⟩, fun h2 => ?_⟩⟩
    · have h1 : c.Kind = 1 := by simpa using h1
      simp only [Bool.and_eq_true, decide_eq_true_eq] at hk
      rw [empty_iff]
      refine decide_eq_decide.2 ⟨fun h => .inl ⟨h1, by omega, by omega, h⟩, fun h => ?_⟩
      rcases h with h | h | h <;> omega
    · have h1 : c.Kind = 1 := by simpa using h1
      simp only [Bool.and_eq_false_iff, decide_eq_false_iff_not] at hk
      refine (decide_eq_false fun h => ?_).symm
      rcases h with h | h | h <;> omega
    · have h2 : c.Kind = 2 := by simpa using h2
      have h3 := of_decide_eq_true h3
      refine decide_eq_decide.2 ⟨fun h => .inr (.inl ⟨h2, by omega, by omega⟩), fun h => ?_⟩
      rcases h with h | h | h <;> omega
    · have h2 : c.Kind = 2 := by simpa using h2
      have h3 := of_decide_eq_false h3
      refine (decide_eq_false fun h => ?_).symm
      rcases h with h | h | h <;> omega
    · have h1 : c.Kind ≠ 1 := by simpa using h1
      have h2 : c.Kind ≠ 2 := by simpa using h2
      refine ⟨fun h3 => k4 h1 h2 ?_, fun h3 => k4 h1 h2 ?_⟩
      · have h3' : c.Kind = 3 := by simpa using h3
        rw [h3, decide_eq_true (.inl h3')]
      · have h3' : c.Kind ≠ 3 := by simpa using h3
        by_cases h4 : c.Kind = 4
        · rw [decide_eq_true (.inr h4), h4]; rfl
        · rw [decide_eq_false (by omega)]; simpa using h4
  refine ⟨c.Key, st.cell 0 rfl rfl, fun h => ⟨c.End, st.cell 0 rfl rfl, k0 ?_⟩, fun h => k0 ?_⟩
  · rw [empty_iff, decide_eq_true_eq] at h
    rw [empty_iff]
    exact decide_eq_decide.2 ⟨fun g => ⟨h, g⟩, fun g => g.2⟩
  · rw [empty_iff, decide_eq_false_iff_not] at h
    exact (decide_eq_false fun g => h g.1).symm
theorem xx_New {n : Int} {c : Cfg} {x : T_api_Call} {R : Option Addr → Int → World → Prop} (st : St w0 fr w)
    (k1 : newE n c x ≠ 0 → ∀ w', St w0 fr w' → R none (newE n c x) w') (k0 : newE n c x = 0 → ∀ b cs w', XkO w0.w (some ⟨b, 0, none⟩) (some (newT n c x)) cs → St w0 (cs ++ fr) w' → R (some ⟨b, 0, none⟩) 0 w') : C_towpathref17_New n c x w R := by
  apply S_towpathref17_New
  unfold F_towpathref17_New
  intro b1 w1 hb1 hw1 b2 w2 hb2 hw2
  have st2 : St w0 ((b2, callV x) :: (b1, cfgV c) :: fr) w2 := (st.alloc (cs := cfgV c) hb1 hw1).alloc (cs := callV x) hb2 hw2
  refine ⟨fun h => ?_, fun h => ?_⟩
  · have h := of_decide_eq_true h
    have e : newE n c x = 1 := by unfold newE; rw [if_pos h]
    rw [e] at k1
    exact k1 (by decide) w2 st2.drop1.drop1
  have h := of_decide_eq_false h
  refine ⟨c, ⟨st2.cell 1 rfl rfl, st2.cell 1 rfl rfl, st2.cell 1 rfl rfl, st2.cell 1 rfl rfl, trivial⟩, sp_towpathref13_Check fun w3 e3 => ?_⟩
  have st3 := st2.keep e3
  refine ⟨fun h2 => ?_, fun h2 => ?_⟩
  · have h2 : checkF c ≠ 0 := by simpa using h2
    have e : newE n c x = 7 := by unfold newE; rw [if_neg h, if_pos h2]
    rw [e] at k1
    exact k1 (by decide) w3 st3.drop1.drop1
  have h2 : checkF c = 0 := by simpa using h2
  refine ⟨x, ⟨st3.cell 0 rfl rfl, st3.cell 0 rfl rfl, st3.cell 0 rfl rfl, trivial⟩, xx_Check fun w4 e4 => ?_⟩
  have st4 := st3.keep e4
  have e : newE n c x = callE x := by unfold newE; rw [if_neg h, if_neg (by omega)]
  rw [e] at k1 k0
  refine ⟨fun h3 => ?_, fun h3 => ?_⟩
  · have h3 : callE x ≠ 0 := by simpa using h3
    have e1 : callE x = 1 := by
      unfold callE at h3 ⊢
      split
      · rename_i hh; rw [if_pos hh] at h3; exact absurd rfl h3
      · rfl
    rw [e1] at k1
    exact k1 (by decide) w4 st4.drop1.drop1
  have h3 : callE x = 0 := by simpa using h3
  refine ⟨c, ⟨st4.cell 1 rfl rfl, st4.cell 1 rfl rfl, st4.cell 1 rfl rfl, st4.cell 1 rfl rfl, trivial⟩, x, ⟨st4.cell 0 rfl rfl, st4.cell 0 rfl rfl, st4.cell 0 rfl rfl, trivial⟩, fun b3 w5 hb3 hw5 => ?_⟩
  have st5 : St w0 ((b3, xkV n c x false 0 ⟨none, 0, 0⟩ ⟨none, 0, 0⟩ 0 ⟨none, 0, 0⟩) :: (b2, callV x) :: (b1, cfgV c) :: fr) w5 := st4.alloc hb3 hw5
  exact k0 h3 b3 [(b3, xkV n c x false 0 ⟨none, 0, 0⟩ ⟨none, 0, 0⟩ 0 ⟨none, 0, 0⟩)] w5 ⟨b3, rfl, [], ⟨none, 0, 0⟩, ⟨none, 0, 0⟩, ⟨none, 0, 0⟩, [], [], [], newT_ok (e.trans h3), Nat.le_refl _, by show 0 ≤ 16; omega, rfl, fun _ => rfl, rfl, RowC.nil, ⟨[], [], [], rfl, RowC.nil, rfl⟩, ⟨[], RowC.nil, rfl, fun r hr => (by cases hr)⟩⟩ (st5.weak [(b2, callV x), (b1, cfgV c)] (perm_of_sum fun f_ => by simp <;> omega))
theorem xx_Sent {R : Int → World → Prop} (o : XkO w0.w t m cs) (st : St w0 (cs ++ fr) w) (k : ∀ cs' w', XkO w0.w t (sentM m).2 cs' → St w0 (cs' ++ fr) w' → R (sentM m).1 w') : C_towpathref17_Task_Sent t w R := by
  apply S_towpathref17_Task_Sent
  unfold F_towpathref17_Task_Sent
  cases m with
  | none =>
    obtain ⟨rfl, rfl⟩ := o
    exact ⟨fun _ => k [] w ⟨rfl, rfl⟩ st, fun h => (by cases h)⟩
  | some m =>
    obtain ⟨b, rfl, all, ss, qs, ps, sc, qc, pc, ok, ho, h16, hd, hbg, rfl, rs, rq, rp⟩ := o
    have hl := rq.len
    refine ⟨fun h => (by cases h), fun _ => ⟨rfl, (m.out : Int), st.cell 0 rfl rfl, rfl, qs, st.cell 0 rfl rfl, fun w1 e1 => ?_⟩⟩
    have st1 := st.keep e1
    refine ⟨fun h => ?_, fun h => ?_⟩
    · have h := of_decide_eq_true h
      have hnil : m.rest = [] := by rw [← hd]; exact List.drop_eq_nil_of_le (by omega)
      have e : sentM (some m) = (9, some m) := by unfold sentM; simp only [hnil]
      rw [e] at k
      exact k _ w1 ⟨b, rfl, all, ss, qs, ps, sc, qc, pc, ok, ho, h16, hd, hbg, rfl, rs, rq, rp⟩ st1
    · have h := of_decide_eq_false h
      have hlt : m.out < all.length := by omega
      rw [List.drop_eq_getElem_cons hlt] at hd
      have e : sentM (some m) = (0, some { m with rest := all.drop (m.out + 1), out := m.out + 1 }) := by unfold sentM; simp only [← hd]
      rw [e] at k
      have wo : IntKind.i64.wrap ((m.out : Int) + 1) = ((m.out + 1 : Nat) : Int) := by rw [i64_in _ (by omega) (by omega)]; omega
      refine ⟨rfl, (m.out : Int), st1.cell 0 rfl rfl, st1.writable 0 rfl (by show 12 + 1 ≤ 14; omega), fun w2 hw2 => ?_⟩
      rw [wo] at hw2
      have st2 : St w0 ((b, xkV m.number m.cfg m.call m.begun m.mark ss qs ((m.out + 1 : Nat) : Int) ps) :: ((sc ++ (qc ++ pc)) ++ fr)) w2 := st1.put0 hw2
      exact k ((b, xkV m.number m.cfg m.call m.begun m.mark ss qs ((m.out + 1 : Nat) : Int) ps) :: (sc ++ (qc ++ pc))) w2 ⟨b, rfl, all, ss, qs, ps, sc, qc, pc, ok.sent hd.symm, by show m.out + 1 ≤ _; omega, h16, rfl, hbg, rfl, rs, rq, rp⟩ st2
theorem xx_Mark {R : Int → Bool → World → Prop} (o : XkO w0.w t m cs) (st : St w0 (cs ++ fr) w) (k : R (markM m).1 (markM m).2 w) : C_towpathref17_Task_Mark t w R := by
  apply S_towpathref17_Task_Mark
  unfold F_towpathref17_Task_Mark
  cases m with
  | none =>
    obtain ⟨rfl, rfl⟩ := o
    refine ⟨fun _ => ?_, fun h => (by cases h)⟩
    unfold F_towpathref17_Task_Mark_k0
    exact ⟨fun _ => k, fun h => (by cases h)⟩
  | some m =>
    obtain ⟨b, rfl, all, ss, qs, ps, sc, qc, pc, ok, ho, h16, hd, hbg, rfl, rs, rq, rp⟩ := o
    unfold markM at k
    simp only at k
    refine ⟨fun h => (by cases h), fun _ => ⟨rfl, m.begun, st.cell 0 rfl rfl, ?_⟩⟩
    unfold F_towpathref17_Task_Mark_k0
    refine ⟨fun h => ?_, fun h => ⟨rfl, m.mark, st.cell 0 rfl rfl, ?_⟩⟩
    · rw [if_neg (by simpa using h)] at k; exact k
    · rw [if_pos (by simpa using h)] at k; exact k
theorem xx_All {R : Bool → World → Prop} (o : XkO w0.w t m cs) (st : St w0 (cs ++ fr) w) (k : ∀ w', St w0 (cs ++ fr) w' → R (allM m) w') : C_towpathref17_Task_All t w R := by
  apply S_towpathref17_Task_All
  unfold F_towpathref17_Task_All
  cases m with
  | none =>
    obtain ⟨rfl, rfl⟩ := o
    exact ⟨fun h => (by cases h), fun _ w4 e => k w4 (st.keep e)⟩
  | some m =>
    obtain ⟨b, rfl, all, ss, qs, ps, sc, qc, pc, ok, ho, h16, hd, hbg, rfl, rs, rq, rp⟩ := id o
    have hl := rq.len
    have hpl := rp.len
    have hrl : m.rest.length = all.length - m.out := by rw [← hd, List.length_drop]
    unfold allM at k
    simp only at k
    refine ⟨fun _ => ⟨rfl, m.begun, st.cell 0 rfl rfl, fun h1 => ⟨rfl, (m.out : Int), st.cell 0 rfl rfl, rfl, qs, st.cell 0 rfl rfl, fun h2 => ⟨rfl, ps, st.cell 0 rfl rfl, rfl, (m.out : Int), st.cell 0 rfl rfl, fun w1 e1 => ?_⟩, fun h2 w1 e1 => ?_⟩, fun h1 w1 e1 => ?_⟩, fun h => (by cases h)⟩
    · have h2 : m.out = qs.len := by have : (m.out : Int) = ((qs.len : Nat) : Int) := by simpa using h2
                                     omega
      have hnil : m.rest = [] := List.eq_nil_of_length_eq_zero (by omega)
      have k := k w1 (st.keep e1)
      rw [h1, hnil] at k
      have e : (((ps.len : Nat) : Int) == (m.out : Int)) = (true && (List.isEmpty ([] : List (Int × Rq)) && decide (m.reps.length = m.out))) := by
        simp only [List.isEmpty_nil, Bool.true_and]
        by_cases hh : m.reps.length = m.out
        · rw [decide_eq_true hh]; exact beq_iff_eq.2 (by omega)
        · rw [decide_eq_false hh]; exact beq_eq_false_iff_ne.2 (by omega)
      rw [e]; exact k
    · have h2 : m.out ≠ qs.len := by have : (m.out : Int) ≠ ((qs.len : Nat) : Int) := by simpa using h2
                                     omega
      have k := k w1 (st.keep e1)
      cases hq : m.rest with
      | nil => rw [hq] at hrl; simp at hrl; omega
      | cons q r => rw [h1, hq] at k; exact k
    · have k := k w1 (st.keep e1)
      rw [h1] at k; exact k
theorem xx_Got {r : T_api_Resp} {es : List T_api_Entry} {os : List HO} {R : Int → World → Prop} (o : XkO w0.w t m cs) (st : St w0 (cs ++ fr) w) (hs : RspAt w0.w r es os) (hsm : (rpOf r es os).Small)
    (k : ∀ cs' d w', XkO w0.w t (gotM m r.To (rpOf r es os)).2 cs' → St w0 (cs' ++ (d ++ fr)) w' → R (gotM m r.To (rpOf r es os)).1 w') : C_towpathref17_Task_Got t r w R := by
  apply S_towpathref17_Task_Got
  unfold F_towpathref17_Task_Got
  intro b1 w1 hb1 hw1
  have st1 : St w0 ((b1, rspT r) :: (cs ++ fr)) w1 := st.alloc hb1 hw1
  cases m with
  | none =>
    obtain ⟨rfl, rfl⟩ := o
    exact ⟨fun _ => k [] [(b1, rspT r)] w1 ⟨rfl, rfl⟩ st1, fun h => (by cases h)⟩
  | some m =>
    obtain ⟨b, rfl, all, ss, qs, ps, sc, qc, pc, ok, ho, h16, hd, hbg, rfl, rs, rq, rp⟩ := id o
    have hpl := rp.len
    refine ⟨fun h => (by cases h), fun _ => ⟨rfl, ps, st1.cell 1 rfl rfl, rfl, (m.out : Int), st1.cell 1 rfl rfl, fun w2 e2 => ?_⟩⟩
    have st2 := st1.keep e2
    refine ⟨fun h => ?_, fun h => ?_⟩
    · have h := of_decide_eq_true h
      have e : gotM (some m) r.To (rpOf r es os) = (9, some m) := by unfold gotM; simp only; rw [if_pos (by omega)]
      rw [e] at k
      exact k _ [(b1, rspT r)] w2 o (st2.perm (perm_of_sum fun f_ => by simp <;> omega))
    have h := of_decide_eq_false h
    have hlt : ¬ m.reps.length ≥ m.out := by omega
    refine ⟨r.To, st2.cell 0 rfl rfl, rfl, m.number, st2.cell 1 rfl rfl, fun w3 e3 => ?_⟩
    have st3 := st2.keep e3
    refine ⟨fun h2 => ?_, fun h2 w4 hw4 => ?_⟩
    · have h2 : r.To ≠ m.number := bne_iff_ne.1 h2
      have e : gotM (some m) r.To (rpOf r es os) = (1, some m) := by unfold gotM; simp only; rw [if_neg hlt, if_pos h2]
      rw [e] at k
      exact k _ [(b1, rspT r)] w3 o (st3.perm (perm_of_sum fun f_ => by simp <;> omega))
    have h2 : r.To = m.number := bne_eq_false_iff_eq.1 h2
    have e : gotM (some m) r.To (rpOf r es os) = (0, some { m with reps := m.reps ++ [rpOf r es os] }) := by unfold gotM; simp only; rw [if_neg hlt, if_neg (by omega)]
    rw [e] at k
    have st4 := st3.drew hw4
    have hfew := ok.few
    obtain ⟨xs, row, hxs, hat⟩ := rp
    refine ⟨rfl, ps, st4.cell 1 rfl rfl, r, (st4.get 0 rfl).all, fun b2 w5 hb2 hw5 => ?_⟩
    have st5 := st4.alloc (cs := rspT r) hb2 hw5
    refine ⟨st5.cell 2 rfl rfl, rspT r, srcAt_newN hb2 hw5 rfl, ?_⟩
    have st5 : St w0 (pc ++ ((b2, rspT r) :: (b1, rspT r) :: (b, xkV m.number m.cfg m.call m.begun m.mark ss qs (m.out : Int) ps) :: (sc ++ (qc ++ fr)))) w5 := st5.perm (perm_of_sum fun f_ => by simp <;> omega)
    refine row.append st5 rfl rfl rfl (by omega) fun ps' pc' w6 row' st6 hl6 => ?_
    have st6 : St w0 ((b, xkV m.number m.cfg m.call m.begun m.mark ss qs (m.out : Int) ps) :: (sc ++ (qc ++ (pc' ++ ([(b2, rspT r), (b1, rspT r)] ++ fr))))) w6 := st6.perm (perm_of_sum fun f_ => by simp <;> omega)
    refine ⟨rfl, st6.writable 0 rfl (by show 13 + 1 ≤ 14; omega), fun w7 hw7 => ?_⟩
    have st7 : St w0 ((b, xkV m.number m.cfg m.call m.begun m.mark ss qs (m.out : Int) ps') :: (sc ++ (qc ++ (pc' ++ ([(b2, rspT r), (b1, rspT r)] ++ fr))))) w7 := st6.put0 hw7
    refine k ((b, xkV m.number m.cfg m.call m.begun m.mark ss qs (m.out : Int) ps') :: (sc ++ (qc ++ pc'))) [(b2, rspT r), (b1, rspT r)] w7 ⟨b, rfl, all, ss, qs, ps', sc, qc, pc', ok.got _ hsm hlt, ho, h16, hd, hbg, rfl, rs, rq, ⟨xs ++ [(r, es, os)], ?_, ?_, fun x hx => ?_⟩⟩ (st7.perm (perm_of_sum fun f_ => by simp <;> omega))
    · rw [List.flatMap_append]
      simpa using row'
    · show m.reps ++ [rpOf r es os] = _
      rw [hxs, List.map_append]; rfl
    · rcases List.mem_append.1 hx with hx | hx
      · exact hat x hx
      · rw [List.mem_singleton.1 hx]; exact hs
theorem xx_Next {R : Int → T_api_Req → Bool → World → Prop} (o : XkO w0.w t m cs) (st : St w0 (cs ++ fr) w)
    (k : ∀ s d w', (∀ l w'', St w0 (cs ++ l) w'' → SrcAt w'' s 1 ((nextM m).2.1.bey.map iV)) → St w0 (cs ++ (d ++ fr)) w' → R (nextM m).1 (rqT (nextM m).2.1 s) (nextM m).2.2 w') : C_towpathref17_Task_Next t w R := by
  apply S_towpathref17_Task_Next
  unfold F_towpathref17_Task_Next
  intro b1 w1 hb1 hw1
  have st1 : St w0 ((b1, zRq) :: (cs ++ fr)) w1 := st.alloc hb1 hw1
  have no : nextM m = (0, zeroQ, false) → ∀ {v : Bool} {w' : World}, v = true → St w0 ((b1, zRq) :: (cs ++ fr)) w' → F_towpathref17_Task_Next_k0 t R b1 v w' := fun he {v w'} hv st' => by
    unfold F_towpathref17_Task_Next_k0
    rw [hv]
    refine ⟨fun _ => ⟨st'.writable 0 rfl (by decide), fun w3 hw3 => ?_⟩, fun h => (by cases h)⟩
    have st3 : St w0 ((b1, zRq) :: (cs ++ fr)) w3 := st'.put0 hw3
    rw [he] at k
    exact ⟨rqT zeroQ ⟨none, 0, 0⟩, (st3.get 0 rfl).all, k ⟨none, 0, 0⟩ [(b1, zRq)] w3 (fun l w'' _ => ⟨rfl, .inl rfl⟩) (st3.perm (perm_of_sum fun f_ => by simp <;> omega))⟩
  cases m with
  | none =>
    obtain ⟨rfl, rfl⟩ := o
    exact ⟨fun _ w6 e => no rfl rfl (st1.keep e), fun h => (by cases h)⟩
  | some m =>
    obtain ⟨b, rfl, all, ss, qs, ps, sc, qc, pc, ok, ho, h16, hd, hbg, rfl, rs, rq, rp⟩ := id o
    have hl := rq.len
    refine ⟨fun h => (by cases h), fun _ => ⟨rfl, (m.out : Int), st1.cell 1 rfl rfl, rfl, qs, st1.cell 1 rfl rfl, fun w7 e7 => ?_⟩⟩
    have st7 := st1.keep e7
    by_cases hge : m.out ≥ qs.len
    · have hnil : m.rest = [] := by rw [← hd]; exact List.drop_eq_nil_of_le (by omega)
      exact no (by unfold nextM; simp only [hnil]) (decide_eq_true (by omega)) st7
    have hlt : m.out < all.length := by omega
    have hq := List.getElem?_eq_getElem hlt
    rw [List.drop_eq_getElem_cons hlt] at hd
    generalize all[m.out] = q at *
    have e : nextM (some m) = (q.1, q.2, true) := by unfold nextM; simp only [← hd]
    rw [e] at k
    unfold F_towpathref17_Task_Next_k0
    refine ⟨fun h => absurd (of_decide_eq_true h) (by omega), fun _ w4 hw4 => ?_⟩
    have st4 := st7.drew hw4
    obtain ⟨sls, tb, pb, rfl, row, parts⟩ := rq
    have hsl := parts.len
    have hss : ss.len = all.length := by
      have := rs.len
      rw [flatMap_len (sz := 1) (fun _ => rfl)] at this; omega
    have st4s : St w0 (sc ++ ((b1, zRq) :: (b, xkV m.number m.cfg m.call m.begun m.mark ss qs (m.out : Int) ps) :: ((tb ++ pb) ++ (pc ++ fr)))) w4 := st4.perm (perm_of_sum fun f_ => by simp <;> omega)
    obtain ⟨a1, q1, hq1, hc1⟩ := SrcAt.getN (rs.src st4s) (fun _ => rfl) (by decide) (i := (m.out : Int)) (by omega) (by omega)
    rw [Int.toNat_natCast] at hq1 hc1
    obtain rfl : q = q1 := by rw [hq] at hq1; exact Option.some.inj hq1
    have st4q : St w0 (tb ++ ((b1, zRq) :: (b, xkV m.number m.cfg m.call m.begun m.mark ss qs (m.out : Int) ps) :: (sc ++ (pb ++ (pc ++ fr))))) w4 := st4.perm (perm_of_sum fun f_ => by simp <;> omega)
    obtain ⟨a2, x, hx, hc2⟩ := SrcAt.getN (row.src st4q) (fun _ => rfl) (by decide) (i := (m.out : Int)) (by omega) (by omega)
    rw [Int.toNat_natCast] at hx hc2
    obtain ⟨hx1, hx2⟩ := List.getElem?_zip_eq_some.1 hx
    obtain ⟨q2, s⟩ := x
    simp only at hx1 hx2 hc2
    obtain rfl : q = q2 := by rw [hq] at hx1; exact Option.some.inj hx1
    rw [Nat.mul_one] at hc1
    refine ⟨rfl, ss, st4.cell 1 rfl rfl, rfl, (m.out : Int), st4.cell 1 rfl rfl, a1, by omega, by omega, q.1, by rw [Int.toNat_natCast]; exact hc1.1, rfl, qs, st4.cell 1 rfl rfl, rfl, (m.out : Int), st4.cell 1 rfl rfl, a2, by omega, by omega, rqT q.2 s, by rw [Int.toNat_natCast]; exact hc2, st4.writable 0 rfl (by decide), fun w5 hw5 => ?_⟩
    have st5 : St w0 ((b1, rqV q.2 s) :: (((b, xkV m.number m.cfg m.call m.begun m.mark ss qs (m.out : Int) ps) :: (sc ++ ((tb ++ pb) ++ pc))) ++ fr)) w5 := st4.put0 hw5
    refine ⟨rqT q.2 s, (st5.get 0 rfl).all, k s [(b1, rqV q.2 s)] w5 (fun l w'' st' => ?_) (st5.perm (perm_of_sum fun f_ => by simp <;> omega))⟩
    obtain ⟨x, c, y, rfl, hi⟩ := parts.at_ hx1 hx2
    have hi : RowC 1 s (q.2.bey.map iV) c := hi
    exact hi.src (l := x ++ (y ++ ((b, xkV m.number m.cfg m.call m.begun m.mark ss qs (m.out : Int) ps) :: (sc ++ (tb ++ (pc ++ l)))))) (st'.perm (perm_of_sum fun f_ => by simp <;> omega))
end
end Go.Proofs.Ytpedclhflmhakaa

namespace Go.Proofs.Ytpedclhflmhakaa
open Go
set_option linter.unusedVariables false
set_option linter.unusedSimpArgs false

section
variable {w0 : Base} {w : World} {fr cs : List Chunk} {t : Option Addr} {m : Option TkM}
theorem sp_ref15_Above {l_ : Slc} {than : Int} {bs : List Int} {R : Bool → World → Prop} (hb : SrcAt w l_ 1 (bs.map iV)) (hl : l_.len ≤ 140737488351232) (k : R (decide (upL than bs)) w) : C_towpathref15_Above l_ than w R := by
  apply S_towpathref15_Above
  have hbl := hb.len_eq
  refine ⟨fun t i w' => ∃ p : Nat, i = (p : Int) ∧ p ≤ l_.len ∧ (upL than bs ↔ upL t (bs.drop p)) ∧ w' = w, fun _ i _ => l_.len - i.toNat, ⟨0, rfl, by omega, by rw [List.drop_zero], rfl⟩, ?_⟩
  rintro t i w' ⟨p, rfl, hp, hu, rfl⟩
  unfold F_towpathref15_Above_L0
  refine ⟨fun hi => ?_, fun hi => ?_⟩
  · have hi := of_decide_eq_true hi
    obtain ⟨a, x, hx, hc⟩ := atIv hb (p := p) (by omega)
    have ha := upL_at (t := t) hx
    have wp : IntKind.i64.wrap ((p : Int) + 1) = ((p + 1 : Nat) : Int) := by rw [i64_in _ (by omega) (by omega)]; omega
    have bad : ¬ upL than bs → F_towpathref15_Above_k1 l_ R (p : Int) (fun t' i' w'_1 => (∃ p : Nat, i' = (p : Int) ∧ p ≤ l_.len ∧ (upL than bs ↔ upL t' (bs.drop p)) ∧ w'_1 = w') ∧ l_.len - i'.toNat < l_.len - ((p : Int)).toNat) true w' := fun h => by
      unfold F_towpathref15_Above_k1
      rw [decide_eq_false h] at k
      exact ⟨fun _ => k, fun h => (by cases h)⟩
    refine ⟨a, by omega, hi, x, by rw [Int.toNat_natCast]; exact hc, fun h => ?_, fun h => ?_⟩
    · have h := of_decide_eq_true h
      exact bad fun hh => by have := ha.1 (hu.1 hh); omega
    · have h := of_decide_eq_false h
      refine ⟨a, by omega, hi, x, by rw [Int.toNat_natCast]; exact hc, ?_⟩
      by_cases hx2 : x > 65536
      · rw [decide_eq_true hx2]
        exact bad fun hh => by have := ha.1 (hu.1 hh); omega
      · rw [decide_eq_false hx2]
        unfold F_towpathref15_Above_k1
        refine ⟨fun h => (by cases h), fun _ => ⟨a, by omega, hi, x, by rw [Int.toNat_natCast]; exact hc, ?_⟩⟩
        rw [wp]
        exact ⟨⟨p + 1, rfl, by omega, hu.trans (ha.trans ⟨fun h => h.2.2, fun h => ⟨by omega, by omega, h⟩⟩), rfl⟩, by show _ - _ < _ - _; omega⟩
  · have hi := of_decide_eq_false hi
    rw [List.drop_of_length_le (by omega)] at hu
    rw [decide_eq_true (hu.2 trivial)] at k
    exact k
theorem xx_req {m : TkM} {b : Nat} {X : List Value} {l : List Chunk} {mark least : Int} {beyond : Slc} {bey : List Int} {R : T_api_Req → World → Prop} (hk : m.call.Kind = 1 ∨ m.call.Kind = 2 ∨ m.call.Kind = 3 ∨ m.call.Kind = 4)
    (x0 : X[0]? = some (iV m.number)) (x5 : X[5]? = some (Value.int .u8 m.call.Kind)) (x6 : X[6]? = some (Value.string m.call.Key)) (x7 : X[7]? = some (Value.string m.call.End)) (hb : SrcAt w0.w beyond 1 (bey.map iV)) (hl : beyond.len * 8 ≤ 140737488351232) (st : St w0 ((b, X) :: l) w)
    (k : ∀ s rb d w', RowC 1 s ((reqM m mark least bey).bey.map iV) rb → St w0 ((b, X) :: (rb ++ (d ++ l))) w' → R (rqT (reqM m mark least bey) s) w') : C_towpathref17_Task_req (some ⟨b, 0, none⟩) mark least beyond w R := by
  apply S_towpathref17_Task_req
  unfold F_towpathref17_Task_req
  intro b1 w1 hb1 hw1
  have st1 := st.alloc (cs := zRq) hb1 hw1
  have fin : ∀ {s : Slc} {rb : List Chunk} {w' : World} {q : Rq}, reqM m mark least bey = q → RowC 1 s (q.bey.map iV) rb → St w0 ((b1, rqV q s) :: (b, X) :: (rb ++ l)) w' → ∃ (res : T_api_Req), CellsAt w' b1 0 (reqV res) ∧ R res w' := fun {s rb w' q} he r st' => by
    subst he
    exact ⟨rqT (reqM m mark least bey) s, (st'.get 0 rfl).all, k s rb [(b1, rqV (reqM m mark least bey) s)] w' r (st'.perm (perm_of_sum fun f_ => by simp <;> omega))⟩
  refine ⟨rfl, m.call.Kind, st1.cell 1 rfl x5, fun h1 w2 hw2 => ?_, fun h1 => ⟨fun h2 w4 hw4 => ?_, fun h2 => ⟨fun h3 => ?_, fun h3 w7 hw7 => ?_⟩⟩⟩
  · have h1 : m.call.Kind = 1 := by simpa using h1
    have st2 := st1.drew hw2
    refine ⟨rfl, m.number, st2.cell 1 rfl x0, rfl, m.call.Key, st2.cell 1 rfl x6, st2.writable 0 rfl (by decide), fun w3 hw3 => ?_⟩
    exact fin (q := ⟨2, m.number, mark, m.call.Key, noStr, []⟩) (s := ⟨none, 0, 0⟩) (rb := []) (by unfold reqM; rw [if_pos h1]) RowC.nil (st2.put0 hw3)
  · have h1 : m.call.Kind ≠ 1 := by simpa using h1
    have h2 : m.call.Kind = 2 := by simpa using h2
    have st2 := st1.drew hw4
    refine ⟨rfl, m.number, st2.cell 1 rfl x0, rfl, m.call.Key, st2.cell 1 rfl x6, rfl, m.call.End, st2.cell 1 rfl x7, st2.writable 0 rfl (by decide), fun w3 hw3 => ?_⟩
    exact fin (q := ⟨3, m.number, mark, m.call.Key, m.call.End, []⟩) (s := ⟨none, 0, 0⟩) (rb := []) (by unfold reqM; rw [if_neg h1, if_pos h2]) RowC.nil (st2.put0 hw3)
  · have h1 : m.call.Kind ≠ 1 := by simpa using h1
    have h2 : m.call.Kind ≠ 2 := by simpa using h2
    have h3 : m.call.Kind = 3 := by simpa using h3
    refine ⟨rfl, m.number, st1.cell 1 rfl x0, st1.writable 0 rfl (by decide), fun w3 hw3 => ?_⟩
    exact fin (q := ⟨4, m.number, least, noStr, noStr, []⟩) (s := ⟨none, 0, 0⟩) (rb := []) (by unfold reqM; rw [if_neg h1, if_neg h2, if_pos h3]) RowC.nil (st1.put0 hw3)
  · have h1 : m.call.Kind ≠ 1 := by simpa using h1
    have h2 : m.call.Kind ≠ 2 := by simpa using h2
    have h3 : m.call.Kind ≠ 3 := by simpa using h3
    have st2 := st1.drew hw7
    have hbl := hb.len_eq
    refine ⟨rfl, m.number, st2.cell 1 rfl x0, bey.map iV, st2.ext.src hb, ?_⟩
    refine RowC.append (s := ⟨none, 0, 0⟩) (xs := []) (bs := []) (l := (b1, zRq) :: (b, X) :: l) RowC.nil st2 (by simp [hbl]) (one_iI bey) rfl (by show (0 + beyond.len) * 8 ≤ _; omega) fun s' rb w' r st' hl' => ?_
    have st' : St w0 ((b1, zRq) :: (b, X) :: (rb ++ l)) w' := st'.perm (perm_of_sum fun f_ => by simp <;> omega)
    refine ⟨st'.cell 1 rfl x0, st'.writable 0 rfl (by decide), fun w3 hw3 => ?_⟩
    exact fin (q := ⟨5, m.number, mark, noStr, noStr, bey⟩) (s := s') (rb := rb) (by unfold reqM; rw [if_neg h1, if_neg h2, if_neg h3]) (by simpa using r) (st'.put0 hw3)
set_option maxHeartbeats 1000000 in
theorem xx_Begin {mark least : Int} {beyond : Slc} {bey : List Int} {R : Int → World → Prop} (o : XkO w0.w t m cs) (st : St w0 (cs ++ fr) w) (hb : SrcAt w0.w beyond 1 (bey.map iV)) (hl : beyond.len * 8 ≤ 140737488351232)
    (k : ∀ cs' d w', XkO w0.w t (beginM m mark least bey).2 cs' → St w0 (cs' ++ (d ++ fr)) w' → R (beginM m mark least bey).1 w') : C_towpathref17_Task_Begin t mark least beyond w R := by
  apply S_towpathref17_Task_Begin
  unfold F_towpathref17_Task_Begin
  cases m with
  | none =>
    obtain ⟨rfl, rfl⟩ := o
    exact ⟨fun _ => k [] [] w ⟨rfl, rfl⟩ st, fun h => (by cases h)⟩
  | some m =>
    obtain ⟨b, rfl, all, ss, qs, ps, sc, qc, pc, ok, ho, h16, hd, hbg, rfl, rs, rq, rp⟩ := id o
    have out : ∀ {e : Int}, beginM (some m) mark least bey = (e, some m) → R e w := fun {e} he => by
      rw [he] at k
      exact k _ [] w o st
    refine ⟨fun h => (by cases h), fun _ => ⟨rfl, m.begun, st.cell 0 rfl rfl, fun h1 => ?_, fun h1 => ?_⟩⟩
    · exact out (by unfold beginM; simp only; rw [if_pos h1])
    have eb : beginM (some m) mark least bey = if mayB mark least bey then (0, some { m with begun := true, mark := mark, rest := restM m mark least bey }) else (1, some m) := by
      unfold beginM; simp only; rw [if_neg (by rw [h1]; decide)]
    have bad : ¬ mayB mark least bey → F_towpathref17_Task_Begin_k0 (some ⟨b, 0, none⟩) mark least beyond R true w := fun h => by
      unfold F_towpathref17_Task_Begin_k0
      exact ⟨fun _ => out (by rw [eb, if_neg h]), fun h => (by cases h)⟩
    refine ⟨fun h => ?_, fun h => ?_⟩
    · refine bad fun hm => ?_
      obtain ⟨m1, m2, m3, m4, _⟩ := hm
      simp only [Bool.or_eq_true, decide_eq_true_eq] at h
      omega
    simp only [Bool.or_eq_false_iff, decide_eq_false_iff_not] at h
    have wm : IntKind.i64.wrap (mark + 1) = mark + 1 := i64_in _ (by omega) (by omega)
    rw [wm]
    refine sp_ref15_Above (st.ext.src hb) (by omega) ?_
    by_cases hup : upL (mark + 1) bey
    rotate_left
    · rw [decide_eq_false hup]
      exact bad fun hm => hup hm.2.2.2.2
    have hmay : mayB mark least bey := ⟨by omega, by omega, by omega, by omega, hup⟩
    rw [eb, if_pos hmay] at k
    rw [decide_eq_true hup]
    obtain ⟨hrest, hout⟩ := ok.idle h1
    have hall := hbg h1
    have oknew := ok.begin_ h1 hmay
    unfold F_towpathref17_Task_Begin_k0
    refine ⟨fun h => (by cases h), fun _ => ⟨rfl, st.writable 0 rfl (by show 8 + 1 ≤ 14; omega), fun w2 hw2 => ?_⟩⟩
    have st2 : St w0 ((b, xkV m.number m.cfg m.call true m.mark ss qs (m.out : Int) ps) :: ((sc ++ (qc ++ pc)) ++ fr)) w2 := st.put0 hw2
    refine ⟨rfl, st2.writable 0 rfl (by show 9 + 1 ≤ 14; omega), fun w3 hw3 => ?_⟩
    have st3 : St w0 ((b, xkV m.number m.cfg m.call true mark ss qs (m.out : Int) ps) :: ((sc ++ (qc ++ pc)) ++ fr)) w3 := st2.put0 hw3
    subst hall
    have hrl : (restM m mark least bey).length ≤ 16 := by
      have := shardsM_len ok
      unfold restM
      rw [List.length_map]; exact this
    -- all is there
    have fin : ∀ {ss qs : Slc} {sc qc d : List Chunk} {w' : World}, RowC 1 ss ((restM m mark least bey).flatMap fun q => [iV q.1]) sc → QsO qs (restM m mark least bey) qc → St w0 ((b, xkV m.number m.cfg m.call true mark ss qs (m.out : Int) ps) :: (sc ++ (qc ++ (pc ++ (d ++ fr))))) w' → R 0 w' := fun {ss qs sc qc d w'} r1 r2 st' => by
      refine k ((b, xkV m.number m.cfg m.call true mark ss qs (m.out : Int) ps) :: (sc ++ (qc ++ pc))) d w' ⟨b, rfl, restM m mark least bey, ss, qs, ps, sc, qc, pc, oknew, ?_, hrl, ?_, fun h => (by cases h), rfl, r1, r2, rp⟩ (st'.perm (perm_of_sum fun f_ => by simp <;> omega))
      · show m.out ≤ _; omega
      · show (restM m mark least bey).drop m.out = restM m mark least bey
        rw [hout, List.drop_zero]
    refine ⟨rfl, m.call.Kind, st3.cell 0 rfl rfl, fun k1 w4 hw4 => ?_, fun k1 => ?_⟩
    · have k1 : m.call.Kind = 1 := by simpa using k1
      have er : restM m mark least bey = [((shardF m.cfg m.call.Key).1, reqM m mark least bey)] := by
        unfold restM shardsM; rw [if_pos k1]; rfl
      rw [er] at fin
      have st4 := st3.drew hw4
      refine ⟨rfl, m.cfg, ⟨st4.cell 0 rfl rfl, st4.cell 0 rfl rfl, st4.cell 0 rfl rfl, st4.cell 0 rfl rfl, trivial⟩, rfl, m.call.Key, st4.cell 0 rfl rfl, sp_towpathref13_Shard (by have := ok.key.1; omega) fun w5 e5 b1 w6 hb1 hw6 => ?_⟩
      have st6 := (st4.keep e5).alloc (cs := [iV (shardF m.cfg m.call.Key).1]) hb1 hw6
      refine ⟨rfl, st6.writable 1 rfl (by show 10 + 1 ≤ 14; omega), fun w7 hw7 => ?_⟩
      have st7 : St w0 ((b1, [iV (shardF m.cfg m.call.Key).1]) :: (b, xkV m.number m.cfg m.call true mark ⟨some ⟨b1, 0, none⟩, 1, 1⟩ qs (m.out : Int) ps) :: ((sc ++ (qc ++ pc)) ++ fr)) w7 := st6.put1 hw7
      have st7 : St w0 ((b, xkV m.number m.cfg m.call true mark ⟨some ⟨b1, 0, none⟩, 1, 1⟩ qs (m.out : Int) ps) :: ((b1, [iV (shardF m.cfg m.call.Key).1]) :: ((sc ++ (qc ++ pc)) ++ fr))) w7 := st7.perm (perm_of_sum fun f_ => by simp <;> omega)
      refine xx_req ok.kind rfl rfl rfl rfl hb hl st7 fun s rb d w8 r8 st8 b2 w9 hb2 hw9 => ?_
      have st9 := st8.alloc (cs := rqV (reqM m mark least bey) s) hb2 hw9
      refine ⟨rfl, st9.writable 1 rfl (by show 11 + 1 ≤ 14; omega), fun w10 hw10 => ?_⟩
      have st10 : St w0 ((b2, rqV (reqM m mark least bey) s) :: (b, xkV m.number m.cfg m.call true mark ⟨some ⟨b1, 0, none⟩, 1, 1⟩ ⟨some ⟨b2, 0, none⟩, 1, 1⟩ (m.out : Int) ps) :: (rb ++ (d ++ ((b1, [iV (shardF m.cfg m.call.Key).1]) :: ((sc ++ (qc ++ pc)) ++ fr))))) w10 := st9.put1 hw10
      exact fin (sc := [(b1, [iV (shardF m.cfg m.call.Key).1])]) (qc := (b2, rqV (reqM m mark least bey) s) :: rb) (d := d ++ (sc ++ qc)) (RowC.new (n := 1) rfl) ⟨[s], [(b2, rqV (reqM m mark least bey) s)], rb, rfl, RowC.new (n := 1) rfl, ⟨rb, [], by simp, r8, rfl⟩⟩ (st10.perm (perm_of_sum fun f_ => by simp <;> omega))
    · have k1 : m.call.Kind ≠ 1 := by simpa using k1
      have hsh : shardsM m = (List.range m.cfg.Shards.toNat).map fun (i : Nat) => ((i : Nat) : Int) := by unfold shardsM; rw [if_neg k1]
      have hshc := ok.cfg.2.1
      have hlen : (restM m mark least bey).length = m.cfg.Shards.toNat := by unfold restM; rw [List.length_map, hsh, List.length_map, List.length_range]
      have hget : ∀ p, p < m.cfg.Shards.toNat → (restM m mark least bey)[p]? = some ((p : Int), reqM m mark least bey) := fun p hp => by
        unfold restM; rw [List.getElem?_map, hsh, List.getElem?_map, List.getElem?_range hp]; rfl
      obtain ⟨sls0, tb0, pb0, rfl, row0, parts0⟩ := rq
      have hs0 : sls0 = [] := List.eq_nil_of_length_eq_zero (by rw [parts0.len]; rfl)
      subst hs0
      have hp0 : pb0 = [] := parts0
      subst hp0
      refine ⟨fun i w' => ∃ (p : Nat) (ss qs : Slc) (sls : List Slc) (sc tb pb d : List Chunk), i = (p : Int) ∧ p ≤ m.cfg.Shards.toNat ∧ RowC 1 ss (((restM m mark least bey).take p).flatMap fun q => [iV q.1]) sc ∧ RowC 9 qs ((((restM m mark least bey).take p).zip sls).flatMap fun p => rqV p.1.2 p.2) tb ∧ Parts InQ ((restM m mark least bey).take p) sls pb ∧
        St w0 ((b, xkV m.number m.cfg m.call true mark ss qs (m.out : Int) ps) :: (sc ++ (tb ++ (pb ++ (pc ++ (d ++ fr)))))) w', fun i _ => m.cfg.Shards.toNat - i.toNat, ⟨0, ss, qs, [], sc, tb0, [], [], rfl, by omega, by simpa using rs, by simpa using row0, by simpa using Parts.nil, st3.perm (perm_of_sum fun f_ => by simp <;> omega)⟩, ?_⟩
      clear st st2 st3 rs row0
      rintro i w4 ⟨p, ss, qs, sls, sc, tb, pb, d, rfl, hp, rs, rq, pq, st⟩
      unfold F_towpathref17_Task_Begin_L1
      refine ⟨rfl, m.cfg.Shards, st.cell 0 rfl rfl, fun hi => ?_, fun hi => ?_⟩
      · have hi := of_decide_eq_true hi
        have hpl := pq.len
        have hqp := hget p (by omega)
        have wp : IntKind.i64.wrap ((p : Int) + 1) = ((p + 1 : Nat) : Int) := by rw [i64_in _ (by omega) (by omega)]; omega
        have hssl : ss.len = p := by
          have := rs.len
          rw [flatMap_len (sz := 1) (fun _ => rfl), List.length_take] at this; omega
        refine ⟨rfl, ss, st.cell 0 rfl rfl, fun b1 w5 hb1 hw5 => ?_⟩
        have st5 := st.alloc (cs := [iV (p : Int)]) hb1 hw5
        refine ⟨[iV (p : Int)], srcAt_newN hb1 hw5 rfl, ?_⟩
        have st5 : St w0 (sc ++ ((b1, [iV (p : Int)]) :: (b, xkV m.number m.cfg m.call true mark ss qs (m.out : Int) ps) :: (tb ++ (pb ++ (pc ++ (d ++ fr)))))) w5 := st5.perm (perm_of_sum fun f_ => by simp <;> omega)
        refine rs.append st5 rfl rfl rfl (by omega) fun ss' sc' w6 rs' st6 hl6 => ?_
        have st6 : St w0 ((b, xkV m.number m.cfg m.call true mark ss qs (m.out : Int) ps) :: (sc' ++ (tb ++ (pb ++ (pc ++ (((b1, [iV (p : Int)]) :: d) ++ fr)))))) w6 := st6.perm (perm_of_sum fun f_ => by simp <;> omega)
        refine ⟨rfl, st6.writable 0 rfl (by show 10 + 1 ≤ 14; omega), fun w7 hw7 w8 hw8 => ?_⟩
        have st7 : St w0 ((b, xkV m.number m.cfg m.call true mark ss' qs (m.out : Int) ps) :: (sc' ++ (tb ++ (pb ++ (pc ++ (((b1, [iV (p : Int)]) :: d) ++ fr)))))) w7 := st6.put0 hw7
        have st8 := st7.drew hw8
        refine ⟨rfl, qs, st8.cell 0 rfl rfl, xx_req ok.kind rfl rfl rfl rfl hb hl st8 fun s rb d2 w9 r9 st9 => ⟨st9.cell 0 rfl rfl, fun b2 w10 hb2 hw10 => ?_⟩⟩
        have st10 := st9.alloc (cs := rqV (reqM m mark least bey) s) hb2 hw10
        refine ⟨st10.cell 1 rfl rfl, rqV (reqM m mark least bey) s, srcAt_newN hb2 hw10 rfl, ?_⟩
        have st10 : St w0 (tb ++ ((b2, rqV (reqM m mark least bey) s) :: (b, xkV m.number m.cfg m.call true mark ss' qs (m.out : Int) ps) :: (rb ++ (d2 ++ (sc' ++ (pb ++ (pc ++ (((b1, [iV (p : Int)]) :: d) ++ fr)))))))) w10 := st10.perm (perm_of_sum fun f_ => by simp <;> omega)
        have hqsl : qs.len = p := by
          have := rq.len
          rw [zipRow_len (sz := 9) (fun _ => rfl) hpl, List.length_take] at this; omega
        refine rq.append st10 rfl rfl rfl (by omega) fun qs' tb' w11 rq' st11 hl11 => ?_
        have st11 : St w0 ((b, xkV m.number m.cfg m.call true mark ss' qs (m.out : Int) ps) :: (sc' ++ (tb' ++ ((pb ++ rb) ++ (pc ++ (((b2, rqV (reqM m mark least bey) s) :: (b1, [iV (p : Int)]) :: (d2 ++ d)) ++ fr)))))) w11 := st11.perm (perm_of_sum fun f_ => by simp <;> omega)
        refine ⟨rfl, st11.writable 0 rfl (by show 11 + 1 ≤ 14; omega), fun w12 hw12 => ?_⟩
        have st12 : St w0 ((b, xkV m.number m.cfg m.call true mark ss' qs' (m.out : Int) ps) :: (sc' ++ (tb' ++ ((pb ++ rb) ++ (pc ++ (((b2, rqV (reqM m mark least bey) s) :: (b1, [iV (p : Int)]) :: (d2 ++ d)) ++ fr)))))) w12 := st11.put0 hw12
        rw [wp]
        refine ⟨⟨p + 1, ss', qs', sls ++ [s], sc', tb', pb ++ rb, _, rfl, by omega, ?_, ?_, ?_, st12⟩, by show _ - _ < _ - _; omega⟩
        · rw [List.take_add_one, hqp, show (some ((p : Int), reqM m mark least bey)).toList = [((p : Int), reqM m mark least bey)] from rfl, List.flatMap_append]
          exact rs'
        · rw [List.take_add_one, hqp, show (some ((p : Int), reqM m mark least bey)).toList = [((p : Int), reqM m mark least bey)] from rfl, zip_snoc hpl]
          exact rq'
        · rw [List.take_add_one, hqp]
          exact pq.snoc r9
      · have hi := of_decide_eq_false hi
        rw [List.take_of_length_le (by omega)] at rs rq pq
        exact fin rs ⟨sls, tb, pb, rfl, rq, pq⟩ (d := d) (st.perm (perm_of_sum fun f_ => by simp <;> omega))
end
end Go.Proofs.Ytpedclhflmhakaa

namespace Go.Proofs.Ytpedclhflmhakaa
open Go
set_option linter.unusedVariables false
set_option linter.unusedSimpArgs false

section
variable {w0 : Base} {w : World} {G : List Chunk}
theorem xx_insH {l_ : Slc} {es : List T_api_Held} {x : T_api_Held} {R : Slc → World → Prop} (hs : ∀ l w', St w0 (l ++ G) w' → SrcAt w' l_ 2 (es.flatMap hT)) (st : St w0 G w) (hl : es.length ≤ 1073741824)
    (k : ∀ s rb d w', RowC 2 s ((OHk.ins es x).flatMap hT) rb → St w0 (rb ++ (d ++ G)) w' → R s w') : C_towpathref17_held l_ x w R := by
  apply S_towpathref17_held
  unfold F_towpathref17_held
  intro b w1 hb hw
  have st1 : St w0 ((b, hT x) :: G) w1 := st.alloc hb hw
  have hlen : l_.len = es.length := by
    have := (hs [] w st).1
    rw [flatMap_len (sz := 2) (fun _ => rfl)] at this; omega
  refine ⟨fun out done i w' => ∃ (p : Nat) (os : List T_api_Held) (rb d : List Chunk), i = (p : Int) ∧ p ≤ es.length ∧ RowC 2 out (os.flatMap hT) rb ∧ (done = false → os = es.take p ∧ OHk.ins es x = es.take p ++ OHk.ins (es.drop p) x) ∧ (done = true → OHk.ins es x = os ++ es.drop p) ∧ os.length ≤ p + 1 ∧
    St w0 ((b, hT x) :: (rb ++ (d ++ G))) w', fun _ _ i _ => es.length - i.toNat, ⟨0, [], [], [], rfl, by omega, RowC.nil, fun _ => ⟨by simp, by simp⟩, fun h => (by cases h), by simp, st1⟩, ?_⟩
  clear st1 hb hw
  rintro out done i w2 ⟨p, os, rb, d, rfl, hp, r, h0, h1, hol, st⟩
  have hout : out.len = os.length := by
    have := r.len
    rw [flatMap_len (sz := 2) (fun _ => rfl)] at this; omega
  have at_ : ∀ {rb d : List Chunk} {w' : World}, St w0 ((b, hT x) :: (rb ++ (d ++ G))) w' → p < es.length → IsAt l_.ptr ∧ CellsAt w' (pblk l_.ptr) (poff l_.ptr + p * 2) (hT (es[p]?.getD x)) := fun {rb d w'} st' hlt => by
    obtain ⟨a, y, hy, hc⟩ := SrcAt.getN (hs ((b, hT x) :: (rb ++ d)) w' (by rw [List.cons_append, List.append_assoc]; exact st')) (fun _ => rfl) (by decide) (i := (p : Int)) (by omega) (by omega)
    rw [Int.toNat_natCast] at hy hc
    rw [hy]
    exact ⟨a, hc⟩
  unfold F_towpathref17_held_L0
  have wp : IntKind.i64.wrap ((p : Int) + 1) = ((p + 1 : Nat) : Int) := by rw [i64_in _ (by omega) (by omega)]; omega
  refine ⟨fun hi => ?_, fun hi => ?_⟩
  · have hi := of_decide_eq_true hi
    have hlt : p < es.length := by omega
    have hdrop : es.drop p = es[p] :: es.drop (p + 1) := List.drop_eq_getElem_cons hlt
    have htake : es.take (p + 1) = es.take p ++ [es[p]] := by rw [List.take_add_one, List.getElem?_eq_getElem hlt]; rfl
    have hgd : es[p]?.getD x = es[p] := by rw [List.getElem?_eq_getElem hlt]; rfl
    rw [hgd] at at_
    generalize es[p] = y at *
    -- the element is put behind
    have more : ∀ {out1 : Slc} {done1 : Bool} {os1 : List T_api_Held} {rb d : List Chunk} {w' : World}, RowC 2 out1 (os1.flatMap hT) rb → out1.len = os1.length → os1.length ≤ p + 1 → (done1 = false → os1 = es.take p ∧ OHk.ins es x = es.take (p + 1) ++ OHk.ins (es.drop (p + 1)) x) → (done1 = true → OHk.ins es x = os1 ++ es.drop p) → St w0 ((b, hT x) :: (rb ++ (d ++ G))) w' →
        F_towpathref17_held_k1 l_ (p : Int) (fun out' done' i' w' => (∃ (p : Nat) (os : List T_api_Held) (rb d : List Chunk), i' = (p : Int) ∧ p ≤ es.length ∧ RowC 2 out' (os.flatMap hT) rb ∧ (done' = false → os = es.take p ∧ OHk.ins es x = es.take p ++ OHk.ins (es.drop p) x) ∧ (done' = true → OHk.ins es x = os ++ es.drop p) ∧ os.length ≤ p + 1 ∧
          St w0 ((b, hT x) :: (rb ++ (d ++ G))) w') ∧ es.length - i'.toNat < es.length - ((p : Int)).toNat) out1 done1 w' := by
      intro out1 done1 os1 rb d w' r hol1 hol2 g0 g1 st'
      unfold F_towpathref17_held_k1
      obtain ⟨a, hc⟩ := at_ st' hlt
      refine ⟨a, by omega, hi, y, by rw [Int.toNat_natCast]; exact hc, fun b1 w4 hb1 hw4 => ?_⟩
      have st4 := st'.alloc (cs := hT y) hb1 hw4
      refine ⟨hT y, srcAt_newN hb1 hw4 rfl, ?_⟩
      have st4 : St w0 (rb ++ ((b1, hT y) :: (b, hT x) :: (d ++ G))) w4 := st4.perm (perm_of_sum fun f_ => by simp <;> omega)
      refine r.append st4 rfl rfl rfl (by omega) fun out2 rb2 w5 r2 st5 hl5 => ?_
      rw [wp]
      refine ⟨⟨p + 1, os1 ++ [y], rb2, (b1, hT y) :: d, rfl, by omega, by rw [List.flatMap_append]; simpa using r2, fun hd => ⟨by rw [htake, (g0 hd).1], (g0 hd).2⟩, fun hd => ?_, by rw [List.length_append, List.length_singleton]; omega, st5.perm (perm_of_sum fun f_ => by simp <;> omega)⟩, by show _ - _ < _ - _; omega⟩
      rw [g1 hd, hdrop]; simp
    have k2 : ∀ {v : Bool} {w' : World}, (v = true → done = false ∧ OHk.lt x y = true) → (v = false → done = false → OHk.lt x y = false) → St w0 ((b, hT x) :: (rb ++ (d ++ G))) w' →
        F_towpathref17_held_k2 l_ b out done (p : Int) (fun out' done' i' w' => (∃ (p : Nat) (os : List T_api_Held) (rb d : List Chunk), i' = (p : Int) ∧ p ≤ es.length ∧ RowC 2 out' (os.flatMap hT) rb ∧ (done' = false → os = es.take p ∧ OHk.ins es x = es.take p ++ OHk.ins (es.drop p) x) ∧ (done' = true → OHk.ins es x = os ++ es.drop p) ∧ os.length ≤ p + 1 ∧
          St w0 ((b, hT x) :: (rb ++ (d ++ G))) w') ∧ es.length - i'.toNat < es.length - ((p : Int)).toNat) v w' := by
      intro v w' hv1 hv2 st'
      unfold F_towpathref17_held_k2
      refine ⟨fun hv => ?_, fun hv => ?_⟩
      · obtain ⟨hd, hltxy⟩ := hv1 hv
        obtain ⟨e1, e2⟩ := h0 hd
        refine ⟨x, (st'.get 0 rfl).all, fun b2 w7 hb2 hw7 => ?_⟩
        have st7 := st'.alloc (cs := hT x) hb2 hw7
        refine ⟨hT x, srcAt_newN hb2 hw7 rfl, ?_⟩
        have st7 : St w0 (rb ++ ((b2, hT x) :: (b, hT x) :: (d ++ G))) w7 := st7.perm (perm_of_sum fun f_ => by simp <;> omega)
        refine r.append st7 rfl rfl rfl (by omega) fun out3 rb3 w8 r3 st8 hl8 => ?_
        have st8 : St w0 ((b, hT x) :: (rb3 ++ (((b2, hT x) :: d) ++ G))) w8 := st8.perm (perm_of_sum fun f_ => by simp <;> omega)
        refine more (os1 := os ++ [x]) (by rw [List.flatMap_append]; simpa using r3) (by rw [List.length_append, List.length_singleton]; omega) (by rw [List.length_append, List.length_singleton, e1, List.length_take]; omega) (fun h => (by cases h)) (fun _ => ?_) st8
        rw [e2, e1, hdrop, Ord.ins, if_pos hltxy]; simp
      · refine more r hout hol (fun hd => ?_) h1 st'
        obtain ⟨e1, e2⟩ := h0 hd
        refine ⟨e1, ?_⟩
        rw [e2, hdrop, Ord.ins, if_neg (by rw [hv2 hv hd]; decide), htake]; simp
    refine ⟨fun hd => ?_, fun hd w10 e10 => ?_⟩
    · have hd : done = false := by simpa using hd
      obtain ⟨a, hc⟩ := at_ st hlt
      refine ⟨x.Key, st.cell 0 rfl rfl, a, by omega, hi, y.Key, by rw [Int.toNat_natCast]; exact hc.1, fun w9 e9 => ?_⟩
      rw [tl_data, tl_data]
      exact k2 (fun h => ⟨hd, h⟩) (fun h _ => h) (st.keep e9)
    · have hd : done = true := by simpa using hd
      exact k2 (fun h => (by cases h)) (fun _ h => (by rw [hd] at h; cases h)) (st.keep e10)
  · have hi := of_decide_eq_false hi
    obtain rfl : p = es.length := by omega
    refine ⟨fun hd => ?_, fun hd => ?_⟩
    · have hd : done = false := by simpa using hd
      obtain ⟨e1, e2⟩ := h0 hd
      refine ⟨x, (st.get 0 rfl).all, fun b3 w12 hb3 hw12 => ?_⟩
      have st12 := st.alloc (cs := hT x) hb3 hw12
      refine ⟨hT x, srcAt_newN hb3 hw12 rfl, ?_⟩
      have st12 : St w0 (rb ++ ((b3, hT x) :: (b, hT x) :: (d ++ G))) w12 := st12.perm (perm_of_sum fun f_ => by simp <;> omega)
      refine r.append st12 rfl rfl rfl (by omega) fun out5 rb5 w13 r5 st13 hl13 => ?_
      unfold F_towpathref17_held_k3
      refine k out5 rb5 ((b3, hT x) :: (b, hT x) :: d) w13 ?_ (st13.perm (perm_of_sum fun f_ => by simp <;> omega))
      rw [e2, List.drop_length, List.take_length, List.flatMap_append]
      rw [List.take_length] at e1
      rw [e1] at r5
      simpa [Ord.ins] using r5
    · have hd : done = true := by simpa using hd
      have e1 := h1 hd
      rw [List.drop_length, List.append_nil] at e1
      unfold F_towpathref17_held_k3
      refine k out rb ((b, hT x) :: d) w2 ?_ (st.perm (perm_of_sum fun f_ => by simp <;> omega))
      rw [e1]; exact r
end
end Go.Proofs.Ytpedclhflmhakaa

namespace Go.Proofs.Ytpedclhflmhakaa
open Go
set_option linter.unusedVariables false
set_option linter.unusedSimpArgs false

section
variable {w0 : Base} {w : World} {G : List Chunk}
theorem xx_insE {l_ : Slc} {es : List T_api_Entry} {x : T_api_Entry} {R : Slc → World → Prop} (hs : ∀ l w', St w0 (l ++ G) w' → SrcAt w' l_ 2 (es.flatMap entT)) (st : St w0 G w) (hl : es.length ≤ 1073741824)
    (k : ∀ s rb d w', RowC 2 s ((OEk.ins es x).flatMap entT) rb → St w0 (rb ++ (d ++ G)) w' → R s w') : C_towpathref17_entry l_ x w R := by
  apply S_towpathref17_entry
  unfold F_towpathref17_entry
  intro b w1 hb hw
  have st1 : St w0 ((b, entT x) :: G) w1 := st.alloc hb hw
  have hlen : l_.len = es.length := by
    have := (hs [] w st).1
    rw [flatMap_len (sz := 2) (fun _ => rfl)] at this; omega
  refine ⟨fun out done i w' => ∃ (p : Nat) (os : List T_api_Entry) (rb d : List Chunk), i = (p : Int) ∧ p ≤ es.length ∧ RowC 2 out (os.flatMap entT) rb ∧ (done = false → os = es.take p ∧ OEk.ins es x = es.take p ++ OEk.ins (es.drop p) x) ∧ (done = true → OEk.ins es x = os ++ es.drop p) ∧ os.length ≤ p + 1 ∧
    St w0 ((b, entT x) :: (rb ++ (d ++ G))) w', fun _ _ i _ => es.length - i.toNat, ⟨0, [], [], [], rfl, by omega, RowC.nil, fun _ => ⟨by simp, by simp⟩, fun h => (by cases h), by simp, st1⟩, ?_⟩
  clear st1 hb hw
  rintro out done i w2 ⟨p, os, rb, d, rfl, hp, r, h0, h1, hol, st⟩
  have hout : out.len = os.length := by
    have := r.len
    rw [flatMap_len (sz := 2) (fun _ => rfl)] at this; omega
  have at_ : ∀ {rb d : List Chunk} {w' : World}, St w0 ((b, entT x) :: (rb ++ (d ++ G))) w' → p < es.length → IsAt l_.ptr ∧ CellsAt w' (pblk l_.ptr) (poff l_.ptr + p * 2) (entT (es[p]?.getD x)) := fun {rb d w'} st' hlt => by
    obtain ⟨a, y, hy, hc⟩ := SrcAt.getN (hs ((b, entT x) :: (rb ++ d)) w' (by rw [List.cons_append, List.append_assoc]; exact st')) (fun _ => rfl) (by decide) (i := (p : Int)) (by omega) (by omega)
    rw [Int.toNat_natCast] at hy hc
    rw [hy]
    exact ⟨a, hc⟩
  unfold F_towpathref17_entry_L0
  have wp : IntKind.i64.wrap ((p : Int) + 1) = ((p + 1 : Nat) : Int) := by rw [i64_in _ (by omega) (by omega)]; omega
  refine ⟨fun hi => ?_, fun hi => ?_⟩
  · have hi := of_decide_eq_true hi
    have hlt : p < es.length := by omega
    have hdrop : es.drop p = es[p] :: es.drop (p + 1) := List.drop_eq_getElem_cons hlt
    have htake : es.take (p + 1) = es.take p ++ [es[p]] := by rw [List.take_add_one, List.getElem?_eq_getElem hlt]; rfl
    have hgd : es[p]?.getD x = es[p] := by rw [List.getElem?_eq_getElem hlt]; rfl
    rw [hgd] at at_
    generalize es[p] = y at *
    -- the element is put behind
    have more : ∀ {out1 : Slc} {done1 : Bool} {os1 : List T_api_Entry} {rb d : List Chunk} {w' : World}, RowC 2 out1 (os1.flatMap entT) rb → out1.len = os1.length → os1.length ≤ p + 1 → (done1 = false → os1 = es.take p ∧ OEk.ins es x = es.take (p + 1) ++ OEk.ins (es.drop (p + 1)) x) → (done1 = true → OEk.ins es x = os1 ++ es.drop p) → St w0 ((b, entT x) :: (rb ++ (d ++ G))) w' →
        F_towpathref17_entry_k1 l_ (p : Int) (fun out' done' i' w' => (∃ (p : Nat) (os : List T_api_Entry) (rb d : List Chunk), i' = (p : Int) ∧ p ≤ es.length ∧ RowC 2 out' (os.flatMap entT) rb ∧ (done' = false → os = es.take p ∧ OEk.ins es x = es.take p ++ OEk.ins (es.drop p) x) ∧ (done' = true → OEk.ins es x = os ++ es.drop p) ∧ os.length ≤ p + 1 ∧
          St w0 ((b, entT x) :: (rb ++ (d ++ G))) w') ∧ es.length - i'.toNat < es.length - ((p : Int)).toNat) out1 done1 w' := by
      intro out1 done1 os1 rb d w' r hol1 hol2 g0 g1 st'
      unfold F_towpathref17_entry_k1
      obtain ⟨a, hc⟩ := at_ st' hlt
      refine ⟨a, by omega, hi, y, by rw [Int.toNat_natCast]; exact hc, fun b1 w4 hb1 hw4 => ?_⟩
      have st4 := st'.alloc (cs := entT y) hb1 hw4
      refine ⟨entT y, srcAt_newN hb1 hw4 rfl, ?_⟩
      have st4 : St w0 (rb ++ ((b1, entT y) :: (b, entT x) :: (d ++ G))) w4 := st4.perm (perm_of_sum fun f_ => by simp <;> omega)
      refine r.append st4 rfl rfl rfl (by omega) fun out2 rb2 w5 r2 st5 hl5 => ?_
      rw [wp]
      refine ⟨⟨p + 1, os1 ++ [y], rb2, (b1, entT y) :: d, rfl, by omega, by rw [List.flatMap_append]; simpa using r2, fun hd => ⟨by rw [htake, (g0 hd).1], (g0 hd).2⟩, fun hd => ?_, by rw [List.length_append, List.length_singleton]; omega, st5.perm (perm_of_sum fun f_ => by simp <;> omega)⟩, by show _ - _ < _ - _; omega⟩
      rw [g1 hd, hdrop]; simp
    have k2 : ∀ {v : Bool} {w' : World}, (v = true → done = false ∧ OEk.lt x y = true) → (v = false → done = false → OEk.lt x y = false) → St w0 ((b, entT x) :: (rb ++ (d ++ G))) w' →
        F_towpathref17_entry_k2 l_ b out done (p : Int) (fun out' done' i' w' => (∃ (p : Nat) (os : List T_api_Entry) (rb d : List Chunk), i' = (p : Int) ∧ p ≤ es.length ∧ RowC 2 out' (os.flatMap entT) rb ∧ (done' = false → os = es.take p ∧ OEk.ins es x = es.take p ++ OEk.ins (es.drop p) x) ∧ (done' = true → OEk.ins es x = os ++ es.drop p) ∧ os.length ≤ p + 1 ∧
          St w0 ((b, entT x) :: (rb ++ (d ++ G))) w') ∧ es.length - i'.toNat < es.length - ((p : Int)).toNat) v w' := by
      intro v w' hv1 hv2 st'
      unfold F_towpathref17_entry_k2
      refine ⟨fun hv => ?_, fun hv => ?_⟩
      · obtain ⟨hd, hltxy⟩ := hv1 hv
        obtain ⟨e1, e2⟩ := h0 hd
        refine ⟨x, (st'.get 0 rfl).all, fun b2 w7 hb2 hw7 => ?_⟩
        have st7 := st'.alloc (cs := entT x) hb2 hw7
        refine ⟨entT x, srcAt_newN hb2 hw7 rfl, ?_⟩
        have st7 : St w0 (rb ++ ((b2, entT x) :: (b, entT x) :: (d ++ G))) w7 := st7.perm (perm_of_sum fun f_ => by simp <;> omega)
        refine r.append st7 rfl rfl rfl (by omega) fun out3 rb3 w8 r3 st8 hl8 => ?_
        have st8 : St w0 ((b, entT x) :: (rb3 ++ (((b2, entT x) :: d) ++ G))) w8 := st8.perm (perm_of_sum fun f_ => by simp <;> omega)
        refine more (os1 := os ++ [x]) (by rw [List.flatMap_append]; simpa using r3) (by rw [List.length_append, List.length_singleton]; omega) (by rw [List.length_append, List.length_singleton, e1, List.length_take]; omega) (fun h => (by cases h)) (fun _ => ?_) st8
        rw [e2, e1, hdrop, Ord.ins, if_pos hltxy]; simp
      · refine more r hout hol (fun hd => ?_) h1 st'
        obtain ⟨e1, e2⟩ := h0 hd
        refine ⟨e1, ?_⟩
        rw [e2, hdrop, Ord.ins, if_neg (by rw [hv2 hv hd]; decide), htake]; simp
    refine ⟨fun hd => ?_, fun hd w10 e10 => ?_⟩
    · have hd : done = false := by simpa using hd
      obtain ⟨a, hc⟩ := at_ st hlt
      refine ⟨x.Key, st.cell 0 rfl rfl, a, by omega, hi, y.Key, by rw [Int.toNat_natCast]; exact hc.1, fun w9 e9 => ?_⟩
      rw [tl_data, tl_data]
      exact k2 (fun h => ⟨hd, h⟩) (fun h _ => h) (st.keep e9)
    · have hd : done = true := by simpa using hd
      exact k2 (fun h => (by cases h)) (fun _ h => (by rw [hd] at h; cases h)) (st.keep e10)
  · have hi := of_decide_eq_false hi
    obtain rfl : p = es.length := by omega
    refine ⟨fun hd => ?_, fun hd => ?_⟩
    · have hd : done = false := by simpa using hd
      obtain ⟨e1, e2⟩ := h0 hd
      refine ⟨x, (st.get 0 rfl).all, fun b3 w12 hb3 hw12 => ?_⟩
      have st12 := st.alloc (cs := entT x) hb3 hw12
      refine ⟨entT x, srcAt_newN hb3 hw12 rfl, ?_⟩
      have st12 : St w0 (rb ++ ((b3, entT x) :: (b, entT x) :: (d ++ G))) w12 := st12.perm (perm_of_sum fun f_ => by simp <;> omega)
      refine r.append st12 rfl rfl rfl (by omega) fun out5 rb5 w13 r5 st13 hl13 => ?_
      unfold F_towpathref17_entry_k3
      refine k out5 rb5 ((b3, entT x) :: (b, entT x) :: d) w13 ?_ (st13.perm (perm_of_sum fun f_ => by simp <;> omega))
      rw [e2, List.drop_length, List.take_length, List.flatMap_append]
      rw [List.take_length] at e1
      rw [e1] at r5
      simpa [Ord.ins] using r5
    · have hd : done = true := by simpa using hd
      have e1 := h1 hd
      rw [List.drop_length, List.append_nil] at e1
      unfold F_towpathref17_entry_k3
      refine k out rb ((b, entT x) :: d) w2 ?_ (st.perm (perm_of_sum fun f_ => by simp <;> omega))
      rw [e1]; exact r
end
end Go.Proofs.Ytpedclhflmhakaa

namespace Go.Proofs.Ytpedclhflmhakaa
open Go
set_option linter.unusedVariables false
set_option linter.unusedSimpArgs false

abbrev hoH (o : HO) : T_api_Held := ⟨o.1, o.2.2⟩
abbrev hoD (o : HO) : Hd := (o.1, o.2.1)
def OO : Ord HO := OB.on (fun o : HO => o.1)
theorem hoT_hT (hos : List HO) : hos.flatMap hoT = (hos.map hoH).flatMap hT := by rw [List.flatMap_map]
theorem ins_hoH (hos : List HO) (o : HO) : OHk.ins (hos.map hoH) (hoH o) = (OO.ins hos o).map hoH := Ord.ins_map (O := OHk) hoH hos o
theorem insAll_hoD (xs : List HO) : OH.insAll [] (xs.map hoD) = (OO.insAll [] xs).map hoD := Ord.insAll_map (O := OH) hoD xs []
section
variable {w0 : Base} {w : World} {fr cs : List Chunk} {t : Option Addr} {m : Option TkM}
/-- How far the document's answer is behind p replies. -/
def AxSt (w0 : Base) (m : TkM) (G : List Chunk) (b1 : Nat) (A : Ans) (l_ : Slc) (w : World) : Prop :=
  ∃ (s : Slc) (xs : List HO) (ec tb d : List Chunk), RowC 2 s (A.es.flatMap entT) ec ∧ RowC 2 l_ ((OO.insAll [] xs).flatMap hoT) tb ∧ A.hs = xs.map hoD ∧ (∀ o ∈ xs, SrcAt w0.w o.2.2 3 (o.2.1.flatMap verT)) ∧
    St w0 ((b1, anT ⟨0, m.mark, A.ok, s, A.cnt⟩) :: (ec ++ (tb ++ (d ++ G)))) w
theorem xx_ans_ents {G tb : List Chunk} {m : TkM} {b1 b2 : Nat} {A : Ans} {rv : T_api_Resp} {es : List T_api_Entry} {l_ : Slc} {t31 : Int} {again_ : Slc → Int → World → Prop} {s : Slc} {ec : List Chunk} (hes : A.es.length + es.length ≤ 1073741824)
    (hse : SrcAt w0.w rv.Entries 2 (es.flatMap entT)) (re : RowC 2 s (A.es.flatMap entT) ec) (st : St w0 ((b2, rspT rv) :: (b1, anT ⟨0, m.mark, A.ok, s, A.cnt⟩) :: (ec ++ G)) w)
    (k : ∀ s' ec' d w', RowC 2 s' ((OE.insAll A.es es).flatMap entT) ec' → St w0 ((b2, rspT rv) :: (b1, anT ⟨0, m.mark, A.ok, s', A.cnt⟩) :: (ec' ++ (d ++ G))) w' → F_towpathref17_Task_Answer_k1 t31 again_ l_ w') :
    ∃ (I : Int → World → Prop) (μ : Int → World → Nat), I 0 w ∧ ∀ (k_ : Int) w, I k_ w → F_towpathref17_Task_Answer_L2 b1 l_ t31 again_ b2 (fun (k_' : Int) w' => I k_' w' ∧ μ k_' w' < μ k_ w) k_ w := by
  have hel : rv.Entries.len = es.length := by
    have := hse.1
    rw [flatMap_len (sz := 2) (fun _ => rfl)] at this; omega
  refine ⟨fun j w' => ∃ (q : Nat) (s' : Slc) (ec' d : List Chunk), j = (q : Int) ∧ q ≤ es.length ∧ RowC 2 s' ((OE.insAll A.es (es.take q)).flatMap entT) ec' ∧ St w0 ((b2, rspT rv) :: (b1, anT ⟨0, m.mark, A.ok, s', A.cnt⟩) :: (ec' ++ (d ++ G))) w',
    fun j _ => es.length - j.toNat, ⟨0, s, ec, [], rfl, by omega, re, st⟩, ?_⟩
  clear st re
  rintro j w1 ⟨q, s', ec', d, rfl, hq, re, st⟩
  unfold F_towpathref17_Task_Answer_L2
  refine ⟨rv.Entries, st.cell 0 rfl rfl, fun hj w2 hw2 => ?_, fun hj => ?_⟩
  · have hj := of_decide_eq_true hj
    have st2 := st.drew hw2
    obtain ⟨a, x, hx, hc⟩ := SrcAt.getN (st2.ext.src hse) (fun _ => rfl) (by decide) (i := (q : Int)) (by omega) hj
    rw [Int.toNat_natCast] at hx
    have wq : IntKind.i64.wrap ((q : Int) + 1) = ((q + 1 : Nat) : Int) := by rw [i64_in _ (by omega) (by omega)]; omega
    refine ⟨s', st2.cell 1 rfl rfl, rv.Entries, st2.cell 0 rfl rfl, a, by omega, hj, x, hc, ?_⟩
    have hln : (OE.insAll A.es (es.take q)).length ≤ 1073741824 := by rw [Ord.insAll_len, List.length_take]; omega
    refine xx_insE (es := OE.insAll A.es (es.take q)) (x := x) (fun l w' st' => re.src (l := l ++ ((b2, rspT rv) :: (b1, anT ⟨0, m.mark, A.ok, s', A.cnt⟩) :: (d ++ G))) (st'.perm (perm_of_sum fun f_ => by simp <;> omega))) st2 hln fun s2 rb d2 w3 r3 st3 => ?_
    have st3 : St w0 ((b2, rspT rv) :: (b1, anT ⟨0, m.mark, A.ok, s', A.cnt⟩) :: (rb ++ ((d2 ++ (ec' ++ d)) ++ G))) w3 := st3.perm (perm_of_sum fun f_ => by simp <;> omega)
    refine ⟨st3.writable 1 rfl (by show 3 + 1 ≤ 5; omega), fun w4 hw4 => ?_⟩
    have st4 : St w0 ((b2, rspT rv) :: (b1, anT ⟨0, m.mark, A.ok, s2, A.cnt⟩) :: (rb ++ ((d2 ++ (ec' ++ d)) ++ G))) w4 := st3.put1 hw4
    rw [wq]
    refine ⟨⟨q + 1, s2, rb, d2 ++ (ec' ++ d), rfl, by omega, ?_, st4⟩, by show _ - _ < _ - _; omega⟩
    rw [List.take_add_one, hx, show (some x).toList = [x] from rfl, Ord.insAll_app]
    exact r3
  · have hj := of_decide_eq_false hj
    rw [List.take_of_length_le (by omega)] at re
    exact k s' ec' d w1 re st
theorem xx_ans_held {G : List Chunk} {b2 : Nat} {rv : T_api_Resp} {os xs : List HO} {l_ : Slc} {t31 : Int} {again_ : Slc → Int → World → Prop} {tb : List Chunk} (hos : xs.length + os.length ≤ 1073741824)
    (hso : HdAt w0.w rv.Held os) (re : RowC 2 l_ ((OO.insAll [] xs).flatMap hoT) tb) (st : St w0 ((b2, rspT rv) :: (tb ++ G)) w)
    (k : ∀ l' tb' d w', RowC 2 l' ((OO.insAll [] (xs ++ os)).flatMap hoT) tb' → St w0 ((b2, rspT rv) :: (tb' ++ (d ++ G))) w' → F_towpathref17_Task_Answer_k1 t31 again_ l' w') :
    ∃ (I : Slc → Int → World → Prop) (μ : Slc → Int → World → Nat), I l_ 0 w ∧ ∀ (l_2 : Slc) (k_ : Int) w, I l_2 k_ w → F_towpathref17_Task_Answer_L3 t31 again_ b2 (fun (l_2' : Slc) (k_' : Int) w' => I l_2' k_' w' ∧ μ l_2' k_' w' < μ l_2 k_ w) l_2 k_ w := by
  have hel : rv.Held.len = os.length := by
    have := hso.src.1
    rw [flatMap_len (sz := 2) (fun _ => rfl)] at this; omega
  refine ⟨fun l2 j w' => ∃ (q : Nat) (tb' d : List Chunk), j = (q : Int) ∧ q ≤ os.length ∧ RowC 2 l2 ((OO.insAll [] (xs ++ os.take q)).flatMap hoT) tb' ∧ St w0 ((b2, rspT rv) :: (tb' ++ (d ++ G))) w',
    fun _ j _ => os.length - j.toNat, ⟨0, tb, [], rfl, by omega, by simpa using re, st⟩, ?_⟩
  clear st re
  rintro l2 j w1 ⟨q, tb', d, rfl, hq, re, st⟩
  unfold F_towpathref17_Task_Answer_L3
  refine ⟨rv.Held, st.cell 0 rfl rfl, fun hj => ?_, fun hj => ?_⟩
  · have hj := of_decide_eq_true hj
    obtain ⟨a, x, hx, hc⟩ := SrcAt.getN (st.ext.src hso.src) (fun _ => rfl) (by decide) (i := (q : Int)) (by omega) hj
    rw [Int.toNat_natCast] at hx
    have wq : IntKind.i64.wrap ((q : Int) + 1) = ((q + 1 : Nat) : Int) := by rw [i64_in _ (by omega) (by omega)]; omega
    refine ⟨rv.Held, st.cell 0 rfl rfl, a, by omega, hj, hoH x, hc, ?_⟩
    have hln : ((OO.insAll [] (xs ++ os.take q)).map hoH).length ≤ 1073741824 := by rw [List.length_map, Ord.insAll_len, List.length_append, List.length_take, List.length_nil]; omega
    rw [hoT_hT] at re
    refine xx_insH (es := (OO.insAll [] (xs ++ os.take q)).map hoH) (x := hoH x) (fun l w' st' => re.src (l := l ++ ((b2, rspT rv) :: (d ++ G))) (st'.perm (perm_of_sum fun f_ => by simp <;> omega))) st hln fun s2 rb d2 w3 r3 st3 => ?_
    have st3 : St w0 ((b2, rspT rv) :: (rb ++ ((d2 ++ (tb' ++ d)) ++ G))) w3 := st3.perm (perm_of_sum fun f_ => by simp <;> omega)
    rw [wq]
    refine ⟨⟨q + 1, rb, d2 ++ (tb' ++ d), rfl, by omega, ?_, st3⟩, by show _ - _ < _ - _; omega⟩
    rw [List.take_add_one, hx, show (some x).toList = [x] from rfl, ← List.append_assoc, Ord.insAll_app]
    rw [ins_hoH] at r3
    rw [hoT_hT]
    exact r3
  · have hj := of_decide_eq_false hj
    rw [List.take_of_length_le (by omega)] at re
    exact k l2 tb' d w1 re st
theorem xx_ans_round {G : List Chunk} {m : TkM} {b1 bt b : Nat} {ps l_ : Slc} {rs : List XP} {p : Nat} {R : T_api_Answer → Slc → Int → World → Prop} {again_ : Slc → Int → World → Prop} (ok : m.Ok) (hp : p < m.reps.length) (hrs : m.reps = rs.map rpX) (hat : ∀ r ∈ rs, RspAt w0.w r.1 r.2.1 r.2.2)
    (hin : ∀ l w', St w0 (l ++ G) w' → SrcAt w' ps 5 (rs.flatMap fun r => rspT r.1))
    (hk : ∀ l w', St w0 (l ++ G) w' → w'.cell? ⟨bt, 5, none⟩ = some (Value.int .u8 m.call.Kind) ∧ w'.cell? ⟨bt, 13, none⟩ = some (slV ps)) (h : AxSt w0 m G b1 (ansAt m p) l_ w) (hpl : ps.len = m.reps.length)
    (k : ∀ l' w', AxSt w0 m G b1 (ansAt m (p + 1)) l' w' → again_ l' ((p + 1 : Nat) : Int) w') : F_towpathref17_Task_Answer_L0 (some ⟨bt, 0, none⟩) R b b1 again_ l_ (p : Int) w := by
  unfold F_towpathref17_Task_Answer_L0
  have hr16 := ok.few
  have hrm := ok.reps
  have hlen := ansAt_len ok (Nat.le_of_lt hp)
  obtain ⟨s, xs, ec, tb, d, rs2, rh, hxs, hxv, st⟩ := h
  have wp : IntKind.i64.wrap ((p : Int) + 1) = ((p + 1 : Nat) : Int) := by rw [i64_in _ (by omega) (by omega)]; omega
  have stG : ∀ {x : Chunk} {w' : World}, St w0 (x :: (ec ++ (tb ++ (d ++ G)))) w' → St w0 ((x :: (ec ++ (tb ++ d))) ++ G) w' := fun {x w'} h => by
    have e : (x :: (ec ++ (tb ++ d))) ++ G = x :: (ec ++ (tb ++ (d ++ G))) := by simp only [List.cons_append, List.append_assoc]
    rw [e]; exact h
  have stG2 : ∀ {x y : Chunk} {w' : World}, St w0 (x :: y :: (ec ++ (tb ++ (d ++ G)))) w' → St w0 ((x :: y :: (ec ++ (tb ++ d))) ++ G) w' := fun {x y w'} h => by
    have e : (x :: y :: (ec ++ (tb ++ d))) ++ G = x :: y :: (ec ++ (tb ++ (d ++ G))) := by simp only [List.cons_append, List.append_assoc]
    rw [e]; exact h
  refine ⟨rfl, ps, (hk _ w (stG st)).2, fun hi => ?_, fun hi => absurd (of_decide_eq_false hi) (by omega)⟩
  have hi := of_decide_eq_true hi
  obtain ⟨a, x, hx, hc⟩ := SrcAt.getN (f := fun r : XP => rspT r.1) (hin _ w (stG st)) (fun _ => rfl) (by decide) (i := (p : Int)) (by omega) hi
  rw [Int.toNat_natCast] at hx
  have hx1 : m.reps[p]? = some (rpX x) := by rw [hrs, List.getElem?_map, hx]; rfl
  have hsucc := ansAt_succ hx1
  have hsm := ok.small _ (List.mem_of_getElem? hx1)
  have hrx := hat x (List.mem_of_getElem? hx)
  obtain ⟨rv, es, os⟩ := x
  have hrx : RspAt w0.w rv es os := hrx
  have hsm : (rpOf rv es os).Small := hsm
  have hse : es.length ≤ 1048576 := hsm.ents
  have hso : os.length ≤ 1048576 := by have := hsm.held; rw [List.length_map] at this; exact this
  have hel : rv.Entries.len = es.length := by
    have := hrx.ent.1
    rw [flatMap_len (sz := 2) (fun _ => rfl)] at this; omega
  have hxl : xs.length = (ansAt m p).hs.length := by rw [hxs, List.length_map]
  have fin : ∀ (A : Ans) (l' : Slc) (w' : World), A = ansStep m.call.Kind (ansAt m p) (rpOf rv es os) → AxSt w0 m G b1 A l' w' → F_towpathref17_Task_Answer_k1 (p : Int) again_ l' w' := fun A l' w' hA h' => by
    unfold F_towpathref17_Task_Answer_k1
    rw [wp]
    have hsucc : ansAt m (p + 1) = ansStep m.call.Kind (ansAt m p) (rpOf rv es os) := hsucc
    rw [← hsucc] at hA
    subst hA
    exact k l' w' h'
  refine ⟨rfl, ps, (hk _ w (stG st)).2, a, by omega, hi, rv, hc, fun b2 w9 hb2 hw9 => ?_⟩
  have st9 := st.alloc (cs := rspT zRsp) hb2 hw9
  refine ⟨st9.writable 0 rfl (by decide), fun w10 hw10 => ?_⟩
  have st10 : St w0 ((b2, rspT rv) :: (b1, anT ⟨0, m.mark, (ansAt m p).ok, s, (ansAt m p).cnt⟩) :: (ec ++ (tb ++ (d ++ G)))) w10 := st9.put0 hw10
  clear st9 st
  refine ⟨rfl, m.call.Kind, (hk _ w10 (stG2 st10)).1, fun h1 => ?_, fun h1 => ⟨fun h2 => ?_, fun h2 => ⟨fun h3 => ?_, fun h3 => ⟨fun h4 => ?_, fun h4 => ?_⟩⟩⟩⟩
  · have h1 : m.call.Kind = 1 := by simpa using h1
    have hone := ok.one h1
    have hp0 : p = 0 := by omega
    subst hp0
    refine ⟨rv.Entries, st10.cell 0 rfl rfl, st10.writable 1 rfl (by show 2 + 1 ≤ 5; omega), fun w11 hw11 => ?_⟩
    have st11 : St w0 ((b2, rspT rv) :: (b1, anT ⟨0, m.mark, (((rv.Entries.len : Nat) : Int) == 1), s, (ansAt m 0).cnt⟩) :: (ec ++ (tb ++ (d ++ G)))) w11 := st10.put1 hw11
    refine ⟨(((rv.Entries.len : Nat) : Int) == 1), st11.cell 1 rfl rfl, fun hb w12 hw12 => ?_, fun hb => ?_⟩
    · have hs1 : es.length = 1 := by have : ((rv.Entries.len : Nat) : Int) = 1 := by simpa using hb
                                     omega
      obtain ⟨e, rfl⟩ := List.length_eq_one_iff.1 hs1
      have st12 := st11.drew hw12
      obtain ⟨a2, y, hy, hcy⟩ := SrcAt.getN (st12.ext.src hrx.ent) (fun _ => rfl) (by decide) (i := 0) (by omega) (by omega)
      have hy : [e][0]? = some y := hy
      obtain rfl : e = y := Option.some.inj hy
      rw [ansAt_zero] at rs2
      have hcy : CellsAt w12 (pblk rv.Entries.ptr) (poff rv.Entries.ptr) (entT e) := by simpa using hcy
      refine ⟨s, st12.cell 1 rfl rfl, rv.Entries, st12.cell 0 rfl rfl, a2, by omega, by omega, e, hcy, fun b3 w13 hb3 hw13 => ?_⟩
      have st13 := st12.alloc (cs := entT e) hb3 hw13
      refine ⟨st13.cell 2 rfl rfl, entT e, srcAt_newN hb3 hw13 rfl, ?_⟩
      have st13 : St w0 (ec ++ ((b3, entT e) :: (b2, rspT rv) :: (b1, anT ⟨0, m.mark, (((rv.Entries.len : Nat) : Int) == 1), s, (ansAt m 0).cnt⟩) :: (tb ++ (d ++ G)))) w13 := st13.perm (perm_of_sum fun f_ => by simp <;> omega)
      have hsl : s.len = 0 := by have h0 := rs2.len
                                 have h0 : 0 = s.len * 2 := h0
                                 omega
      refine rs2.append st13 rfl rfl rfl (by omega) fun s' ec' w14 re' st14 hl14 => ?_
      have st14 : St w0 ((b1, anT ⟨0, m.mark, (((rv.Entries.len : Nat) : Int) == 1), s, (ansAt m 0).cnt⟩) :: (ec' ++ (tb ++ (((b3, entT e) :: (b2, rspT rv) :: d) ++ G)))) w14 := st14.perm (perm_of_sum fun f_ => by simp <;> omega)
      refine ⟨st14.writable 0 rfl (by show 3 + 1 ≤ 5; omega), fun w15 hw15 => ?_⟩
      have st15 : St w0 ((b1, anT ⟨0, m.mark, (((rv.Entries.len : Nat) : Int) == 1), s', (ansAt m 0).cnt⟩) :: (ec' ++ (tb ++ (((b3, entT e) :: (b2, rspT rv) :: d) ++ G)))) w15 := st14.put0 hw15
      refine fin _ l_ w15 (ans_row1 h1 _).symm ⟨s', xs, ec', tb, (b3, entT e) :: (b2, rspT rv) :: d, ?_, rh, hxs, hxv, ?_⟩
      · show RowC 2 s' ((if [e].length = 1 then [e] else (ansAt m 0).es).flatMap entT) ec'
        rw [if_pos (show [e].length = 1 from rfl)]
        have e0 : ans0.es = [] := rfl
        rw [e0] at re'
        simpa using re'
      · show St w0 ((b1, anT ⟨0, m.mark, decide ([e].length = 1), s', (ansAt m 0).cnt⟩) :: _) w15
        rw [decide_eq_true (show [e].length = 1 from rfl)]
        rw [hb] at st15
        exact st15
    · have hs1 : ¬ es.length = 1 := by have : ¬ ((rv.Entries.len : Nat) : Int) = 1 := by simpa using hb
                                       omega
      refine fin _ l_ w11 (ans_row1 h1 _).symm ⟨s, xs, ec, tb, (b2, rspT rv) :: d, ?_, rh, hxs, hxv, ?_⟩
      · show RowC 2 s ((if es.length = 1 then es else (ansAt m 0).es).flatMap entT) ec
        rw [if_neg hs1]; exact rs2
      · show St w0 ((b1, anT ⟨0, m.mark, decide (es.length = 1), s, (ansAt m 0).cnt⟩) :: _) w11
        rw [decide_eq_false hs1]
        rw [hb] at st11
        exact st11.perm (perm_of_sum fun f_ => by simp <;> omega)
  · have h1 : m.call.Kind ≠ 1 := by simpa using h1
    have h2 : m.call.Kind = 2 := by simpa using h2
    refine xx_ans_ents (tb := []) (G := tb ++ (d ++ G)) (es := es) (A := ansAt m p) (m := m) (by omega) hrx.ent rs2 st10 fun s' ec' d' w' re' st' => ?_
    exact fin _ l_ w' (ans_row2 h2 _).symm ⟨s', xs, ec', tb, (b2, rspT rv) :: (d' ++ d), re', rh, hxs, hxv, st'.perm (perm_of_sum fun f_ => by simp <;> omega)⟩
  · have h1 : m.call.Kind ≠ 1 := by simpa using h1
    have h2 : m.call.Kind ≠ 2 := by simpa using h2
    have h3 : m.call.Kind = 3 := by simpa using h3
    refine ⟨(ansAt m p).cnt, st10.cell 1 rfl rfl, rv.Count, st10.cell 0 rfl rfl, st10.writable 1 rfl (by show 4 + 1 ≤ 5; omega), fun w19 hw19 => ?_⟩
    have st19 : St w0 ((b2, rspT rv) :: (b1, anT ⟨0, m.mark, (ansAt m p).ok, s, IntKind.i64.wrap ((ansAt m p).cnt + rv.Count)⟩) :: (ec ++ (tb ++ (d ++ G)))) w19 := st10.put1 hw19
    exact fin _ l_ w19 (ans_row3 h3 _).symm ⟨s, xs, ec, tb, (b2, rspT rv) :: d, rs2, rh, hxs, hxv, st19.perm (perm_of_sum fun f_ => by simp <;> omega)⟩
  · have h4 : m.call.Kind = 4 := by simpa using h4
    have st10 : St w0 ((b2, rspT rv) :: (tb ++ ((b1, anT ⟨0, m.mark, (ansAt m p).ok, s, (ansAt m p).cnt⟩) :: (ec ++ (d ++ G))))) w10 := st10.perm (perm_of_sum fun f_ => by simp <;> omega)
    refine xx_ans_held (by omega) hrx.hld rh st10 fun l' tb' d' w' re' st' => ?_
    refine fin _ l' w' (ans_row4 h4 _).symm ⟨s, xs ++ os, ec, tb', (b2, rspT rv) :: (d' ++ d), rs2, re', ?_, fun o ho => ?_, st'.perm (perm_of_sum fun f_ => by simp <;> omega)⟩
    · show (ansAt m p).hs ++ hdOf os = _
      rw [hxs, List.map_append]
    · rcases List.mem_append.1 ho with ho | ho
      · exact hxv o ho
      · exact (hrx.hld.ver o ho).1
  · have h1 : m.call.Kind ≠ 1 := by simpa using h1
    have h2 : m.call.Kind ≠ 2 := by simpa using h2
    have h3 : m.call.Kind ≠ 3 := by simpa using h3
    have h4 : m.call.Kind ≠ 4 := by simpa using h4
    have := ok.kind
    omega
theorem xx_Answer {R : T_api_Answer → Slc → Int → World → Prop} (o : XkO w0.w t m cs) (st : St w0 (cs ++ fr) w)
    (k : ∀ s lh xs ec tb d w', RowC 2 s ((anR m).es.flatMap entT) ec → RowC 2 lh ((xs : List HO).flatMap hoT) tb → (anR m).hs = xs.map hoD → (∀ o ∈ xs, SrcAt w0.w o.2.2 3 (o.2.1.flatMap verT)) → St w0 (ec ++ (tb ++ (cs ++ (d ++ fr)))) w' → R ⟨0, (anR m).mark, (anR m).ok, s, (anR m).cnt⟩ lh (anE m) w') : C_towpathref17_Task_Answer t w R := by
  apply S_towpathref17_Task_Answer
  unfold F_towpathref17_Task_Answer
  intro b w1 hb hw
  have st1 : St w0 ((b, anT zAn) :: (cs ++ fr)) w1 := st.alloc hb hw
  have st1b : St w0 (cs ++ ((b, anT zAn) :: fr)) w1 := st1.perm (perm_of_sum fun f_ => by simp <;> omega)
  have nil_ : anR m = zAnR → ∀ {w' : World}, St w0 ((b, anT zAn) :: (cs ++ fr)) w' → ∃ (res : T_api_Answer), CellsAt w' b 0 (anT res) ∧ R res ⟨none, 0, 0⟩ (anE m) w' := fun e {w'} st' => by
    rw [e] at k
    exact ⟨zAn, (st'.get 0 rfl).all, k ⟨none, 0, 0⟩ ⟨none, 0, 0⟩ [] [] [] [(b, anT zAn)] w' RowC.nil RowC.nil rfl (fun o ho => (by cases ho)) (st'.perm (perm_of_sum fun f_ => by simp <;> omega))⟩
  cases m with
  | none =>
    obtain ⟨rfl, rfl⟩ := o
    refine ⟨fun _ => ⟨st1.writable 0 rfl (by decide), fun w2 hw2 => ?_⟩, fun h => (by cases h)⟩
    have st2 : St w0 ((b, anT zAn) :: ([] ++ fr)) w2 := st1.put0 hw2
    exact nil_ rfl st2
  | some m =>
    obtain ⟨bt, ht, hxs⟩ := id o
    refine ⟨fun h => (by rw [ht] at h; cases h), fun _ => ?_⟩
    refine xx_All o st1b fun w2 st2 => ?_
    have st2a : St w0 ((b, anT zAn) :: (cs ++ fr)) w2 := st2.perm (perm_of_sum fun f_ => by simp <;> omega)
    refine ⟨fun h => ?_, fun h => ?_⟩
    · have ha : ¬ allM (some m) = true := by simpa using h
      refine ⟨st2a.writable 0 rfl (by decide), fun w3 hw3 => ?_⟩
      have st3 : St w0 ((b, anT zAn) :: (cs ++ fr)) w3 := st2a.put0 hw3
      have e1 : anR (some m) = zAnR := by unfold anR; simp only; rw [if_neg ha]
      have e2 : anE (some m) = 6 := by unfold anE; simp only; rw [if_neg ha]
      have := nil_ e1 st3
      rw [e2] at this
      exact this
    have ha : allM (some m) = true := by simpa using h
    have e1 : anR (some m) = ⟨m.mark, (ansM m).ok, (ansM m).es, (ansM m).cnt, OH.insAll [] (ansM m).hs⟩ := by unfold anR; simp only; rw [if_pos ha]
    have e2 : anE (some m) = 0 := by unfold anE; simp only; rw [if_pos ha]
    rw [e1, e2] at k
    simp only at k
    clear nil_
    subst ht
    obtain ⟨all, ss, qs, ps, sc, qc, pc, ok, ho, h16, hd, hbg, rfl, rs, rq, rp⟩ := hxs
    obtain ⟨tkv, htkv⟩ : ∃ tkv, tkv = xkV m.number m.cfg m.call m.begun m.mark ss qs (m.out : Int) ps := ⟨_, rfl⟩
    have hpl := rp.len
    obtain ⟨xs, row, hxs, hat⟩ := rp
    rw [← htkv] at st2a k
    have c9 : tkv[9]? = some (iV m.mark) := by rw [htkv]; rfl
    have c5 : tkv[5]? = some (Value.int .u8 m.call.Kind) := by rw [htkv]; rfl
    have c13 : tkv[13]? = some (slV ps) := by rw [htkv]; rfl
    clear htkv
    refine ⟨rfl, m.mark, st2a.cell 1 rfl c9, fun b1 w6 hb1 hw6 => ?_⟩
    have st6 := st2a.alloc (cs := anT zAn) hb1 hw6
    refine ⟨st6.writable 0 rfl (by decide), fun w7 hw7 => ?_⟩
    have st7 : St w0 ((b1, anT ⟨0, m.mark, true, ⟨none, 0, 0⟩, 0⟩) :: (b, anT zAn) :: (((bt, tkv) :: (sc ++ (qc ++ pc))) ++ fr)) w7 := st6.put0 hw7
    obtain ⟨G, hG⟩ : ∃ G, G = (b, anT zAn) :: (((bt, tkv) :: (sc ++ (qc ++ pc))) ++ fr) := ⟨_, rfl⟩
    have hin : ∀ l w', St w0 (l ++ G) w' → SrcAt w' ps 5 (xs.flatMap fun r => rspT r.1) := fun l w' st' => by
      rw [hG] at st'
      exact row.src (l := l ++ ((b, anT zAn) :: (bt, tkv) :: (sc ++ (qc ++ fr)))) (st'.perm (perm_of_sum fun f_ => by simp <;> omega))
    have hkc : ∀ l w', St w0 (l ++ G) w' → w'.cell? ⟨bt, 5, none⟩ = some (Value.int .u8 m.call.Kind) ∧ w'.cell? ⟨bt, 13, none⟩ = some (slV ps) := fun l w' st' => by
      rw [hG] at st'
      have st' : St w0 ((bt, tkv) :: (l ++ ((b, anT zAn) :: (sc ++ (qc ++ (pc ++ fr)))))) w' := st'.perm (perm_of_sum fun f_ => by simp <;> omega)
      exact ⟨st'.cell 0 rfl c5, st'.cell 0 rfl c13⟩
    rw [← hG] at st7
    refine ⟨fun l_ i w' => ∃ p : Nat, i = (p : Int) ∧ p ≤ m.reps.length ∧ AxSt w0 m G b1 (ansAt m p) l_ w', fun _ i _ => m.reps.length - i.toNat,
      ⟨0, rfl, by omega, ⟨none, 0, 0⟩, [], [], [], [], by rw [ansAt_zero]; exact RowC.nil, RowC.nil, by rw [ansAt_zero]; rfl, fun o ho => (by cases ho), by rw [ansAt_zero]; exact st7⟩, ?_⟩
    clear st st1 st1b st2 st2a st6 st7
    rintro l_ i w8 ⟨p, rfl, hp, hst⟩
    by_cases hlt : p < m.reps.length
    · exact xx_ans_round ok hlt hxs hat hin hkc hst hpl (fun l' w' h' => ⟨⟨p + 1, rfl, by omega, h'⟩, by show _ - _ < _ - _; omega⟩)
    obtain rfl : p = m.reps.length := by omega
    unfold F_towpathref17_Task_Answer_L0
    obtain ⟨s, ys, ec, tb, d, rs2, rh, hys, hyv, st⟩ := hst
    have hcell := (hkc ((b1, anT ⟨0, m.mark, (ansAt m m.reps.length).ok, s, (ansAt m m.reps.length).cnt⟩) :: (ec ++ (tb ++ d))) w8 (st.perm (perm_of_sum fun f_ => by simp <;> omega))).2
    refine ⟨rfl, ps, hcell, fun h => absurd (of_decide_eq_true h) (by omega), fun _ => ?_⟩
    have st : St w0 ((b1, anT ⟨0, m.mark, (ansM m).ok, s, (ansM m).cnt⟩) :: (ec ++ (tb ++ (d ++ G)))) w8 := st
    rw [hG] at st
    have st : St w0 ((b1, anT ⟨0, m.mark, (ansM m).ok, s, (ansM m).cnt⟩) :: (b, anT zAn) :: (ec ++ (tb ++ (d ++ (((bt, tkv) :: (sc ++ (qc ++ pc))) ++ fr))))) w8 := st.perm (perm_of_sum fun f_ => by simp <;> omega)
    refine ⟨⟨0, m.mark, (ansM m).ok, s, (ansM m).cnt⟩, (st.get 0 rfl).all, st.writable 1 rfl (by decide), fun w23 hw23 => ?_⟩
    have st23 : St w0 ((b1, anT ⟨0, m.mark, (ansM m).ok, s, (ansM m).cnt⟩) :: (b, anT ⟨0, m.mark, (ansM m).ok, s, (ansM m).cnt⟩) :: (ec ++ (tb ++ (d ++ (((bt, tkv) :: (sc ++ (qc ++ pc))) ++ fr))))) w23 := st.put1 hw23
    refine ⟨⟨0, m.mark, (ansM m).ok, s, (ansM m).cnt⟩, (st23.get 1 rfl).all, ?_⟩
    have hys : (ansM m).hs = ys.map hoD := hys
    refine k s l_ (OO.insAll [] ys) ec tb ((b1, anT ⟨0, m.mark, (ansM m).ok, s, (ansM m).cnt⟩) :: (b, anT ⟨0, m.mark, (ansM m).ok, s, (ansM m).cnt⟩) :: d) w23 rs2 rh ?_ (fun o ho => hyv o ?_) (st23.perm (perm_of_sum fun f_ => by simp <;> omega))
    · rw [hys]; exact insAll_hoD ys
    · have hpm := Ord.insAll_perm (O := OO) ys []
      rw [List.nil_append] at hpm
      exact hpm.mem_iff.1 ho
end
end Go.Proofs.Ytpedclhflmhakaa

namespace Go.Proofs.Ytpedclhflmhakaa
open Go
set_option linter.unusedVariables false
set_option linter.unusedSimpArgs false

section
variable {w0 : Base} {w : World} {fr cs xc : List Chunk} {t x : Option Addr} {m : Option TkM}
/-- A task, and the document's. -/
def Both (w0 : Base) (t x : Option Addr) (m : Option TkM) (fr : List Chunk) (w : World) : Prop := ∃ cs xc d, TkO t m cs ∧ XkO w0.w x m xc ∧ St w0 (cs ++ (xc ++ (d ++ fr))) w
theorem Both.more {c : List Chunk} (h : Both w0 t x m (c ++ fr) w) : Both w0 t x m fr w := by
  obtain ⟨cs, xc, d, o, p, st⟩ := h
  exact ⟨cs, xc, d ++ c, o, p, st.perm (perm_of_sum fun f_ => by simp <;> omega)⟩
theorem sp_bo_asks {a : T_towpathlaw17_Ask} {xs : List Int} {es : List T_api_Entry} {os : List HO} {R : Bool → World → Prop} (h : Both w0 t x m fr w) (ha : AskIn w0.w a xs es os) (hsm : (rpOf a.Resp es os).Small)
    (k : ∀ m' w', Both w0 t x m' fr w' → R true w') : C_towpathlaw17_asks t x a w R := by
  obtain ⟨cs, xc, d, o, p, st⟩ := h
  apply S_towpathlaw17_asks
  unfold F_towpathlaw17_asks
  intro b w1 hb hw
  have st1 : St w0 ((b, askT a) :: (cs ++ (xc ++ (d ++ fr)))) w1 := st.alloc hb hw
  refine ⟨a.Kind, st1.cell 0 rfl rfl, fun h1 => ?_, fun h1 => ⟨fun h2 => ?_, fun h2 => ?_⟩⟩
  · refine ⟨a.Beyond, st1.cell 0 rfl rfl, ?_⟩
    have hxl := ha.bey.len_eq
    have hbl := ha.blen
    refine sp_TwinI (xs := xs) st1 (st1.ext.src ha.bey) (by omega) (.inr fun l w' st' => st'.ext.src ha.bey) fun tw rb w2 oi st2 => ?_
    have htl := oi.len
    have st2b : St w0 ((b, askT a) :: (cs ++ (rb ++ (xc ++ (d ++ fr))))) w2 := st2.perm (perm_of_sum fun f_ => by simp <;> omega)
    refine ⟨a.Mark, st2b.cell 0 rfl rfl, a.Least, st2b.cell 0 rfl rfl, ?_⟩
    have st2 : St w0 (cs ++ (rb ++ ((b, askT a) :: (xc ++ (d ++ fr))))) w2 := st2.perm (perm_of_sum fun f_ => by simp <;> omega)
    refine sp_tk_Begin (bey := xs) o st2 (fun B l w' hB st' => oi.row.src (l := l ++ ((b, askT a) :: (xc ++ (d ++ fr)))) (st'.perm (perm_of_sum fun f_ => by simp <;> omega))) (by omega) fun cs' d1 w3 o3 st3 => ?_
    have st3b : St w0 ((b, askT a) :: (rb ++ (cs' ++ (d1 ++ (xc ++ (d ++ fr)))))) w3 := st3.perm (perm_of_sum fun f_ => by simp <;> omega)
    refine ⟨a.Mark, st3b.cell 0 rfl rfl, a.Least, st3b.cell 0 rfl rfl, a.Beyond, st3b.cell 0 rfl rfl, ?_⟩
    have st3 : St w0 (xc ++ ((b, askT a) :: (rb ++ (cs' ++ (d1 ++ (d ++ fr)))))) w3 := st3.perm (perm_of_sum fun f_ => by simp <;> omega)
    refine xx_Begin p st3 ha.bey hbl fun xc' d2 w4 p4 st4 => ?_
    rw [beq_self_eq_true]
    refine ⟨fun _ => ?_, fun h => (by cases h)⟩
    have st4b : St w0 ((b, askT a) :: (xc' ++ (d2 ++ (rb ++ (cs' ++ (d1 ++ (d ++ fr))))))) w4 := st4.perm (perm_of_sum fun f_ => by simp <;> omega)
    refine ⟨a.Beyond, st4b.cell 0 rfl rfl, ?_⟩
    have st4 : St w0 (rb ++ ((b, askT a) :: (xc' ++ (d2 ++ (cs' ++ (d1 ++ (d ++ fr))))))) w4 := st4.perm (perm_of_sum fun f_ => by simp <;> omega)
    refine sp_LeftI oi st4 (by omega) (fun w' st' => st'.ext.src ha.bey) fun w5 st5 => ?_
    exact sp_asks_k0 oi (by omega) st5 fun rb' w6 st6 => k _ w6 ⟨cs', xc', rb' ++ ((b, askT a) :: (d2 ++ (d1 ++ d))), o3, p4, st6.perm (perm_of_sum fun f_ => by simp <;> omega)⟩
  · refine ⟨a.Resp, ⟨st1.cell 0 rfl rfl, st1.cell 0 rfl rfl, st1.cell 0 rfl rfl, st1.cell 0 rfl rfl, st1.cell 0 rfl rfl, trivial⟩, ?_⟩
    refine sp_TwinResp st1 ha.rsp fun te th ts rb tb vb w2 oe oh ps st2 b1 w3 hb1 hw3 => ?_
    have st3 := st2.alloc (cs := rspT zRsp) hb1 hw3
    refine ⟨st3.writable 0 rfl (by decide), fun w4 hw4 => ?_⟩
    have st4 : St w0 ((b1, rspT ⟨a.Resp.To, a.Resp.OK, te, th, a.Resp.Count⟩) :: (rb ++ (tb ++ (vb ++ ((b, askT a) :: (cs ++ (xc ++ (d ++ fr)))))))) w4 := st3.put0 hw4
    refine ⟨⟨a.Resp.To, a.Resp.OK, te, th, a.Resp.Count⟩, (st4.get 0 rfl).all, ?_⟩
    have hel := (oe.at_ (st2.perm (l' := rb ++ (tb ++ (vb ++ ((b, askT a) :: (cs ++ (xc ++ (d ++ fr))))))) (perm_of_sum fun f_ => by simp <;> omega))).len
    have hhl := (oh.at_ (st2.perm (l' := tb ++ (rb ++ (vb ++ ((b, askT a) :: (cs ++ (xc ++ (d ++ fr))))))) (perm_of_sum fun f_ => by simp <;> omega))).len
    have hts := ps.len
    have hrl := rowH_len hts
    have hel2 := ha.rsp.elen
    have hhl2 := ha.rsp.hlen
    have hel3 := ha.rsp.ent.1
    have hhl3 := ha.rsp.hld.src.1
    rw [flatMap_len (sz := 2) (fun _ => rfl)] at hel3 hhl3
    -- the copy as the task takes it
    obtain ⟨os2, hos2⟩ : ∃ os2 : List HO, os2 = (os.zip ts).map fun p => (p.1.1, p.1.2.1, p.2) := ⟨_, rfl⟩
    have hrow2 : (rowH os ts).flatMap hldT = os2.flatMap hoT := by
      rw [hos2, List.flatMap_map, List.flatMap_map]
    have hd2 : hdOf os2 = hdOf os := by
      rw [hos2]
      have hz : ∀ (os : List HO) (ts : List Slc), ts.length = os.length → (os.zip ts).map (fun p => ((p.1.1, p.1.2.1) : Hd)) = os.map fun o => (o.1, o.2.1) := by
        intro os
        induction os with
        | nil => intro ts _; rfl
        | cons o os ih => intro ts h; cases ts with
          | nil => simp at h
          | cons s ts => rw [List.zip_cons_cons, List.map_cons, List.map_cons, ih ts (by simpa using h)]
      show ((os.zip ts).map fun p => ((p.1.1, p.1.2.1, p.2) : HO)).map (fun o : HO => ((o.1, o.2.1) : Hd)) = os.map fun o => (o.1, o.2.1)
      rw [List.map_map]
      exact hz os ts hts
    have hsm2 : (rpOf ⟨a.Resp.To, a.Resp.OK, te, th, a.Resp.Count⟩ es os2).Small := ⟨hsm.ents, by show (hdOf os2).length ≤ _; rw [hd2]; exact hsm.held, fun h hh => hsm.vers h (by have hh : h ∈ hdOf os2 := hh; rw [hd2] at hh; exact hh)⟩
    have heq : rpOf ⟨a.Resp.To, a.Resp.OK, te, th, a.Resp.Count⟩ es os2 = rpOf a.Resp es os := by show Rp.mk _ _ (hdOf os2) _ = _; rw [hd2]
    have hrsp : ∀ (F : List Chunk) l w', F.Perm (rb ++ (tb ++ (vb ++ ((b1, rspT ⟨a.Resp.To, a.Resp.OK, te, th, a.Resp.Count⟩) :: (b, askT a) :: (xc ++ (d ++ fr)))))) → St w0 (l ++ F) w' → RspAt w' ⟨a.Resp.To, a.Resp.OK, te, th, a.Resp.Count⟩ es os2 := by
      intro F l w' hF st'
      have st' := st'.perm (hF.append_left l)
      have sa : St w0 (rb ++ (tb ++ (vb ++ (l ++ ((b1, rspT ⟨a.Resp.To, a.Resp.OK, te, th, a.Resp.Count⟩) :: (b, askT a) :: (xc ++ (d ++ fr))))))) w' := st'.perm (perm_of_sum fun f_ => by simp <;> omega)
      have sb : St w0 (tb ++ (rb ++ (vb ++ (l ++ ((b1, rspT ⟨a.Resp.To, a.Resp.OK, te, th, a.Resp.Count⟩) :: (b, askT a) :: (xc ++ (d ++ fr))))))) w' := st'.perm (perm_of_sum fun f_ => by simp <;> omega)
      refine ⟨(TwG.row (f := entT) (fun _ => rfl) oe).src sa, by show te.len * 32 ≤ _; omega, ⟨by rw [← hrow2]; exact (TwG.row (f := hldT) (fun _ => rfl) oh).src sb, fun o ho => ?_⟩, by show th.len * 40 ≤ _; omega⟩
      rw [hos2] at ho
      obtain ⟨q, hq, rfl⟩ := List.mem_map.1 ho
      obtain ⟨i, hi⟩ := List.mem_iff_getElem?.1 hq
      obtain ⟨hi1, hi2⟩ := List.getElem?_zip_eq_some.1 hi
      obtain ⟨x, c, y, rfl, hin⟩ := ps.at_ hi1 hi2
      have hin : TwG 3 verT spV q.2 q.1.2.1 c := hin
      have rv := TwG.row (f := verT) (fun _ => rfl) hin
      have sv : St w0 (c ++ (x ++ (y ++ (rb ++ (tb ++ (l ++ ((b1, rspT ⟨a.Resp.To, a.Resp.OK, te, th, a.Resp.Count⟩) :: (b, askT a) :: (xc ++ (d ++ fr))))))))) w' := st'.perm (perm_of_sum fun f_ => by simp <;> omega)
      refine ⟨rv.src sv, ?_⟩
      have hl1 := rv.len
      rw [flatMap_len (sz := 3) (fun _ => rfl)] at hl1
      have hl2 : q.1.2.1.length ≤ 1048576 := hsm.vers (q.1.1, q.1.2.1) (List.mem_map.2 ⟨q.1, List.mem_of_getElem? hi1, rfl⟩)
      show q.2.len * 32 ≤ _
      omega
    have st4 : St w0 (cs ++ ((b, askT a) :: (b1, rspT ⟨a.Resp.To, a.Resp.OK, te, th, a.Resp.Count⟩) :: (rb ++ (tb ++ (vb ++ (xc ++ (d ++ fr))))))) w4 := st4.perm (perm_of_sum fun f_ => by simp <;> omega)
    refine sp_tk_Got o st4 (fun l w' st' => hrsp _ l w' (perm_of_sum fun f_ => by simp <;> omega) st') hsm2 fun cs' d1 w5 o5 st5 => ?_
    rw [heq] at o5 ⊢
    have st5 : St w0 ((b, askT a) :: (b1, rspT ⟨a.Resp.To, a.Resp.OK, te, th, a.Resp.Count⟩) :: (rb ++ (tb ++ (vb ++ (cs' ++ (d1 ++ (xc ++ (d ++ fr)))))))) w5 := st5.perm (perm_of_sum fun f_ => by simp <;> omega)
    refine ⟨a.Resp, ⟨st5.cell 0 rfl rfl, st5.cell 0 rfl rfl, st5.cell 0 rfl rfl, st5.cell 0 rfl rfl, st5.cell 0 rfl rfl, trivial⟩, ?_⟩
    have st5 : St w0 (xc ++ ((b, askT a) :: (b1, rspT ⟨a.Resp.To, a.Resp.OK, te, th, a.Resp.Count⟩) :: (rb ++ (tb ++ (vb ++ (cs' ++ (d1 ++ (d ++ fr)))))))) w5 := st5.perm (perm_of_sum fun f_ => by simp <;> omega)
    refine xx_Got p st5 ha.rsp hsm fun xc' d2 w6 p6 st6 => ?_
    rw [beq_self_eq_true]
    have st6 : St w0 ((b, askT a) :: (b1, rspT ⟨a.Resp.To, a.Resp.OK, te, th, a.Resp.Count⟩) :: (rb ++ (tb ++ (vb ++ (xc' ++ (d2 ++ (cs' ++ (d1 ++ (d ++ fr))))))))) w6 := st6.perm (perm_of_sum fun f_ => by simp <;> omega)
    refine ⟨fun _ => ⟨⟨a.Resp.To, a.Resp.OK, te, th, a.Resp.Count⟩, (st6.get 1 rfl).all, a.Resp, ⟨st6.cell 0 rfl rfl, st6.cell 0 rfl rfl, st6.cell 0 rfl rfl, st6.cell 0 rfl rfl, st6.cell 0 rfl rfl, trivial⟩, ?_⟩, fun h => (by cases h)⟩
    have st6e : St w0 (rb ++ (tb ++ (vb ++ ((b, askT a) :: (b1, rspT ⟨a.Resp.To, a.Resp.OK, te, th, a.Resp.Count⟩) :: (xc' ++ (d2 ++ (cs' ++ (d1 ++ (d ++ fr))))))))) w6 := st6.perm (perm_of_sum fun f_ => by simp <;> omega)
    have st6h : St w0 (tb ++ (rb ++ (vb ++ ((b, askT a) :: (b1, rspT ⟨a.Resp.To, a.Resp.OK, te, th, a.Resp.Count⟩) :: (xc' ++ (d2 ++ (cs' ++ (d1 ++ (d ++ fr))))))))) w6 := st6.perm (perm_of_sum fun f_ => by simp <;> omega)
    refine sp_LeftResp (oe.at_ st6e) (oh.at_ st6h) hts (fun i h s h1 h2 => ?_) (ha.rsp.ext st6.ext) fun w7 e7 => ?_
    · obtain ⟨x, c, y, rfl, hi⟩ := ps.at_ h1 h2
      have hi : TwG 3 verT spV s h.2.1 c := hi
      exact hi.at_ (fr := x ++ (y ++ (rb ++ (tb ++ ((b, askT a) :: (b1, rspT ⟨a.Resp.To, a.Resp.OK, te, th, a.Resp.Count⟩) :: (xc' ++ (d2 ++ (cs' ++ (d1 ++ (d ++ fr))))))))) ) (st6.perm (perm_of_sum fun f_ => by simp <;> omega))
    · have st7 := st6.keep e7
      refine sp_asks_k2 (r0 := ⟨a.Resp.To, a.Resp.OK, te, th, a.Resp.Count⟩) oe oh ps (by show te.len * 32 ≤ _; omega) (by show th.len * 40 ≤ _; omega) (fun h hh => ?_) (fr := (b, askT a) :: (xc' ++ (d2 ++ (cs' ++ (d1 ++ (d ++ fr)))))) (st7.perm (perm_of_sum fun f_ => by simp <;> omega)) fun d3 w8 st8 => k _ w8 ⟨cs', xc', d3 ++ ((b, askT a) :: (d2 ++ (d1 ++ d))), o5, p6, st8.perm (perm_of_sum fun f_ => by simp <;> omega)⟩
      obtain ⟨hv, hvl⟩ := ha.rsp.hld.ver h hh
      have := hv.1
      rw [flatMap_len (sz := 3) (fun _ => rfl)] at this
      omega
  · have st1b : St w0 (cs ++ ((b, askT a) :: (xc ++ (d ++ fr)))) w1 := st1.perm (perm_of_sum fun f_ => by simp <;> omega)
    refine sp_tk_Sent o st1b fun cs' d1 w2 o2 st2 => ?_
    have st2 : St w0 (xc ++ (cs' ++ (d1 ++ ((b, askT a) :: (d ++ fr))))) w2 := st2.perm (perm_of_sum fun f_ => by simp <;> omega)
    refine xx_Sent p st2 fun xc' w3 p3 st3 => ?_
    rw [beq_self_eq_true]
    exact k _ w3 ⟨cs', xc', d1 ++ ((b, askT a) :: d), o2, p3, st3.perm (perm_of_sum fun f_ => by simp <;> omega)⟩

/-! ### What stands -/
theorem sp_SameReqT {q : Rq} {s s' : Slc} {R : Bool → World → Prop} (hs : SrcAt w s 1 (q.bey.map iV)) (hs' : SrcAt w s' 1 (q.bey.map iV)) (hl : s.len ≤ 4611686018427387904) (k : ∀ w', Ext w w' → R true w') : C_towpathlaw01_SameReq (rqT q s) (rqT q s') w R := by
  apply S_towpathlaw01_SameReq
  unfold F_towpathlaw01_SameReq
  intro b1 w1 hb1 hw1 b2 w2 hb2 hw2
  have st : St ⟨w, []⟩ [(b2, rqV q s'), (b1, rqV q s)] w2 := ((St.start w).alloc (cs := rqV q s) hb1 hw1).alloc (cs := rqV q s') hb2 hw2
  have c1 : ∀ {o : Nat} {v : Value}, (rqV q s)[o]? = some v → w2.cell? ⟨b1, o, none⟩ = some v := fun h => st.cell 1 rfl h
  have c2 : ∀ {o : Nat} {v : Value}, (rqV q s')[o]? = some v → w2.cell? ⟨b2, o, none⟩ = some v := fun h => st.cell 0 rfl h
  refine ⟨q.kind, c1 rfl, q.kind, c2 rfl, fun _ => ⟨q.from_, c1 rfl, q.from_, c2 rfl, fun _ => ⟨q.num, c1 rfl, q.num, c2 rfl, fun _ => ⟨⟨noStr, noStr, false⟩, ⟨c1 rfl, c1 rfl, c1 rfl, trivial⟩, ⟨noStr, noStr, false⟩, ⟨c2 rfl, c2 rfl, c2 rfl, trivial⟩, fun _ => ⟨q.key, c1 rfl, q.key, c2 rfl, fun _ => ⟨q.end_, c1 rfl, q.end_, c2 rfl, fun _ => ⟨s, c1 rfl, s', c2 rfl, ?_⟩, fun h => ?_⟩, fun h => ?_⟩, fun h => ?_⟩, fun h => ?_⟩, fun h => ?_⟩, fun h => ?_⟩
  · rw [map_iV] at hs hs'
    exact sp_SameIntsT (st.ext.src hs) (st.ext.src hs') hl fun w3 e3 => k w3 (st.keep e3).ext
  all_goals first | (simp at h; done) | exact absurd h (by decide)
theorem sp_SameAnswerT {A : AnR} {s s' : Slc} {R : Bool → World → Prop} (hs : SrcAt w s 2 (A.es.flatMap entT)) (hs' : SrcAt w s' 2 (A.es.flatMap entT)) (hl : s.len ≤ 4611686018427387904) (k : ∀ w', Ext w w' → R true w') :
    C_towpathlaw01_SameAnswer ⟨0, A.mark, A.ok, s, A.cnt⟩ ⟨0, A.mark, A.ok, s', A.cnt⟩ w R := by
  apply S_towpathlaw01_SameAnswer
  unfold F_towpathlaw01_SameAnswer
  intro b w1 hb hw b1 w2 hb1 hw1
  have st2 : St ⟨w, []⟩ [(b1, anT ⟨0, A.mark, A.ok, s', A.cnt⟩), (b, anT ⟨0, A.mark, A.ok, s, A.cnt⟩)] w2 := ((St.start w).alloc (cs := anT ⟨0, A.mark, A.ok, s, A.cnt⟩) hb hw).alloc (cs := anT ⟨0, A.mark, A.ok, s', A.cnt⟩) hb1 hw1
  refine ⟨0, st2.cell 1 rfl rfl, 0, st2.cell 0 rfl rfl, fun _ => ⟨A.mark, st2.cell 1 rfl rfl, A.mark, st2.cell 0 rfl rfl, fun _ => ⟨A.ok, st2.cell 1 rfl rfl, A.ok, st2.cell 0 rfl rfl, fun _ => ⟨s, st2.cell 1 rfl rfl, s', st2.cell 0 rfl rfl, ?_⟩, fun h => ?_⟩, fun h => ?_⟩, fun h => (by cases h)⟩
  · refine sp_SameEntT (st2.ext.src hs) (st2.ext.src hs') hl fun w3 e3 => ⟨fun _ => ?_, fun h => (by cases h)⟩
    have st3 := st2.keep e3
    refine ⟨A.cnt, st3.cell 1 rfl rfl, A.cnt, st3.cell 0 rfl rfl, ?_⟩
    rw [beq_self_eq_true]
    exact k w3 st3.ext
  · rw [beq_self_eq_true] at h; cases h
  · rw [beq_self_eq_true] at h; cases h
theorem anR_len {m : TkM} (ok : m.Ok) : (anR (some m)).es.length ≤ 16777216 ∧ (anR (some m)).hs.length ≤ 16777216 ∧ ∀ h ∈ (anR (some m)).hs, h.2.length ≤ 1048576 := by
  have h := ansAt_len ok (Nat.le_refl _)
  have h1 := ok.few
  have h2 := ok.reps
  unfold anR
  simp only
  split
  · refine ⟨by show (ansAt m m.reps.length).es.length ≤ _; omega, ?_, fun x hx => ?_⟩
    · show (OH.insAll [] (ansAt m m.reps.length).hs).length ≤ _
      rw [Ord.insAll_len, List.length_nil]; omega
    · have hx : x ∈ OH.insAll [] (ansAt m m.reps.length).hs := hx
      have hpm := Ord.insAll_perm (O := OH) (ansAt m m.reps.length).hs []
      rw [List.nil_append] at hpm
      exact h.2.2 x (hpm.mem_iff.1 hx)
  · exact ⟨Nat.zero_le _, Nat.zero_le _, fun h hh => (by cases hh)⟩
theorem sp_bo_stands {R : Bool → World → Prop} (h : Both w0 t x m fr w) (k : ∀ w', Both w0 t x m fr w' → R true w') : C_towpathlaw17_stands t x w R := by
  obtain ⟨cs, xc, d, o, p, st⟩ := h
  apply S_towpathlaw17_stands
  unfold F_towpathlaw17_stands
  refine sp_tk_Next o st fun s rb w1 r1 st1 b w2 hb hw2 => ?_
  have z1 := r1.len
  have st2 := st1.alloc (cs := zRq) hb hw2
  refine ⟨st2.writable 0 rfl (by decide), fun w3 hw3 => ?_⟩
  have st3 : St w0 ((b, rqV (nextM m).2.1 s) :: (rb ++ (cs ++ (xc ++ (d ++ fr))))) w3 := st2.put0 hw3
  have st3 : St w0 (xc ++ ((b, rqV (nextM m).2.1 s) :: (rb ++ (cs ++ (d ++ fr))))) w3 := st3.perm (perm_of_sum fun f_ => by simp <;> omega)
  refine xx_Next p st3 fun s' d1 w4 hsrc st4 b1 w5 hb1 hw5 => ?_
  have st5 := st4.alloc (cs := zRq) hb1 hw5
  refine ⟨st5.writable 0 rfl (by decide), fun w6 hw6 => ?_⟩
  have st6 : St w0 ((b1, rqV (nextM m).2.1 s') :: (xc ++ (d1 ++ ((b, rqV (nextM m).2.1 s) :: (rb ++ (cs ++ (d ++ fr))))))) w6 := st5.put0 hw6
  have st6 : St w0 ((b1, rqV (nextM m).2.1 s') :: (b, rqV (nextM m).2.1 s) :: (rb ++ (xc ++ (cs ++ ((d1 ++ d) ++ fr))))) w6 := st6.perm (perm_of_sum fun f_ => by simp <;> omega)
  have nbl : (nextM m).2.1.bey.length ≤ 65536 := by
    cases m with
    | none => exact Nat.zero_le _
    | some m =>
      obtain ⟨b, _, rs, ps, rc, pc, ok, _⟩ := o
      unfold nextM
      simp only
      cases hq : m.rest with
      | nil => exact Nat.zero_le _
      | cons q r => exact ok.bey q (by rw [hq]; exact List.mem_cons_self ..)
  rw [List.length_map] at z1
  refine ⟨fun h => (by simp at h), fun _ => ⟨rqT (nextM m).2.1 s, (st6.get 1 rfl).all, rqT (nextM m).2.1 s', (st6.get 0 rfl).all, ?_⟩⟩
  have st6r : St w0 (rb ++ ((b1, rqV (nextM m).2.1 s') :: (b, rqV (nextM m).2.1 s) :: (xc ++ (cs ++ ((d1 ++ d) ++ fr))))) w6 := st6.perm (perm_of_sum fun f_ => by simp <;> omega)
  have st6x : St w0 (xc ++ ((b1, rqV (nextM m).2.1 s') :: (b, rqV (nextM m).2.1 s) :: (rb ++ (cs ++ ((d1 ++ d) ++ fr))))) w6 := st6.perm (perm_of_sum fun f_ => by simp <;> omega)
  refine sp_SameReqT (r1.src st6r) (hsrc _ w6 st6x) (by omega) fun w7 e7 => ⟨fun h => (by cases h), fun _ => ?_⟩
  have st7 : St w0 (cs ++ (xc ++ (((b1, rqV (nextM m).2.1 s') :: (b, rqV (nextM m).2.1 s) :: (rb ++ (d1 ++ d))) ++ fr))) w7 := (st6.keep e7).perm (perm_of_sum fun f_ => by simp <;> omega)
  clear st st1 st2 st3 st4 st5 st6 st6r st6x hsrc
  generalize ((b1, rqV (nextM m).2.1 s') :: (b, rqV (nextM m).2.1 s) :: (rb ++ (d1 ++ d))) = D at *
  refine sp_tk_All o st7 fun w8 st8 => ?_
  have st8 : St w0 (xc ++ (cs ++ (D ++ fr))) w8 := st8.perm (perm_of_sum fun f_ => by simp <;> omega)
  refine xx_All p st8 fun w9 st9 => ?_
  rw [beq_self_eq_true]
  unfold F_towpathlaw17_stands_k0
  refine ⟨fun h => (by cases h), fun _ => ?_⟩
  have st9 : St w0 (cs ++ (xc ++ (D ++ fr))) w9 := st9.perm (perm_of_sum fun f_ => by simp <;> omega)
  refine sp_tk_Answer o st9 fun sa held ec hc d2 w10 ra hh st10 b2 w11 hb2 hw11 => ?_
  have st11 := st10.alloc (cs := anT zAn) hb2 hw11
  refine ⟨st11.writable 0 rfl (by decide), fun w12 hw12 => ?_⟩
  have st12 : St w0 ((b2, anT ⟨0, (anR m).mark, (anR m).ok, sa, (anR m).cnt⟩) :: (ec ++ (hc ++ (cs ++ (d2 ++ (xc ++ (D ++ fr))))))) w12 := st11.put0 hw12
  have st12 : St w0 (xc ++ ((b2, anT ⟨0, (anR m).mark, (anR m).ok, sa, (anR m).cnt⟩) :: (ec ++ (hc ++ (cs ++ ((d2 ++ D) ++ fr)))))) w12 := st12.perm (perm_of_sum fun f_ => by simp <;> omega)
  generalize d2 ++ D = D2 at *
  refine xx_Answer p st12 fun sx lh xs ecx tbx d3 w13 rx rh hxs hxv st13 b3 w14 hb3 hw14 => ?_
  have st14 := st13.alloc (cs := anT zAn) hb3 hw14
  refine ⟨st14.writable 0 rfl (by decide), fun w15 hw15 => ?_⟩
  have st15 : St w0 ((b3, anT ⟨0, (anR m).mark, (anR m).ok, sx, (anR m).cnt⟩) :: (ecx ++ (tbx ++ (xc ++ (d3 ++ ((b2, anT ⟨0, (anR m).mark, (anR m).ok, sa, (anR m).cnt⟩) :: (ec ++ (hc ++ (cs ++ (D2 ++ fr)))))))))) w15 := st14.put0 hw15
  have st15 : St w0 ((b3, anT ⟨0, (anR m).mark, (anR m).ok, sx, (anR m).cnt⟩) :: (b2, anT ⟨0, (anR m).mark, (anR m).ok, sa, (anR m).cnt⟩) :: (cs ++ (xc ++ (ecx ++ (tbx ++ (ec ++ (hc ++ ((d3 ++ D2) ++ fr)))))))) w15 := st15.perm (perm_of_sum fun f_ => by simp <;> omega)
  generalize d3 ++ D2 = D3 at *
  have st15t : St w0 (cs ++ ((b3, anT ⟨0, (anR m).mark, (anR m).ok, sx, (anR m).cnt⟩) :: (b2, anT ⟨0, (anR m).mark, (anR m).ok, sa, (anR m).cnt⟩) :: (xc ++ (ecx ++ (tbx ++ (ec ++ (hc ++ (D3 ++ fr)))))))) w15 := st15.perm (perm_of_sum fun f_ => by simp <;> omega)
  have st15x : St w0 (xc ++ ((b3, anT ⟨0, (anR m).mark, (anR m).ok, sx, (anR m).cnt⟩) :: (b2, anT ⟨0, (anR m).mark, (anR m).ok, sa, (anR m).cnt⟩) :: (cs ++ (ecx ++ (tbx ++ (ec ++ (hc ++ (D3 ++ fr)))))))) w15 := st15.perm (perm_of_sum fun f_ => by simp <;> omega)
  refine sp_tk_Mark o st15t (xx_Mark p st15x ?_)
  rw [beq_self_eq_true]
  refine ⟨fun _ => ⟨_, (st15.get 1 rfl).all, _, (st15.get 0 rfl).all, ?_⟩, fun h => (by cases h)⟩
  have hlens : (anR m).es.length ≤ 16777216 ∧ (anR m).hs.length ≤ 16777216 ∧ ∀ h ∈ (anR m).hs, h.2.length ≤ 1048576 := by
    cases m with
    | none => exact ⟨Nat.zero_le _, Nat.zero_le _, fun h hh => (by cases hh)⟩
    | some m =>
      obtain ⟨b, _, rs, ps, rc, pc, ok, _⟩ := o
      exact anR_len ok
  have hsl := ra.len
  rw [flatMap_len (sz := 2) (fun _ => rfl)] at hsl
  refine sp_SameAnswerT (A := anR m) (ra.src (l := (b3, anT ⟨0, (anR m).mark, (anR m).ok, sx, (anR m).cnt⟩) :: (b2, anT ⟨0, (anR m).mark, (anR m).ok, sa, (anR m).cnt⟩) :: (cs ++ (xc ++ (ecx ++ (tbx ++ (hc ++ (D3 ++ fr))))))) (st15.perm (perm_of_sum fun f_ => by simp <;> omega))) (rx.src (l := (b3, anT ⟨0, (anR m).mark, (anR m).ok, sx, (anR m).cnt⟩) :: (b2, anT ⟨0, (anR m).mark, (anR m).ok, sa, (anR m).cnt⟩) :: (cs ++ (xc ++ (tbx ++ (ec ++ (hc ++ (D3 ++ fr))))))) (st15.perm (perm_of_sum fun f_ => by simp <;> omega))) (by omega) fun w16 e16 => ⟨fun _ => ?_, fun h => (by cases h)⟩
  have st16 := st15.keep e16
  obtain ⟨vsl, tb, vb, rfl, rt, pv⟩ := hh
  have hvl := pv.len
  have e1 : ((anR m).hs.zip vsl).flatMap (fun p => hdV p.1.1 p.2) = (((anR m).hs.zip vsl).map fun p => (p.1.1, p.2)).flatMap hldT := by rw [List.flatMap_map]
  have e2 : xs.flatMap hoT = (xs.map fun o => (o.1, o.2.2)).flatMap hldT := by rw [List.flatMap_map]
  rw [e1] at rt
  rw [e2] at rh
  have hhl := rt.len
  rw [flatMap_len (sz := 2) (fun _ => rfl), List.length_map, List.length_zip] at hhl
  have hxl : xs.length = (anR m).hs.length := by rw [hxs, List.length_map]
  refine sp_SameHldsT (rt.src (l := (b3, anT ⟨0, (anR m).mark, (anR m).ok, sx, (anR m).cnt⟩) :: (b2, anT ⟨0, (anR m).mark, (anR m).ok, sa, (anR m).cnt⟩) :: (cs ++ (xc ++ (ecx ++ (tbx ++ (ec ++ (vb ++ (D3 ++ fr)))))))) (st16.perm (perm_of_sum fun f_ => by simp <;> omega))) (rh.src (l := (b3, anT ⟨0, (anR m).mark, (anR m).ok, sx, (anR m).cnt⟩) :: (b2, anT ⟨0, (anR m).mark, (anR m).ok, sa, (anR m).cnt⟩) :: (cs ++ (xc ++ (ecx ++ (ec ++ ((tb ++ vb) ++ (D3 ++ fr))))))) (st16.perm (perm_of_sum fun f_ => by simp <;> omega))) (by omega) (by rw [List.length_map, List.length_map, List.length_zip]; omega) (fun i y z hy hz => ?_) fun w17 e17 => ?_
  · rw [List.getElem?_map, Option.map_eq_some_iff] at hy hz
    obtain ⟨⟨q1, q2⟩, hq, rfl⟩ := hy
    obtain ⟨o2, ho2, rfl⟩ := hz
    obtain ⟨hq1, hq2⟩ := List.getElem?_zip_eq_some.1 hq
    simp only at hq1 hq2
    have hq3 : (anR m).hs[i]? = some (hoD o2) := by rw [hxs, List.getElem?_map, ho2]; rfl
    obtain rfl : q1 = hoD o2 := by rw [hq1] at hq3; exact Option.some.inj hq3
    obtain ⟨x, c, z, rfl, hi⟩ := pv.at_ hq1 hq2
    have hi : RowC 3 q2 (o2.2.1.flatMap verV) c := hi
    have hvs : o2.2.1.length ≤ 1048576 := hlens.2.2 (hoD o2) (List.mem_of_getElem? hq1)
    have hvl2 := hi.len
    rw [flatMap_len (sz := 3) (fun _ => rfl)] at hvl2
    refine ⟨rfl, by show q2.len ≤ _; omega, o2.2.1, ?_, st16.ext.src (hxv o2 (List.mem_of_getElem? ho2))⟩
    exact hi.src (l := (b3, anT ⟨0, (anR m).mark, (anR m).ok, sx, (anR m).cnt⟩) :: (b2, anT ⟨0, (anR m).mark, (anR m).ok, sa, (anR m).cnt⟩) :: (cs ++ (xc ++ (ecx ++ (tbx ++ (ec ++ (tb ++ (x ++ (z ++ (D3 ++ fr)))))))))) (st16.perm (perm_of_sum fun f_ => by simp <;> omega))
  · have st17 := st16.keep e17
    have e : ((true && ((markM m).1 == (markM m).1)) && ((markM m).2 == (markM m).2)) = true := by simp
    rw [e]
    exact k w17 ⟨cs, xc, (b3, anT ⟨0, (anR m).mark, (anR m).ok, sx, (anR m).cnt⟩) :: (b2, anT ⟨0, (anR m).mark, (anR m).ok, sa, (anR m).cnt⟩) :: (ecx ++ (tbx ++ (ec ++ ((tb ++ vb) ++ D3)))), o, p, st17.perm (perm_of_sum fun f_ => by simp <;> omega)⟩
end
end Go.Proofs.Ytpedclhflmhakaa

namespace Go.Proofs.Ytpedclhflmhakaa
open Go
set_option linter.unusedVariables false
set_option linter.unusedSimpArgs false

section
variable {w : World}
theorem held_listU : ∀ {hs : List T_api_Held}, (∀ x ∈ hs, Ok_T_api_Held w x) → ∃ os : List HO, os.length = hs.length ∧ (os.flatMap hoT = hs.flatMap fun x => hldT (x.Key, x.Versions)) ∧ ∀ o ∈ os, SrcAt w o.2.2 3 (o.2.1.flatMap verT) ∧ o.2.2.len * 32 ≤ 140737488351232 ∧ o.2.1.length ≤ 1048576
  | [], _ => ⟨[], rfl, rfl, fun o h => (by cases h)⟩
  | x :: hs, h => by
    obtain ⟨os, h0, h1, h2⟩ := held_listU (hs := hs) fun y hy => h y (List.mem_cons_of_mem _ hy)
    obtain ⟨hx1, hx2⟩ := (h x (List.mem_cons_self ..)).2
    obtain ⟨vs, g1, g2, g3, g4, g5⟩ := ok_list (f := verT) (Pr := Ok_T_api_Version w) hx1 (fun es ⟨e, he, hb⟩ => ⟨e, he, hb⟩) (fun _ => rfl) (by decide)
    refine ⟨(x.Key, vs, x.Versions) :: os, by rw [List.length_cons, List.length_cons, h0], by rw [List.flatMap_cons, List.flatMap_cons, h1], fun o ho => ?_⟩
    rcases List.mem_cons.1 ho with rfl | ho
    · exact ⟨g1, by show x.Versions.len * 32 ≤ _; omega, by show vs.length ≤ _; omega⟩
    · exact h2 o ho
theorem ask_inU {a : T_towpathlaw17_Ask} (h : Ok_T_towpathlaw17_Ask w a) : ∃ xs es os, AskIn w a xs es os ∧ (rpOf a.Resp es os).Small := by
  obtain ⟨_, _, _, hb, _, _, he, hh, _⟩ := h
  obtain ⟨xs, b1, b2, b3, b4, b5⟩ := ok_list (f := fun x : Int => [iV x]) (Pr := fun e_ : Int => -9223372036854775808 ≤ e_ ∧ e_ ≤ 9223372036854775807) hb.1 (fun es ⟨e, he, hb⟩ => ⟨e, he, hb⟩) (fun _ => rfl) (by decide)
  obtain ⟨es, e1, e2, e3, e4, e5⟩ := ok_list (f := entT) (Pr := Ok_T_api_Entry w) he.1 (fun es ⟨e, he, hb⟩ => ⟨e, he, hb⟩) (fun _ => rfl) (by decide)
  obtain ⟨hs, h1, h2, h3, h4, h5⟩ := ok_list (f := fun x : T_api_Held => hldT (x.Key, x.Versions)) (Pr := Ok_T_api_Held w) hh.1 (fun es ⟨e, he, hb⟩ => ⟨e, he, hb⟩) (fun _ => rfl) (by decide)
  obtain ⟨os, g0, g1, g2⟩ := held_listU h5
  have c1 := he.2
  have c2 := hh.2
  refine ⟨xs, es, os, ⟨by rw [map_iV]; exact b1, by omega, ⟨e1, by omega, ⟨by rw [g1]; exact h1, fun o ho => ⟨(g2 o ho).1, (g2 o ho).2.1⟩⟩, by omega⟩⟩, ?_, ?_, fun x hx => ?_⟩
  · show es.length ≤ _; omega
  · show (hdOf os).length ≤ _; rw [List.length_map]; omega
  · obtain ⟨o, ho, rfl⟩ := List.mem_map.1 hx
    exact (g2 o ho).2.2
end

theorem law_CallPlays (x0 : T_towpathlaw17_Made) (x1 : Slc) (w : World) (h0 : Ok_T_towpathlaw17_Made w x0) (h1 : OkSlU w x1 9 120 (fun es => ∃ e_ : T_towpathlaw17_Ask, es = askT e_ ∧ (Ok_T_towpathlaw17_Ask w e_))) : C_towpathlaw17_CallPlays x0 x1 w (fun b w' => b = true ∧ RowKit.Below w.heap.size w w') := by
  obtain ⟨asks, hs, hcl, hcap, hlen, hok⟩ := ok_list (f := askT) (Pr := Ok_T_towpathlaw17_Ask w) h1.1 (fun es ⟨e, he, hb⟩ => ⟨e, he, hb⟩) (fun _ => rfl) (by decide)
  apply S_towpathlaw17_CallPlays
  unfold F_towpathlaw17_CallPlays
  intro b w1 hb hw
  obtain ⟨md, hmd⟩ : ∃ md : List Value, md = [Value.int .i64 x0.Number, Value.int .i64 x0.Config.Lanes, Value.int .i64 x0.Config.Shards, Value.int .i64 x0.Config.Window, Value.int .i64 x0.Config.Queue, Value.int .u8 x0.Call.Kind, Value.string x0.Call.Key, Value.string x0.Call.End] := ⟨_, rfl⟩
  have st1 : St ⟨w, []⟩ [(b, md)] w1 := by rw [hmd]; exact (St.start w).alloc hb hw
  have rd : ∀ {l : List Chunk} {w' : World}, St ⟨w, []⟩ (l ++ [(b, md)]) w' → w'.cell? ⟨b, 0, none⟩ = some (Value.int .i64 x0.Number) ∧ CellsAt w' b 1 (cfgV x0.Config) ∧ CellsAt w' b 5 (callV x0.Call) := fun {l w'} st' => by
    have st' : St ⟨w, []⟩ ((b, md) :: l) w' := st'.perm (perm_of_sum fun f_ => by simp <;> omega)
    rw [hmd] at st'
    exact ⟨st'.cell 0 rfl rfl, ⟨st'.cell 0 rfl rfl, st'.cell 0 rfl rfl, st'.cell 0 rfl rfl, st'.cell 0 rfl rfl, trivial⟩, ⟨st'.cell 0 rfl rfl, st'.cell 0 rfl rfl, st'.cell 0 rfl rfl, trivial⟩⟩
  obtain ⟨r1, r2, r3⟩ := rd (l := []) st1
  refine ⟨x0.Number, r1, x0.Config, r2, x0.Call, r3, ?_⟩
  -- what follows
  have go : ∀ {t x : Option Addr} {m : Option TkM} {w' : World}, Both ⟨w, []⟩ t x m [] w' → F_towpathlaw17_CallPlays_k0 x1 (fun b w' => b = true ∧ RowKit.Below w.heap.size w w') t x false w' := by
    intro t x m w' hB
    unfold F_towpathlaw17_CallPlays_k0
    refine ⟨fun h => (by cases h), fun _ => ⟨fun i w' => ∃ (p : Nat) (m : Option TkM), i = (p : Int) ∧ p ≤ x1.len ∧ Both ⟨w, []⟩ t x m [] w', fun i _ => x1.len - i.toNat, ⟨0, m, rfl, by omega, hB⟩, ?_⟩⟩
    rintro i w2 ⟨p, m, rfl, hp, hB⟩
    unfold F_towpathlaw17_CallPlays_L1
    refine ⟨fun hi => ?_, fun _ => ?_⟩
    · simp only [Bool.and_eq_true, decide_eq_true_eq] at hi
      have wp : IntKind.i64.wrap ((p : Int) + 1) = ((p + 1 : Nat) : Int) := by rw [i64_in _ (by omega) (by omega)]; omega
      have hx := hB
      obtain ⟨cs, xc, d, _, _, st⟩ := hx
      obtain ⟨a, y, hy, hc⟩ := SrcAt.getN (st.ext.src hs) (fun _ => rfl) (by decide) (i := (p : Int)) (by omega) hi.1
      rw [Int.toNat_natCast] at hy
      obtain ⟨xs, es, os, hin, hsm⟩ := ask_inU (hok y (List.mem_of_getElem? hy))
      refine ⟨a, by omega, hi.1, y, hc, ?_⟩
      refine sp_bo_asks hB hin hsm fun m2 w3 hB2 => ⟨fun h => (by cases h), fun _ => ?_⟩
      refine sp_bo_stands hB2 fun w4 hB3 => ?_
      unfold F_towpathlaw17_CallPlays_k2
      refine ⟨fun h => (by cases h), fun _ => ?_⟩
      rw [wp]
      exact ⟨⟨p + 1, m2, rfl, by omega, hB3⟩, by show _ - _ < _ - _; omega⟩
    · refine sp_bo_stands hB fun w4 hB3 => ⟨fun _ => sp_lives fun w7 e7 => ?_, fun h => (by cases h)⟩
      obtain ⟨cs, xc, d, _, _, st⟩ := hB3
      exact ⟨rfl, (st.keep e7).below⟩
  refine sp_call_New st1 (fun hne w2 st2 => ?_) (fun he b2 cs w2 o2 st2 => ?_)
  · obtain ⟨r1, r2, r3⟩ := rd (l := []) st2
    refine ⟨x0.Number, r1, x0.Config, r2, x0.Call, r3, ?_⟩
    refine xx_New st2 (fun _ w3 st3 => ⟨fun h => (by simp at h), fun _ => ?_⟩) (fun he => absurd he hne)
    exact go (m := none) ⟨[], [], [(b, md)], .inl ⟨rfl, rfl⟩, ⟨rfl, rfl⟩, by simpa using st3⟩
  · obtain ⟨r1, r2, r3⟩ := rd st2
    refine ⟨x0.Number, r1, x0.Config, r2, x0.Call, r3, ?_⟩
    refine xx_New st2 (fun hne => absurd he hne) (fun _ b3 xc w3 o3 st3 => ⟨fun h => (by simp at h), fun _ => ?_⟩)
    exact go (m := some (newT x0.Number x0.Config x0.Call)) ⟨cs, xc, [(b, md)], o2, o3, st3.perm (perm_of_sum fun f_ => by simp <;> omega)⟩
end Go.Proofs.Ytpedclhflmhakaa

