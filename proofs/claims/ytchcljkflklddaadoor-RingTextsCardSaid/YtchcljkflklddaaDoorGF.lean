/- WRITTEN BY PROGRAM (dec.py): for each Go function the clean formula F, the call's contract C, and the proof S that F gives C. -/
import Derived.Test.YtchcljkflklddaaDoorRows
import Derived.Test.YtchcljkflklddaaDoorCore
namespace Go.Proofs.YtchcljkflklddaaDoor
open Go
set_option linter.unusedVariables false


abbrev ty_int : TypeId := 3

abbrev ty_bool : TypeId := 4

abbrev ty_string : TypeId := 9

abbrev ty_sl_int : TypeId := 22

abbrev ty_ptr_ring_Ring_string : TypeId := 59

abbrev ty_sl_string : TypeId := 82

abbrev ty_ring_Ring_string : TypeId := 84

abbrev ty_towpathref10_Ring : TypeId := 86

abbrev ty_24_uint8 : TypeId := 157

structure T_towpathlaw10_Op where
  Kind : Int
  X : Int

def C_towpathlaw10_RingTexts (capacity : Int) (script : Slc) (w : World) (R : Bool → World → Prop) : Prop :=
  Calls Tryd.prog 4 #[Value.int .u8 capacity, Value.slice script.ptr script.len script.cap] w (fun e w' => ∃ (r0 : Bool), e = .returned (Value.bool r0) ∧ R r0 w')

def C_ring_New_string (capacity : Int) (w : World) (R : Option Addr → Int → World → Prop) : Prop :=
  Calls Tryd.prog 20 #[Value.int .i64 capacity] w (fun e w' => ∃ (r0 : Option Addr) (r1 : Int), e = .returned (Value.tuple #[Value.pointer r0, Value.int .i64 r1]) ∧ R r0 r1 w')

def C_towpathref10_New (capacity : Int) (w : World) (R : Option Addr → Int → World → Prop) : Prop :=
  Calls Tryd.prog 21 #[Value.int .i64 capacity] w (fun e w' => ∃ (r0 : Option Addr) (r1 : Int), e = .returned (Value.tuple #[Value.pointer r0, Value.int .i64 r1]) ∧ R r0 r1 w')

def C_ring_Ring_string_Take (r : Option Addr) (w : World) (R : ByteArray → Bool → World → Prop) : Prop :=
  Calls Tryd.prog 22 #[Value.pointer r] w (fun e w' => ∃ (r0 : ByteArray) (r1 : Bool), e = .returned (Value.tuple #[Value.string r0, Value.bool r1]) ∧ R r0 r1 w')

def C_towpathref10_Ring_Take (r : Option Addr) (w : World) (R : Int → Bool → World → Prop) : Prop :=
  Calls Tryd.prog 23 #[Value.pointer r] w (fun e w' => ∃ (r0 : Int) (r1 : Bool), e = .returned (Value.tuple #[Value.int .i64 r0, Value.bool r1]) ∧ R r0 r1 w')

def C_strconv_Itoa (i : Int) (w : World) (R : ByteArray → World → Prop) : Prop :=
  Calls Tryd.prog 24 #[Value.int .i64 i] w (fun e w' => ∃ (r0 : ByteArray), e = .returned (Value.string r0) ∧ R r0 w')

def C_ring_Ring_string_Put (r : Option Addr) (x : ByteArray) (w : World) (R : Bool → World → Prop) : Prop :=
  Calls Tryd.prog 25 #[Value.pointer r, Value.string x] w (fun e w' => ∃ (r0 : Bool), e = .returned (Value.bool r0) ∧ R r0 w')

def C_towpathref10_Ring_Put (r : Option Addr) (x : Int) (w : World) (R : Bool → World → Prop) : Prop :=
  Calls Tryd.prog 26 #[Value.pointer r, Value.int .i64 x] w (fun e w' => ∃ (r0 : Bool), e = .returned (Value.bool r0) ∧ R r0 w')

def C_towpathref10_Ring_All (r : Option Addr) (w : World) (R : Slc → World → Prop) : Prop :=
  Calls Tryd.prog 27 #[Value.pointer r] w (fun e w' => ∃ (r0 : Slc), e = .returned (Value.slice r0.ptr r0.len r0.cap) ∧ R r0 w')

def C_ring_Ring_string_All (r : Option Addr) (w : World) (R : Value → World → Prop) : Prop :=
  Calls Tryd.prog 28 #[Value.pointer r] w (fun e w' => ∃ (r0 : Value), e = .returned (r0) ∧ R r0 w')

def C_ring_Ring_string_First (r : Option Addr) (w : World) (R : ByteArray → Bool → World → Prop) : Prop :=
  Calls Tryd.prog 68 #[Value.pointer r] w (fun e w' => ∃ (r0 : ByteArray) (r1 : Bool), e = .returned (Value.tuple #[Value.string r0, Value.bool r1]) ∧ R r0 r1 w')

def C_towpathref10_Ring_First (r : Option Addr) (w : World) (R : Int → Bool → World → Prop) : Prop :=
  Calls Tryd.prog 69 #[Value.pointer r] w (fun e w' => ∃ (r0 : Int) (r1 : Bool), e = .returned (Value.tuple #[Value.int .i64 r0, Value.bool r1]) ∧ R r0 r1 w')

def C_internal_strconv_Itoa (i : Int) (w : World) (R : ByteArray → World → Prop) : Prop :=
  Calls Tryd.prog 70 #[Value.int .i64 i] w (fun e w' => ∃ (r0 : ByteArray), e = .returned (Value.string r0) ∧ R r0 w')

def C_ring_Ring_string_Room (r : Option Addr) (w : World) (R : Int → World → Prop) : Prop :=
  Calls Tryd.prog 71 #[Value.pointer r] w (fun e w' => ∃ (r0 : Int), e = .returned (Value.int .i64 r0) ∧ R r0 w')

def C_ring_Ring_string_All_1 (yield : Value) (t1 : Option Addr) (w : World) (R : World → Prop) : Prop :=
  Calls Tryd.prog 72 #[yield, Value.pointer t1] w (fun e w' => e = .returned (Value.tuple #[]) ∧ R w')

def C_ring_Ring_string_things (r : Option Addr) (w : World) (R : Slc → World → Prop) : Prop :=
  Calls Tryd.prog 73 #[Value.pointer r] w (fun e w' => ∃ (r0 : Slc), e = .returned (Value.slice r0.ptr r0.len r0.cap) ∧ R r0 w')

def C_ring_Ring_string_Len (r : Option Addr) (w : World) (R : Int → World → Prop) : Prop :=
  Calls Tryd.prog 96 #[Value.pointer r] w (fun e w' => ∃ (r0 : Int), e = .returned (Value.int .i64 r0) ∧ R r0 w')

def C_internal_strconv_FormatInt (i : Int) (base : Int) (w : World) (R : ByteArray → World → Prop) : Prop :=
  Calls Tryd.prog 97 #[Value.int .i64 i, Value.int .i64 base] w (fun e w' => ∃ (r0 : ByteArray), e = .returned (Value.string r0) ∧ R r0 w')

def C_ring_Ring_string_gone (r : Option Addr) (w : World) (R : Bool → World → Prop) : Prop :=
  Calls Tryd.prog 98 #[Value.pointer r] w (fun e w' => ∃ (r0 : Bool), e = .returned (Value.bool r0) ∧ R r0 w')

def C_slices_Concat_string_string (slices : Slc) (w : World) (R : Slc → World → Prop) : Prop :=
  Calls Tryd.prog 99 #[Value.slice slices.ptr slices.len slices.cap] w (fun e w' => ∃ (r0 : Slc), e = .returned (Value.slice r0.ptr r0.len r0.cap) ∧ R r0 w')

def C_slices_Grow_string_string (s : Slc) (n_ : Int) (w : World) (R : Slc → World → Prop) : Prop :=
  Calls Tryd.prog 105 #[Value.slice s.ptr s.len s.cap, Value.int .i64 n_] w (fun e w' => ∃ (r0 : Slc), e = .returned (Value.slice r0.ptr r0.len r0.cap) ∧ R r0 w')

def F_towpathlaw10_RingTexts_k1 (i : Int) (again_ : Int → World → Prop) (w7 : World) : Prop :=
  again_ (IntKind.i64.wrap (i + 1)) w7

def F_towpathlaw10_RingTexts_k2 (R : Bool → World → Prop) (b_ : Nat) (i : Int) (again_ : Int → World → Prop) (t81 : Bool) (w10 : World) : Prop :=
  (t81 = true → (Writable w10 b_ 0 1 ∧ (∀ w11, w11 = World.puts b_ 0 [Value.bool false] w10 → (∃ (res2 : Bool), CellsAt w11 b_ 0 [Value.bool res2] ∧ (R res2 w11))))) ∧
  (t81 = false → (F_towpathlaw10_RingTexts_k1 i again_ w10))

def F_towpathlaw10_RingTexts_k4 (b_ : Nat) (b_2 : Nat) (D : Nat) (rec_ : Recs) (Kb : Bool → World → Prop) (t115 : Bool) (w27 : World) : Prop :=
  (t115 = true → (Writable w27 b_ 0 1 ∧ (∀ w28, w28 = World.puts b_ 0 [Value.bool false] w27 → (w28.heap[D + 1]? = some (.loop (rec_ .busy none)) ∧ (∀ w29, w29 = w28.putObj (D + 1) (.loop (rec_ .done (some .ret))) → Kb false w29))))) ∧
  (t115 = false → (∃ (v116 : Int), w27.cell? ⟨b_2, 0, none⟩ = some (Value.int .i64 v116) ∧ (Writable w27 b_2 0 1 ∧ (∀ w30, w30 = World.puts b_2 0 [Value.int .i64 (IntKind.i64.wrap (v116 + 1))] w27 → (w30.heap[D + 1]? = some (.loop (rec_ .busy none)) ∧ (∀ w31, w31 = w30.putObj (D + 1) (.loop (rec_ .ready none)) → Kb true w31))))))

def F_towpathlaw10_RingTexts_B3 (b_ : Nat) (b_1 : Nat) (b_2 : Nat) (rec_ : Recs) (D : Nat) (Kb : Bool → World → Prop) (t102 : ByteArray) (w26 : World) : Prop :=
  ∃ (v103 : Int), w26.cell? ⟨b_2, 0, none⟩ = some (Value.int .i64 v103) ∧ (∃ (v104 : Slc), w26.cell? ⟨b_1, 0, none⟩ = some (Value.slice v104.ptr v104.len v104.cap) ∧ (((decide (v103 ≥ ((v104.len : Nat) : Int))) = true → (F_towpathlaw10_RingTexts_k4 b_ b_2 D rec_ Kb true w26)) ∧
  ((decide (v103 ≥ ((v104.len : Nat) : Int))) = false → (∃ (v109 : Slc), w26.cell? ⟨b_1, 0, none⟩ = some (Value.slice v109.ptr v109.len v109.cap) ∧ (∃ (v110 : Int), w26.cell? ⟨b_2, 0, none⟩ = some (Value.int .i64 v110) ∧ (IsAt v109.ptr ∧ (0 ≤ v110 ∧ v110 < ((v109.len : Nat) : Int) ∧ (∃ (v112 : Int), w26.cell? ⟨(pblk v109.ptr), (poff v109.ptr) + v110.toNat, none⟩ = some (Value.int .i64 v112) ∧ (C_strconv_Itoa v112 w26 (fun (v113 : ByteArray) w32 => F_towpathlaw10_RingTexts_k4 b_ b_2 D rec_ Kb (!(t102.toList == v113.toList)) w32))))))))))

def F_towpathlaw10_RingTexts_A5 (R : Bool → World → Prop) (b_ : Nat) (b_1 : Nat) (b_2 : Nat) (D : Nat) (w34 : World) : Prop :=
  ∃ (v118 : Int), w34.cell? ⟨b_2, 0, none⟩ = some (Value.int .i64 v118) ∧ (∃ (v119 : Slc), w34.cell? ⟨b_1, 0, none⟩ = some (Value.slice v119.ptr v119.len v119.cap) ∧ (Writable w34 b_ 0 1 ∧ (∀ w37, w37 = World.puts b_ 0 [Value.bool (v118 == ((v119.len : Nat) : Int))] w34 → (w37.heap[D]? = some (.deferred (some [])) ∧ (∀ w38, w38 = w37.putObj D (.deferred none) → (∃ (res4 : Bool), CellsAt w38 b_ 0 [Value.bool res4] ∧ (R res4 w38)))))))

def F_towpathlaw10_RingTexts_L0 (script : Slc) (R : Bool → World → Prop) (b_ : Nat) (r : Option Addr) (x : Option Addr) (again_ : Int → World → Prop) (i : Int) (w6 : World) : Prop :=
  ((decide (i < ((script.len : Nat) : Int))) = true → (IsAt script.ptr ∧ (0 ≤ i ∧ i < ((script.len : Nat) : Int) ∧ (∃ (v50 : Int), w6.cell? ⟨(pblk script.ptr), (poff script.ptr) + i.toNat * 2, none⟩ = some (Value.int .u8 v50) ∧ (((v50 == 2) = true → (C_ring_Ring_string_Take r w6 (fun (s : ByteArray) (ok : Bool) w8 => C_towpathref10_Ring_Take x w8 (fun (n_ : Int) (is : Bool) w9 => ((!(ok == is)) = true → (F_towpathlaw10_RingTexts_k2 R b_ i again_ true w9)) ∧
  ((!(ok == is)) = false → ((ok = true → (C_strconv_Itoa n_ w9 (fun (v70 : ByteArray) w12 => F_towpathlaw10_RingTexts_k2 R b_ i again_ ((!(s.toList == v70.toList)) || ((!ok) && (!(s.toList == ByteArray.empty.toList)))) w12))) ∧
  (ok = false → (F_towpathlaw10_RingTexts_k2 R b_ i again_ ((!ok) && (!(s.toList == ByteArray.empty.toList))) w9)))))))) ∧
  ((v50 == 2) = false → (∀ w13, (∃ k, w13 = w6.drewN k) → (IsAt script.ptr ∧ (0 ≤ i ∧ i < ((script.len : Nat) : Int) ∧ (∃ (v87 : Int), w13.cell? ⟨(pblk script.ptr), ((poff script.ptr) + i.toNat * 2) + 1, none⟩ = some (Value.int .i64 v87) ∧ (IsAt script.ptr ∧ (0 ≤ i ∧ i < ((script.len : Nat) : Int) ∧ (∃ (v95 : Int), w13.cell? ⟨(pblk script.ptr), ((poff script.ptr) + i.toNat * 2) + 1, none⟩ = some (Value.int .i64 v95) ∧ (C_strconv_Itoa v87 w13 (fun (v88 : ByteArray) w14 => w14.cell? ⟨(pblk script.ptr), ((poff script.ptr) + i.toNat * 2) + 1, none⟩ = some (Value.int .i64 v95) ∧ (C_ring_Ring_string_Put r v88 w14 (fun (v89 : Bool) w15 => w15.cell? ⟨(pblk script.ptr), ((poff script.ptr) + i.toNat * 2) + 1, none⟩ = some (Value.int .i64 v95) ∧ (C_towpathref10_Ring_Put x v95 w15 (fun (v96 : Bool) w16 => (((!(v89 == v96)) = true → (Writable w16 b_ 0 1 ∧ (∀ w17, w17 = World.puts b_ 0 [Value.bool false] w16 → (∃ (res3 : Bool), CellsAt w17 b_ 0 [Value.bool res3] ∧ (R res3 w17))))) ∧
  ((!(v89 == v96)) = false → (F_towpathlaw10_RingTexts_k1 i again_ w16)))))))))))))))))))))) ∧
  ((decide (i < ((script.len : Nat) : Int))) = false → (C_towpathref10_Ring_All x w6 (fun (v99 : Slc) w18 => ∀ b_1 w19, b_1 = w18.heap.size → w19 = w18.alloc (Obj.cells ([Value.slice none 0 0]).toArray ty_sl_int (0, 0)) → (Writable w19 b_1 0 1 ∧ (∀ w20, w20 = World.puts b_1 0 [Value.slice v99.ptr v99.len v99.cap] w19 → (∀ b_2 w21, b_2 = w20.heap.size → w21 = w20.alloc (Obj.cells ([Value.int .i64 0]).toArray ty_int (0, 0)) → (Writable w21 b_2 0 1 ∧ (∀ w22, w22 = World.puts b_2 0 [Value.int .i64 0] w21 → (C_ring_Ring_string_All r w22 (fun (v101 : Value) w23 => ∀ (rec_ : Recs) (D : Nat) w24, D = w23.heap.size → w24 = (w23.alloc (.deferred (some []))).alloc (.loop (rec_ .ready none)) → (∀ (t102 : ByteArray) (w25 : World) (Kb : Bool → World → Prop), w25.heap[D + 1]? = some (.loop (rec_ .ready none)) → (∀ w33, w33 = w25.putObj (D + 1) (.loop (rec_ .busy none)) → F_towpathlaw10_RingTexts_B3 b_ b_1 b_2 rec_ D Kb t102 w33) → CallsY (P := Tryd.prog) (yieldV (D + 1)) #[Value.string t102] w25 (fun e_ W_ => ∃ b_, e_ = Ending.returned (.bool b_) ∧ Kb b_ W_)) → CallsV (P := Tryd.prog) v101 #[yieldV (D + 1)] w24 (fun e_ w35 => (∃ v_, e_ = Ending.returned v_) ∧ ∃ st_ pe_, w35.heap[D + 1]? = some (.loop (rec_ st_ pe_)) ∧ st_ ≠ .busy ∧ ∀ w36, w36 = w35.putObj (D + 1) (.loop (rec_ .exhausted pe_)) → (((pe_ = none) ∧ (F_towpathlaw10_RingTexts_A5 R b_ b_1 b_2 D w36)) ∨ (pe_ = some .ret ∧ (w36.heap[D]? = some (.deferred (some [])) ∧ (∀ w39, w39 = w36.putObj D (.deferred none) → (∃ (res5 : Bool), CellsAt w39 b_ 0 [Value.bool res5] ∧ (R res5 w39)))))))))))))))))

def F_towpathlaw10_RingTexts (capacity : Int) (script : Slc) (R : Bool → World → Prop) (w : World) : Prop :=
  ∀ b_ w1, b_ = w.heap.size → w1 = w.alloc (Obj.cells ([Value.bool false]).toArray ty_bool (0, 0)) → (((decide (((script.len : Nat) : Int) > 5000)) = true → (Writable w1 b_ 0 1 ∧ (∀ w2, w2 = World.puts b_ 0 [Value.bool true] w1 → (∃ (res : Bool), CellsAt w2 b_ 0 [Value.bool res] ∧ (R res w2))))) ∧
  ((decide (((script.len : Nat) : Int) > 5000)) = false → (C_ring_New_string (IntKind.i64.wrap (1 + (IntKind.i64.wrap capacity))) w1 (fun (r : Option Addr) (e : Int) w3 => C_towpathref10_New (IntKind.i64.wrap (1 + (IntKind.i64.wrap capacity))) w3 (fun (x : Option Addr) (f : Int) w4 => (((e != 0) || (f != 0)) = true → (Writable w4 b_ 0 1 ∧ (∀ w5, w5 = World.puts b_ 0 [Value.bool false] w4 → (∃ (res1 : Bool), CellsAt w5 b_ 0 [Value.bool res1] ∧ (R res1 w5))))) ∧
  (((e != 0) || (f != 0)) = false → (∃ (I : Int → World → Prop) (μ : Int → World → Nat), I 0 w4 ∧
  ∀ (i : Int) w, I i w → F_towpathlaw10_RingTexts_L0 script R b_ r x (fun (i' : Int) w' => I i' w' ∧ μ i' w' < μ i w) i w)))))))

def F_ring_New_string (capacity : Int) (R : Option Addr → Int → World → Prop) (w : World) : Prop :=
  (((decide (capacity < 1)) || (decide (capacity > 65536))) = true → (R none 1 w)) ∧
  (((decide (capacity < 1)) || (decide (capacity > 65536))) = false → (0 ≤ capacity ∧ capacity ≤ capacity ∧ (16 : Int) * capacity ≤ 281474976710656 ∧ (∀ b_ w1, b_ = w.heap.size → w1 = w.alloc (Obj.cells (repCells capacity.toNat [Value.string ByteArray.empty]) ty_string (0, 0)) → (∀ b_1 w2, b_1 = w1.heap.size → w2 = w1.alloc (Obj.cells ([Value.slice (some ⟨b_, 0, none⟩) capacity.toNat capacity.toNat, Value.int .i64 0, Value.int .i64 0, Value.bool false]).toArray ty_ring_Ring_string (0, 0)) → (R (some ⟨b_1, 0, none⟩) 0 w2)))))

def F_towpathref10_New (capacity : Int) (R : Option Addr → Int → World → Prop) (w : World) : Prop :=
  (((decide (capacity < 1)) || (decide (capacity > 65536))) = true → (R none 1 w)) ∧
  (((decide (capacity < 1)) || (decide (capacity > 65536))) = false → (∀ b_ w1, b_ = w.heap.size → w1 = w.alloc (Obj.cells ([Value.slice none 0 0, Value.int .i64 capacity, Value.bool false]).toArray ty_towpathref10_Ring (0, 0)) → (R (some ⟨b_, 0, none⟩) 0 w1)))

def F_ring_Ring_string_Take_k0 (R : ByteArray → Bool → World → Prop) (x : ByteArray) (ok : Bool) (w1 : World) : Prop :=
  R x ok w1

def F_ring_Ring_string_Take (r : Option Addr) (R : ByteArray → Bool → World → Prop) (w : World) : Prop :=
  C_ring_Ring_string_First r w (fun (x1 : ByteArray) (ok1 : Bool) w2 => (ok1 = true → (∀ w3, (∃ k, w3 = w2.drewN k) → (IsAt r ∧ (∃ (v14 : Slc), w3.cell? ⟨(pblk r), (poff r), none⟩ = some (Value.slice v14.ptr v14.len v14.cap) ∧ (IsAt r ∧ (∃ (v18 : Int), w3.cell? ⟨(pblk r), (poff r) + 1, none⟩ = some (Value.int .i64 v18) ∧ (IsAt v14.ptr ∧ (0 ≤ v18 ∧ v18 < ((v14.len : Nat) : Int) ∧ (Writable w3 (pblk v14.ptr) ((poff v14.ptr) + v18.toNat) 1 ∧ (∀ w4, w4 = World.puts (pblk v14.ptr) ((poff v14.ptr) + v18.toNat) [Value.string ByteArray.empty] w3 → (∀ w5, (∃ k, w5 = w4.drewN k) → (IsAt r ∧ (∃ (v25 : Int), w5.cell? ⟨(pblk r), (poff r) + 1, none⟩ = some (Value.int .i64 v25) ∧ (IsAt r ∧ (∃ (v30 : Slc), w5.cell? ⟨(pblk r), (poff r), none⟩ = some (Value.slice v30.ptr v30.len v30.cap) ∧ (((v30.len : Nat) : Int) ≠ 0 ∧ (IsAt r ∧ (Writable w5 (pblk r) ((poff r) + 1) 1 ∧ (∀ w6, w6 = World.puts (pblk r) ((poff r) + 1) [Value.int .i64 (Int.tmod (IntKind.i64.wrap (v25 + 1)) ((v30.len : Nat) : Int))] w5 → (IsAt r ∧ (∃ (v38 : Int), w6.cell? ⟨(pblk r), (poff r) + 2, none⟩ = some (Value.int .i64 v38) ∧ (Writable w6 (pblk r) ((poff r) + 2) 1 ∧ (∀ w7, w7 = World.puts (pblk r) ((poff r) + 2) [Value.int .i64 (IntKind.i64.wrap (v38 - 1))] w6 → (F_ring_Ring_string_Take_k0 R x1 ok1 w7)))))))))))))))))))))))) ∧
  (ok1 = false → (F_ring_Ring_string_Take_k0 R x1 ok1 w2)))

def F_towpathref10_Ring_Take_k0 (R : Int → Bool → World → Prop) (x : Int) (ok : Bool) (w2 : World) : Prop :=
  R x ok w2

def F_towpathref10_Ring_Take (r : Option Addr) (R : Int → Bool → World → Prop) (w : World) : Prop :=
  C_towpathref10_Ring_First r w (fun (x : Int) (ok : Bool) w1 => (ok = true → (IsAt r ∧ (∃ (v16 : Slc), w1.cell? ⟨(pblk r), (poff r), none⟩ = some (Value.slice v16.ptr v16.len v16.cap) ∧ ((0 ≤ (1 : Int) ∧ (1 : Int) ≤ ((v16.len : Nat) : Int) ∧ ((v16.len : Nat) : Int) ≤ ((v16.cap : Nat) : Int) ∧ ((v16.cap : Nat) : Int) ≤ ((v16.cap : Nat) : Int)) ∧ (∀ s, s = Slc.cut 1 v16 1 ((v16.len : Nat) : Int) ((v16.cap : Nat) : Int) → (IsAt r ∧ (Writable w1 (pblk r) (poff r) 1 ∧ (∀ w3, w3 = World.puts (pblk r) (poff r) [Value.slice s.ptr s.len s.cap] w1 → (F_towpathref10_Ring_Take_k0 R x ok w3))))))))) ∧
  (ok = false → (F_towpathref10_Ring_Take_k0 R x ok w1)))

def F_strconv_Itoa (i : Int) (R : ByteArray → World → Prop) (w : World) : Prop :=
  C_internal_strconv_Itoa i w (fun (v4 : ByteArray) w1 => R v4 w1)

def F_ring_Ring_string_Put (r : Option Addr) (x : ByteArray) (R : Bool → World → Prop) (w : World) : Prop :=
  C_ring_Ring_string_Room r w (fun (v6 : Int) w1 => ((v6 == 0) = true → (R false w1)) ∧
  ((v6 == 0) = false → (∀ w2, (∃ k, w2 = w1.drewN k) → (IsAt r ∧ (∃ (v11 : Slc), w2.cell? ⟨(pblk r), (poff r), none⟩ = some (Value.slice v11.ptr v11.len v11.cap) ∧ (IsAt r ∧ (∃ (v15 : Int), w2.cell? ⟨(pblk r), (poff r) + 1, none⟩ = some (Value.int .i64 v15) ∧ (IsAt r ∧ (∃ (v19 : Int), w2.cell? ⟨(pblk r), (poff r) + 2, none⟩ = some (Value.int .i64 v19) ∧ (IsAt r ∧ (∃ (v24 : Slc), w2.cell? ⟨(pblk r), (poff r), none⟩ = some (Value.slice v24.ptr v24.len v24.cap) ∧ (((v24.len : Nat) : Int) ≠ 0 ∧ (IsAt v11.ptr ∧ (0 ≤ Int.tmod (IntKind.i64.wrap (v15 + v19)) ((v24.len : Nat) : Int) ∧ Int.tmod (IntKind.i64.wrap (v15 + v19)) ((v24.len : Nat) : Int) < ((v11.len : Nat) : Int) ∧ (Writable w2 (pblk v11.ptr) ((poff v11.ptr) + (Int.tmod (IntKind.i64.wrap (v15 + v19)) ((v24.len : Nat) : Int)).toNat) 1 ∧ (∀ w3, w3 = World.puts (pblk v11.ptr) ((poff v11.ptr) + (Int.tmod (IntKind.i64.wrap (v15 + v19)) ((v24.len : Nat) : Int)).toNat) [Value.string x] w2 → (IsAt r ∧ (∃ (v32 : Int), w3.cell? ⟨(pblk r), (poff r) + 2, none⟩ = some (Value.int .i64 v32) ∧ (Writable w3 (pblk r) ((poff r) + 2) 1 ∧ (∀ w4, w4 = World.puts (pblk r) ((poff r) + 2) [Value.int .i64 (IntKind.i64.wrap (v32 + 1))] w3 → (R true w4)))))))))))))))))))))

def F_towpathref10_Ring_Put_k0 (r : Option Addr) (x : Int) (R : Bool → World → Prop) (t24 : Bool) (w1 : World) : Prop :=
  (t24 = true → (R false w1)) ∧
  (t24 = false → (IsAt r ∧ (∃ (v29 : Slc), w1.cell? ⟨(pblk r), (poff r), none⟩ = some (Value.slice v29.ptr v29.len v29.cap) ∧ (∀ b_ w2, b_ = w1.heap.size → w2 = w1.alloc (Obj.cells ([Value.int .i64 x]).toArray ty_int (0, 0)) → (∃ src, SrcAt w2 (Slc.mk (some ⟨b_, 0, none⟩) 1 1) 1 src ∧ AppendW 1 8 ty_int [Value.int .i64 0] v29 src 1 w2 (fun v32 w3 => IsAt r ∧ (Writable w3 (pblk r) (poff r) 1 ∧ (∀ w4, w4 = World.puts (pblk r) (poff r) [Value.slice v32.ptr v32.len v32.cap] w3 → (R true w4)))))))))

def F_towpathref10_Ring_Put (r : Option Addr) (x : Int) (R : Bool → World → Prop) (w : World) : Prop :=
  (r.isNone = true → (∀ w5, Ext w w5 → (F_towpathref10_Ring_Put_k0 r x R true w5))) ∧
  (r.isNone = false → (IsAt r ∧ (∃ (v11 : Bool), w.cell? ⟨(pblk r), (poff r) + 2, none⟩ = some (Value.bool v11) ∧ ((v11 = true → (∀ w6, Ext w w6 → (F_towpathref10_Ring_Put_k0 r x R true w6))) ∧
  (v11 = false → (IsAt r ∧ (∃ (v17 : Slc), w.cell? ⟨(pblk r), (poff r), none⟩ = some (Value.slice v17.ptr v17.len v17.cap) ∧ (IsAt r ∧ (∃ (v22 : Int), w.cell? ⟨(pblk r), (poff r) + 1, none⟩ = some (Value.int .i64 v22) ∧ (∀ w7, Ext w w7 → (F_towpathref10_Ring_Put_k0 r x R (decide (((v17.len : Nat) : Int) ≥ v22)) w7)))))))))))

def F_towpathref10_Ring_All (r : Option Addr) (R : Slc → World → Prop) (w : World) : Prop :=
  (r.isNone = true → (R (Slc.mk none 0 0) w)) ∧
  (r.isNone = false → (IsAt r ∧ (∃ (v8 : Slc), w.cell? ⟨(pblk r), (poff r), none⟩ = some (Value.slice v8.ptr v8.len v8.cap) ∧ (R v8 w))))

def F_ring_Ring_string_All (r : Option Addr) (R : Value → World → Prop) (w : World) : Prop :=
  ∀ b_ w1, b_ = w.heap.size → w1 = w.alloc (Obj.cells ([Value.pointer r]).toArray ty_ptr_ring_Ring_string (0, 0)) → (R (Value.func (.func 72) #[] #[Value.pointer (some ⟨b_, 0, none⟩)]) w1)

def F_ring_Ring_string_First (r : Option Addr) (R : ByteArray → Bool → World → Prop) (w : World) : Prop :=
  C_ring_Ring_string_Len r w (fun (v5 : Int) w1 => ((v5 == 0) = true → (R ByteArray.empty false w1)) ∧
  ((v5 == 0) = false → (IsAt r ∧ (∃ (v11 : Slc), w1.cell? ⟨(pblk r), (poff r), none⟩ = some (Value.slice v11.ptr v11.len v11.cap) ∧ (IsAt r ∧ (∃ (v15 : Int), w1.cell? ⟨(pblk r), (poff r) + 1, none⟩ = some (Value.int .i64 v15) ∧ (IsAt v11.ptr ∧ (0 ≤ v15 ∧ v15 < ((v11.len : Nat) : Int) ∧ (∃ (x : ByteArray), w1.cell? ⟨(pblk v11.ptr), (poff v11.ptr) + v15.toNat, none⟩ = some (Value.string x) ∧ (∀ w2, Ext w1 w2 → (R x true w2)))))))))))

def F_towpathref10_Ring_First_k0 (r : Option Addr) (R : Int → Bool → World → Prop) (t13 : Bool) (w1 : World) : Prop :=
  (t13 = true → (R 0 false w1)) ∧
  (t13 = false → (IsAt r ∧ (∃ (v17 : Slc), w1.cell? ⟨(pblk r), (poff r), none⟩ = some (Value.slice v17.ptr v17.len v17.cap) ∧ (IsAt v17.ptr ∧ (0 ≤ (0 : Int) ∧ (0 : Int) < ((v17.len : Nat) : Int) ∧ (∃ (v19 : Int), w1.cell? ⟨(pblk v17.ptr), (poff v17.ptr), none⟩ = some (Value.int .i64 v19) ∧ (R v19 true w1)))))))

def F_towpathref10_Ring_First (r : Option Addr) (R : Int → Bool → World → Prop) (w : World) : Prop :=
  (r.isNone = true → (F_towpathref10_Ring_First_k0 r R true w)) ∧
  (r.isNone = false → (IsAt r ∧ (∃ (v10 : Slc), w.cell? ⟨(pblk r), (poff r), none⟩ = some (Value.slice v10.ptr v10.len v10.cap) ∧ (F_towpathref10_Ring_First_k0 r R (((v10.len : Nat) : Int) == 0) w))))

def F_internal_strconv_Itoa (i : Int) (R : ByteArray → World → Prop) (w : World) : Prop :=
  C_internal_strconv_FormatInt i 10 w (fun (v4 : ByteArray) w1 => R v4 w1)

def F_ring_Ring_string_Room_k0 (r : Option Addr) (R : Int → World → Prop) (t10 : Bool) (w1 : World) : Prop :=
  (t10 = true → (R 0 w1)) ∧
  (t10 = false → (IsAt r ∧ (∃ (v14 : Slc), w1.cell? ⟨(pblk r), (poff r), none⟩ = some (Value.slice v14.ptr v14.len v14.cap) ∧ (IsAt r ∧ (∃ (v19 : Int), w1.cell? ⟨(pblk r), (poff r) + 2, none⟩ = some (Value.int .i64 v19) ∧ (∀ w2, Ext w1 w2 → (R (IntKind.i64.wrap (((v14.len : Nat) : Int) - v19)) w2)))))))

def F_ring_Ring_string_Room (r : Option Addr) (R : Int → World → Prop) (w : World) : Prop :=
  C_ring_Ring_string_gone r w (fun (v4 : Bool) w3 => (v4 = true → (F_ring_Ring_string_Room_k0 r R true w3)) ∧
  (v4 = false → (IsAt r ∧ (∃ (v9 : Bool), w3.cell? ⟨(pblk r), (poff r) + 3, none⟩ = some (Value.bool v9) ∧ (F_ring_Ring_string_Room_k0 r R v9 w3)))))

def F_ring_Ring_string_All_1_L0 (yield : Value) (R : World → Prop) (v6 : Slc) (again_ : Int → World → Prop) (t8 : Int) (w2 : World) : Prop :=
  ((decide (t8 < ((v6.len : Nat) : Int))) = true → (IsAt v6.ptr ∧ (0 ≤ t8 ∧ t8 < ((v6.len : Nat) : Int) ∧ (∃ (x : ByteArray), w2.cell? ⟨(pblk v6.ptr), (poff v6.ptr) + t8.toNat, none⟩ = some (Value.string x) ∧ (CallsY (P := Tryd.prog) yield #[Value.string x] w2 (fun e' w3 => ∃ (v14 : Bool), e' = Ending.returned (Value.bool v14) ∧ (((!v14) = true → (R w3)) ∧
  ((!v14) = false → (again_ (IntKind.i64.wrap (t8 + 1)) w3))))))))) ∧
  ((decide (t8 < ((v6.len : Nat) : Int))) = false → (R w2))

def F_ring_Ring_string_All_1 (yield : Value) (t1 : Option Addr) (R : World → Prop) (w : World) : Prop :=
  IsAt t1 ∧ (∃ (v5 : Option Addr), w.cell? ⟨(pblk t1), (poff t1), none⟩ = some (Value.pointer v5) ∧ (C_ring_Ring_string_things v5 w (fun (v6 : Slc) w1 => ∃ (I : Int → World → Prop) (μ : Int → World → Nat), I 0 w1 ∧
  ∀ (t8 : Int) w, I t8 w → F_ring_Ring_string_All_1_L0 yield R v6 (fun (t8' : Int) w' => I t8' w' ∧ μ t8' w' < μ t8 w) t8 w)))

def F_ring_Ring_string_things (r : Option Addr) (R : Slc → World → Prop) (w : World) : Prop :=
  C_ring_Ring_string_gone r w (fun (v4 : Bool) w1 => (v4 = true → (R (Slc.mk none 0 0) w1)) ∧
  (v4 = false → (∀ w2, (∃ k, w2 = w1.drewN k) → (IsAt r ∧ (∃ (v8 : Slc), w2.cell? ⟨(pblk r), (poff r), none⟩ = some (Value.slice v8.ptr v8.len v8.cap) ∧ (IsAt r ∧ (∃ (v12 : Int), w2.cell? ⟨(pblk r), (poff r) + 1, none⟩ = some (Value.int .i64 v12) ∧ ((0 ≤ v12 ∧ v12 ≤ ((v8.len : Nat) : Int) ∧ ((v8.len : Nat) : Int) ≤ ((v8.cap : Nat) : Int) ∧ ((v8.cap : Nat) : Int) ≤ ((v8.cap : Nat) : Int)) ∧ (∀ s, s = Slc.cut 1 v8 v12 ((v8.len : Nat) : Int) ((v8.cap : Nat) : Int) → (IsAt r ∧ (∃ (v17 : Slc), w2.cell? ⟨(pblk r), (poff r), none⟩ = some (Value.slice v17.ptr v17.len v17.cap) ∧ (IsAt r ∧ (∃ (v21 : Int), w2.cell? ⟨(pblk r), (poff r) + 1, none⟩ = some (Value.int .i64 v21) ∧ (0 ≤ v21 ∧ v21 ≤ ((v17.cap : Nat) : Int) ∧ (IsAt r ∧ (∃ (v28 : Int), w2.cell? ⟨(pblk r), (poff r) + 2, none⟩ = some (Value.int .i64 v28) ∧ (∀ b_ w3, b_ = w2.heap.size → w3 = w2.alloc (Obj.cells ([Value.slice s.ptr s.len s.cap, Value.slice v17.ptr v21.toNat v17.cap]).toArray ty_sl_string (0, 0)) → (w3.cell? ⟨(pblk r), (poff r) + 2, none⟩ = some (Value.int .i64 v28) ∧ (C_slices_Concat_string_string (Slc.mk (some ⟨b_, 0, none⟩) 2 2) w3 (fun (v24 : Slc) w4 => w4.cell? ⟨(pblk r), (poff r) + 2, none⟩ = some (Value.int .i64 v28) ∧ (0 ≤ v28 ∧ v28 ≤ ((v24.cap : Nat) : Int) ∧ (R (Slc.mk v24.ptr v28.toNat v24.cap) w4))))))))))))))))))))))

def F_ring_Ring_string_Len (r : Option Addr) (R : Int → World → Prop) (w : World) : Prop :=
  C_ring_Ring_string_gone r w (fun (v4 : Bool) w1 => (v4 = true → (R 0 w1)) ∧
  (v4 = false → (IsAt r ∧ (∃ (v8 : Int), w1.cell? ⟨(pblk r), (poff r) + 2, none⟩ = some (Value.int .i64 v8) ∧ (R v8 w1)))))

def F_ring_Ring_string_gone (r : Option Addr) (R : Bool → World → Prop) (w : World) : Prop :=
  (r.isNone = true → (R true w)) ∧
  (r.isNone = false → (IsAt r ∧ (∃ (v9 : Slc), w.cell? ⟨(pblk r), (poff r), none⟩ = some (Value.slice v9.ptr v9.len v9.cap) ∧ (R v9.ptr.isNone w))))

def F_slices_Concat_string_string_L1 (slices : Slc) (R : Slc → World → Prop) (again_1 : Slc → Int → World → Prop) (newslice : Slc) (t27 : Int) (w3 : World) : Prop :=
  ((decide (t27 < ((slices.len : Nat) : Int))) = true → (IsAt slices.ptr ∧ (0 ≤ t27 ∧ t27 < ((slices.len : Nat) : Int) ∧ (∃ (s1 : Slc), w3.cell? ⟨(pblk slices.ptr), (poff slices.ptr) + t27.toNat, none⟩ = some (Value.slice s1.ptr s1.len s1.cap) ∧ (∃ src, SrcAt w3 s1 1 src ∧ AppendW 1 16 ty_string [Value.string ByteArray.empty] newslice src s1.len w3 (fun newslice1 w4 => again_1 newslice1 (IntKind.i64.wrap (t27 + 1)) w4)))))) ∧
  ((decide (t27 < ((slices.len : Nat) : Int))) = false → (R newslice w3))

def F_slices_Concat_string_string_L0 (slices : Slc) (R : Slc → World → Prop) (again_ : Int → Int → World → Prop) (size : Int) (t11 : Int) (w1 : World) : Prop :=
  ((decide (t11 < ((slices.len : Nat) : Int))) = true → (IsAt slices.ptr ∧ (0 ≤ t11 ∧ t11 < ((slices.len : Nat) : Int) ∧ (∃ (s : Slc), w1.cell? ⟨(pblk slices.ptr), (poff slices.ptr) + t11.toNat, none⟩ = some (Value.slice s.ptr s.len s.cap) ∧ (((decide ((IntKind.i64.wrap (size + ((s.len : Nat) : Int))) < 0)) = true → (False)) ∧
  ((decide ((IntKind.i64.wrap (size + ((s.len : Nat) : Int))) < 0)) = false → (again_ (IntKind.i64.wrap (size + ((s.len : Nat) : Int))) (IntKind.i64.wrap (t11 + 1)) w1))))))) ∧
  ((decide (t11 < ((slices.len : Nat) : Int))) = false → (C_slices_Grow_string_string (Slc.mk none 0 0) size w1 (fun (v24 : Slc) w2 => ∃ (I : Slc → Int → World → Prop) (μ : Slc → Int → World → Nat), I v24 0 w2 ∧
  ∀ (newslice : Slc) (t27 : Int) w, I newslice t27 w → F_slices_Concat_string_string_L1 slices R (fun (newslice' : Slc) (t27' : Int) w' => I newslice' t27' w' ∧ μ newslice' t27' w' < μ newslice t27 w) newslice t27 w)))

def F_slices_Concat_string_string (slices : Slc) (R : Slc → World → Prop) (w : World) : Prop :=
  ∃ (I : Int → Int → World → Prop) (μ : Int → Int → World → Nat), I 0 0 w ∧
  ∀ (size : Int) (t11 : Int) w, I size t11 w → F_slices_Concat_string_string_L0 slices R (fun (size' : Int) (t11' : Int) w' => I size' t11' w' ∧ μ size' t11' w' < μ size t11 w) size t11 w

def F_slices_Grow_string_string_k0 (R : Slc → World → Prop) (s1 : Slc) (w1 : World) : Prop :=
  R s1 w1

def F_slices_Grow_string_string (s : Slc) (n_ : Int) (R : Slc → World → Prop) (w : World) : Prop :=
  ((decide (n_ < 0)) = true → (False)) ∧
  ((decide (n_ < 0)) = false → (((decide ((IntKind.i64.wrap (n_ - (IntKind.i64.wrap (((s.cap : Nat) : Int) - ((s.len : Nat) : Int))))) > 0)) = true → (0 ≤ ((s.cap : Nat) : Int) ∧ ((s.cap : Nat) : Int) ≤ ((s.cap : Nat) : Int) ∧ (0 ≤ IntKind.i64.wrap (n_ - (IntKind.i64.wrap (((s.cap : Nat) : Int) - ((s.len : Nat) : Int)))) ∧ IntKind.i64.wrap (n_ - (IntKind.i64.wrap (((s.cap : Nat) : Int) - ((s.len : Nat) : Int)))) * (16 : Int) ≤ 281474976710656 ∧ AppendW 1 16 ty_string [Value.string ByteArray.empty] (Slc.mk s.ptr (((s.cap : Nat) : Int).toNat) s.cap) (repCells ((IntKind.i64.wrap (n_ - (IntKind.i64.wrap (((s.cap : Nat) : Int) - ((s.len : Nat) : Int))))).toNat) [Value.string ByteArray.empty]).toList ((IntKind.i64.wrap (n_ - (IntKind.i64.wrap (((s.cap : Nat) : Int) - ((s.len : Nat) : Int))))).toNat) w (fun v22 w2 => 0 ≤ ((s.len : Nat) : Int) ∧ ((s.len : Nat) : Int) ≤ ((v22.cap : Nat) : Int) ∧ (F_slices_Grow_string_string_k0 R (Slc.mk v22.ptr (((s.len : Nat) : Int).toNat) v22.cap) w2))))) ∧
  ((decide ((IntKind.i64.wrap (n_ - (IntKind.i64.wrap (((s.cap : Nat) : Int) - ((s.len : Nat) : Int))))) > 0)) = false → (F_slices_Grow_string_string_k0 R s w))))

def Ok_T_towpathlaw10_Op (w : World) (x : T_towpathlaw10_Op) : Prop := (0 ≤ x.Kind ∧ x.Kind ≤ 255) ∧ ((-9223372036854775808) ≤ x.X ∧ x.X ≤ 9223372036854775807)

end Go.Proofs.YtchcljkflklddaaDoor
