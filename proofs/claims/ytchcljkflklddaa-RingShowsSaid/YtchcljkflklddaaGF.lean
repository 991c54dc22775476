/- WRITTEN BY PROGRAM (dec.py): for each Go function the clean formula F, the call's contract C, and the proof S that F gives C. -/
import Derived.Test.YtchcljkflklddaaRows
import Derived.Test.YtchcljkflklddaaCore
namespace Go.Proofs.Ytchcljkflklddaa
open Go
set_option linter.unusedVariables false


abbrev ty_int : TypeId := 3

abbrev ty_uint8 : TypeId := 5

abbrev ty_ptr_ring_Ring_int : TypeId := 36

abbrev ty_sl_int : TypeId := 49

abbrev ty_ring_Ring_int : TypeId := 64

abbrev ty_towpathlaw10_Op : TypeId := 67

abbrev ty_towpathlaw10_Show : TypeId := 71

abbrev ty_towpathref10_Ring : TypeId := 86

structure T_towpathlaw10_Op where
  Kind : Int
  X : Int

structure T_towpathlaw10_Show where
  Capacity : Int
  Taken : Int
  Most : Int
  Things : Slc

def C_towpathlaw10_RingPlays (capacity : Int) (script : Slc) (w : World) (R : Bool → World → Prop) : Prop :=
  Calls Try.prog 10 #[Value.int .i64 capacity, Value.slice script.ptr script.len script.cap] w (fun e w' => ∃ (r0 : Bool), e = .returned (Value.bool r0) ∧ R r0 w')

def C_towpathlaw10_RingShows (s : T_towpathlaw10_Show) (w : World) (R : Bool → World → Prop) : Prop :=
  Calls Try.prog 11 #[Value.agg #[Value.int .u8 s.Capacity, Value.int .u8 s.Taken, Value.int .u8 s.Most, Value.slice s.Things.ptr s.Things.len s.Things.cap]] w (fun e w' => ∃ (r0 : Bool), e = .returned (Value.bool r0) ∧ R r0 w')

def C_towpathlaw01_Beyond (l_ : Slc) (w : World) (R : Bool → World → Prop) : Prop :=
  Calls Try.prog 12 #[Value.slice l_.ptr l_.len l_.cap] w (fun e w' => ∃ (r0 : Bool), e = .returned (Value.bool r0) ∧ R r0 w')

def C_towpathlaw10_alive (w : World) (R : Bool → World → Prop) : Prop :=
  Calls Try.prog 21 #[] w (fun e w' => ∃ (r0 : Bool), e = .returned (Value.bool r0) ∧ R r0 w')

def C_ring_New_int (capacity : Int) (w : World) (R : Option Addr → Int → World → Prop) : Prop :=
  Calls Try.prog 22 #[Value.int .i64 capacity] w (fun e w' => ∃ (r0 : Option Addr) (r1 : Int), e = .returned (Value.tuple #[Value.pointer r0, Value.int .i64 r1]) ∧ R r0 r1 w')

def C_ring_Ring_int_Put (r : Option Addr) (x : Int) (w : World) (R : Bool → World → Prop) : Prop :=
  Calls Try.prog 23 #[Value.pointer r, Value.int .i64 x] w (fun e w' => ∃ (r0 : Bool), e = .returned (Value.bool r0) ∧ R r0 w')

def C_ring_Ring_int_Take (r : Option Addr) (w : World) (R : Int → Bool → World → Prop) : Prop :=
  Calls Try.prog 24 #[Value.pointer r] w (fun e w' => ∃ (r0 : Int) (r1 : Bool), e = .returned (Value.tuple #[Value.int .i64 r0, Value.bool r1]) ∧ R r0 r1 w')

def C_ring_Ring_int_Len (r : Option Addr) (w : World) (R : Int → World → Prop) : Prop :=
  Calls Try.prog 25 #[Value.pointer r] w (fun e w' => ∃ (r0 : Int), e = .returned (Value.int .i64 r0) ∧ R r0 w')

def C_ring_Ring_int_Room (r : Option Addr) (w : World) (R : Int → World → Prop) : Prop :=
  Calls Try.prog 26 #[Value.pointer r] w (fun e w' => ∃ (r0 : Int), e = .returned (Value.int .i64 r0) ∧ R r0 w')

def C_ring_Ring_int_Close (r : Option Addr) (w : World) (R : World → Prop) : Prop :=
  Calls Try.prog 27 #[Value.pointer r] w (fun e w' => e = .returned (Value.tuple #[]) ∧ R w')

def C_ring_Ring_int_Over (r : Option Addr) (w : World) (R : Bool → World → Prop) : Prop :=
  Calls Try.prog 28 #[Value.pointer r] w (fun e w' => ∃ (r0 : Bool), e = .returned (Value.bool r0) ∧ R r0 w')

def C_towpathlaw01_SameInts (a_ : Slc) (b_ : Slc) (w : World) (R : Bool → World → Prop) : Prop :=
  Calls Try.prog 35 #[Value.slice a_.ptr a_.len a_.cap, Value.slice b_.ptr b_.len b_.cap] w (fun e w' => ∃ (r0 : Bool), e = .returned (Value.bool r0) ∧ R r0 w')

def C_towpathref10_New (capacity : Int) (w : World) (R : Option Addr → Int → World → Prop) : Prop :=
  Calls Try.prog 38 #[Value.int .i64 capacity] w (fun e w' => ∃ (r0 : Option Addr) (r1 : Int), e = .returned (Value.tuple #[Value.pointer r0, Value.int .i64 r1]) ∧ R r0 r1 w')

def C_towpathlaw10_asked (r : Option Addr) (x : Option Addr) (o_ : T_towpathlaw10_Op) (w : World) (R : Bool → World → Prop) : Prop :=
  Calls Try.prog 39 #[Value.pointer r, Value.pointer x, Value.agg #[Value.int .u8 o_.Kind, Value.int .i64 o_.X]] w (fun e w' => ∃ (r0 : Bool), e = .returned (Value.bool r0) ∧ R r0 w')

def C_towpathlaw10_gone (r : Option Addr) (most : Int) (w : World) (R : Slc → World → Prop) : Prop :=
  Calls Try.prog 40 #[Value.pointer r, Value.int .i64 most] w (fun e w' => ∃ (r0 : Slc), e = .returned (Value.slice r0.ptr r0.len r0.cap) ∧ R r0 w')

def C_towpathref10_Ring_All (r : Option Addr) (w : World) (R : Slc → World → Prop) : Prop :=
  Calls Try.prog 41 #[Value.pointer r] w (fun e w' => ∃ (r0 : Slc), e = .returned (Value.slice r0.ptr r0.len r0.cap) ∧ R r0 w')

def C_ring_Ring_int_All (r : Option Addr) (w : World) (R : Value → World → Prop) : Prop :=
  Calls Try.prog 42 #[Value.pointer r] w (fun e w' => ∃ (r0 : Value), e = .returned (r0) ∧ R r0 w')

def C_ring_Ring_int_First (r : Option Addr) (w : World) (R : Int → Bool → World → Prop) : Prop :=
  Calls Try.prog 47 #[Value.pointer r] w (fun e w' => ∃ (r0 : Int) (r1 : Bool), e = .returned (Value.tuple #[Value.int .i64 r0, Value.bool r1]) ∧ R r0 r1 w')

def C_ring_Ring_int_gone (r : Option Addr) (w : World) (R : Bool → World → Prop) : Prop :=
  Calls Try.prog 48 #[Value.pointer r] w (fun e w' => ∃ (r0 : Bool), e = .returned (Value.bool r0) ∧ R r0 w')

def C_towpathref10_Ring_Put (r : Option Addr) (x : Int) (w : World) (R : Bool → World → Prop) : Prop :=
  Calls Try.prog 51 #[Value.pointer r, Value.int .i64 x] w (fun e w' => ∃ (r0 : Bool), e = .returned (Value.bool r0) ∧ R r0 w')

def C_towpathref10_Ring_Take (r : Option Addr) (w : World) (R : Int → Bool → World → Prop) : Prop :=
  Calls Try.prog 52 #[Value.pointer r] w (fun e w' => ∃ (r0 : Int) (r1 : Bool), e = .returned (Value.tuple #[Value.int .i64 r0, Value.bool r1]) ∧ R r0 r1 w')

def C_towpathref10_Ring_Close (r : Option Addr) (w : World) (R : World → Prop) : Prop :=
  Calls Try.prog 53 #[Value.pointer r] w (fun e w' => e = .returned (Value.tuple #[]) ∧ R w')

def C_towpathlaw10_few (l_ : Slc) (most : Int) (w : World) (R : Slc → World → Prop) : Prop :=
  Calls Try.prog 54 #[Value.slice l_.ptr l_.len l_.cap, Value.int .i64 most] w (fun e w' => ∃ (r0 : Slc), e = .returned (Value.slice r0.ptr r0.len r0.cap) ∧ R r0 w')

def C_towpathref10_Ring_First (r : Option Addr) (w : World) (R : Int → Bool → World → Prop) : Prop :=
  Calls Try.prog 55 #[Value.pointer r] w (fun e w' => ∃ (r0 : Int) (r1 : Bool), e = .returned (Value.tuple #[Value.int .i64 r0, Value.bool r1]) ∧ R r0 r1 w')

def C_towpathref10_Ring_Len (r : Option Addr) (w : World) (R : Int → World → Prop) : Prop :=
  Calls Try.prog 56 #[Value.pointer r] w (fun e w' => ∃ (r0 : Int), e = .returned (Value.int .i64 r0) ∧ R r0 w')

def C_towpathref10_Ring_Room (r : Option Addr) (w : World) (R : Int → World → Prop) : Prop :=
  Calls Try.prog 57 #[Value.pointer r] w (fun e w' => ∃ (r0 : Int), e = .returned (Value.int .i64 r0) ∧ R r0 w')

def C_towpathref10_Ring_Over (r : Option Addr) (w : World) (R : Bool → World → Prop) : Prop :=
  Calls Try.prog 58 #[Value.pointer r] w (fun e w' => ∃ (r0 : Bool), e = .returned (Value.bool r0) ∧ R r0 w')

def C_ring_Ring_int_All_1 (yield : Value) (t1 : Option Addr) (w : World) (R : World → Prop) : Prop :=
  Calls Try.prog 59 #[yield, Value.pointer t1] w (fun e w' => e = .returned (Value.tuple #[]) ∧ R w')

def C_ring_Ring_int_things (r : Option Addr) (w : World) (R : Slc → World → Prop) : Prop :=
  Calls Try.prog 60 #[Value.pointer r] w (fun e w' => ∃ (r0 : Slc), e = .returned (Value.slice r0.ptr r0.len r0.cap) ∧ R r0 w')

def C_slices_Concat_int_int (slices : Slc) (w : World) (R : Slc → World → Prop) : Prop :=
  Calls Try.prog 61 #[Value.slice slices.ptr slices.len slices.cap] w (fun e w' => ∃ (r0 : Slc), e = .returned (Value.slice r0.ptr r0.len r0.cap) ∧ R r0 w')

def C_slices_Grow_int_int (s : Slc) (n_ : Int) (w : World) (R : Slc → World → Prop) : Prop :=
  Calls Try.prog 62 #[Value.slice s.ptr s.len s.cap, Value.int .i64 n_] w (fun e w' => ∃ (r0 : Slc), e = .returned (Value.slice r0.ptr r0.len r0.cap) ∧ R r0 w')

def F_towpathlaw10_RingPlays_k2 (R : Bool → World → Prop) (i : Int) (again_ : Int → World → Prop) (t61 : Bool) (w8 : World) : Prop :=
  (t61 = true → (R false w8)) ∧
  (t61 = false → (again_ (IntKind.i64.wrap (i + 1)) w8))

def F_towpathlaw10_RingPlays_L1 (script : Slc) (R : Bool → World → Prop) (r : Option Addr) (x : Option Addr) (b_1 : Nat) (again_ : Int → World → Prop) (i : Int) (w7 : World) : Prop :=
  ((decide (i < ((script.len : Nat) : Int))) = true → (IsAt script.ptr ∧ (0 ≤ i ∧ i < ((script.len : Nat) : Int) ∧ (∃ (v49 : T_towpathlaw10_Op), CellsAt w7 (pblk script.ptr) ((poff script.ptr) + i.toNat * 2) [Value.int .u8 v49.Kind, Value.int .i64 v49.X] ∧ (C_towpathlaw10_asked r x v49 w7 (fun (v50 : Bool) w9 => ((!v50) = true → (F_towpathlaw10_RingPlays_k2 R i again_ true w9)) ∧
  ((!v50) = false → (IsAt script.ptr ∧ (0 ≤ i ∧ i < ((script.len : Nat) : Int) ∧ (∃ (v58 : T_towpathlaw10_Op), CellsAt w9 (pblk script.ptr) ((poff script.ptr) + i.toNat * 2) [Value.int .u8 v58.Kind, Value.int .i64 v58.X] ∧ (C_towpathlaw10_asked (some ⟨b_1, 0, none⟩) none v58 w9 (fun (v59 : Bool) w10 => F_towpathlaw10_RingPlays_k2 R i again_ (!v59) w10)))))))))))) ∧
  ((decide (i < ((script.len : Nat) : Int))) = false → (C_towpathlaw10_gone r 1048576 w7 (fun (v63 : Slc) w11 => C_towpathref10_Ring_All x w11 (fun (v65 : Slc) w12 => C_towpathlaw01_SameInts v63 v65 w12 (fun (v66 : Bool) w13 => R v66 w13)))))

def F_towpathlaw10_RingPlays_k0 (script : Slc) (R : Bool → World → Prop) (r : Option Addr) (x : Option Addr) (t35 : Bool) (w5 : World) : Prop :=
  (t35 = true → (R false w5)) ∧
  (t35 = false → (∀ b_1 w6, b_1 = w5.heap.size → w6 = w5.alloc (Obj.cells ([Value.slice none 0 0, Value.int .i64 0, Value.int .i64 0, Value.bool false]).toArray ty_ring_Ring_int (0, 0)) → (∃ (I : Int → World → Prop) (μ : Int → World → Nat), I 0 w6 ∧
  ∀ (i : Int) w, I i w → F_towpathlaw10_RingPlays_L1 script R r x b_1 (fun (i' : Int) w' => I i' w' ∧ μ i' w' < μ i w) i w)))

def F_towpathlaw10_RingPlays (capacity : Int) (script : Slc) (R : Bool → World → Prop) (w : World) : Prop :=
  ∀ b_ w1, b_ = w.heap.size → w1 = w.alloc (Obj.cells ([Value.int .i64 ((script.len : Nat) : Int)]).toArray ty_int (0, 0)) → (C_towpathlaw01_Beyond (Slc.mk (some ⟨b_, 0, none⟩) 1 1) w1 (fun (v15 : Bool) w2 => (v15 = true → (R true w2)) ∧
  (v15 = false → (C_ring_New_int capacity w2 (fun (r : Option Addr) (e : Int) w3 => C_towpathref10_New capacity w3 (fun (x : Option Addr) (f : Int) w4 => ((e != f) = true → (F_towpathlaw10_RingPlays_k0 script R r x true w4)) ∧
  ((e != f) = false → (F_towpathlaw10_RingPlays_k0 script R r x (!(r.isNone == x.isNone)) w4))))))))

def F_towpathlaw10_RingShows_k1 (t2 : Bool) (i : Int) (again_ : Bool → Int → World → Prop) (w9 : World) : Prop :=
  again_ t2 (IntKind.i64.wrap (i + 1)) w9

def F_towpathlaw10_RingShows_B3 (b_1 : Nat) (b_2 : Nat) (rec_ : Recs) (D : Nat) (Kb : Bool → World → Prop) (t76 : Int) (w20 : World) : Prop :=
  ∃ (v77 : Slc), w20.cell? ⟨b_2, 0, none⟩ = some (Value.slice v77.ptr v77.len v77.cap) ∧ (∀ b_3 w21, b_3 = w20.heap.size → w21 = w20.alloc (Obj.cells ([Value.int .i64 t76]).toArray ty_int (0, 0)) → (∃ src, SrcAt w21 (Slc.mk (some ⟨b_3, 0, none⟩) 1 1) 1 src ∧ AppendW 1 8 ty_int [Value.int .i64 0] v77 src 1 w21 (fun v80 w22 => Writable w22 b_2 0 1 ∧ (∀ w23, w23 = World.puts b_2 0 [Value.slice v80.ptr v80.len v80.cap] w22 → (∃ (v81 : Slc), w23.cell? ⟨b_2, 0, none⟩ = some (Value.slice v81.ptr v81.len v81.cap) ∧ (∃ (v83 : Int), w23.cell? ⟨b_1, 0, none⟩ = some (Value.int .u8 v83) ∧ (((decide (((v81.len : Nat) : Int) > (IntKind.i64.wrap v83))) = true → (w23.heap[D + 1]? = some (.loop (rec_ .busy none)) ∧ (∀ w24, w24 = w23.putObj (D + 1) (.loop (rec_ .done (some (.exit 4)))) → Kb false w24))) ∧
  ((decide (((v81.len : Nat) : Int) > (IntKind.i64.wrap v83))) = false → (w23.heap[D + 1]? = some (.loop (rec_ .busy none)) ∧ (∀ w25, w25 = w23.putObj (D + 1) (.loop (rec_ .ready none)) → Kb true w25))))))))))

def F_towpathlaw10_RingShows_k7 (R : Bool → World → Prop) (D : Nat) (i2 : Int) (again_2 : Int → World → Prop) (t125 : Bool) (w34 : World) : Prop :=
  (t125 = true → (w34.heap[D]? = some (.deferred (some [])) ∧ (∀ w35, w35 = w34.putObj D (.deferred none) → (R false w35)))) ∧
  (t125 = false → (again_2 (IntKind.i64.wrap (i2 + 1)) w34))

def F_towpathlaw10_RingShows_L6 (R : Bool → World → Prop) (r : Option Addr) (v73 : Int) (b_2 : Nat) (D : Nat) (again_2 : Int → World → Prop) (i2 : Int) (w32 : World) : Prop :=
  ((decide (i2 < v73)) = true → (C_ring_Ring_int_Take r w32 (fun (x : Int) (ok : Bool) w33 => ((!ok) = true → (F_towpathlaw10_RingShows_k7 R D i2 again_2 true w33)) ∧
  ((!ok) = false → (∃ (v114 : Slc), w33.cell? ⟨b_2, 0, none⟩ = some (Value.slice v114.ptr v114.len v114.cap) ∧ (((decide (i2 < ((v114.len : Nat) : Int))) = true → (∃ (v118 : Slc), w33.cell? ⟨b_2, 0, none⟩ = some (Value.slice v118.ptr v118.len v118.cap) ∧ (IsAt v118.ptr ∧ (0 ≤ i2 ∧ i2 < ((v118.len : Nat) : Int) ∧ (∃ (v121 : Int), w33.cell? ⟨(pblk v118.ptr), (poff v118.ptr) + i2.toNat, none⟩ = some (Value.int .i64 v121) ∧ (F_towpathlaw10_RingShows_k7 R D i2 again_2 (v121 != x) w33)))))) ∧
  ((decide (i2 < ((v114.len : Nat) : Int))) = false → (F_towpathlaw10_RingShows_k7 R D i2 again_2 false w33)))))))) ∧
  ((decide (i2 < v73)) = false → (C_ring_Ring_int_Len r w32 (fun (v127 : Int) w36 => w36.heap[D]? = some (.deferred (some [])) ∧ (∀ w37, w37 = w36.putObj D (.deferred none) → (R (v127 == 0) w37)))))

def F_towpathlaw10_RingShows_k5 (R : Bool → World → Prop) (r : Option Addr) (v73 : Int) (b_2 : Nat) (D : Nat) (t99 : Bool) (w30 : World) : Prop :=
  (t99 = true → (w30.heap[D]? = some (.deferred (some [])) ∧ (∀ w31, w31 = w30.putObj D (.deferred none) → (R false w31)))) ∧
  (t99 = false → (∃ (I : Int → World → Prop) (μ : Int → World → Nat), I 0 w30 ∧
  ∀ (i2 : Int) w, I i2 w → F_towpathlaw10_RingShows_L6 R r v73 b_2 D (fun (i2' : Int) w' => I i2' w' ∧ μ i2' w' < μ i2 w) i2 w))

def F_towpathlaw10_RingShows_A4 (R : Bool → World → Prop) (b_1 : Nat) (r : Option Addr) (v73 : Int) (b_2 : Nat) (D : Nat) (w27 : World) : Prop :=
  ∃ (v86 : Slc), w27.cell? ⟨b_2, 0, none⟩ = some (Value.slice v86.ptr v86.len v86.cap) ∧ (∃ (v89 : Int), w27.cell? ⟨b_1, 0, none⟩ = some (Value.int .u8 v89) ∧ (((((v86.len : Nat) : Int) != (if (IntKind.i64.wrap ((IntKind.i64.wrap v89) + 1)) < v73 then (IntKind.i64.wrap ((IntKind.i64.wrap v89) + 1)) else v73)) = true → (F_towpathlaw10_RingShows_k5 R r v73 b_2 D true w27)) ∧
  ((((v86.len : Nat) : Int) != (if (IntKind.i64.wrap ((IntKind.i64.wrap v89) + 1)) < v73 then (IntKind.i64.wrap ((IntKind.i64.wrap v89) + 1)) else v73)) = false → (C_ring_Ring_int_Len r w27 (fun (v96 : Int) w38 => F_towpathlaw10_RingShows_k5 R r v73 b_2 D (v96 != v73) w38)))))

def F_towpathlaw10_RingShows_L2 (R : Bool → World → Prop) (b_ : Nat) (taken : Int) (b_1 : Nat) (r : Option Addr) (again_1 : Int → World → Prop) (i1 : Int) (w13 : World) : Prop :=
  ((decide (i1 < (IntKind.i64.wrap taken))) = true → (C_ring_Ring_int_Take r w13 (fun (v71 : Int) (v71_1 : Bool) w14 => again_1 (IntKind.i64.wrap (i1 + 1)) w14))) ∧
  ((decide (i1 < (IntKind.i64.wrap taken))) = false → (C_ring_Ring_int_Len r w13 (fun (v73 : Int) w15 => ∀ b_2 w16, b_2 = w15.heap.size → w16 = w15.alloc (Obj.cells ([Value.slice none 0 0]).toArray ty_sl_int (0, 0)) → (C_ring_Ring_int_All r w16 (fun (v75 : Value) w17 => ∀ (rec_ : Recs) (D : Nat) w18, D = w17.heap.size → w18 = (w17.alloc (.deferred (some []))).alloc (.loop (rec_ .ready none)) → (∀ (t76 : Int) (w19 : World) (Kb : Bool → World → Prop), w19.heap[D + 1]? = some (.loop (rec_ .ready none)) → (∀ w26, w26 = w19.putObj (D + 1) (.loop (rec_ .busy none)) → F_towpathlaw10_RingShows_B3 b_1 b_2 rec_ D Kb t76 w26) → CallsY (P := Try.prog) (yieldV (D + 1)) #[Value.int .i64 t76] w19 (fun e_ W_ => ∃ b_, e_ = Ending.returned (.bool b_) ∧ Kb b_ W_)) → CallsV (P := Try.prog) v75 #[yieldV (D + 1)] w18 (fun e_ w28 => (∃ v_, e_ = Ending.returned v_) ∧ ∃ st_ pe_, w28.heap[D + 1]? = some (.loop (rec_ st_ pe_)) ∧ st_ ≠ .busy ∧ ∀ w29, w29 = w28.putObj (D + 1) (.loop (rec_ .exhausted pe_)) → (((pe_ = none ∨ pe_ = some (.exit 4)) ∧ (F_towpathlaw10_RingShows_A4 R b_1 r v73 b_2 D w29)))))))))

def F_towpathlaw10_RingShows_L0 (R : Bool → World → Prop) (b_ : Nat) (things : Slc) (taken : Int) (b_1 : Nat) (r : Option Addr) (again_ : Bool → Int → World → Prop) (t2 : Bool) (i : Int) (w8 : World) : Prop :=
  ((decide (i < ((things.len : Nat) : Int))) = true → (IsAt things.ptr ∧ (0 ≤ i ∧ i < ((things.len : Nat) : Int) ∧ (∃ (v52 : Int), w8.cell? ⟨(pblk things.ptr), (poff things.ptr) + i.toNat, none⟩ = some (Value.int .i64 v52) ∧ (C_ring_Ring_int_Put r v52 w8 (fun (v53 : Bool) w10 => ((!v53) = true → (C_ring_Ring_int_Take r w10 (fun (v56 : Int) (v56_1 : Bool) w11 => IsAt things.ptr ∧ (0 ≤ i ∧ i < ((things.len : Nat) : Int) ∧ (∃ (v61 : Int), w11.cell? ⟨(pblk things.ptr), (poff things.ptr) + i.toNat, none⟩ = some (Value.int .i64 v61) ∧ (C_ring_Ring_int_Put r v61 w11 (fun (v62 : Bool) w12 => ((!v62) = true → (R false w12)) ∧
  ((!v62) = false → (F_towpathlaw10_RingShows_k1 t2 i again_ w12))))))))) ∧
  ((!v53) = false → (F_towpathlaw10_RingShows_k1 t2 i again_ w10)))))))) ∧
  ((decide (i < ((things.len : Nat) : Int))) = false → (∃ (I : Int → World → Prop) (μ : Int → World → Nat), I 0 w8 ∧
  ∀ (i1 : Int) w, I i1 w → F_towpathlaw10_RingShows_L2 R b_ taken b_1 r (fun (i1' : Int) w' => I i1' w' ∧ μ i1' w' < μ i1 w) i1 w))

def F_towpathlaw10_RingShows (s : T_towpathlaw10_Show) (R : Bool → World → Prop) (w : World) : Prop :=
  ∀ b_ w1, b_ = w.heap.size → w1 = w.alloc (Obj.cells ([Value.int .u8 s.Capacity, Value.int .u8 s.Taken, Value.int .u8 s.Most, Value.slice s.Things.ptr s.Things.len s.Things.cap]).toArray ty_towpathlaw10_Show (0, 0)) → (∀ w2, (∃ k, w2 = w1.drewN k) → (∃ (capacity : Int), w2.cell? ⟨b_, 0, none⟩ = some (Value.int .u8 capacity) ∧ (∃ (things : Slc), w2.cell? ⟨b_, 3, none⟩ = some (Value.slice things.ptr things.len things.cap) ∧ (∃ (taken : Int), w2.cell? ⟨b_, 1, none⟩ = some (Value.int .u8 taken) ∧ (∃ (v24 : Int), w2.cell? ⟨b_, 2, none⟩ = some (Value.int .u8 v24) ∧ (∀ b_1 w3, b_1 = w2.heap.size → w3 = w2.alloc (Obj.cells ([Value.int .u8 0]).toArray ty_uint8 (0, 0)) → (w3.cell? ⟨b_, 2, none⟩ = some (Value.int .u8 v24) ∧ w3.cell? ⟨b_, 1, none⟩ = some (Value.int .u8 taken) ∧ w3.cell? ⟨b_, 3, none⟩ = some (Value.slice things.ptr things.len things.cap) ∧ w3.cell? ⟨b_, 0, none⟩ = some (Value.int .u8 capacity) ∧ (Writable w3 b_1 0 1 ∧ (∀ w4, w4 = World.puts b_1 0 [Value.int .u8 v24] w3 → ((C_towpathlaw10_alive w4 (fun (v25 : Bool) w5 => (((!v25) || (decide (((things.len : Nat) : Int) > 1000))) = true → (C_towpathlaw10_alive w5 (fun (v32 : Bool) w6 => R v32 w6))) ∧
  (((!v25) || (decide (((things.len : Nat) : Int) > 1000))) = false → (C_ring_New_int (IntKind.i64.wrap (1 + (IntKind.i64.wrap capacity))) w5 (fun (r : Option Addr) (e : Int) w7 => ((e != 0) = true → (R false w7)) ∧
  ((e != 0) = false → (∃ (I : Bool → Int → World → Prop) (μ : Bool → Int → World → Nat), I false 0 w7 ∧
  ∀ (t2 : Bool) (i : Int) w, I t2 i w → F_towpathlaw10_RingShows_L0 R b_ things taken b_1 r (fun (t2' : Bool) (i' : Int) w' => I t2' i' w' ∧ μ t2' i' w' < μ t2 i w) t2 i w)))))))))))))))))

def F_towpathlaw01_Beyond_L0 (l_ : Slc) (R : Bool → World → Prop) (again_ : Int → Int → World → Prop) (n_ : Int) (i : Int) (w1 : World) : Prop :=
  ((decide (i < ((l_.len : Nat) : Int))) = true → (IsAt l_.ptr ∧ (0 ≤ i ∧ i < ((l_.len : Nat) : Int) ∧ (∃ (v15 : Int), w1.cell? ⟨(pblk l_.ptr), (poff l_.ptr) + i.toNat, none⟩ = some (Value.int .i64 v15) ∧ (((decide ((IntKind.i64.wrap (n_ + v15)) > 1048576)) = true → (R true w1)) ∧
  ((decide ((IntKind.i64.wrap (n_ + v15)) > 1048576)) = false → (again_ (IntKind.i64.wrap (n_ + v15)) (IntKind.i64.wrap (i + 1)) w1))))))) ∧
  ((decide (i < ((l_.len : Nat) : Int))) = false → (R false w1))

def F_towpathlaw01_Beyond (l_ : Slc) (R : Bool → World → Prop) (w : World) : Prop :=
  ∃ (I : Int → Int → World → Prop) (μ : Int → Int → World → Nat), I 0 0 w ∧
  ∀ (n_ : Int) (i : Int) w, I n_ i w → F_towpathlaw01_Beyond_L0 l_ R (fun (n_' : Int) (i' : Int) w' => I n_' i' w' ∧ μ n_' i' w' < μ n_ i w) n_ i w

def F_towpathlaw10_alive_k0 (R : Bool → World → Prop) (r : Option Addr) (t44 : Bool) (w3 : World) : Prop :=
  (t44 = true → (R false w3)) ∧
  (t44 = false → (C_ring_Ring_int_Take r w3 (fun (x : Int) (ok : Bool) w4 => C_ring_Ring_int_Close r w4 (fun w5 => ((ok && (x == 1)) = true → (C_ring_Ring_int_Put r 4 w5 (fun (v59 : Bool) w6 => ((!v59) = true → (C_ring_Ring_int_Over r w6 (fun (v64 : Bool) w7 => ((!v64) = true → (C_ring_Ring_int_Len r w7 (fun (v69 : Int) w8 => R (v69 == 1) w8))) ∧
  ((!v64) = false → (R false w7))))) ∧
  ((!v59) = false → (R false w6))))) ∧
  ((ok && (x == 1)) = false → (R false w5))))))

def F_towpathlaw10_alive (R : Bool → World → Prop) (w : World) : Prop :=
  C_ring_New_int 2 w (fun (r : Option Addr) (e : Int) w1 => C_ring_New_int 0 w1 (fun (v12 : Option Addr) (f : Int) w2 => (((e != 0) || (f != 1)) = true → (F_towpathlaw10_alive_k0 R r true w2)) ∧
  (((e != 0) || (f != 1)) = false → (C_ring_Ring_int_Put r 1 w2 (fun (v23 : Bool) w9 => ((!v23) = true → (F_towpathlaw10_alive_k0 R r true w9)) ∧
  ((!v23) = false → (C_ring_Ring_int_Put r 2 w9 (fun (v28 : Bool) w10 => ((!v28) = true → (F_towpathlaw10_alive_k0 R r true w10)) ∧
  ((!v28) = false → (C_ring_Ring_int_Put r 3 w10 (fun (v33 : Bool) w11 => (v33 = true → (F_towpathlaw10_alive_k0 R r true w11)) ∧
  (v33 = false → (C_ring_Ring_int_Len r w11 (fun (v37 : Int) w12 => ((v37 != 2) = true → (F_towpathlaw10_alive_k0 R r true w12)) ∧
  ((v37 != 2) = false → (C_ring_Ring_int_Room r w12 (fun (v42 : Int) w13 => F_towpathlaw10_alive_k0 R r (v42 != 0) w13)))))))))))))))))

def F_ring_New_int (capacity : Int) (R : Option Addr → Int → World → Prop) (w : World) : Prop :=
  (((decide (capacity < 1)) || (decide (capacity > 65536))) = true → (R none 1 w)) ∧
  (((decide (capacity < 1)) || (decide (capacity > 65536))) = false → (0 ≤ capacity ∧ capacity ≤ capacity ∧ (8 : Int) * capacity ≤ 281474976710656 ∧ (∀ b_ w1, b_ = w.heap.size → w1 = w.alloc (Obj.cells (repCells capacity.toNat [Value.int .i64 0]) ty_int (0, 0)) → (∀ b_1 w2, b_1 = w1.heap.size → w2 = w1.alloc (Obj.cells ([Value.slice (some ⟨b_, 0, none⟩) capacity.toNat capacity.toNat, Value.int .i64 0, Value.int .i64 0, Value.bool false]).toArray ty_ring_Ring_int (0, 0)) → (R (some ⟨b_1, 0, none⟩) 0 w2)))))

def F_ring_Ring_int_Put (r : Option Addr) (x : Int) (R : Bool → World → Prop) (w : World) : Prop :=
  C_ring_Ring_int_Room r w (fun (v6 : Int) w1 => ((v6 == 0) = true → (R false w1)) ∧
  ((v6 == 0) = false → (∀ w2, (∃ k, w2 = w1.drewN k) → (IsAt r ∧ (∃ (v11 : Slc), w2.cell? ⟨(pblk r), (poff r), none⟩ = some (Value.slice v11.ptr v11.len v11.cap) ∧ (IsAt r ∧ (∃ (v15 : Int), w2.cell? ⟨(pblk r), (poff r) + 1, none⟩ = some (Value.int .i64 v15) ∧ (IsAt r ∧ (∃ (v19 : Int), w2.cell? ⟨(pblk r), (poff r) + 2, none⟩ = some (Value.int .i64 v19) ∧ (IsAt r ∧ (∃ (v24 : Slc), w2.cell? ⟨(pblk r), (poff r), none⟩ = some (Value.slice v24.ptr v24.len v24.cap) ∧ (((v24.len : Nat) : Int) ≠ 0 ∧ (IsAt v11.ptr ∧ (0 ≤ Int.tmod (IntKind.i64.wrap (v15 + v19)) ((v24.len : Nat) : Int) ∧ Int.tmod (IntKind.i64.wrap (v15 + v19)) ((v24.len : Nat) : Int) < ((v11.len : Nat) : Int) ∧ (Writable w2 (pblk v11.ptr) ((poff v11.ptr) + (Int.tmod (IntKind.i64.wrap (v15 + v19)) ((v24.len : Nat) : Int)).toNat) 1 ∧ (∀ w3, w3 = World.puts (pblk v11.ptr) ((poff v11.ptr) + (Int.tmod (IntKind.i64.wrap (v15 + v19)) ((v24.len : Nat) : Int)).toNat) [Value.int .i64 x] w2 → (IsAt r ∧ (∃ (v32 : Int), w3.cell? ⟨(pblk r), (poff r) + 2, none⟩ = some (Value.int .i64 v32) ∧ (Writable w3 (pblk r) ((poff r) + 2) 1 ∧ (∀ w4, w4 = World.puts (pblk r) ((poff r) + 2) [Value.int .i64 (IntKind.i64.wrap (v32 + 1))] w3 → (R true w4)))))))))))))))))))))

def F_ring_Ring_int_Take_k0 (R : Int → Bool → World → Prop) (x : Int) (ok : Bool) (w1 : World) : Prop :=
  R x ok w1

def F_ring_Ring_int_Take (r : Option Addr) (R : Int → Bool → World → Prop) (w : World) : Prop :=
  C_ring_Ring_int_First r w (fun (x1 : Int) (ok1 : Bool) w2 => (ok1 = true → (∀ w3, (∃ k, w3 = w2.drewN k) → (IsAt r ∧ (∃ (v14 : Slc), w3.cell? ⟨(pblk r), (poff r), none⟩ = some (Value.slice v14.ptr v14.len v14.cap) ∧ (IsAt r ∧ (∃ (v18 : Int), w3.cell? ⟨(pblk r), (poff r) + 1, none⟩ = some (Value.int .i64 v18) ∧ (IsAt v14.ptr ∧ (0 ≤ v18 ∧ v18 < ((v14.len : Nat) : Int) ∧ (Writable w3 (pblk v14.ptr) ((poff v14.ptr) + v18.toNat) 1 ∧ (∀ w4, w4 = World.puts (pblk v14.ptr) ((poff v14.ptr) + v18.toNat) [Value.int .i64 0] w3 → (∀ w5, (∃ k, w5 = w4.drewN k) → (IsAt r ∧ (∃ (v25 : Int), w5.cell? ⟨(pblk r), (poff r) + 1, none⟩ = some (Value.int .i64 v25) ∧ (IsAt r ∧ (∃ (v30 : Slc), w5.cell? ⟨(pblk r), (poff r), none⟩ = some (Value.slice v30.ptr v30.len v30.cap) ∧ (((v30.len : Nat) : Int) ≠ 0 ∧ (IsAt r ∧ (Writable w5 (pblk r) ((poff r) + 1) 1 ∧ (∀ w6, w6 = World.puts (pblk r) ((poff r) + 1) [Value.int .i64 (Int.tmod (IntKind.i64.wrap (v25 + 1)) ((v30.len : Nat) : Int))] w5 → (IsAt r ∧ (∃ (v38 : Int), w6.cell? ⟨(pblk r), (poff r) + 2, none⟩ = some (Value.int .i64 v38) ∧ (Writable w6 (pblk r) ((poff r) + 2) 1 ∧ (∀ w7, w7 = World.puts (pblk r) ((poff r) + 2) [Value.int .i64 (IntKind.i64.wrap (v38 - 1))] w6 → (F_ring_Ring_int_Take_k0 R x1 ok1 w7)))))))))))))))))))))))) ∧
  (ok1 = false → (F_ring_Ring_int_Take_k0 R x1 ok1 w2)))

def F_ring_Ring_int_Len (r : Option Addr) (R : Int → World → Prop) (w : World) : Prop :=
  C_ring_Ring_int_gone r w (fun (v4 : Bool) w1 => (v4 = true → (R 0 w1)) ∧
  (v4 = false → (IsAt r ∧ (∃ (v8 : Int), w1.cell? ⟨(pblk r), (poff r) + 2, none⟩ = some (Value.int .i64 v8) ∧ (R v8 w1)))))

def F_ring_Ring_int_Room_k0 (r : Option Addr) (R : Int → World → Prop) (t10 : Bool) (w1 : World) : Prop :=
  (t10 = true → (R 0 w1)) ∧
  (t10 = false → (IsAt r ∧ (∃ (v14 : Slc), w1.cell? ⟨(pblk r), (poff r), none⟩ = some (Value.slice v14.ptr v14.len v14.cap) ∧ (IsAt r ∧ (∃ (v19 : Int), w1.cell? ⟨(pblk r), (poff r) + 2, none⟩ = some (Value.int .i64 v19) ∧ (∀ w2, Ext w1 w2 → (R (IntKind.i64.wrap (((v14.len : Nat) : Int) - v19)) w2)))))))

def F_ring_Ring_int_Room (r : Option Addr) (R : Int → World → Prop) (w : World) : Prop :=
  C_ring_Ring_int_gone r w (fun (v4 : Bool) w3 => (v4 = true → (F_ring_Ring_int_Room_k0 r R true w3)) ∧
  (v4 = false → (IsAt r ∧ (∃ (v9 : Bool), w3.cell? ⟨(pblk r), (poff r) + 3, none⟩ = some (Value.bool v9) ∧ (F_ring_Ring_int_Room_k0 r R v9 w3)))))

def F_ring_Ring_int_Close (r : Option Addr) (R : World → Prop) (w : World) : Prop :=
  C_ring_Ring_int_gone r w (fun (v3 : Bool) w1 => ((!v3) = true → (IsAt r ∧ (Writable w1 (pblk r) ((poff r) + 3) 1 ∧ (∀ w2, w2 = World.puts (pblk r) ((poff r) + 3) [Value.bool true] w1 → (R w2))))) ∧
  ((!v3) = false → (R w1)))

def F_ring_Ring_int_Over (r : Option Addr) (R : Bool → World → Prop) (w : World) : Prop :=
  C_ring_Ring_int_gone r w (fun (v4 : Bool) w1 => ((!v4) = true → (IsAt r ∧ (∃ (v10 : Bool), w1.cell? ⟨(pblk r), (poff r) + 3, none⟩ = some (Value.bool v10) ∧ ((v10 = true → (IsAt r ∧ (∃ (v16 : Int), w1.cell? ⟨(pblk r), (poff r) + 2, none⟩ = some (Value.int .i64 v16) ∧ (R (v16 == 0) w1)))) ∧
  (v10 = false → (R false w1)))))) ∧
  ((!v4) = false → (R false w1)))

def F_towpathlaw01_SameInts_L0 (a_ : Slc) (b_ : Slc) (R : Bool → World → Prop) (again_ : Int → World → Prop) (i : Int) (w1 : World) : Prop :=
  ((decide (i < ((a_.len : Nat) : Int))) = true → (IsAt a_.ptr ∧ (0 ≤ i ∧ i < ((a_.len : Nat) : Int) ∧ (∃ (v20 : Int), w1.cell? ⟨(pblk a_.ptr), (poff a_.ptr) + i.toNat, none⟩ = some (Value.int .i64 v20) ∧ (IsAt b_.ptr ∧ (0 ≤ i ∧ i < ((b_.len : Nat) : Int) ∧ (∃ (v24 : Int), w1.cell? ⟨(pblk b_.ptr), (poff b_.ptr) + i.toNat, none⟩ = some (Value.int .i64 v24) ∧ (∀ w2, Ext w1 w2 → (((v20 != v24) = true → (R false w2)) ∧
  ((v20 != v24) = false → (again_ (IntKind.i64.wrap (i + 1)) w2))))))))))) ∧
  ((decide (i < ((a_.len : Nat) : Int))) = false → (R true w1))

def F_towpathlaw01_SameInts (a_ : Slc) (b_ : Slc) (R : Bool → World → Prop) (w : World) : Prop :=
  ((((a_.len : Nat) : Int) != ((b_.len : Nat) : Int)) = true → (R false w)) ∧
  ((((a_.len : Nat) : Int) != ((b_.len : Nat) : Int)) = false → (∃ (I : Int → World → Prop) (μ : Int → World → Nat), I 0 w ∧
  ∀ (i : Int) w, I i w → F_towpathlaw01_SameInts_L0 a_ b_ R (fun (i' : Int) w' => I i' w' ∧ μ i' w' < μ i w) i w))

def F_towpathref10_New (capacity : Int) (R : Option Addr → Int → World → Prop) (w : World) : Prop :=
  (((decide (capacity < 1)) || (decide (capacity > 65536))) = true → (R none 1 w)) ∧
  (((decide (capacity < 1)) || (decide (capacity > 65536))) = false → (∀ b_ w1, b_ = w.heap.size → w1 = w.alloc (Obj.cells ([Value.slice none 0 0, Value.int .i64 capacity, Value.bool false]).toArray ty_towpathref10_Ring (0, 0)) → (R (some ⟨b_, 0, none⟩) 0 w1)))

def F_towpathlaw10_asked_k0 (r : Option Addr) (x : Option Addr) (R : Bool → World → Prop) (w2 : World) : Prop :=
  C_ring_Ring_int_First r w2 (fun (a_ : Int) (ok : Bool) w3 => C_towpathref10_Ring_First x w3 (fun (b_1 : Int) (is : Bool) w4 => (((a_ == b_1) && (ok == is)) = true → (C_ring_Ring_int_Len r w4 (fun (v87 : Int) w5 => C_towpathref10_Ring_Len x w5 (fun (v89 : Int) w6 => ((v87 == v89) = true → (C_ring_Ring_int_Room r w6 (fun (v94 : Int) w7 => C_towpathref10_Ring_Room x w7 (fun (v96 : Int) w8 => ((v94 == v96) = true → (C_ring_Ring_int_Over r w8 (fun (v101 : Bool) w9 => C_towpathref10_Ring_Over x w9 (fun (v103 : Bool) w10 => R (v101 == v103) w10)))) ∧
  ((v94 == v96) = false → (R false w8)))))) ∧
  ((v87 == v89) = false → (R false w6)))))) ∧
  (((a_ == b_1) && (ok == is)) = false → (R false w4))))

def F_towpathlaw10_asked (r : Option Addr) (x : Option Addr) (o_ : T_towpathlaw10_Op) (R : Bool → World → Prop) (w : World) : Prop :=
  ∀ b_ w1, b_ = w.heap.size → w1 = w.alloc (Obj.cells ([Value.int .u8 o_.Kind, Value.int .i64 o_.X]).toArray ty_towpathlaw10_Op (0, 0)) → (∃ (v16 : Int), w1.cell? ⟨b_, 0, none⟩ = some (Value.int .u8 v16) ∧ (((v16 == 1) = true → (∀ w11, (∃ k, w11 = w1.drewN k) → (∃ (v21 : Int), w11.cell? ⟨b_, 1, none⟩ = some (Value.int .i64 v21) ∧ (∃ (v25 : Int), w11.cell? ⟨b_, 1, none⟩ = some (Value.int .i64 v25) ∧ (C_ring_Ring_int_Put r v21 w11 (fun (v22 : Bool) w12 => w12.cell? ⟨b_, 1, none⟩ = some (Value.int .i64 v25) ∧ (C_towpathref10_Ring_Put x v25 w12 (fun (v26 : Bool) w13 => (((!(v22 == v26)) = true → (R false w13)) ∧
  ((!(v22 == v26)) = false → (F_towpathlaw10_asked_k0 r x R w13))))))))))) ∧
  ((v16 == 1) = false → (((v16 == 2) = true → (C_ring_Ring_int_Take r w1 (fun (a_1 : Int) (ok1 : Bool) w14 => C_towpathref10_Ring_Take x w14 (fun (b_2 : Int) (is1 : Bool) w15 => (((a_1 != b_2) || (!(ok1 == is1))) = true → (R false w15)) ∧
  (((a_1 != b_2) || (!(ok1 == is1))) = false → (F_towpathlaw10_asked_k0 r x R w15)))))) ∧
  ((v16 == 2) = false → (((v16 == 3) = true → (C_ring_Ring_int_Close r w1 (fun w16 => C_towpathref10_Ring_Close x w16 (fun w17 => F_towpathlaw10_asked_k0 r x R w17)))) ∧
  ((v16 == 3) = false → (((v16 == 4) = true → (∀ w18, (∃ k, w18 = w1.drewN k) → (∃ (v58 : Int), w18.cell? ⟨b_, 1, none⟩ = some (Value.int .i64 v58) ∧ (∃ (v63 : Int), w18.cell? ⟨b_, 1, none⟩ = some (Value.int .i64 v63) ∧ (C_towpathlaw10_gone r v58 w18 (fun (v59 : Slc) w19 => w19.cell? ⟨b_, 1, none⟩ = some (Value.int .i64 v63) ∧ (C_towpathref10_Ring_All x w19 (fun (v61 : Slc) w20 => w20.cell? ⟨b_, 1, none⟩ = some (Value.int .i64 v63) ∧ (C_towpathlaw10_few v61 v63 w20 (fun (v64 : Slc) w21 => (C_towpathlaw01_SameInts v59 v64 w21 (fun (v65 : Bool) w22 => (((!v65) = true → (R false w22)) ∧
  ((!v65) = false → (F_towpathlaw10_asked_k0 r x R w22))))))))))))))) ∧
  ((v16 == 4) = false → (F_towpathlaw10_asked_k0 r x R w1))))))))))

def F_towpathlaw10_gone_B0 (b_ : Nat) (b_1 : Nat) (rec_ : Recs) (D : Nat) (Kb : Bool → World → Prop) (t9 : Int) (w6 : World) : Prop :=
  ∃ (v10 : Slc), w6.cell? ⟨b_1, 0, none⟩ = some (Value.slice v10.ptr v10.len v10.cap) ∧ (∃ (v12 : Int), w6.cell? ⟨b_, 0, none⟩ = some (Value.int .i64 v12) ∧ (((decide (((v10.len : Nat) : Int) ≥ v12)) = true → (w6.heap[D + 1]? = some (.loop (rec_ .busy none)) ∧ (∀ w7, w7 = w6.putObj (D + 1) (.loop (rec_ .done (some (.exit 0)))) → Kb false w7))) ∧
  ((decide (((v10.len : Nat) : Int) ≥ v12)) = false → (∃ (v14 : Slc), w6.cell? ⟨b_1, 0, none⟩ = some (Value.slice v14.ptr v14.len v14.cap) ∧ (∀ b_2 w8, b_2 = w6.heap.size → w8 = w6.alloc (Obj.cells ([Value.int .i64 t9]).toArray ty_int (0, 0)) → (∃ src, SrcAt w8 (Slc.mk (some ⟨b_2, 0, none⟩) 1 1) 1 src ∧ AppendW 1 8 ty_int [Value.int .i64 0] v14 src 1 w8 (fun v17 w9 => Writable w9 b_1 0 1 ∧ (∀ w10, w10 = World.puts b_1 0 [Value.slice v17.ptr v17.len v17.cap] w9 → (w10.heap[D + 1]? = some (.loop (rec_ .busy none)) ∧ (∀ w11, w11 = w10.putObj (D + 1) (.loop (rec_ .ready none)) → Kb true w11))))))))))

def F_towpathlaw10_gone_A1 (R : Slc → World → Prop) (b_1 : Nat) (D : Nat) (w13 : World) : Prop :=
  ∃ (v18 : Slc), w13.cell? ⟨b_1, 0, none⟩ = some (Value.slice v18.ptr v18.len v18.cap) ∧ (w13.heap[D]? = some (.deferred (some [])) ∧ (∀ w16, w16 = w13.putObj D (.deferred none) → (R v18 w16)))

def F_towpathlaw10_gone (r : Option Addr) (most : Int) (R : Slc → World → Prop) (w : World) : Prop :=
  ∀ b_ w1, b_ = w.heap.size → w1 = w.alloc (Obj.cells ([Value.int .i64 most]).toArray ty_int (0, 0)) → (∀ b_1 w2, b_1 = w1.heap.size → w2 = w1.alloc (Obj.cells ([Value.slice none 0 0]).toArray ty_sl_int (0, 0)) → (C_ring_Ring_int_All r w2 (fun (v8 : Value) w3 => ∀ (rec_ : Recs) (D : Nat) w4, D = w3.heap.size → w4 = (w3.alloc (.deferred (some []))).alloc (.loop (rec_ .ready none)) → (∀ (t9 : Int) (w5 : World) (Kb : Bool → World → Prop), w5.heap[D + 1]? = some (.loop (rec_ .ready none)) → (∀ w12, w12 = w5.putObj (D + 1) (.loop (rec_ .busy none)) → F_towpathlaw10_gone_B0 b_ b_1 rec_ D Kb t9 w12) → CallsY (P := Try.prog) (yieldV (D + 1)) #[Value.int .i64 t9] w5 (fun e_ W_ => ∃ b_, e_ = Ending.returned (.bool b_) ∧ Kb b_ W_)) → CallsV (P := Try.prog) v8 #[yieldV (D + 1)] w4 (fun e_ w14 => (∃ v_, e_ = Ending.returned v_) ∧ ∃ st_ pe_, w14.heap[D + 1]? = some (.loop (rec_ st_ pe_)) ∧ st_ ≠ .busy ∧ ∀ w15, w15 = w14.putObj (D + 1) (.loop (rec_ .exhausted pe_)) → (((pe_ = none ∨ pe_ = some (.exit 0)) ∧ (F_towpathlaw10_gone_A1 R b_1 D w15)))))))

def F_towpathref10_Ring_All (r : Option Addr) (R : Slc → World → Prop) (w : World) : Prop :=
  (r.isNone = true → (R (Slc.mk none 0 0) w)) ∧
  (r.isNone = false → (IsAt r ∧ (∃ (v8 : Slc), w.cell? ⟨(pblk r), (poff r), none⟩ = some (Value.slice v8.ptr v8.len v8.cap) ∧ (R v8 w))))

def F_ring_Ring_int_All (r : Option Addr) (R : Value → World → Prop) (w : World) : Prop :=
  ∀ b_ w1, b_ = w.heap.size → w1 = w.alloc (Obj.cells ([Value.pointer r]).toArray ty_ptr_ring_Ring_int (0, 0)) → (R (Value.func (.func 59) #[] #[Value.pointer (some ⟨b_, 0, none⟩)]) w1)

def F_ring_Ring_int_First (r : Option Addr) (R : Int → Bool → World → Prop) (w : World) : Prop :=
  C_ring_Ring_int_Len r w (fun (v5 : Int) w1 => ((v5 == 0) = true → (R 0 false w1)) ∧
  ((v5 == 0) = false → (IsAt r ∧ (∃ (v11 : Slc), w1.cell? ⟨(pblk r), (poff r), none⟩ = some (Value.slice v11.ptr v11.len v11.cap) ∧ (IsAt r ∧ (∃ (v15 : Int), w1.cell? ⟨(pblk r), (poff r) + 1, none⟩ = some (Value.int .i64 v15) ∧ (IsAt v11.ptr ∧ (0 ≤ v15 ∧ v15 < ((v11.len : Nat) : Int) ∧ (∃ (x : Int), w1.cell? ⟨(pblk v11.ptr), (poff v11.ptr) + v15.toNat, none⟩ = some (Value.int .i64 x) ∧ (∀ w2, Ext w1 w2 → (R x true w2)))))))))))

def F_ring_Ring_int_gone (r : Option Addr) (R : Bool → World → Prop) (w : World) : Prop :=
  (r.isNone = true → (R true w)) ∧
  (r.isNone = false → (IsAt r ∧ (∃ (v9 : Slc), w.cell? ⟨(pblk r), (poff r), none⟩ = some (Value.slice v9.ptr v9.len v9.cap) ∧ (R v9.ptr.isNone w))))

def F_towpathref10_Ring_Put_k0 (r : Option Addr) (x : Int) (R : Bool → World → Prop) (t24 : Bool) (w1 : World) : Prop :=
  (t24 = true → (R false w1)) ∧
  (t24 = false → (IsAt r ∧ (∃ (v29 : Slc), w1.cell? ⟨(pblk r), (poff r), none⟩ = some (Value.slice v29.ptr v29.len v29.cap) ∧ (∀ b_ w2, b_ = w1.heap.size → w2 = w1.alloc (Obj.cells ([Value.int .i64 x]).toArray ty_int (0, 0)) → (∃ src, SrcAt w2 (Slc.mk (some ⟨b_, 0, none⟩) 1 1) 1 src ∧ AppendW 1 8 ty_int [Value.int .i64 0] v29 src 1 w2 (fun v32 w3 => IsAt r ∧ (Writable w3 (pblk r) (poff r) 1 ∧ (∀ w4, w4 = World.puts (pblk r) (poff r) [Value.slice v32.ptr v32.len v32.cap] w3 → (R true w4)))))))))

def F_towpathref10_Ring_Put (r : Option Addr) (x : Int) (R : Bool → World → Prop) (w : World) : Prop :=
  (r.isNone = true → (∀ w5, Ext w w5 → (F_towpathref10_Ring_Put_k0 r x R true w5))) ∧
  (r.isNone = false → (IsAt r ∧ (∃ (v11 : Bool), w.cell? ⟨(pblk r), (poff r) + 2, none⟩ = some (Value.bool v11) ∧ ((v11 = true → (∀ w6, Ext w w6 → (F_towpathref10_Ring_Put_k0 r x R true w6))) ∧
  (v11 = false → (IsAt r ∧ (∃ (v17 : Slc), w.cell? ⟨(pblk r), (poff r), none⟩ = some (Value.slice v17.ptr v17.len v17.cap) ∧ (IsAt r ∧ (∃ (v22 : Int), w.cell? ⟨(pblk r), (poff r) + 1, none⟩ = some (Value.int .i64 v22) ∧ (∀ w7, Ext w w7 → (F_towpathref10_Ring_Put_k0 r x R (decide (((v17.len : Nat) : Int) ≥ v22)) w7)))))))))))

def F_towpathref10_Ring_Take_k0 (R : Int → Bool → World → Prop) (x : Int) (ok : Bool) (w2 : World) : Prop :=
  R x ok w2

def F_towpathref10_Ring_Take (r : Option Addr) (R : Int → Bool → World → Prop) (w : World) : Prop :=
  C_towpathref10_Ring_First r w (fun (x : Int) (ok : Bool) w1 => (ok = true → (IsAt r ∧ (∃ (v16 : Slc), w1.cell? ⟨(pblk r), (poff r), none⟩ = some (Value.slice v16.ptr v16.len v16.cap) ∧ ((0 ≤ (1 : Int) ∧ (1 : Int) ≤ ((v16.len : Nat) : Int) ∧ ((v16.len : Nat) : Int) ≤ ((v16.cap : Nat) : Int) ∧ ((v16.cap : Nat) : Int) ≤ ((v16.cap : Nat) : Int)) ∧ (∀ s, s = Slc.cut 1 v16 1 ((v16.len : Nat) : Int) ((v16.cap : Nat) : Int) → (IsAt r ∧ (Writable w1 (pblk r) (poff r) 1 ∧ (∀ w3, w3 = World.puts (pblk r) (poff r) [Value.slice s.ptr s.len s.cap] w1 → (F_towpathref10_Ring_Take_k0 R x ok w3))))))))) ∧
  (ok = false → (F_towpathref10_Ring_Take_k0 R x ok w1)))

def F_towpathref10_Ring_Close (r : Option Addr) (R : World → Prop) (w : World) : Prop :=
  ((!r.isNone) = true → (IsAt r ∧ (Writable w (pblk r) ((poff r) + 2) 1 ∧ (∀ w1, w1 = World.puts (pblk r) ((poff r) + 2) [Value.bool true] w → (R w1))))) ∧
  ((!r.isNone) = false → (R w))

def F_towpathlaw10_few (l_ : Slc) (most : Int) (R : Slc → World → Prop) (w : World) : Prop :=
  ((decide (((l_.len : Nat) : Int) > most)) = true → (0 ≤ (if 0 > most then 0 else most) ∧ (if 0 > most then 0 else most) ≤ ((l_.cap : Nat) : Int) ∧ (R (Slc.mk l_.ptr ((if 0 > most then 0 else most).toNat) l_.cap) w))) ∧
  ((decide (((l_.len : Nat) : Int) > most)) = false → (R l_ w))

def F_towpathref10_Ring_First_k0 (r : Option Addr) (R : Int → Bool → World → Prop) (t13 : Bool) (w1 : World) : Prop :=
  (t13 = true → (R 0 false w1)) ∧
  (t13 = false → (IsAt r ∧ (∃ (v17 : Slc), w1.cell? ⟨(pblk r), (poff r), none⟩ = some (Value.slice v17.ptr v17.len v17.cap) ∧ (IsAt v17.ptr ∧ (0 ≤ (0 : Int) ∧ (0 : Int) < ((v17.len : Nat) : Int) ∧ (∃ (v19 : Int), w1.cell? ⟨(pblk v17.ptr), (poff v17.ptr), none⟩ = some (Value.int .i64 v19) ∧ (R v19 true w1)))))))

def F_towpathref10_Ring_First (r : Option Addr) (R : Int → Bool → World → Prop) (w : World) : Prop :=
  (r.isNone = true → (F_towpathref10_Ring_First_k0 r R true w)) ∧
  (r.isNone = false → (IsAt r ∧ (∃ (v10 : Slc), w.cell? ⟨(pblk r), (poff r), none⟩ = some (Value.slice v10.ptr v10.len v10.cap) ∧ (F_towpathref10_Ring_First_k0 r R (((v10.len : Nat) : Int) == 0) w))))

def F_towpathref10_Ring_Len (r : Option Addr) (R : Int → World → Prop) (w : World) : Prop :=
  (r.isNone = true → (R 0 w)) ∧
  (r.isNone = false → (IsAt r ∧ (∃ (v8 : Slc), w.cell? ⟨(pblk r), (poff r), none⟩ = some (Value.slice v8.ptr v8.len v8.cap) ∧ (R ((v8.len : Nat) : Int) w))))

def F_towpathref10_Ring_Room_k0 (r : Option Addr) (R : Int → World → Prop) (t10 : Bool) (w1 : World) : Prop :=
  (t10 = true → (R 0 w1)) ∧
  (t10 = false → (IsAt r ∧ (∃ (v14 : Int), w1.cell? ⟨(pblk r), (poff r) + 1, none⟩ = some (Value.int .i64 v14) ∧ (IsAt r ∧ (∃ (v18 : Slc), w1.cell? ⟨(pblk r), (poff r), none⟩ = some (Value.slice v18.ptr v18.len v18.cap) ∧ (∀ w2, Ext w1 w2 → (R (IntKind.i64.wrap (v14 - ((v18.len : Nat) : Int))) w2)))))))

def F_towpathref10_Ring_Room (r : Option Addr) (R : Int → World → Prop) (w : World) : Prop :=
  (r.isNone = true → (F_towpathref10_Ring_Room_k0 r R true w)) ∧
  (r.isNone = false → (IsAt r ∧ (∃ (v9 : Bool), w.cell? ⟨(pblk r), (poff r) + 2, none⟩ = some (Value.bool v9) ∧ (F_towpathref10_Ring_Room_k0 r R v9 w))))

def F_towpathref10_Ring_Over (r : Option Addr) (R : Bool → World → Prop) (w : World) : Prop :=
  ((!r.isNone) = true → (IsAt r ∧ (∃ (v9 : Bool), w.cell? ⟨(pblk r), (poff r) + 2, none⟩ = some (Value.bool v9) ∧ ((v9 = true → (IsAt r ∧ (∃ (v15 : Slc), w.cell? ⟨(pblk r), (poff r), none⟩ = some (Value.slice v15.ptr v15.len v15.cap) ∧ (R (((v15.len : Nat) : Int) == 0) w)))) ∧
  (v9 = false → (R false w)))))) ∧
  ((!r.isNone) = false → (R false w))

def F_ring_Ring_int_All_1_L0 (yield : Value) (R : World → Prop) (v6 : Slc) (again_ : Int → World → Prop) (t8 : Int) (w2 : World) : Prop :=
  ((decide (t8 < ((v6.len : Nat) : Int))) = true → (IsAt v6.ptr ∧ (0 ≤ t8 ∧ t8 < ((v6.len : Nat) : Int) ∧ (∃ (x : Int), w2.cell? ⟨(pblk v6.ptr), (poff v6.ptr) + t8.toNat, none⟩ = some (Value.int .i64 x) ∧ (CallsY (P := Try.prog) yield #[Value.int .i64 x] w2 (fun e' w3 => ∃ (v14 : Bool), e' = Ending.returned (Value.bool v14) ∧ (((!v14) = true → (R w3)) ∧
  ((!v14) = false → (again_ (IntKind.i64.wrap (t8 + 1)) w3))))))))) ∧
  ((decide (t8 < ((v6.len : Nat) : Int))) = false → (R w2))

def F_ring_Ring_int_All_1 (yield : Value) (t1 : Option Addr) (R : World → Prop) (w : World) : Prop :=
  IsAt t1 ∧ (∃ (v5 : Option Addr), w.cell? ⟨(pblk t1), (poff t1), none⟩ = some (Value.pointer v5) ∧ (C_ring_Ring_int_things v5 w (fun (v6 : Slc) w1 => ∃ (I : Int → World → Prop) (μ : Int → World → Nat), I 0 w1 ∧
  ∀ (t8 : Int) w, I t8 w → F_ring_Ring_int_All_1_L0 yield R v6 (fun (t8' : Int) w' => I t8' w' ∧ μ t8' w' < μ t8 w) t8 w)))

def F_ring_Ring_int_things (r : Option Addr) (R : Slc → World → Prop) (w : World) : Prop :=
  C_ring_Ring_int_gone r w (fun (v4 : Bool) w1 => (v4 = true → (R (Slc.mk none 0 0) w1)) ∧
  (v4 = false → (∀ w2, (∃ k, w2 = w1.drewN k) → (IsAt r ∧ (∃ (v8 : Slc), w2.cell? ⟨(pblk r), (poff r), none⟩ = some (Value.slice v8.ptr v8.len v8.cap) ∧ (IsAt r ∧ (∃ (v12 : Int), w2.cell? ⟨(pblk r), (poff r) + 1, none⟩ = some (Value.int .i64 v12) ∧ ((0 ≤ v12 ∧ v12 ≤ ((v8.len : Nat) : Int) ∧ ((v8.len : Nat) : Int) ≤ ((v8.cap : Nat) : Int) ∧ ((v8.cap : Nat) : Int) ≤ ((v8.cap : Nat) : Int)) ∧ (∀ s, s = Slc.cut 1 v8 v12 ((v8.len : Nat) : Int) ((v8.cap : Nat) : Int) → (IsAt r ∧ (∃ (v17 : Slc), w2.cell? ⟨(pblk r), (poff r), none⟩ = some (Value.slice v17.ptr v17.len v17.cap) ∧ (IsAt r ∧ (∃ (v21 : Int), w2.cell? ⟨(pblk r), (poff r) + 1, none⟩ = some (Value.int .i64 v21) ∧ (0 ≤ v21 ∧ v21 ≤ ((v17.cap : Nat) : Int) ∧ (IsAt r ∧ (∃ (v28 : Int), w2.cell? ⟨(pblk r), (poff r) + 2, none⟩ = some (Value.int .i64 v28) ∧ (∀ b_ w3, b_ = w2.heap.size → w3 = w2.alloc (Obj.cells ([Value.slice s.ptr s.len s.cap, Value.slice v17.ptr v21.toNat v17.cap]).toArray ty_sl_int (0, 0)) → (w3.cell? ⟨(pblk r), (poff r) + 2, none⟩ = some (Value.int .i64 v28) ∧ (C_slices_Concat_int_int (Slc.mk (some ⟨b_, 0, none⟩) 2 2) w3 (fun (v24 : Slc) w4 => w4.cell? ⟨(pblk r), (poff r) + 2, none⟩ = some (Value.int .i64 v28) ∧ (0 ≤ v28 ∧ v28 ≤ ((v24.cap : Nat) : Int) ∧ (R (Slc.mk v24.ptr v28.toNat v24.cap) w4))))))))))))))))))))))

def F_slices_Concat_int_int_L1 (slices : Slc) (R : Slc → World → Prop) (again_1 : Slc → Int → World → Prop) (newslice : Slc) (t27 : Int) (w3 : World) : Prop :=
  ((decide (t27 < ((slices.len : Nat) : Int))) = true → (IsAt slices.ptr ∧ (0 ≤ t27 ∧ t27 < ((slices.len : Nat) : Int) ∧ (∃ (s1 : Slc), w3.cell? ⟨(pblk slices.ptr), (poff slices.ptr) + t27.toNat, none⟩ = some (Value.slice s1.ptr s1.len s1.cap) ∧ (∃ src, SrcAt w3 s1 1 src ∧ AppendW 1 8 ty_int [Value.int .i64 0] newslice src s1.len w3 (fun newslice1 w4 => again_1 newslice1 (IntKind.i64.wrap (t27 + 1)) w4)))))) ∧
  ((decide (t27 < ((slices.len : Nat) : Int))) = false → (R newslice w3))

def F_slices_Concat_int_int_L0 (slices : Slc) (R : Slc → World → Prop) (again_ : Int → Int → World → Prop) (size : Int) (t11 : Int) (w1 : World) : Prop :=
  ((decide (t11 < ((slices.len : Nat) : Int))) = true → (IsAt slices.ptr ∧ (0 ≤ t11 ∧ t11 < ((slices.len : Nat) : Int) ∧ (∃ (s : Slc), w1.cell? ⟨(pblk slices.ptr), (poff slices.ptr) + t11.toNat, none⟩ = some (Value.slice s.ptr s.len s.cap) ∧ (((decide ((IntKind.i64.wrap (size + ((s.len : Nat) : Int))) < 0)) = true → (False)) ∧
  ((decide ((IntKind.i64.wrap (size + ((s.len : Nat) : Int))) < 0)) = false → (again_ (IntKind.i64.wrap (size + ((s.len : Nat) : Int))) (IntKind.i64.wrap (t11 + 1)) w1))))))) ∧
  ((decide (t11 < ((slices.len : Nat) : Int))) = false → (C_slices_Grow_int_int (Slc.mk none 0 0) size w1 (fun (v24 : Slc) w2 => ∃ (I : Slc → Int → World → Prop) (μ : Slc → Int → World → Nat), I v24 0 w2 ∧
  ∀ (newslice : Slc) (t27 : Int) w, I newslice t27 w → F_slices_Concat_int_int_L1 slices R (fun (newslice' : Slc) (t27' : Int) w' => I newslice' t27' w' ∧ μ newslice' t27' w' < μ newslice t27 w) newslice t27 w)))

def F_slices_Concat_int_int (slices : Slc) (R : Slc → World → Prop) (w : World) : Prop :=
  ∃ (I : Int → Int → World → Prop) (μ : Int → Int → World → Nat), I 0 0 w ∧
  ∀ (size : Int) (t11 : Int) w, I size t11 w → F_slices_Concat_int_int_L0 slices R (fun (size' : Int) (t11' : Int) w' => I size' t11' w' ∧ μ size' t11' w' < μ size t11 w) size t11 w

def F_slices_Grow_int_int_k0 (R : Slc → World → Prop) (s1 : Slc) (w1 : World) : Prop :=
  R s1 w1

def F_slices_Grow_int_int (s : Slc) (n_ : Int) (R : Slc → World → Prop) (w : World) : Prop :=
  ((decide (n_ < 0)) = true → (False)) ∧
  ((decide (n_ < 0)) = false → (((decide ((IntKind.i64.wrap (n_ - (IntKind.i64.wrap (((s.cap : Nat) : Int) - ((s.len : Nat) : Int))))) > 0)) = true → (0 ≤ ((s.cap : Nat) : Int) ∧ ((s.cap : Nat) : Int) ≤ ((s.cap : Nat) : Int) ∧ (0 ≤ IntKind.i64.wrap (n_ - (IntKind.i64.wrap (((s.cap : Nat) : Int) - ((s.len : Nat) : Int)))) ∧ IntKind.i64.wrap (n_ - (IntKind.i64.wrap (((s.cap : Nat) : Int) - ((s.len : Nat) : Int)))) * (8 : Int) ≤ 281474976710656 ∧ AppendW 1 8 ty_int [Value.int .i64 0] (Slc.mk s.ptr (((s.cap : Nat) : Int).toNat) s.cap) (repCells ((IntKind.i64.wrap (n_ - (IntKind.i64.wrap (((s.cap : Nat) : Int) - ((s.len : Nat) : Int))))).toNat) [Value.int .i64 0]).toList ((IntKind.i64.wrap (n_ - (IntKind.i64.wrap (((s.cap : Nat) : Int) - ((s.len : Nat) : Int))))).toNat) w (fun v22 w2 => 0 ≤ ((s.len : Nat) : Int) ∧ ((s.len : Nat) : Int) ≤ ((v22.cap : Nat) : Int) ∧ (F_slices_Grow_int_int_k0 R (Slc.mk v22.ptr (((s.len : Nat) : Int).toNat) v22.cap) w2))))) ∧
  ((decide ((IntKind.i64.wrap (n_ - (IntKind.i64.wrap (((s.cap : Nat) : Int) - ((s.len : Nat) : Int))))) > 0)) = false → (F_slices_Grow_int_int_k0 R s w))))

def Ok_T_towpathlaw10_Op (w : World) (x : T_towpathlaw10_Op) : Prop := (0 ≤ x.Kind ∧ x.Kind ≤ 255) ∧ ((-9223372036854775808) ≤ x.X ∧ x.X ≤ 9223372036854775807)

def Ok_T_towpathlaw10_Show (w : World) (x : T_towpathlaw10_Show) : Prop := (0 ≤ x.Capacity ∧ x.Capacity ≤ 255) ∧ (0 ≤ x.Taken ∧ x.Taken ≤ 255) ∧ (0 ≤ x.Most ∧ x.Most ≤ 255) ∧ (OkSl w x.Things 1 8 (fun es => ∃ e_ : Int, es = [Value.int .i64 e_] ∧ ((-9223372036854775808) ≤ e_ ∧ e_ ≤ 9223372036854775807)))

end Go.Proofs.Ytchcljkflklddaa
