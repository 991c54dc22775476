/- WRITTEN BY PROGRAM (dec.py): for each Go function the clean formula F, the call's contract C, and the proof S that F gives C. -/
import Derived.Test.YtchcljkflklddaaRows
import Derived.Test.YtchcljkflklddaaCore
namespace Go.Proofs.Ytchcljkflklddaa
open Go
set_option linter.unusedVariables false


abbrev ty_int : TypeId := 3

abbrev ty_bool : TypeId := 4

abbrev ty_gate_Gate : TypeId := 83

def C_towpathlaw12_GateOrders (order : Slc) (w : World) (R : Bool → World → Prop) : Prop :=
  Calls Try.prog 6 #[Value.slice order.ptr order.len order.cap] w (fun e w' => ∃ (r0 : Bool), e = .returned (Value.bool r0) ∧ R r0 w')

def C_towpathlaw12_GateAgain (mark : Int) (beyond : Slc) (numbers : Slc) (w : World) (R : Bool → World → Prop) : Prop :=
  Calls Try.prog 7 #[Value.int .u16 mark, Value.slice beyond.ptr beyond.len beyond.cap, Value.slice numbers.ptr numbers.len numbers.cap] w (fun e w' => ∃ (r0 : Bool), e = .returned (Value.bool r0) ∧ R r0 w')

def C_towpathlaw12_alive (w : World) (R : Bool → World → Prop) : Prop :=
  Calls Try.prog 29 #[] w (fun e w' => ∃ (r0 : Bool), e = .returned (Value.bool r0) ∧ R r0 w')

def C_gate_New (mark : Int) (beyond : Slc) (w : World) (R : Option Addr → Int → World → Prop) : Prop :=
  Calls Try.prog 30 #[Value.int .i64 mark, Value.slice beyond.ptr beyond.len beyond.cap] w (fun e w' => ∃ (r0 : Option Addr) (r1 : Int), e = .returned (Value.tuple #[Value.pointer r0, Value.int .i64 r1]) ∧ R r0 r1 w')

def C_gate_Gate_Mark (g : Option Addr) (w : World) (R : Int → World → Prop) : Prop :=
  Calls Try.prog 31 #[Value.pointer g] w (fun e w' => ∃ (r0 : Int), e = .returned (Value.int .i64 r0) ∧ R r0 w')

def C_gate_Gate_Done (g : Option Addr) (number : Int) (w : World) (R : Int → Int → World → Prop) : Prop :=
  Calls Try.prog 32 #[Value.pointer g, Value.int .i64 number] w (fun e w' => ∃ (r0 : Int) (r1 : Int), e = .returned (Value.tuple #[Value.int .i64 r0, Value.int .i64 r1]) ∧ R r0 r1 w')

def C_gate_Gate_Beyond (g : Option Addr) (w : World) (R : Slc → World → Prop) : Prop :=
  Calls Try.prog 33 #[Value.pointer g] w (fun e w' => ∃ (r0 : Slc), e = .returned (Value.slice r0.ptr r0.len r0.cap) ∧ R r0 w')

def C_gate_Gate_Has (g : Option Addr) (number : Int) (w : World) (R : Bool → World → Prop) : Prop :=
  Calls Try.prog 34 #[Value.pointer g, Value.int .i64 number] w (fun e w' => ∃ (r0 : Bool), e = .returned (Value.bool r0) ∧ R r0 w')

def C_towpathlaw01_SameInts (a_ : Slc) (b_ : Slc) (w : World) (R : Bool → World → Prop) : Prop :=
  Calls Try.prog 35 #[Value.slice a_.ptr a_.len a_.cap, Value.slice b_.ptr b_.len b_.cap] w (fun e w' => ∃ (r0 : Bool), e = .returned (Value.bool r0) ∧ R r0 w')

def C_gate_Gate_set (g : Option Addr) (n_ : Int) (w : World) (R : World → Prop) : Prop :=
  Calls Try.prog 49 #[Value.pointer g, Value.int .i64 n_] w (fun e w' => e = .returned (Value.tuple #[]) ∧ R w')

def C_gate_Gate_is (g : Option Addr) (n_ : Int) (w : World) (R : Bool → World → Prop) : Prop :=
  Calls Try.prog 50 #[Value.pointer g, Value.int .i64 n_] w (fun e w' => ∃ (r0 : Bool), e = .returned (Value.bool r0) ∧ R r0 w')

def F_towpathlaw12_GateOrders_k2 (number : Int) (again_1 : Int → Int → World → Prop) (k1 : Int) (w7 : World) : Prop :=
  again_1 k1 (IntKind.i64.wrap (number + 1)) w7

def F_towpathlaw12_GateOrders_k7 (R : Bool → World → Prop) (v114 : Slc) (q : Int) (again_3 : Int → Int → World → Prop) (t145 : Bool) (w16 : World) : Prop :=
  (t145 = true → (R false w16)) ∧
  (t145 = false → (IsAt v114.ptr ∧ (0 ≤ q ∧ q < ((v114.len : Nat) : Int) ∧ (∃ (last1 : Int), w16.cell? ⟨(pblk v114.ptr), (poff v114.ptr) + q.toNat, none⟩ = some (Value.int .i64 last1) ∧ (again_3 last1 (IntKind.i64.wrap (q + 1)) w16)))))

def F_towpathlaw12_GateOrders_k9 (q1 : Int) (again_4 : Int → Int → World → Prop) (many1 : Int) (w18 : World) : Prop :=
  again_4 many1 (IntKind.i64.wrap (q1 + 1)) w18

def F_towpathlaw12_GateOrders_k10 (R : Bool → World → Prop) (i : Int) (again_ : Int → World → Prop) (t207 : Bool) (w23 : World) : Prop :=
  (t207 = true → (R false w23)) ∧
  (t207 = false → (again_ (IntKind.i64.wrap (i + 1)) w23))

def F_towpathlaw12_GateOrders_L8 (order : Slc) (R : Bool → World → Prop) (g : Option Addr) (b_ : Nat) (i : Int) (again_ : Int → World → Prop) (k : Int) (mark : Int) (v114 : Slc) (again_4 : Int → Int → World → Prop) (many : Int) (q1 : Int) (w17 : World) : Prop :=
  ((decide (q1 ≤ ((order.len : Nat) : Int))) = true → (∀ w19, (∃ k, w19 = w17.drewN k) → (0 ≤ q1 ∧ q1 < (((IntKind.i64.wrap (((order.len : Nat) : Int) + 2)).toNat : Nat) : Int) ∧ (∃ (v161 : Bool), w19.cell? ⟨b_, 0 + q1.toNat, none⟩ = some (Value.bool v161) ∧ (C_gate_Gate_Has g q1 w19 (fun (v157 : Bool) w20 => w20.cell? ⟨b_, 0 + q1.toNat, none⟩ = some (Value.bool v161) ∧ (((!(v157 == v161)) = true → (R false w20)) ∧
  ((!(v157 == v161)) = false → (0 ≤ q1 ∧ q1 < (((IntKind.i64.wrap (((order.len : Nat) : Int) + 2)).toNat : Nat) : Int) ∧ (∃ (v166 : Bool), w20.cell? ⟨b_, 0 + q1.toNat, none⟩ = some (Value.bool v166) ∧ (((v166 && (decide (q1 > mark))) = true → (F_towpathlaw12_GateOrders_k9 q1 again_4 (IntKind.i64.wrap (many + 1)) w20)) ∧
  ((v166 && (decide (q1 > mark))) = false → (F_towpathlaw12_GateOrders_k9 q1 again_4 many w20))))))))))))) ∧
  ((decide (q1 ≤ ((order.len : Nat) : Int))) = false → (C_gate_Gate_Mark g w17 (fun (v176 : Int) w21 => C_gate_New v176 v114 w21 (fun (h_ : Option Addr) (j : Int) w22 => ((many != ((v114.len : Nat) : Int)) = true → (F_towpathlaw12_GateOrders_k10 R i again_ true w22)) ∧
  ((many != ((v114.len : Nat) : Int)) = false → (C_gate_Gate_Has g (IntKind.i64.wrap (mark + 1)) w22 (fun (v189 : Bool) w24 => ((v189 || (j != 0)) = true → (F_towpathlaw12_GateOrders_k10 R i again_ true w24)) ∧
  ((v189 || (j != 0)) = false → (C_gate_Gate_Mark h_ w24 (fun (v197 : Int) w25 => ((v197 != mark) = true → (F_towpathlaw12_GateOrders_k10 R i again_ true w25)) ∧
  ((v197 != mark) = false → (C_gate_Gate_Beyond h_ w25 (fun (v203 : Slc) w26 => C_towpathlaw01_SameInts v203 v114 w26 (fun (v205 : Bool) w27 => F_towpathlaw12_GateOrders_k10 R i again_ (!v205) w27))))))))))))))

def F_towpathlaw12_GateOrders_L6 (order : Slc) (R : Bool → World → Prop) (g : Option Addr) (b_ : Nat) (i : Int) (again_ : Int → World → Prop) (k : Int) (mark : Int) (v114 : Slc) (again_3 : Int → Int → World → Prop) (last : Int) (q : Int) (w15 : World) : Prop :=
  ((decide (q < ((v114.len : Nat) : Int))) = true → (IsAt v114.ptr ∧ (0 ≤ q ∧ q < ((v114.len : Nat) : Int) ∧ (∃ (v125 : Int), w15.cell? ⟨(pblk v114.ptr), (poff v114.ptr) + q.toNat, none⟩ = some (Value.int .i64 v125) ∧ (((decide (v125 ≤ last)) = true → (F_towpathlaw12_GateOrders_k7 R v114 q again_3 true w15)) ∧
  ((decide (v125 ≤ last)) = false → (IsAt v114.ptr ∧ (0 ≤ q ∧ q < ((v114.len : Nat) : Int) ∧ (∃ (v132 : Int), w15.cell? ⟨(pblk v114.ptr), (poff v114.ptr) + q.toNat, none⟩ = some (Value.int .i64 v132) ∧ (((decide (v132 > ((order.len : Nat) : Int))) = true → (F_towpathlaw12_GateOrders_k7 R v114 q again_3 true w15)) ∧
  ((decide (v132 > ((order.len : Nat) : Int))) = false → (IsAt v114.ptr ∧ (0 ≤ q ∧ q < ((v114.len : Nat) : Int) ∧ (∃ (v141 : Int), w15.cell? ⟨(pblk v114.ptr), (poff v114.ptr) + q.toNat, none⟩ = some (Value.int .i64 v141) ∧ (0 ≤ v141 ∧ v141 < (((IntKind.i64.wrap (((order.len : Nat) : Int) + 2)).toNat : Nat) : Int) ∧ (∃ (v143 : Bool), w15.cell? ⟨b_, 0 + v141.toNat, none⟩ = some (Value.bool v143) ∧ (F_towpathlaw12_GateOrders_k7 R v114 q again_3 (!v143) w15))))))))))))))))) ∧
  ((decide (q < ((v114.len : Nat) : Int))) = false → (∃ (I : Int → Int → World → Prop) (μ : Int → Int → World → Nat), I 0 1 w15 ∧
  ∀ (many : Int) (q1 : Int) w, I many q1 w → F_towpathlaw12_GateOrders_L8 order R g b_ i again_ k mark v114 (fun (many' : Int) (q1' : Int) w' => I many' q1' w' ∧ μ many' q1' w' < μ many q1 w) many q1 w))

def F_towpathlaw12_GateOrders_k5 (order : Slc) (R : Bool → World → Prop) (g : Option Addr) (b_ : Nat) (i : Int) (again_ : Int → World → Prop) (k : Int) (mark : Int) (t112 : Bool) (w13 : World) : Prop :=
  (t112 = true → (R false w13)) ∧
  (t112 = false → (C_gate_Gate_Beyond g w13 (fun (v114 : Slc) w14 => ∃ (I : Int → Int → World → Prop) (μ : Int → Int → World → Nat), I mark 0 w14 ∧
  ∀ (last : Int) (q : Int) w, I last q w → F_towpathlaw12_GateOrders_L6 order R g b_ i again_ k mark v114 (fun (last' : Int) (q' : Int) w' => I last' q' w' ∧ μ last' q' w' < μ last q w) last q w)))

def F_towpathlaw12_GateOrders_k4 (order : Slc) (R : Bool → World → Prop) (g : Option Addr) (b_ : Nat) (i : Int) (again_ : Int → World → Prop) (k : Int) (v72 : Int) (up : Int) (f : Int) (mark : Int) (again_2 : Int → World → Prop) (t91 : Bool) (w12 : World) : Prop :=
  (t91 = true → (again_2 (IntKind.i64.wrap (mark + 1)) w12)) ∧
  (t91 = false → (((f != 0) = true → (F_towpathlaw12_GateOrders_k5 order R g b_ i again_ k mark true w12)) ∧
  ((f != 0) = false → (C_gate_Gate_Mark g w12 (fun (v98 : Int) w28 => F_towpathlaw12_GateOrders_k5 order R g b_ i again_ k mark (((v98 != mark) || (up != (IntKind.i64.wrap (mark - v72)))) || (decide (up < 0))) w28)))))

def F_towpathlaw12_GateOrders_L3 (order : Slc) (R : Bool → World → Prop) (g : Option Addr) (b_ : Nat) (i : Int) (again_ : Int → World → Prop) (k : Int) (v72 : Int) (up : Int) (f : Int) (again_2 : Int → World → Prop) (mark : Int) (w11 : World) : Prop :=
  ((decide (mark < ((order.len : Nat) : Int))) = true → (0 ≤ IntKind.i64.wrap (mark + 1) ∧ IntKind.i64.wrap (mark + 1) < (((IntKind.i64.wrap (((order.len : Nat) : Int) + 2)).toNat : Nat) : Int) ∧ (∃ (v90 : Bool), w11.cell? ⟨b_, 0 + (IntKind.i64.wrap (mark + 1)).toNat, none⟩ = some (Value.bool v90) ∧ (F_towpathlaw12_GateOrders_k4 order R g b_ i again_ k v72 up f mark again_2 v90 w11)))) ∧
  ((decide (mark < ((order.len : Nat) : Int))) = false → (F_towpathlaw12_GateOrders_k4 order R g b_ i again_ k v72 up f mark again_2 false w11))

def F_towpathlaw12_GateOrders_L1 (order : Slc) (R : Bool → World → Prop) (g : Option Addr) (b_ : Nat) (i : Int) (again_ : Int → World → Prop) (again_1 : Int → Int → World → Prop) (k : Int) (number : Int) (w6 : World) : Prop :=
  0 ≤ number ∧ number < (((IntKind.i64.wrap (((order.len : Nat) : Int) + 2)).toNat : Nat) : Int) ∧ (∃ (v57 : Bool), w6.cell? ⟨b_, 0 + number.toNat, none⟩ = some (Value.bool v57) ∧ (((v57 || (decide (k > 0))) = true → (0 ≤ number ∧ number < (((IntKind.i64.wrap (((order.len : Nat) : Int) + 2)).toNat : Nat) : Int) ∧ (∃ (v65 : Bool), w6.cell? ⟨b_, 0 + number.toNat, none⟩ = some (Value.bool v65) ∧ (((!v65) = true → (F_towpathlaw12_GateOrders_k2 number again_1 (IntKind.i64.wrap (k - 1)) w6)) ∧
  ((!v65) = false → (F_towpathlaw12_GateOrders_k2 number again_1 k w6)))))) ∧
  ((v57 || (decide (k > 0))) = false → (C_gate_Gate_Mark g w6 (fun (v72 : Int) w8 => C_gate_Gate_Done g number w8 (fun (up : Int) (f : Int) w9 => 0 ≤ number ∧ number < (((IntKind.i64.wrap (((order.len : Nat) : Int) + 2)).toNat : Nat) : Int) ∧ (Writable w9 b_ (0 + number.toNat) 1 ∧ (∀ w10, w10 = World.puts b_ (0 + number.toNat) [Value.bool true] w9 → (∃ (I : Int → World → Prop) (μ : Int → World → Nat), I 0 w10 ∧
  ∀ (mark : Int) w, I mark w → F_towpathlaw12_GateOrders_L3 order R g b_ i again_ k v72 up f (fun (mark' : Int) w' => I mark' w' ∧ μ mark' w' < μ mark w) mark w)))))))))

def F_towpathlaw12_GateOrders_L0 (order : Slc) (R : Bool → World → Prop) (g : Option Addr) (b_ : Nat) (again_ : Int → World → Prop) (i : Int) (w5 : World) : Prop :=
  ((decide (i < ((order.len : Nat) : Int))) = true → (IsAt order.ptr ∧ (0 ≤ i ∧ i < ((order.len : Nat) : Int) ∧ (∃ (v48 : Int), w5.cell? ⟨(pblk order.ptr), (poff order.ptr) + i.toNat, none⟩ = some (Value.int .u8 v48) ∧ ((IntKind.i64.wrap (((order.len : Nat) : Int) - i)) ≠ 0 ∧ (∃ (I : Int → Int → World → Prop) (μ : Int → Int → World → Nat), I (Int.tmod (IntKind.i64.wrap v48) (IntKind.i64.wrap (((order.len : Nat) : Int) - i))) 1 w5 ∧
  ∀ (k : Int) (number : Int) w, I k number w → F_towpathlaw12_GateOrders_L1 order R g b_ i again_ (fun (k' : Int) (number' : Int) w' => I k' number' w' ∧ μ k' number' w' < μ k number w) k number w)))))) ∧
  ((decide (i < ((order.len : Nat) : Int))) = false → (C_gate_Gate_Mark g w5 (fun (v209 : Int) w29 => ((v209 == ((order.len : Nat) : Int)) = true → (C_gate_Gate_Beyond g w29 (fun (v214 : Slc) w30 => R (((v214.len : Nat) : Int) == 0) w30))) ∧
  ((v209 == ((order.len : Nat) : Int)) = false → (R false w29)))))

def F_towpathlaw12_GateOrders (order : Slc) (R : Bool → World → Prop) (w : World) : Prop :=
  C_towpathlaw12_alive w (fun (v21 : Bool) w1 => (((!v21) || (decide (((order.len : Nat) : Int) > 120))) = true → (C_towpathlaw12_alive w1 (fun (v28 : Bool) w2 => R v28 w2))) ∧
  (((!v21) || (decide (((order.len : Nat) : Int) > 120))) = false → (C_gate_New 0 (Slc.mk none 0 0) w1 (fun (g : Option Addr) (e : Int) w3 => ((e != 0) = true → (R false w3)) ∧
  ((e != 0) = false → (0 ≤ IntKind.i64.wrap (((order.len : Nat) : Int) + 2) ∧ IntKind.i64.wrap (((order.len : Nat) : Int) + 2) ≤ IntKind.i64.wrap (((order.len : Nat) : Int) + 2) ∧ (1 : Int) * (IntKind.i64.wrap (((order.len : Nat) : Int) + 2)) ≤ 281474976710656 ∧ (∀ b_ w4, b_ = w3.heap.size → w4 = w3.alloc (Obj.cells (repCells ((IntKind.i64.wrap (((order.len : Nat) : Int) + 2)).toNat) [Value.bool false]) ty_bool (0, 0)) → (∃ (I : Int → World → Prop) (μ : Int → World → Nat), I 0 w4 ∧
  ∀ (i : Int) w, I i w → F_towpathlaw12_GateOrders_L0 order R g b_ (fun (i' : Int) w' => I i' w' ∧ μ i' w' < μ i w) i w))))))))

def F_towpathlaw12_GateAgain_k2 (R : Bool → World → Prop) (i1 : Int) (again_1 : Int → World → Prop) (t137 : Bool) (w15 : World) : Prop :=
  (t137 = true → (R false w15)) ∧
  (t137 = false → (again_1 (IntKind.i64.wrap (i1 + 1)) w15))

def F_towpathlaw12_GateAgain_L1 (numbers : Slc) (R : Bool → World → Prop) (g : Option Addr) (again_1 : Int → World → Prop) (i1 : Int) (w7 : World) : Prop :=
  ((decide (i1 < ((numbers.len : Nat) : Int))) = true → (C_gate_Gate_Mark g w7 (fun (v74 : Int) w8 => C_gate_Gate_Beyond g w8 (fun (v76 : Slc) w9 => C_gate_New v74 v76 w9 (fun (h_ : Option Addr) (f : Int) w10 => ∀ w11, (∃ k, w11 = w10.drewN k) → (IsAt numbers.ptr ∧ (0 ≤ i1 ∧ i1 < ((numbers.len : Nat) : Int) ∧ (∃ (v85 : Int), w11.cell? ⟨(pblk numbers.ptr), (poff numbers.ptr) + i1.toNat, none⟩ = some (Value.int .u8 v85) ∧ (C_gate_Gate_Mark g w11 (fun (v81 : Int) w12 => w12.cell? ⟨(pblk numbers.ptr), (poff numbers.ptr) + i1.toNat, none⟩ = some (Value.int .u8 v85) ∧ (C_gate_Gate_Done g (IntKind.i64.wrap (v81 + (IntKind.i64.wrap (Int.tmod v85 12)))) w12 (fun (a_ : Int) (x : Int) w13 => C_gate_Gate_Done h_ (IntKind.i64.wrap (v81 + (IntKind.i64.wrap (Int.tmod v85 12)))) w13 (fun (b_1 : Int) (y : Int) w14 => ((((f != 0) || (a_ != b_1)) || (x != y)) = true → (F_towpathlaw12_GateAgain_k2 R i1 again_1 true w14)) ∧
  ((((f != 0) || (a_ != b_1)) || (x != y)) = false → (C_gate_Gate_Mark g w14 (fun (v115 : Int) w16 => C_gate_Gate_Mark h_ w16 (fun (v117 : Int) w17 => ((v115 != v117) = true → (F_towpathlaw12_GateAgain_k2 R i1 again_1 true w17)) ∧
  ((v115 != v117) = false → (C_gate_Gate_Beyond g w17 (fun (v122 : Slc) w18 => C_gate_Gate_Beyond h_ w18 (fun (v124 : Slc) w19 => C_towpathlaw01_SameInts v122 v124 w19 (fun (v125 : Bool) w20 => ((!v125) = true → (F_towpathlaw12_GateAgain_k2 R i1 again_1 true w20)) ∧
  ((!v125) = false → (((x == 0) = true → (C_gate_Gate_Has g (IntKind.i64.wrap (v81 + (IntKind.i64.wrap (Int.tmod v85 12)))) w20 (fun (v134 : Bool) w21 => F_towpathlaw12_GateAgain_k2 R i1 again_1 (!v134) w21))) ∧
  ((x == 0) = false → (F_towpathlaw12_GateAgain_k2 R i1 again_1 false w20)))))))))))))))))))))))))) ∧
  ((decide (i1 < ((numbers.len : Nat) : Int))) = false → (R true w7))

def F_towpathlaw12_GateAgain_L0 (mark : Int) (beyond : Slc) (numbers : Slc) (R : Bool → World → Prop) (again_ : Slc → Int → Int → World → Prop) (l_ : Slc) (last : Int) (i : Int) (w3 : World) : Prop :=
  ((decide (i < ((beyond.len : Nat) : Int))) = true → (IsAt beyond.ptr ∧ (0 ≤ i ∧ i < ((beyond.len : Nat) : Int) ∧ (∃ (v47 : Int), w3.cell? ⟨(pblk beyond.ptr), (poff beyond.ptr) + i.toNat, none⟩ = some (Value.int .u8 v47) ∧ (∀ b_ w4, b_ = w3.heap.size → w4 = w3.alloc (Obj.cells ([Value.int .i64 (IntKind.i64.wrap ((IntKind.i64.wrap (last + 1)) + (IntKind.i64.wrap (Int.tmod v47 4))))]).toArray ty_int (0, 0)) → (∃ src, SrcAt w4 (Slc.mk (some ⟨b_, 0, none⟩) 1 1) 1 src ∧ AppendW 1 8 ty_int [Value.int .i64 0] l_ src 1 w4 (fun l_1 w5 => again_ l_1 (IntKind.i64.wrap ((IntKind.i64.wrap (last + 1)) + (IntKind.i64.wrap (Int.tmod v47 4)))) (IntKind.i64.wrap (i + 1)) w5))))))) ∧
  ((decide (i < ((beyond.len : Nat) : Int))) = false → (C_gate_New (IntKind.i64.wrap mark) l_ w3 (fun (g : Option Addr) (e : Int) w6 => ((e != 0) = true → (R (decide (last > 65536)) w6)) ∧
  ((e != 0) = false → (∃ (I : Int → World → Prop) (μ : Int → World → Nat), I 0 w6 ∧
  ∀ (i1 : Int) w, I i1 w → F_towpathlaw12_GateAgain_L1 numbers R g (fun (i1' : Int) w' => I i1' w' ∧ μ i1' w' < μ i1 w) i1 w)))))

def F_towpathlaw12_GateAgain (mark : Int) (beyond : Slc) (numbers : Slc) (R : Bool → World → Prop) (w : World) : Prop :=
  C_towpathlaw12_alive w (fun (v20 : Bool) w1 => ((((!v20) || (decide (((beyond.len : Nat) : Int) > 60))) || (decide (((numbers.len : Nat) : Int) > 300))) = true → (C_towpathlaw12_alive w1 (fun (v32 : Bool) w2 => R v32 w2))) ∧
  ((((!v20) || (decide (((beyond.len : Nat) : Int) > 60))) || (decide (((numbers.len : Nat) : Int) > 300))) = false → (∃ (I : Slc → Int → Int → World → Prop) (μ : Slc → Int → Int → World → Nat), I (Slc.mk none 0 0) (IntKind.i64.wrap ((IntKind.i64.wrap mark) + 1)) 0 w1 ∧
  ∀ (l_ : Slc) (last : Int) (i : Int) w, I l_ last i w → F_towpathlaw12_GateAgain_L0 mark beyond numbers R (fun (l_' : Slc) (last' : Int) (i' : Int) w' => I l_' last' i' w' ∧ μ l_' last' i' w' < μ l_ last i w) l_ last i w)))

def F_towpathlaw12_alive (R : Bool → World → Prop) (w : World) : Prop :=
  ∀ b_ w1, b_ = w.heap.size → w1 = w.alloc (Obj.cells ([Value.int .i64 5, Value.int .i64 7]).toArray ty_int (0, 0)) → (C_gate_New 3 (Slc.mk (some ⟨b_, 0, none⟩) 2 2) w1 (fun (g : Option Addr) (e : Int) w2 => ∀ b_1 w3, b_1 = w2.heap.size → w3 = w2.alloc (Obj.cells ([Value.int .i64 4]).toArray ty_int (0, 0)) → (C_gate_New 3 (Slc.mk (some ⟨b_1, 0, none⟩) 1 1) w3 (fun (v16 : Option Addr) (f : Int) w4 => (((e != 0) || (f != 1)) = true → (R false w4)) ∧
  (((e != 0) || (f != 1)) = false → (C_gate_Gate_Done g 4 w4 (fun (a_ : Int) (h_ : Int) w5 => C_gate_Gate_Done g 5 w5 (fun (v32 : Int) (i : Int) w6 => ((((h_ == 0) && (i == 1)) && (a_ == 2)) = true → (C_gate_Gate_Mark g w6 (fun (v47 : Int) w7 => ((v47 == 5) = true → (C_gate_Gate_Has g 7 w7 (fun (v52 : Bool) w8 => (v52 = true → (C_gate_Gate_Has g 6 w8 (fun (v56 : Bool) w9 => ((!v56) = true → (C_gate_Gate_Beyond g w9 (fun (v61 : Slc) w10 => ∀ b_2 w11, b_2 = w10.heap.size → w11 = w10.alloc (Obj.cells ([Value.int .i64 7]).toArray ty_int (0, 0)) → (C_towpathlaw01_SameInts v61 (Slc.mk (some ⟨b_2, 0, none⟩) 1 1) w11 (fun (v63 : Bool) w12 => R v63 w12))))) ∧
  ((!v56) = false → (R false w9))))) ∧
  (v52 = false → (R false w8))))) ∧
  ((v47 == 5) = false → (R false w7))))) ∧
  ((((h_ == 0) && (i == 1)) && (a_ == 2)) = false → (R false w6))))))))))

def F_gate_New_k1 (R : Option Addr → Int → World → Prop) (b_ : Nat) (t21 : Int) (again_ : Int → World → Prop) (n_ : Int) (t40 : Bool) (w3 : World) : Prop :=
  (t40 = true → (R none 1 w3)) ∧
  (t40 = false → (C_gate_Gate_set (some ⟨b_, 0, none⟩) n_ w3 (fun w4 => again_ (IntKind.i64.wrap (t21 + 1)) w4)))

def F_gate_New_L0 (mark : Int) (beyond : Slc) (R : Option Addr → Int → World → Prop) (b_ : Nat) (again_ : Int → World → Prop) (t21 : Int) (w2 : World) : Prop :=
  ((decide (t21 < ((beyond.len : Nat) : Int))) = true → (IsAt beyond.ptr ∧ (0 ≤ t21 ∧ t21 < ((beyond.len : Nat) : Int) ∧ (∃ (n_ : Int), w2.cell? ⟨(pblk beyond.ptr), (poff beyond.ptr) + t21.toNat, none⟩ = some (Value.int .i64 n_) ∧ ((((decide (n_ < (IntKind.i64.wrap (mark + 2)))) || (decide (n_ > 65536))) = true → (F_gate_New_k1 R b_ t21 again_ n_ true w2)) ∧
  (((decide (n_ < (IntKind.i64.wrap (mark + 2)))) || (decide (n_ > 65536))) = false → (∃ (v38 : Int), w2.cell? ⟨b_, 1027, none⟩ = some (Value.int .i64 v38) ∧ (F_gate_New_k1 R b_ t21 again_ n_ (decide (n_ ≤ v38)) w2)))))))) ∧
  ((decide (t21 < ((beyond.len : Nat) : Int))) = false → (R (some ⟨b_, 0, none⟩) 0 w2))

def F_gate_New (mark : Int) (beyond : Slc) (R : Option Addr → Int → World → Prop) (w : World) : Prop :=
  (((decide (mark < 0)) || (decide (mark > 65536))) = true → (R none 1 w)) ∧
  (((decide (mark < 0)) || (decide (mark > 65536))) = false → (∀ b_ w1, b_ = w.heap.size → w1 = w.alloc (Obj.cells (([Value.bool true, Value.int .i64 mark] ++ (List.map (Value.int .u64) (List.replicate 1025 0)) ++ [Value.int .i64 mark])).toArray ty_gate_Gate (0, 0)) → (∃ (I : Int → World → Prop) (μ : Int → World → Nat), I 0 w1 ∧
  ∀ (t21 : Int) w, I t21 w → F_gate_New_L0 mark beyond R b_ (fun (t21' : Int) w' => I t21' w' ∧ μ t21' w' < μ t21 w) t21 w)))

def F_gate_Gate_Mark (g : Option Addr) (R : Int → World → Prop) (w : World) : Prop :=
  (g.isNone = true → (R 0 w)) ∧
  (g.isNone = false → (IsAt g ∧ (∃ (v8 : Int), w.cell? ⟨(pblk g), (poff g) + 1, none⟩ = some (Value.int .i64 v8) ∧ (R v8 w))))

def F_gate_Gate_Done_L2 (g : Option Addr) (R : Int → Int → World → Prop) (again_ : Int → World → Prop) (up : Int) (w4 : World) : Prop :=
  IsAt g ∧ (∃ (v36 : Int), w4.cell? ⟨(pblk g), (poff g) + 1, none⟩ = some (Value.int .i64 v36) ∧ (C_gate_Gate_is g (IntKind.i64.wrap (v36 + 1)) w4 (fun (v38 : Bool) w5 => (v38 = true → (IsAt g ∧ (∃ (v44 : Int), w5.cell? ⟨(pblk g), (poff g) + 1, none⟩ = some (Value.int .i64 v44) ∧ (Writable w5 (pblk g) ((poff g) + 1) 1 ∧ (∀ w6, w6 = World.puts (pblk g) ((poff g) + 1) [Value.int .i64 (IntKind.i64.wrap (v44 + 1))] w5 → (∀ w7, (∃ k, w7 = w6.drewN k) → (IsAt g ∧ (∃ (v52 : Int), w7.cell? ⟨(pblk g), (poff g) + 1, none⟩ = some (Value.int .i64 v52) ∧ (IsAt g ∧ (0 ≤ IntKind.i64.wrap (Int.tdiv v52 64) ∧ IntKind.i64.wrap (Int.tdiv v52 64) < (1025 : Int) ∧ (∃ (v57 : Int), w7.cell? ⟨(pblk g), ((poff g) + 2) + (IntKind.i64.wrap (Int.tdiv v52 64)).toNat, none⟩ = some (Value.int .u64 v57) ∧ (IsAt g ∧ (∃ (v61 : Int), w7.cell? ⟨(pblk g), (poff g) + 1, none⟩ = some (Value.int .i64 v61) ∧ (0 ≤ Int.tmod v61 64 ∧ (0 ≤ IntKind.i64.wrap (Int.tdiv v52 64) ∧ IntKind.i64.wrap (Int.tdiv v52 64) < (1025 : Int) ∧ (Writable w7 (pblk g) (((poff g) + 2) + (IntKind.i64.wrap (Int.tdiv v52 64)).toNat) 1 ∧ (∀ w8, w8 = World.puts (pblk g) (((poff g) + 2) + (IntKind.i64.wrap (Int.tdiv v52 64)).toNat) [Value.int .u64 (bandnot .u64 v57 (IntKind.u64.wrap (1 * 2 ^ (min (Int.tmod v61 64).toNat 64))))] w7 → (again_ (IntKind.i64.wrap (up + 1)) w8)))))))))))))))))) ∧
  (v38 = false → (R up 0 w5)))))

def F_gate_Gate_Done_k1 (g : Option Addr) (number : Int) (R : Int → Int → World → Prop) (t17 : Bool) (w2 : World) : Prop :=
  (t17 = true → (R 0 1 w2)) ∧
  (t17 = false → (C_gate_Gate_set g number w2 (fun w3 => ∃ (I : Int → World → Prop) (μ : Int → World → Nat), I 0 w3 ∧
  ∀ (up : Int) w, I up w → F_gate_Gate_Done_L2 g R (fun (up' : Int) w' => I up' w' ∧ μ up' w' < μ up w) up w)))

def F_gate_Gate_Done_k0 (g : Option Addr) (number : Int) (R : Int → Int → World → Prop) (t7 : Bool) (w1 : World) : Prop :=
  (t7 = true → (R 0 2 w1)) ∧
  (t7 = false → ((((decide (number < 1)) || (decide (number > 65536))) = true → (F_gate_Gate_Done_k1 g number R true w1)) ∧
  (((decide (number < 1)) || (decide (number > 65536))) = false → (C_gate_Gate_Has g number w1 (fun (v27 : Bool) w9 => F_gate_Gate_Done_k1 g number R v27 w9)))))

def F_gate_Gate_Done (g : Option Addr) (number : Int) (R : Int → Int → World → Prop) (w : World) : Prop :=
  (g.isNone = true → (F_gate_Gate_Done_k0 g number R true w)) ∧
  (g.isNone = false → (IsAt g ∧ (∃ (v14 : Bool), w.cell? ⟨(pblk g), (poff g), none⟩ = some (Value.bool v14) ∧ (F_gate_Gate_Done_k0 g number R (!v14) w))))

def F_gate_Gate_Beyond_k2 (n_ : Int) (again_ : Slc → Int → World → Prop) (out1 : Slc) (w3 : World) : Prop :=
  again_ out1 (IntKind.i64.wrap (n_ + 1)) w3

def F_gate_Gate_Beyond_L1 (g : Option Addr) (R : Slc → World → Prop) (again_ : Slc → Int → World → Prop) (out : Slc) (n_ : Int) (w2 : World) : Prop :=
  IsAt g ∧ (∃ (v23 : Int), w2.cell? ⟨(pblk g), (poff g) + 1027, none⟩ = some (Value.int .i64 v23) ∧ (((decide (n_ ≤ v23)) = true → (C_gate_Gate_is g n_ w2 (fun (v29 : Bool) w4 => (v29 = true → (∀ b_ w5, b_ = w4.heap.size → w5 = w4.alloc (Obj.cells ([Value.int .i64 n_]).toArray ty_int (0, 0)) → (∃ src, SrcAt w5 (Slc.mk (some ⟨b_, 0, none⟩) 1 1) 1 src ∧ AppendW 1 8 ty_int [Value.int .i64 0] out src 1 w5 (fun out2 w6 => F_gate_Gate_Beyond_k2 n_ again_ out2 w6)))) ∧
  (v29 = false → (F_gate_Gate_Beyond_k2 n_ again_ out w4))))) ∧
  ((decide (n_ ≤ v23)) = false → (R out w2))))

def F_gate_Gate_Beyond_k0 (g : Option Addr) (R : Slc → World → Prop) (t13 : Bool) (w1 : World) : Prop :=
  (t13 = true → (R (Slc.mk none 0 0) w1)) ∧
  (t13 = false → (IsAt g ∧ (∃ (v17 : Int), w1.cell? ⟨(pblk g), (poff g) + 1, none⟩ = some (Value.int .i64 v17) ∧ (∃ (I : Slc → Int → World → Prop) (μ : Slc → Int → World → Nat), I (Slc.mk none 0 0) (IntKind.i64.wrap (v17 + 1)) w1 ∧
  ∀ (out : Slc) (n_ : Int) w, I out n_ w → F_gate_Gate_Beyond_L1 g R (fun (out' : Slc) (n_' : Int) w' => I out' n_' w' ∧ μ out' n_' w' < μ out n_ w) out n_ w))))

def F_gate_Gate_Beyond (g : Option Addr) (R : Slc → World → Prop) (w : World) : Prop :=
  (g.isNone = true → (F_gate_Gate_Beyond_k0 g R true w)) ∧
  (g.isNone = false → (IsAt g ∧ (∃ (v11 : Bool), w.cell? ⟨(pblk g), (poff g), none⟩ = some (Value.bool v11) ∧ (F_gate_Gate_Beyond_k0 g R (!v11) w))))

def F_gate_Gate_Has (g : Option Addr) (number : Int) (R : Bool → World → Prop) (w : World) : Prop :=
  ((!g.isNone) = true → (IsAt g ∧ (∃ (v11 : Bool), w.cell? ⟨(pblk g), (poff g), none⟩ = some (Value.bool v11) ∧ (((v11 && (decide (number ≥ 1))) = true → (IsAt g ∧ (∃ (v22 : Int), w.cell? ⟨(pblk g), (poff g) + 1, none⟩ = some (Value.int .i64 v22) ∧ (((decide (number ≤ v22)) = true → (R true w)) ∧
  ((decide (number ≤ v22)) = false → (C_gate_Gate_is g number w (fun (v27 : Bool) w1 => R v27 w1))))))) ∧
  ((v11 && (decide (number ≥ 1))) = false → (R false w)))))) ∧
  ((!g.isNone) = false → (R false w))

def F_towpathlaw01_SameInts_L0 (a_ : Slc) (b_ : Slc) (R : Bool → World → Prop) (again_ : Int → World → Prop) (i : Int) (w1 : World) : Prop :=
  ((decide (i < ((a_.len : Nat) : Int))) = true → (IsAt a_.ptr ∧ (0 ≤ i ∧ i < ((a_.len : Nat) : Int) ∧ (∃ (v20 : Int), w1.cell? ⟨(pblk a_.ptr), (poff a_.ptr) + i.toNat, none⟩ = some (Value.int .i64 v20) ∧ (IsAt b_.ptr ∧ (0 ≤ i ∧ i < ((b_.len : Nat) : Int) ∧ (∃ (v24 : Int), w1.cell? ⟨(pblk b_.ptr), (poff b_.ptr) + i.toNat, none⟩ = some (Value.int .i64 v24) ∧ (∀ w2, Ext w1 w2 → (((v20 != v24) = true → (R false w2)) ∧
  ((v20 != v24) = false → (again_ (IntKind.i64.wrap (i + 1)) w2))))))))))) ∧
  ((decide (i < ((a_.len : Nat) : Int))) = false → (R true w1))

def F_towpathlaw01_SameInts (a_ : Slc) (b_ : Slc) (R : Bool → World → Prop) (w : World) : Prop :=
  ((((a_.len : Nat) : Int) != ((b_.len : Nat) : Int)) = true → (R false w)) ∧
  ((((a_.len : Nat) : Int) != ((b_.len : Nat) : Int)) = false → (∃ (I : Int → World → Prop) (μ : Int → World → Nat), I 0 w ∧
  ∀ (i : Int) w, I i w → F_towpathlaw01_SameInts_L0 a_ b_ R (fun (i' : Int) w' => I i' w' ∧ μ i' w' < μ i w) i w))

def F_gate_Gate_set (g : Option Addr) (n_ : Int) (R : World → Prop) (w : World) : Prop :=
  ∀ w1, (∃ k, w1 = w.drewN k) → (IsAt g ∧ (0 ≤ IntKind.i64.wrap (Int.tdiv n_ 64) ∧ IntKind.i64.wrap (Int.tdiv n_ 64) < (1025 : Int) ∧ (∃ (v10 : Int), w1.cell? ⟨(pblk g), ((poff g) + 2) + (IntKind.i64.wrap (Int.tdiv n_ 64)).toNat, none⟩ = some (Value.int .u64 v10) ∧ (0 ≤ Int.tmod n_ 64 ∧ (0 ≤ IntKind.i64.wrap (Int.tdiv n_ 64) ∧ IntKind.i64.wrap (Int.tdiv n_ 64) < (1025 : Int) ∧ (Writable w1 (pblk g) (((poff g) + 2) + (IntKind.i64.wrap (Int.tdiv n_ 64)).toNat) 1 ∧ (∀ w2, w2 = World.puts (pblk g) (((poff g) + 2) + (IntKind.i64.wrap (Int.tdiv n_ 64)).toNat) [Value.int .u64 (bor .u64 v10 (IntKind.u64.wrap (1 * 2 ^ (min (Int.tmod n_ 64).toNat 64))))] w1 → (IsAt g ∧ (∃ (v22 : Int), w2.cell? ⟨(pblk g), (poff g) + 1027, none⟩ = some (Value.int .i64 v22) ∧ (IsAt g ∧ (Writable w2 (pblk g) ((poff g) + 1027) 1 ∧ (∀ w3, w3 = World.puts (pblk g) ((poff g) + 1027) [Value.int .i64 (if n_ > v22 then n_ else v22)] w2 → (R w3)))))))))))))

def F_gate_Gate_is (g : Option Addr) (n_ : Int) (R : Bool → World → Prop) (w : World) : Prop :=
  ((decide (n_ ≤ 65536)) = true → (IsAt g ∧ (0 ≤ IntKind.i64.wrap (Int.tdiv n_ 64) ∧ IntKind.i64.wrap (Int.tdiv n_ 64) < (1025 : Int) ∧ (∃ (v14 : Int), w.cell? ⟨(pblk g), ((poff g) + 2) + (IntKind.i64.wrap (Int.tdiv n_ 64)).toNat, none⟩ = some (Value.int .u64 v14) ∧ (0 ≤ Int.tmod n_ 64 ∧ (R ((band .u64 (Int.fdiv v14 (2 ^ (min (Int.tmod n_ 64).toNat 64))) 1) == 1) w)))))) ∧
  ((decide (n_ ≤ 65536)) = false → (R false w))

end Go.Proofs.Ytchcljkflklddaa
