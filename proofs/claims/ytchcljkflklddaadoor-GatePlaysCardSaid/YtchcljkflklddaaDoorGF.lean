/- WRITTEN BY PROGRAM (dec.py): for each Go function the clean formula F, the call's contract C, and the proof S that F gives C. -/
import Derived.Test.YtchcljkflklddaaDoorRows
import Derived.Test.YtchcljkflklddaaDoorCore
namespace Go.Proofs.YtchcljkflklddaaDoor
open Go
set_option linter.unusedVariables false


abbrev ty_int : TypeId := 3

abbrev ty_towpathlaw01_Book : TypeId := 45

abbrev ty_gate_Gate : TypeId := 53

abbrev ty_towpathref12_Gate : TypeId := 80

abbrev ty_towpathlaw01_heldInt : TypeId := 89

structure T_towpathlaw01_heldInt where
  l : Slc
  long : Slc
  n : Int

def C_towpathlaw12_GatePlays (mark : Int) (beyond : Slc) (numbers : Slc) (w : World) (R : Bool → World → Prop) : Prop :=
  Calls Tryd.prog 3 #[Value.int .i64 mark, Value.slice beyond.ptr beyond.len beyond.cap, Value.slice numbers.ptr numbers.len numbers.cap] w (fun e w' => ∃ (r0 : Bool), e = .returned (Value.bool r0) ∧ R r0 w')

def C_towpathlaw01_Beyond (l_ : Slc) (w : World) (R : Bool → World → Prop) : Prop :=
  Calls Tryd.prog 5 #[Value.slice l_.ptr l_.len l_.cap] w (fun e w' => ∃ (r0 : Bool), e = .returned (Value.bool r0) ∧ R r0 w')

def C_towpathlaw01_TwinInts (l_ : Slc) (w : World) (R : Slc → World → Prop) : Prop :=
  Calls Tryd.prog 6 #[Value.slice l_.ptr l_.len l_.cap] w (fun e w' => ∃ (r0 : Slc), e = .returned (Value.slice r0.ptr r0.len r0.cap) ∧ R r0 w')

def C_gate_New (mark : Int) (beyond : Slc) (w : World) (R : Option Addr → Int → World → Prop) : Prop :=
  Calls Tryd.prog 7 #[Value.int .i64 mark, Value.slice beyond.ptr beyond.len beyond.cap] w (fun e w' => ∃ (r0 : Option Addr) (r1 : Int), e = .returned (Value.tuple #[Value.pointer r0, Value.int .i64 r1]) ∧ R r0 r1 w')

def C_towpathref12_New (mark : Int) (beyond : Slc) (w : World) (R : Option Addr → Int → World → Prop) : Prop :=
  Calls Tryd.prog 8 #[Value.int .i64 mark, Value.slice beyond.ptr beyond.len beyond.cap] w (fun e w' => ∃ (r0 : Option Addr) (r1 : Int), e = .returned (Value.tuple #[Value.pointer r0, Value.int .i64 r1]) ∧ R r0 r1 w')

def C_towpathlaw01_LeftInts (t_ : Slc) (l_ : Slc) (w : World) (R : Bool → World → Prop) : Prop :=
  Calls Tryd.prog 9 #[Value.slice t_.ptr t_.len t_.cap, Value.slice l_.ptr l_.len l_.cap] w (fun e w' => ∃ (r0 : Bool), e = .returned (Value.bool r0) ∧ R r0 w')

def C_towpathlaw01_Book_Ints (b_ : Option Addr) (l_ : Slc) (w : World) (R : World → Prop) : Prop :=
  Calls Tryd.prog 10 #[Value.pointer b_, Value.slice l_.ptr l_.len l_.cap] w (fun e w' => e = .returned (Value.tuple #[]) ∧ R w')

def C_gate_Gate_Beyond (g : Option Addr) (w : World) (R : Slc → World → Prop) : Prop :=
  Calls Tryd.prog 11 #[Value.pointer g] w (fun e w' => ∃ (r0 : Slc), e = .returned (Value.slice r0.ptr r0.len r0.cap) ∧ R r0 w')

def C_towpathlaw01_Book_Apart (b_ : Option Addr) (w : World) (R : Bool → World → Prop) : Prop :=
  Calls Tryd.prog 12 #[Value.pointer b_] w (fun e w' => ∃ (r0 : Bool), e = .returned (Value.bool r0) ∧ R r0 w')

def C_towpathlaw12_looks (g : Option Addr) (r : Option Addr) (number : Int) (w : World) (R : Bool → World → Prop) : Prop :=
  Calls Tryd.prog 13 #[Value.pointer g, Value.pointer r, Value.int .i64 number] w (fun e w' => ∃ (r0 : Bool), e = .returned (Value.bool r0) ∧ R r0 w')

def C_gate_Gate_Done (g : Option Addr) (number : Int) (w : World) (R : Int → Int → World → Prop) : Prop :=
  Calls Tryd.prog 14 #[Value.pointer g, Value.int .i64 number] w (fun e w' => ∃ (r0 : Int) (r1 : Int), e = .returned (Value.tuple #[Value.int .i64 r0, Value.int .i64 r1]) ∧ R r0 r1 w')

def C_towpathref12_Gate_Done (g : Option Addr) (number : Int) (w : World) (R : Int → Int → World → Prop) : Prop :=
  Calls Tryd.prog 15 #[Value.pointer g, Value.int .i64 number] w (fun e w' => ∃ (r0 : Int) (r1 : Int), e = .returned (Value.tuple #[Value.int .i64 r0, Value.int .i64 r1]) ∧ R r0 r1 w')

def C_towpathlaw01_SameInts (a_ : Slc) (b_ : Slc) (w : World) (R : Bool → World → Prop) : Prop :=
  Calls Tryd.prog 16 #[Value.slice a_.ptr a_.len a_.cap, Value.slice b_.ptr b_.len b_.cap] w (fun e w' => ∃ (r0 : Bool), e = .returned (Value.bool r0) ∧ R r0 w')

def C_towpathref12_Gate_Beyond (g : Option Addr) (w : World) (R : Slc → World → Prop) : Prop :=
  Calls Tryd.prog 17 #[Value.pointer g] w (fun e w' => ∃ (r0 : Slc), e = .returned (Value.slice r0.ptr r0.len r0.cap) ∧ R r0 w')

def C_gate_Gate_Mark (g : Option Addr) (w : World) (R : Int → World → Prop) : Prop :=
  Calls Tryd.prog 18 #[Value.pointer g] w (fun e w' => ∃ (r0 : Int), e = .returned (Value.int .i64 r0) ∧ R r0 w')

def C_towpathref12_Gate_Mark (g : Option Addr) (w : World) (R : Int → World → Prop) : Prop :=
  Calls Tryd.prog 19 #[Value.pointer g] w (fun e w' => ∃ (r0 : Int), e = .returned (Value.int .i64 r0) ∧ R r0 w')

def C_gate_Gate_set (g : Option Addr) (n_ : Int) (w : World) (R : World → Prop) : Prop :=
  Calls Tryd.prog 29 #[Value.pointer g, Value.int .i64 n_] w (fun e w' => e = .returned (Value.tuple #[]) ∧ R w')

def C_towpathref12_May (mark : Int) (beyond : Slc) (w : World) (R : Bool → World → Prop) : Prop :=
  Calls Tryd.prog 30 #[Value.int .i64 mark, Value.slice beyond.ptr beyond.len beyond.cap] w (fun e w' => ∃ (r0 : Bool), e = .returned (Value.bool r0) ∧ R r0 w')

def C_towpathlaw01_Book_keepInt (b_ : Option Addr) (l_ : Slc) (w : World) (R : World → Prop) : Prop :=
  Calls Tryd.prog 31 #[Value.pointer b_, Value.slice l_.ptr l_.len l_.cap] w (fun e w' => e = .returned (Value.tuple #[]) ∧ R w')

def C_gate_Gate_is (g : Option Addr) (n_ : Int) (w : World) (R : Bool → World → Prop) : Prop :=
  Calls Tryd.prog 32 #[Value.pointer g, Value.int .i64 n_] w (fun e w' => ∃ (r0 : Bool), e = .returned (Value.bool r0) ∧ R r0 w')

def C_towpathlaw01_Book_fillByte (b_ : Option Addr) (w : World) (R : World → Prop) : Prop :=
  Calls Tryd.prog 33 #[Value.pointer b_] w (fun e w' => e = .returned (Value.tuple #[]) ∧ R w')

def C_towpathlaw01_Book_fillInt (b_ : Option Addr) (w : World) (R : World → Prop) : Prop :=
  Calls Tryd.prog 34 #[Value.pointer b_] w (fun e w' => e = .returned (Value.tuple #[]) ∧ R w')

def C_towpathlaw01_Book_fillText (b_ : Option Addr) (w : World) (R : World → Prop) : Prop :=
  Calls Tryd.prog 35 #[Value.pointer b_] w (fun e w' => e = .returned (Value.tuple #[]) ∧ R w')

def C_towpathlaw01_Book_fillWrite (b_ : Option Addr) (w : World) (R : World → Prop) : Prop :=
  Calls Tryd.prog 36 #[Value.pointer b_] w (fun e w' => e = .returned (Value.tuple #[]) ∧ R w')

def C_towpathlaw01_Book_fillEntry (b_ : Option Addr) (w : World) (R : World → Prop) : Prop :=
  Calls Tryd.prog 37 #[Value.pointer b_] w (fun e w' => e = .returned (Value.tuple #[]) ∧ R w')

def C_towpathlaw01_Book_fillVersion (b_ : Option Addr) (w : World) (R : World → Prop) : Prop :=
  Calls Tryd.prog 38 #[Value.pointer b_] w (fun e w' => e = .returned (Value.tuple #[]) ∧ R w')

def C_towpathlaw01_Book_fillTxn (b_ : Option Addr) (w : World) (R : World → Prop) : Prop :=
  Calls Tryd.prog 39 #[Value.pointer b_] w (fun e w' => e = .returned (Value.tuple #[]) ∧ R w')

def C_towpathlaw01_Book_fillHeld (b_ : Option Addr) (w : World) (R : World → Prop) : Prop :=
  Calls Tryd.prog 40 #[Value.pointer b_] w (fun e w' => e = .returned (Value.tuple #[]) ∧ R w')

def C_towpathlaw01_Book_fillHeldList (b_ : Option Addr) (w : World) (R : World → Prop) : Prop :=
  Calls Tryd.prog 41 #[Value.pointer b_] w (fun e w' => e = .returned (Value.tuple #[]) ∧ R w')

def C_towpathlaw01_Book_fillEvent (b_ : Option Addr) (w : World) (R : World → Prop) : Prop :=
  Calls Tryd.prog 42 #[Value.pointer b_] w (fun e w' => e = .returned (Value.tuple #[]) ∧ R w')

def C_towpathlaw01_Book_fillAnswer (b_ : Option Addr) (w : World) (R : World → Prop) : Prop :=
  Calls Tryd.prog 43 #[Value.pointer b_] w (fun e w' => e = .returned (Value.tuple #[]) ∧ R w')

def C_towpathlaw01_Book_growByte (b_ : Option Addr) (w : World) (R : World → Prop) : Prop :=
  Calls Tryd.prog 44 #[Value.pointer b_] w (fun e w' => e = .returned (Value.tuple #[]) ∧ R w')

def C_towpathlaw01_Book_growInt (b_ : Option Addr) (w : World) (R : World → Prop) : Prop :=
  Calls Tryd.prog 45 #[Value.pointer b_] w (fun e w' => e = .returned (Value.tuple #[]) ∧ R w')

def C_towpathlaw01_Book_growText (b_ : Option Addr) (w : World) (R : World → Prop) : Prop :=
  Calls Tryd.prog 46 #[Value.pointer b_] w (fun e w' => e = .returned (Value.tuple #[]) ∧ R w')

def C_towpathlaw01_Book_growWrite (b_ : Option Addr) (w : World) (R : World → Prop) : Prop :=
  Calls Tryd.prog 47 #[Value.pointer b_] w (fun e w' => e = .returned (Value.tuple #[]) ∧ R w')

def C_towpathlaw01_Book_growEntry (b_ : Option Addr) (w : World) (R : World → Prop) : Prop :=
  Calls Tryd.prog 48 #[Value.pointer b_] w (fun e w' => e = .returned (Value.tuple #[]) ∧ R w')

def C_towpathlaw01_Book_growVersion (b_ : Option Addr) (w : World) (R : World → Prop) : Prop :=
  Calls Tryd.prog 49 #[Value.pointer b_] w (fun e w' => e = .returned (Value.tuple #[]) ∧ R w')

def C_towpathlaw01_Book_growTxn (b_ : Option Addr) (w : World) (R : World → Prop) : Prop :=
  Calls Tryd.prog 50 #[Value.pointer b_] w (fun e w' => e = .returned (Value.tuple #[]) ∧ R w')

def C_towpathlaw01_Book_growHeld (b_ : Option Addr) (w : World) (R : World → Prop) : Prop :=
  Calls Tryd.prog 51 #[Value.pointer b_] w (fun e w' => e = .returned (Value.tuple #[]) ∧ R w')

def C_towpathlaw01_Book_growHeldList (b_ : Option Addr) (w : World) (R : World → Prop) : Prop :=
  Calls Tryd.prog 52 #[Value.pointer b_] w (fun e w' => e = .returned (Value.tuple #[]) ∧ R w')

def C_towpathlaw01_Book_growEvent (b_ : Option Addr) (w : World) (R : World → Prop) : Prop :=
  Calls Tryd.prog 53 #[Value.pointer b_] w (fun e w' => e = .returned (Value.tuple #[]) ∧ R w')

def C_towpathlaw01_Book_growAnswer (b_ : Option Addr) (w : World) (R : World → Prop) : Prop :=
  Calls Tryd.prog 54 #[Value.pointer b_] w (fun e w' => e = .returned (Value.tuple #[]) ∧ R w')

def C_towpathlaw01_Book_lookByte (b_ : Option Addr) (w : World) (R : Bool → World → Prop) : Prop :=
  Calls Tryd.prog 55 #[Value.pointer b_] w (fun e w' => ∃ (r0 : Bool), e = .returned (Value.bool r0) ∧ R r0 w')

def C_towpathlaw01_Book_lookInt (b_ : Option Addr) (w : World) (R : Bool → World → Prop) : Prop :=
  Calls Tryd.prog 56 #[Value.pointer b_] w (fun e w' => ∃ (r0 : Bool), e = .returned (Value.bool r0) ∧ R r0 w')

def C_towpathlaw01_Book_lookText (b_ : Option Addr) (w : World) (R : Bool → World → Prop) : Prop :=
  Calls Tryd.prog 57 #[Value.pointer b_] w (fun e w' => ∃ (r0 : Bool), e = .returned (Value.bool r0) ∧ R r0 w')

def C_towpathlaw01_Book_lookWrite (b_ : Option Addr) (w : World) (R : Bool → World → Prop) : Prop :=
  Calls Tryd.prog 58 #[Value.pointer b_] w (fun e w' => ∃ (r0 : Bool), e = .returned (Value.bool r0) ∧ R r0 w')

def C_towpathlaw01_Book_lookEntry (b_ : Option Addr) (w : World) (R : Bool → World → Prop) : Prop :=
  Calls Tryd.prog 59 #[Value.pointer b_] w (fun e w' => ∃ (r0 : Bool), e = .returned (Value.bool r0) ∧ R r0 w')

def C_towpathlaw01_Book_lookVersion (b_ : Option Addr) (w : World) (R : Bool → World → Prop) : Prop :=
  Calls Tryd.prog 60 #[Value.pointer b_] w (fun e w' => ∃ (r0 : Bool), e = .returned (Value.bool r0) ∧ R r0 w')

def C_towpathlaw01_Book_lookTxn (b_ : Option Addr) (w : World) (R : Bool → World → Prop) : Prop :=
  Calls Tryd.prog 61 #[Value.pointer b_] w (fun e w' => ∃ (r0 : Bool), e = .returned (Value.bool r0) ∧ R r0 w')

def C_towpathlaw01_Book_lookHeld (b_ : Option Addr) (w : World) (R : Bool → World → Prop) : Prop :=
  Calls Tryd.prog 62 #[Value.pointer b_] w (fun e w' => ∃ (r0 : Bool), e = .returned (Value.bool r0) ∧ R r0 w')

def C_towpathlaw01_Book_lookHeldList (b_ : Option Addr) (w : World) (R : Bool → World → Prop) : Prop :=
  Calls Tryd.prog 63 #[Value.pointer b_] w (fun e w' => ∃ (r0 : Bool), e = .returned (Value.bool r0) ∧ R r0 w')

def C_towpathlaw01_Book_lookEvent (b_ : Option Addr) (w : World) (R : Bool → World → Prop) : Prop :=
  Calls Tryd.prog 64 #[Value.pointer b_] w (fun e w' => ∃ (r0 : Bool), e = .returned (Value.bool r0) ∧ R r0 w')

def C_towpathlaw01_Book_lookAnswer (b_ : Option Addr) (w : World) (R : Bool → World → Prop) : Prop :=
  Calls Tryd.prog 65 #[Value.pointer b_] w (fun e w' => ∃ (r0 : Bool), e = .returned (Value.bool r0) ∧ R r0 w')

def C_gate_Gate_Has (g : Option Addr) (number : Int) (w : World) (R : Bool → World → Prop) : Prop :=
  Calls Tryd.prog 66 #[Value.pointer g, Value.int .i64 number] w (fun e w' => ∃ (r0 : Bool), e = .returned (Value.bool r0) ∧ R r0 w')

def C_towpathref12_Gate_Has (g : Option Addr) (number : Int) (w : World) (R : Bool → World → Prop) : Prop :=
  Calls Tryd.prog 67 #[Value.pointer g, Value.int .i64 number] w (fun e w' => ∃ (r0 : Bool), e = .returned (Value.bool r0) ∧ R r0 w')

def C_towpathlaw01_markInt (n_ : Int) (w : World) (R : Int → World → Prop) : Prop :=
  Calls Tryd.prog 75 #[Value.int .i64 n_] w (fun e w' => ∃ (r0 : Int), e = .returned (Value.int .i64 r0) ∧ R r0 w')

def C_towpathlaw01_isInt (x : Int) (n_ : Int) (w : World) (R : Bool → World → Prop) : Prop :=
  Calls Tryd.prog 86 #[Value.int .i64 x, Value.int .i64 n_] w (fun e w' => ∃ (r0 : Bool), e = .returned (Value.bool r0) ∧ R r0 w')

def F_towpathlaw12_GatePlays_k3 (i : Int) (again_ : Int → World → Prop) (w16 : World) : Prop :=
  again_ (IntKind.i64.wrap (i + 1)) w16

def F_towpathlaw12_GatePlays_k4 (R : Bool → World → Prop) (g : Option Addr) (b_1 : Nat) (i : Int) (again_ : Int → World → Prop) (t126 : Bool) (w19 : World) : Prop :=
  (t126 = true → (R false w19)) ∧
  (t126 = false → (((decide (i < 20)) = true → (C_gate_Gate_Beyond g w19 (fun (v130 : Slc) w20 => C_towpathlaw01_Book_Ints (some ⟨b_1, 0, none⟩) v130 w20 (fun w21 => F_towpathlaw12_GatePlays_k3 i again_ w21)))) ∧
  ((decide (i < 20)) = false → (F_towpathlaw12_GatePlays_k3 i again_ w19))))

def F_towpathlaw12_GatePlays_L2 (numbers : Slc) (R : Bool → World → Prop) (g : Option Addr) (r : Option Addr) (b_1 : Nat) (b_2 : Nat) (again_ : Int → World → Prop) (i : Int) (w15 : World) : Prop :=
  ((decide (i < ((numbers.len : Nat) : Int))) = true → (IsAt numbers.ptr ∧ (0 ≤ i ∧ i < ((numbers.len : Nat) : Int) ∧ (∃ (v86 : Int), w15.cell? ⟨(pblk numbers.ptr), (poff numbers.ptr) + i.toNat, none⟩ = some (Value.int .i64 v86) ∧ (C_gate_Gate_Done g v86 w15 (fun (n_ : Int) (h_ : Int) w17 => IsAt numbers.ptr ∧ (0 ≤ i ∧ i < ((numbers.len : Nat) : Int) ∧ (∃ (v95 : Int), w17.cell? ⟨(pblk numbers.ptr), (poff numbers.ptr) + i.toNat, none⟩ = some (Value.int .i64 v95) ∧ (C_towpathref12_Gate_Done r v95 w17 (fun (want : Int) (j : Int) w18 => (((n_ != want) || (h_ != j)) = true → (F_towpathlaw12_GatePlays_k4 R g b_1 i again_ true w18)) ∧
  (((n_ != want) || (h_ != j)) = false → (IsAt numbers.ptr ∧ (0 ≤ i ∧ i < ((numbers.len : Nat) : Int) ∧ (∃ (v113 : Int), w18.cell? ⟨(pblk numbers.ptr), (poff numbers.ptr) + i.toNat, none⟩ = some (Value.int .i64 v113) ∧ (C_towpathlaw12_looks g r v113 w18 (fun (v114 : Bool) w22 => ((!v114) = true → (F_towpathlaw12_GatePlays_k4 R g b_1 i again_ true w22)) ∧
  ((!v114) = false → (IsAt numbers.ptr ∧ (0 ≤ i ∧ i < ((numbers.len : Nat) : Int) ∧ (∃ (v123 : Int), w22.cell? ⟨(pblk numbers.ptr), (poff numbers.ptr) + i.toNat, none⟩ = some (Value.int .i64 v123) ∧ (C_towpathlaw12_looks (some ⟨b_2, 0, none⟩) none v123 w22 (fun (v124 : Bool) w23 => F_towpathlaw12_GatePlays_k4 R g b_1 i again_ (!v124) w23)))))))))))))))))))))) ∧
  ((decide (i < ((numbers.len : Nat) : Int))) = false → (C_gate_Gate_Done (some ⟨b_2, 0, none⟩) 1 w15 (fun (v134 : Int) (h_1 : Int) w24 => C_towpathlaw01_Book_Apart (some ⟨b_1, 0, none⟩) w24 (fun (v137 : Bool) w25 => (v137 = true → (C_gate_Gate_Beyond g w25 (fun (v140 : Slc) w26 => C_towpathref12_Gate_Beyond r w26 (fun (v142 : Slc) w27 => C_towpathlaw01_SameInts v140 v142 w27 (fun (v143 : Bool) w28 => (v143 = true → (C_gate_Gate_Mark g w28 (fun (v147 : Int) w29 => C_towpathref12_Gate_Mark r w29 (fun (v149 : Int) w30 => R ((v147 == v149) && (h_1 == 2)) w30)))) ∧
  (v143 = false → (R false w28))))))) ∧
  (v137 = false → (R false w25))))))

def F_towpathlaw12_GatePlays_k1 (numbers : Slc) (R : Bool → World → Prop) (g : Option Addr) (r : Option Addr) (b_1 : Nat) (t71 : Bool) (w12 : World) : Prop :=
  (t71 = true → (R false w12)) ∧
  (t71 = false → (∀ b_2 w13, b_2 = w12.heap.size → w13 = w12.alloc (Obj.cells (([Value.bool false, Value.int .i64 0] ++ (List.map (Value.int .u64) (List.replicate 1025 0)) ++ [Value.int .i64 0])).toArray ty_gate_Gate (0, 0)) → (Writable w13 b_1 0 12 ∧ (∀ w14, w14 = World.puts b_1 0 [Value.int .i64 0, Value.slice none 0 0, Value.slice none 0 0, Value.slice none 0 0, Value.slice none 0 0, Value.slice none 0 0, Value.slice none 0 0, Value.slice none 0 0, Value.slice none 0 0, Value.slice none 0 0, Value.slice none 0 0, Value.slice none 0 0] w13 → (∃ (I : Int → World → Prop) (μ : Int → World → Nat), I 0 w14 ∧
  ∀ (i : Int) w, I i w → F_towpathlaw12_GatePlays_L2 numbers R g r b_1 b_2 (fun (i' : Int) w' => I i' w' ∧ μ i' w' < μ i w) i w)))))

def F_towpathlaw12_GatePlays_k0 (numbers : Slc) (R : Bool → World → Prop) (v29 : Slc) (g : Option Addr) (r : Option Addr) (t57 : Bool) (w6 : World) : Prop :=
  (t57 = true → (R false w6)) ∧
  (t57 = false → (∀ b_1 w7, b_1 = w6.heap.size → w7 = w6.alloc (Obj.cells ([Value.int .i64 0, Value.slice none 0 0, Value.slice none 0 0, Value.slice none 0 0, Value.slice none 0 0, Value.slice none 0 0, Value.slice none 0 0, Value.slice none 0 0, Value.slice none 0 0, Value.slice none 0 0, Value.slice none 0 0, Value.slice none 0 0]).toArray ty_towpathlaw01_Book (0, 0)) → (Writable w7 b_1 0 12 ∧ (∀ w8, w8 = World.puts b_1 0 [Value.int .i64 0, Value.slice none 0 0, Value.slice none 0 0, Value.slice none 0 0, Value.slice none 0 0, Value.slice none 0 0, Value.slice none 0 0, Value.slice none 0 0, Value.slice none 0 0, Value.slice none 0 0, Value.slice none 0 0, Value.slice none 0 0] w7 → (C_towpathlaw01_Book_Ints (some ⟨b_1, 0, none⟩) v29 w8 (fun w9 => C_gate_Gate_Beyond g w9 (fun (v62 : Slc) w10 => C_towpathlaw01_Book_Ints (some ⟨b_1, 0, none⟩) v62 w10 (fun w11 => C_towpathlaw01_Book_Apart (some ⟨b_1, 0, none⟩) w11 (fun (v64 : Bool) w31 => ((!v64) = true → (F_towpathlaw12_GatePlays_k1 numbers R g r b_1 true w31)) ∧
  ((!v64) = false → (C_towpathlaw12_looks g r 1 w31 (fun (v69 : Bool) w32 => F_towpathlaw12_GatePlays_k1 numbers R g r b_1 (!v69) w32))))))))))))

def F_towpathlaw12_GatePlays (mark : Int) (beyond : Slc) (numbers : Slc) (R : Bool → World → Prop) (w : World) : Prop :=
  ∀ b_ w1, b_ = w.heap.size → w1 = w.alloc (Obj.cells ([Value.int .i64 ((beyond.len : Nat) : Int), Value.int .i64 ((numbers.len : Nat) : Int)]).toArray ty_int (0, 0)) → (C_towpathlaw01_Beyond (Slc.mk (some ⟨b_, 0, none⟩) 2 2) w1 (fun (v27 : Bool) w2 => (v27 = true → (R true w2)) ∧
  (v27 = false → (C_towpathlaw01_TwinInts beyond w2 (fun (v29 : Slc) w3 => C_gate_New mark v29 w3 (fun (g : Option Addr) (e : Int) w4 => C_towpathref12_New mark beyond w4 (fun (r : Option Addr) (f : Int) w5 => ((e != f) = true → (F_towpathlaw12_GatePlays_k0 numbers R v29 g r true w5)) ∧
  ((e != f) = false → (((!(g.isNone == r.isNone)) = true → (F_towpathlaw12_GatePlays_k0 numbers R v29 g r true w5)) ∧
  ((!(g.isNone == r.isNone)) = false → (C_towpathlaw01_LeftInts v29 beyond w5 (fun (v55 : Bool) w33 => F_towpathlaw12_GatePlays_k0 numbers R v29 g r (!v55) w33))))))))))))

def F_towpathlaw01_Beyond_L0 (l_ : Slc) (R : Bool → World → Prop) (again_ : Int → Int → World → Prop) (n_ : Int) (i : Int) (w1 : World) : Prop :=
  ((decide (i < ((l_.len : Nat) : Int))) = true → (IsAt l_.ptr ∧ (0 ≤ i ∧ i < ((l_.len : Nat) : Int) ∧ (∃ (v15 : Int), w1.cell? ⟨(pblk l_.ptr), (poff l_.ptr) + i.toNat, none⟩ = some (Value.int .i64 v15) ∧ (((decide ((IntKind.i64.wrap (n_ + v15)) > 1048576)) = true → (R true w1)) ∧
  ((decide ((IntKind.i64.wrap (n_ + v15)) > 1048576)) = false → (again_ (IntKind.i64.wrap (n_ + v15)) (IntKind.i64.wrap (i + 1)) w1))))))) ∧
  ((decide (i < ((l_.len : Nat) : Int))) = false → (R false w1))

def F_towpathlaw01_Beyond (l_ : Slc) (R : Bool → World → Prop) (w : World) : Prop :=
  ∃ (I : Int → Int → World → Prop) (μ : Int → Int → World → Nat), I 0 0 w ∧
  ∀ (n_ : Int) (i : Int) w, I n_ i w → F_towpathlaw01_Beyond_L0 l_ R (fun (n_' : Int) (i' : Int) w' => I n_' i' w' ∧ μ n_' i' w' < μ n_ i w) n_ i w

def F_towpathlaw01_TwinInts_L0 (l_ : Slc) (R : Slc → World → Prop) (again_ : Slc → Int → World → Prop) (t_ : Slc) (i : Int) (w2 : World) : Prop :=
  ((decide (i < ((l_.len : Nat) : Int))) = true → (IsAt l_.ptr ∧ (0 ≤ i ∧ i < ((l_.len : Nat) : Int) ∧ (∃ (v19 : Int), w2.cell? ⟨(pblk l_.ptr), (poff l_.ptr) + i.toNat, none⟩ = some (Value.int .i64 v19) ∧ (∀ b_1 w3, b_1 = w2.heap.size → w3 = w2.alloc (Obj.cells ([Value.int .i64 v19]).toArray ty_int (0, 0)) → (∃ src, SrcAt w3 (Slc.mk (some ⟨b_1, 0, none⟩) 1 1) 1 src ∧ AppendW 1 8 ty_int [Value.int .i64 0] t_ src 1 w3 (fun t_1 w4 => again_ t_1 (IntKind.i64.wrap (i + 1)) w4))))))) ∧
  ((decide (i < ((l_.len : Nat) : Int))) = false → (∀ b_2 w5, b_2 = w2.heap.size → w5 = w2.alloc (Obj.cells ([Value.int .i64 7777]).toArray ty_int (0, 0)) → (∃ src, SrcAt w5 (Slc.mk (some ⟨b_2, 0, none⟩) 1 1) 1 src ∧ AppendW 1 8 ty_int [Value.int .i64 0] t_ src 1 w5 (fun v24 w6 => 0 ≤ ((l_.len : Nat) : Int) ∧ ((l_.len : Nat) : Int) ≤ ((v24.cap : Nat) : Int) ∧ (R (Slc.mk v24.ptr (((l_.len : Nat) : Int).toNat) v24.cap) w6)))))

def F_towpathlaw01_TwinInts (l_ : Slc) (R : Slc → World → Prop) (w : World) : Prop :=
  0 ≤ (0 : Int) ∧ (0 : Int) ≤ IntKind.i64.wrap (((l_.len : Nat) : Int) + 1) ∧ (8 : Int) * (IntKind.i64.wrap (((l_.len : Nat) : Int) + 1)) ≤ 281474976710656 ∧ (∀ b_ w1, b_ = w.heap.size → w1 = w.alloc (Obj.cells (repCells ((IntKind.i64.wrap (((l_.len : Nat) : Int) + 1)).toNat) [Value.int .i64 0]) ty_int (0, 0)) → (∃ (I : Slc → Int → World → Prop) (μ : Slc → Int → World → Nat), I (Slc.mk (some ⟨b_, 0, none⟩) 0 ((IntKind.i64.wrap (((l_.len : Nat) : Int) + 1)).toNat)) 0 w1 ∧
  ∀ (t_ : Slc) (i : Int) w, I t_ i w → F_towpathlaw01_TwinInts_L0 l_ R (fun (t_' : Slc) (i' : Int) w' => I t_' i' w' ∧ μ t_' i' w' < μ t_ i w) t_ i w))

def F_gate_New_k1 (R : Option Addr → Int → World → Prop) (b_ : Nat) (t21 : Int) (again_ : Int → World → Prop) (n_ : Int) (t40 : Bool) (w3 : World) : Prop :=
  (t40 = true → (R none 1 w3)) ∧
  (t40 = false → (C_gate_Gate_set (some ⟨b_, 0, none⟩) n_ w3 (fun w4 => again_ (IntKind.i64.wrap (t21 + 1)) w4)))

def F_gate_New_L0 (mark : Int) (beyond : Slc) (R : Option Addr → Int → World → Prop) (b_ : Nat) (again_ : Int → World → Prop) (t21 : Int) (w2 : World) : Prop :=
  ((decide (t21 < ((beyond.len : Nat) : Int))) = true → (IsAt beyond.ptr ∧ (0 ≤ t21 ∧ t21 < ((beyond.len : Nat) : Int) ∧ (∃ (n_ : Int), w2.cell? ⟨(pblk beyond.ptr), (poff beyond.ptr) + t21.toNat, none⟩ = some (Value.int .i64 n_) ∧ ((((decide (n_ < (IntKind.i64.wrap (mark + 2)))) || (decide (n_ > 65536))) = true → (F_gate_New_k1 R b_ t21 again_ n_ true w2)) ∧
  (((decide (n_ < (IntKind.i64.wrap (mark + 2)))) || (decide (n_ > 65536))) = false → (∃ (v38 : Int), w2.cell? ⟨b_, 1027, none⟩ = some (Value.int .i64 v38) ∧ (F_gate_New_k1 R b_ t21 again_ n_ (decide (n_ ≤ v38)) w2)))))))) ∧
  ((decide (t21 < ((beyond.len : Nat) : Int))) = false → (R (some ⟨b_, 0, none⟩) 0 w2))

def F_gate_New (mark : Int) (beyond : Slc) (R : Option Addr → Int → World → Prop) (w : World) : Prop :=
  (((decide (mark < 0)) || (decide (mark > 65536))) = true → (R none 1 w)) ∧
  (((decide (mark < 0)) || (decide (mark > 65536))) = false → (∀ b_ w1, b_ = w.heap.size → w1 = w.alloc (Obj.cells (([Value.bool true, Value.int .i64 mark] ++ (List.map (Value.int .u64) (List.replicate 1025 0)) ++ [Value.int .i64 mark])).toArray ty_gate_Gate (0, 0)) → (∃ (I : Int → World → Prop) (μ : Int → World → Nat), I 0 w1 ∧
  ∀ (t21 : Int) w, I t21 w → F_gate_New_L0 mark beyond R b_ (fun (t21' : Int) w' => I t21' w' ∧ μ t21' w' < μ t21 w) t21 w)))

def F_towpathref12_New (mark : Int) (beyond : Slc) (R : Option Addr → Int → World → Prop) (w : World) : Prop :=
  C_towpathref12_May mark beyond w (fun (v9 : Bool) w1 => ((!v9) = true → (R none 1 w1)) ∧
  ((!v9) = false → (∃ src, SrcAt w1 beyond 1 src ∧ AppendW 1 8 ty_int [Value.int .i64 0] (Slc.mk none 0 0) src beyond.len w1 (fun v14 w2 => ∀ b_ w3, b_ = w2.heap.size → w3 = w2.alloc (Obj.cells ([Value.int .i64 mark, Value.slice v14.ptr v14.len v14.cap]).toArray ty_towpathref12_Gate (0, 0)) → (R (some ⟨b_, 0, none⟩) 0 w3)))))

def F_towpathlaw01_LeftInts_L0 (t_ : Slc) (l_ : Slc) (R : Bool → World → Prop) (again_ : Int → World → Prop) (i : Int) (w1 : World) : Prop :=
  ((decide (i < ((l_.len : Nat) : Int))) = true → (IsAt t_.ptr ∧ (0 ≤ i ∧ i < ((t_.len : Nat) : Int) ∧ (∃ (v28 : Int), w1.cell? ⟨(pblk t_.ptr), (poff t_.ptr) + i.toNat, none⟩ = some (Value.int .i64 v28) ∧ (IsAt l_.ptr ∧ (0 ≤ i ∧ i < ((l_.len : Nat) : Int) ∧ (∃ (v32 : Int), w1.cell? ⟨(pblk l_.ptr), (poff l_.ptr) + i.toNat, none⟩ = some (Value.int .i64 v32) ∧ (∀ w2, Ext w1 w2 → (((v28 != v32) = true → (R false w2)) ∧
  ((v28 != v32) = false → (again_ (IntKind.i64.wrap (i + 1)) w2))))))))))) ∧
  ((decide (i < ((l_.len : Nat) : Int))) = false → (0 ≤ IntKind.i64.wrap (((l_.len : Nat) : Int) + 1) ∧ IntKind.i64.wrap (((l_.len : Nat) : Int) + 1) ≤ ((t_.cap : Nat) : Int) ∧ (IsAt t_.ptr ∧ (0 ≤ ((l_.len : Nat) : Int) ∧ ((l_.len : Nat) : Int) < (((IntKind.i64.wrap (((l_.len : Nat) : Int) + 1)).toNat : Nat) : Int) ∧ (∃ (x : Int), w1.cell? ⟨(pblk t_.ptr), (poff t_.ptr) + ((l_.len : Nat) : Int).toNat, none⟩ = some (Value.int .i64 x) ∧ (R (x == 7777) w1))))))

def F_towpathlaw01_LeftInts (t_ : Slc) (l_ : Slc) (R : Bool → World → Prop) (w : World) : Prop :=
  (((((t_.len : Nat) : Int) != ((l_.len : Nat) : Int)) || (decide (((t_.cap : Nat) : Int) ≤ ((l_.len : Nat) : Int)))) = true → (R false w)) ∧
  (((((t_.len : Nat) : Int) != ((l_.len : Nat) : Int)) || (decide (((t_.cap : Nat) : Int) ≤ ((l_.len : Nat) : Int)))) = false → (∃ (I : Int → World → Prop) (μ : Int → World → Nat), I 0 w ∧
  ∀ (i : Int) w, I i w → F_towpathlaw01_LeftInts_L0 t_ l_ R (fun (i' : Int) w' => I i' w' ∧ μ i' w' < μ i w) i w))

def F_towpathlaw01_Book_Ints (b_ : Option Addr) (l_ : Slc) (R : World → Prop) (w : World) : Prop :=
  C_towpathlaw01_Book_keepInt b_ l_ w (fun w1 => R w1)

def F_gate_Gate_Beyond_k2 (n_ : Int) (again_ : Slc → Int → World → Prop) (out1 : Slc) (w3 : World) : Prop :=
  again_ out1 (IntKind.i64.wrap (n_ + 1)) w3

def F_gate_Gate_Beyond_L1 (g : Option Addr) (R : Slc → World → Prop) (again_ : Slc → Int → World → Prop) (out : Slc) (n_ : Int) (w2 : World) : Prop :=
  IsAt g ∧ (∃ (v23 : Int), w2.cell? ⟨(pblk g), (poff g) + 1027, none⟩ = some (Value.int .i64 v23) ∧ (((decide (n_ ≤ v23)) = true → (C_gate_Gate_is g n_ w2 (fun (v29 : Bool) w4 => (v29 = true → (∀ b_ w5, b_ = w4.heap.size → w5 = w4.alloc (Obj.cells ([Value.int .i64 n_]).toArray ty_int (0, 0)) → (∃ src, SrcAt w5 (Slc.mk (some ⟨b_, 0, none⟩) 1 1) 1 src ∧ AppendW 1 8 ty_int [Value.int .i64 0] out src 1 w5 (fun out2 w6 => F_gate_Gate_Beyond_k2 n_ again_ out2 w6)))) ∧
  (v29 = false → (F_gate_Gate_Beyond_k2 n_ again_ out w4))))) ∧
  ((decide (n_ ≤ v23)) = false → (R out w2))))

def F_gate_Gate_Beyond_k0 (g : Option Addr) (R : Slc → World → Prop) (t13 : Bool) (w1 : World) : Prop :=
  (t13 = true → (R (Slc.mk none 0 0) w1)) ∧
  (t13 = false → (IsAt g ∧ (∃ (v17 : Int), w1.cell? ⟨(pblk g), (poff g) + 1, none⟩ = some (Value.int .i64 v17) ∧ (∃ (I : Slc → Int → World → Prop) (μ : Slc → Int → World → Nat), I (Slc.mk none 0 0) (IntKind.i64.wrap (v17 + 1)) w1 ∧
  ∀ (out : Slc) (n_ : Int) w, I out n_ w → F_gate_Gate_Beyond_L1 g R (fun (out' : Slc) (n_' : Int) w' => I out' n_' w' ∧ μ out' n_' w' < μ out n_ w) out n_ w))))

def F_gate_Gate_Beyond (g : Option Addr) (R : Slc → World → Prop) (w : World) : Prop :=
  (g.isNone = true → (F_gate_Gate_Beyond_k0 g R true w)) ∧
  (g.isNone = false → (IsAt g ∧ (∃ (v11 : Bool), w.cell? ⟨(pblk g), (poff g), none⟩ = some (Value.bool v11) ∧ (F_gate_Gate_Beyond_k0 g R (!v11) w))))

def F_towpathlaw01_Book_Apart (b_ : Option Addr) (R : Bool → World → Prop) (w : World) : Prop :=
  C_towpathlaw01_Book_fillByte b_ w (fun w1 => C_towpathlaw01_Book_fillInt b_ w1 (fun w2 => C_towpathlaw01_Book_fillText b_ w2 (fun w3 => C_towpathlaw01_Book_fillWrite b_ w3 (fun w4 => C_towpathlaw01_Book_fillEntry b_ w4 (fun w5 => C_towpathlaw01_Book_fillVersion b_ w5 (fun w6 => C_towpathlaw01_Book_fillTxn b_ w6 (fun w7 => C_towpathlaw01_Book_fillHeld b_ w7 (fun w8 => C_towpathlaw01_Book_fillHeldList b_ w8 (fun w9 => C_towpathlaw01_Book_fillEvent b_ w9 (fun w10 => C_towpathlaw01_Book_fillAnswer b_ w10 (fun w11 => C_towpathlaw01_Book_growByte b_ w11 (fun w12 => C_towpathlaw01_Book_growInt b_ w12 (fun w13 => C_towpathlaw01_Book_growText b_ w13 (fun w14 => C_towpathlaw01_Book_growWrite b_ w14 (fun w15 => C_towpathlaw01_Book_growEntry b_ w15 (fun w16 => C_towpathlaw01_Book_growVersion b_ w16 (fun w17 => C_towpathlaw01_Book_growTxn b_ w17 (fun w18 => C_towpathlaw01_Book_growHeld b_ w18 (fun w19 => C_towpathlaw01_Book_growHeldList b_ w19 (fun w20 => C_towpathlaw01_Book_growEvent b_ w20 (fun w21 => C_towpathlaw01_Book_growAnswer b_ w21 (fun w22 => C_towpathlaw01_Book_lookByte b_ w22 (fun (v48 : Bool) w23 => (v48 = true → (C_towpathlaw01_Book_lookInt b_ w23 (fun (v51 : Bool) w24 => (v51 = true → (C_towpathlaw01_Book_lookText b_ w24 (fun (v55 : Bool) w25 => (v55 = true → (C_towpathlaw01_Book_lookWrite b_ w25 (fun (v59 : Bool) w26 => (v59 = true → (C_towpathlaw01_Book_lookEntry b_ w26 (fun (v63 : Bool) w27 => (v63 = true → (C_towpathlaw01_Book_lookVersion b_ w27 (fun (v67 : Bool) w28 => (v67 = true → (C_towpathlaw01_Book_lookTxn b_ w28 (fun (v71 : Bool) w29 => (v71 = true → (C_towpathlaw01_Book_lookHeld b_ w29 (fun (v75 : Bool) w30 => (v75 = true → (C_towpathlaw01_Book_lookHeldList b_ w30 (fun (v79 : Bool) w31 => (v79 = true → (C_towpathlaw01_Book_lookEvent b_ w31 (fun (v83 : Bool) w32 => (v83 = true → (C_towpathlaw01_Book_lookAnswer b_ w32 (fun (v87 : Bool) w33 => R v87 w33))) ∧
  (v83 = false → (R false w32))))) ∧
  (v79 = false → (R false w31))))) ∧
  (v75 = false → (R false w30))))) ∧
  (v71 = false → (R false w29))))) ∧
  (v67 = false → (R false w28))))) ∧
  (v63 = false → (R false w27))))) ∧
  (v59 = false → (R false w26))))) ∧
  (v55 = false → (R false w25))))) ∧
  (v51 = false → (R false w24))))) ∧
  (v48 = false → (R false w23)))))))))))))))))))))))))

def F_towpathlaw12_looks (g : Option Addr) (r : Option Addr) (number : Int) (R : Bool → World → Prop) (w : World) : Prop :=
  C_gate_Gate_Mark g w (fun (v8 : Int) w1 => C_towpathref12_Gate_Mark r w1 (fun (v10 : Int) w2 => ((v8 == v10) = true → (C_gate_Gate_Has g number w2 (fun (v15 : Bool) w3 => C_towpathref12_Gate_Has r number w3 (fun (v18 : Bool) w4 => ((v15 == v18) = true → (C_gate_Gate_Beyond g w4 (fun (v23 : Slc) w5 => C_towpathref12_Gate_Beyond r w5 (fun (v25 : Slc) w6 => C_towpathlaw01_SameInts v23 v25 w6 (fun (v26 : Bool) w7 => R v26 w7))))) ∧
  ((v15 == v18) = false → (R false w4)))))) ∧
  ((v8 == v10) = false → (R false w2))))

def F_gate_Gate_Done_L2 (g : Option Addr) (R : Int → Int → World → Prop) (again_ : Int → World → Prop) (up : Int) (w4 : World) : Prop :=
  IsAt g ∧ (∃ (v36 : Int), w4.cell? ⟨(pblk g), (poff g) + 1, none⟩ = some (Value.int .i64 v36) ∧ (C_gate_Gate_is g (IntKind.i64.wrap (v36 + 1)) w4 (fun (v38 : Bool) w5 => (v38 = true → (IsAt g ∧ (∃ (v44 : Int), w5.cell? ⟨(pblk g), (poff g) + 1, none⟩ = some (Value.int .i64 v44) ∧ (Writable w5 (pblk g) ((poff g) + 1) 1 ∧ (∀ w6, w6 = World.puts (pblk g) ((poff g) + 1) [Value.int .i64 (IntKind.i64.wrap (v44 + 1))] w5 → (∀ w7, (∃ k, w7 = w6.drewN k) → (IsAt g ∧ (∃ (v52 : Int), w7.cell? ⟨(pblk g), (poff g) + 1, none⟩ = some (Value.int .i64 v52) ∧ (IsAt g ∧ (0 ≤ IntKind.i64.wrap (Int.tdiv v52 64) ∧ IntKind.i64.wrap (Int.tdiv v52 64) < (1025 : Int) ∧ (∃ (v57 : Int), w7.cell? ⟨(pblk g), ((poff g) + 2) + (IntKind.i64.wrap (Int.tdiv v52 64)).toNat, none⟩ = some (Value.int .u64 v57) ∧ (IsAt g ∧ (∃ (v61 : Int), w7.cell? ⟨(pblk g), (poff g) + 1, none⟩ = some (Value.int .i64 v61) ∧ (0 ≤ Int.tmod v61 64 ∧ (0 ≤ IntKind.i64.wrap (Int.tdiv v52 64) ∧ IntKind.i64.wrap (Int.tdiv v52 64) < (1025 : Int) ∧ (Writable w7 (pblk g) (((poff g) + 2) + (IntKind.i64.wrap (Int.tdiv v52 64)).toNat) 1 ∧ (∀ w8, w8 = World.puts (pblk g) (((poff g) + 2) + (IntKind.i64.wrap (Int.tdiv v52 64)).toNat) [Value.int .u64 (bandnot .u64 v57 (IntKind.u64.wrap (1 * 2 ^ (min (Int.tmod v61 64).toNat 64))))] w7 → (again_ (IntKind.i64.wrap (up + 1)) w8)))))))))))))))))) ∧
  (v38 = false → (R up 0 w5)))))

def F_gate_Gate_Done_k1 (g : Option Addr) (number : Int) (R : Int → Int → World → Prop) (t17 : Bool) (w2 : World) : Prop :=
  (t17 = true → (R 0 1 w2)) ∧
  (t17 = false → (C_gate_Gate_set g number w2 (fun w3 => ∃ (I : Int → World → Prop) (μ : Int → World → Nat), I 0 w3 ∧
  ∀ (up : Int) w, I up w → F_gate_Gate_Done_L2 g R (fun (up' : Int) w' => I up' w' ∧ μ up' w' < μ up w) up w)))

def F_gate_Gate_Done_k0 (g : Option Addr) (number : Int) (R : Int → Int → World → Prop) (t7 : Bool) (w1 : World) : Prop :=
  (t7 = true → (R 0 2 w1)) ∧
  (t7 = false → ((((decide (number < 1)) || (decide (number > 65536))) = true → (F_gate_Gate_Done_k1 g number R true w1)) ∧
  (((decide (number < 1)) || (decide (number > 65536))) = false → (C_gate_Gate_Has g number w1 (fun (v27 : Bool) w9 => F_gate_Gate_Done_k1 g number R v27 w9)))))

def F_gate_Gate_Done (g : Option Addr) (number : Int) (R : Int → Int → World → Prop) (w : World) : Prop :=
  (g.isNone = true → (F_gate_Gate_Done_k0 g number R true w)) ∧
  (g.isNone = false → (IsAt g ∧ (∃ (v14 : Bool), w.cell? ⟨(pblk g), (poff g), none⟩ = some (Value.bool v14) ∧ (F_gate_Gate_Done_k0 g number R (!v14) w))))

def F_towpathref12_Gate_Done_k2 (g : Option Addr) (i : Int) (again_ : Slc → Bool → Int → World → Prop) (l_1 : Slc) (put1 : Bool) (w3 : World) : Prop :=
  IsAt g ∧ (∃ (v53 : Slc), w3.cell? ⟨(pblk g), (poff g) + 1, none⟩ = some (Value.slice v53.ptr v53.len v53.cap) ∧ (IsAt v53.ptr ∧ (0 ≤ i ∧ i < ((v53.len : Nat) : Int) ∧ (∃ (v56 : Int), w3.cell? ⟨(pblk v53.ptr), (poff v53.ptr) + i.toNat, none⟩ = some (Value.int .i64 v56) ∧ (∀ b_ w4, b_ = w3.heap.size → w4 = w3.alloc (Obj.cells ([Value.int .i64 v56]).toArray ty_int (0, 0)) → (∃ src, SrcAt w4 (Slc.mk (some ⟨b_, 0, none⟩) 1 1) 1 src ∧ AppendW 1 8 ty_int [Value.int .i64 0] l_1 src 1 w4 (fun l_2 w5 => again_ l_2 put1 (IntKind.i64.wrap (i + 1)) w5)))))))

def F_towpathref12_Gate_Done_k3 (g : Option Addr) (number : Int) (l_ : Slc) (put : Bool) (i : Int) (again_ : Slc → Bool → Int → World → Prop) (t44 : Bool) (w6 : World) : Prop :=
  (t44 = true → (∀ b_1 w7, b_1 = w6.heap.size → w7 = w6.alloc (Obj.cells ([Value.int .i64 number]).toArray ty_int (0, 0)) → (∃ src, SrcAt w7 (Slc.mk (some ⟨b_1, 0, none⟩) 1 1) 1 src ∧ AppendW 1 8 ty_int [Value.int .i64 0] l_ src 1 w7 (fun l_3 w8 => F_towpathref12_Gate_Done_k2 g i again_ l_3 true w8)))) ∧
  (t44 = false → (F_towpathref12_Gate_Done_k2 g i again_ l_ put w6))

def F_towpathref12_Gate_Done_k6 (g : Option Addr) (R : Int → Int → World → Prop) (l_5 : Slc) (n_ : Int) (again_1 : Slc → Int → World → Prop) (t78 : Bool) (w11 : World) : Prop :=
  (t78 = true → ((0 ≤ (1 : Int) ∧ (1 : Int) ≤ ((l_5.len : Nat) : Int) ∧ ((l_5.len : Nat) : Int) ≤ ((l_5.cap : Nat) : Int) ∧ ((l_5.cap : Nat) : Int) ≤ ((l_5.cap : Nat) : Int)) ∧ (∀ s, s = Slc.cut 1 l_5 1 ((l_5.len : Nat) : Int) ((l_5.cap : Nat) : Int) → (IsAt g ∧ (∃ (v85 : Int), w11.cell? ⟨(pblk g), (poff g), none⟩ = some (Value.int .i64 v85) ∧ (IsAt g ∧ (Writable w11 (pblk g) (poff g) 1 ∧ (∀ w12, w12 = World.puts (pblk g) (poff g) [Value.int .i64 (IntKind.i64.wrap (v85 + 1))] w11 → (again_1 s (IntKind.i64.wrap (n_ + 1)) w12))))))))) ∧
  (t78 = false → (IsAt g ∧ (Writable w11 (pblk g) ((poff g) + 1) 1 ∧ (∀ w13, w13 = World.puts (pblk g) ((poff g) + 1) [Value.slice l_5.ptr l_5.len l_5.cap] w11 → (R n_ 0 w13)))))

def F_towpathref12_Gate_Done_L5 (g : Option Addr) (R : Int → Int → World → Prop) (again_1 : Slc → Int → World → Prop) (l_5 : Slc) (n_ : Int) (w10 : World) : Prop :=
  ((decide (((l_5.len : Nat) : Int) > 0)) = true → (IsAt l_5.ptr ∧ (0 ≤ (0 : Int) ∧ (0 : Int) < ((l_5.len : Nat) : Int) ∧ (∃ (v71 : Int), w10.cell? ⟨(pblk l_5.ptr), (poff l_5.ptr), none⟩ = some (Value.int .i64 v71) ∧ (IsAt g ∧ (∃ (v75 : Int), w10.cell? ⟨(pblk g), (poff g), none⟩ = some (Value.int .i64 v75) ∧ (∀ w14, Ext w10 w14 → (F_towpathref12_Gate_Done_k6 g R l_5 n_ again_1 (v71 == (IntKind.i64.wrap (v75 + 1))) w14)))))))) ∧
  ((decide (((l_5.len : Nat) : Int) > 0)) = false → (∀ w15, Ext w10 w15 → (F_towpathref12_Gate_Done_k6 g R l_5 n_ again_1 false w15)))

def F_towpathref12_Gate_Done_k4 (g : Option Addr) (R : Int → Int → World → Prop) (l_4 : Slc) (w9 : World) : Prop :=
  ∃ (I : Slc → Int → World → Prop) (μ : Slc → Int → World → Nat), I l_4 0 w9 ∧
  ∀ (l_5 : Slc) (n_ : Int) w, I l_5 n_ w → F_towpathref12_Gate_Done_L5 g R (fun (l_5' : Slc) (n_' : Int) w' => I l_5' n_' w' ∧ μ l_5' n_' w' < μ l_5 n_ w) l_5 n_ w

def F_towpathref12_Gate_Done_L1 (g : Option Addr) (number : Int) (R : Int → Int → World → Prop) (again_ : Slc → Bool → Int → World → Prop) (l_ : Slc) (put : Bool) (i : Int) (w2 : World) : Prop :=
  IsAt g ∧ (∃ (v27 : Slc), w2.cell? ⟨(pblk g), (poff g) + 1, none⟩ = some (Value.slice v27.ptr v27.len v27.cap) ∧ (((decide (i < ((v27.len : Nat) : Int))) = true → (((!put) = true → (IsAt g ∧ (∃ (v38 : Slc), w2.cell? ⟨(pblk g), (poff g) + 1, none⟩ = some (Value.slice v38.ptr v38.len v38.cap) ∧ (IsAt v38.ptr ∧ (0 ≤ i ∧ i < ((v38.len : Nat) : Int) ∧ (∃ (v41 : Int), w2.cell? ⟨(pblk v38.ptr), (poff v38.ptr) + i.toNat, none⟩ = some (Value.int .i64 v41) ∧ (F_towpathref12_Gate_Done_k3 g number l_ put i again_ (decide (v41 > number)) w2))))))) ∧
  ((!put) = false → (F_towpathref12_Gate_Done_k3 g number l_ put i again_ false w2)))) ∧
  ((decide (i < ((v27.len : Nat) : Int))) = false → (((!put) = true → (∀ b_2 w16, b_2 = w2.heap.size → w16 = w2.alloc (Obj.cells ([Value.int .i64 number]).toArray ty_int (0, 0)) → (∃ src, SrcAt w16 (Slc.mk (some ⟨b_2, 0, none⟩) 1 1) 1 src ∧ AppendW 1 8 ty_int [Value.int .i64 0] l_ src 1 w16 (fun l_6 w17 => F_towpathref12_Gate_Done_k4 g R l_6 w17)))) ∧
  ((!put) = false → (F_towpathref12_Gate_Done_k4 g R l_ w2))))))

def F_towpathref12_Gate_Done_k0 (g : Option Addr) (number : Int) (R : Int → Int → World → Prop) (t22 : Bool) (w1 : World) : Prop :=
  (t22 = true → (R 0 1 w1)) ∧
  (t22 = false → (∃ (I : Slc → Bool → Int → World → Prop) (μ : Slc → Bool → Int → World → Nat), I (Slc.mk none 0 0) false 0 w1 ∧
  ∀ (l_ : Slc) (put : Bool) (i : Int) w, I l_ put i w → F_towpathref12_Gate_Done_L1 g number R (fun (l_' : Slc) (put' : Bool) (i' : Int) w' => I l_' put' i' w' ∧ μ l_' put' i' w' < μ l_ put i w) l_ put i w))

def F_towpathref12_Gate_Done (g : Option Addr) (number : Int) (R : Int → Int → World → Prop) (w : World) : Prop :=
  (g.isNone = true → (R 0 2 w)) ∧
  (g.isNone = false → ((((decide (number < 1)) || (decide (number > 65536))) = true → (F_towpathref12_Gate_Done_k0 g number R true w)) ∧
  (((decide (number < 1)) || (decide (number > 65536))) = false → (C_towpathref12_Gate_Has g number w (fun (v21 : Bool) w18 => F_towpathref12_Gate_Done_k0 g number R v21 w18)))))

def F_towpathlaw01_SameInts_L0 (a_ : Slc) (b_ : Slc) (R : Bool → World → Prop) (again_ : Int → World → Prop) (i : Int) (w1 : World) : Prop :=
  ((decide (i < ((a_.len : Nat) : Int))) = true → (IsAt a_.ptr ∧ (0 ≤ i ∧ i < ((a_.len : Nat) : Int) ∧ (∃ (v20 : Int), w1.cell? ⟨(pblk a_.ptr), (poff a_.ptr) + i.toNat, none⟩ = some (Value.int .i64 v20) ∧ (IsAt b_.ptr ∧ (0 ≤ i ∧ i < ((b_.len : Nat) : Int) ∧ (∃ (v24 : Int), w1.cell? ⟨(pblk b_.ptr), (poff b_.ptr) + i.toNat, none⟩ = some (Value.int .i64 v24) ∧ (∀ w2, Ext w1 w2 → (((v20 != v24) = true → (R false w2)) ∧
  ((v20 != v24) = false → (again_ (IntKind.i64.wrap (i + 1)) w2))))))))))) ∧
  ((decide (i < ((a_.len : Nat) : Int))) = false → (R true w1))

def F_towpathlaw01_SameInts (a_ : Slc) (b_ : Slc) (R : Bool → World → Prop) (w : World) : Prop :=
  ((((a_.len : Nat) : Int) != ((b_.len : Nat) : Int)) = true → (R false w)) ∧
  ((((a_.len : Nat) : Int) != ((b_.len : Nat) : Int)) = false → (∃ (I : Int → World → Prop) (μ : Int → World → Nat), I 0 w ∧
  ∀ (i : Int) w, I i w → F_towpathlaw01_SameInts_L0 a_ b_ R (fun (i' : Int) w' => I i' w' ∧ μ i' w' < μ i w) i w))

def F_towpathref12_Gate_Beyond (g : Option Addr) (R : Slc → World → Prop) (w : World) : Prop :=
  (g.isNone = true → (R (Slc.mk none 0 0) w)) ∧
  (g.isNone = false → (IsAt g ∧ (∃ (v10 : Slc), w.cell? ⟨(pblk g), (poff g) + 1, none⟩ = some (Value.slice v10.ptr v10.len v10.cap) ∧ (∃ src, SrcAt w v10 1 src ∧ AppendW 1 8 ty_int [Value.int .i64 0] (Slc.mk none 0 0) src v10.len w (fun v11 w1 => R v11 w1)))))

def F_gate_Gate_Mark (g : Option Addr) (R : Int → World → Prop) (w : World) : Prop :=
  (g.isNone = true → (R 0 w)) ∧
  (g.isNone = false → (IsAt g ∧ (∃ (v8 : Int), w.cell? ⟨(pblk g), (poff g) + 1, none⟩ = some (Value.int .i64 v8) ∧ (R v8 w))))

def F_towpathref12_Gate_Mark (g : Option Addr) (R : Int → World → Prop) (w : World) : Prop :=
  (g.isNone = true → (R 0 w)) ∧
  (g.isNone = false → (IsAt g ∧ (∃ (v8 : Int), w.cell? ⟨(pblk g), (poff g), none⟩ = some (Value.int .i64 v8) ∧ (R v8 w))))

def F_gate_Gate_set (g : Option Addr) (n_ : Int) (R : World → Prop) (w : World) : Prop :=
  ∀ w1, (∃ k, w1 = w.drewN k) → (IsAt g ∧ (0 ≤ IntKind.i64.wrap (Int.tdiv n_ 64) ∧ IntKind.i64.wrap (Int.tdiv n_ 64) < (1025 : Int) ∧ (∃ (v10 : Int), w1.cell? ⟨(pblk g), ((poff g) + 2) + (IntKind.i64.wrap (Int.tdiv n_ 64)).toNat, none⟩ = some (Value.int .u64 v10) ∧ (0 ≤ Int.tmod n_ 64 ∧ (0 ≤ IntKind.i64.wrap (Int.tdiv n_ 64) ∧ IntKind.i64.wrap (Int.tdiv n_ 64) < (1025 : Int) ∧ (Writable w1 (pblk g) (((poff g) + 2) + (IntKind.i64.wrap (Int.tdiv n_ 64)).toNat) 1 ∧ (∀ w2, w2 = World.puts (pblk g) (((poff g) + 2) + (IntKind.i64.wrap (Int.tdiv n_ 64)).toNat) [Value.int .u64 (bor .u64 v10 (IntKind.u64.wrap (1 * 2 ^ (min (Int.tmod n_ 64).toNat 64))))] w1 → (IsAt g ∧ (∃ (v22 : Int), w2.cell? ⟨(pblk g), (poff g) + 1027, none⟩ = some (Value.int .i64 v22) ∧ (IsAt g ∧ (Writable w2 (pblk g) ((poff g) + 1027) 1 ∧ (∀ w3, w3 = World.puts (pblk g) ((poff g) + 1027) [Value.int .i64 (if n_ > v22 then n_ else v22)] w2 → (R w3)))))))))))))

def F_towpathref12_May_k1 (R : Bool → World → Prop) (i : Int) (again_ : Int → World → Prop) (t47 : Bool) (w2 : World) : Prop :=
  (t47 = true → (R false w2)) ∧
  (t47 = false → (again_ (IntKind.i64.wrap (i + 1)) w2))

def F_towpathref12_May_L0 (mark : Int) (beyond : Slc) (R : Bool → World → Prop) (again_ : Int → World → Prop) (i : Int) (w1 : World) : Prop :=
  ((decide (i < ((beyond.len : Nat) : Int))) = true → (IsAt beyond.ptr ∧ (0 ≤ i ∧ i < ((beyond.len : Nat) : Int) ∧ (∃ (v21 : Int), w1.cell? ⟨(pblk beyond.ptr), (poff beyond.ptr) + i.toNat, none⟩ = some (Value.int .i64 v21) ∧ (((decide (v21 < (IntKind.i64.wrap (mark + 2)))) = true → (∀ w3, Ext w1 w3 → (F_towpathref12_May_k1 R i again_ true w3))) ∧
  ((decide (v21 < (IntKind.i64.wrap (mark + 2)))) = false → (IsAt beyond.ptr ∧ (0 ≤ i ∧ i < ((beyond.len : Nat) : Int) ∧ (∃ (v29 : Int), w1.cell? ⟨(pblk beyond.ptr), (poff beyond.ptr) + i.toNat, none⟩ = some (Value.int .i64 v29) ∧ (((decide (v29 > 65536)) = true → (∀ w4, Ext w1 w4 → (F_towpathref12_May_k1 R i again_ true w4))) ∧
  ((decide (v29 > 65536)) = false → (((decide (i > 0)) = true → (IsAt beyond.ptr ∧ (0 ≤ IntKind.i64.wrap (i - 1) ∧ IntKind.i64.wrap (i - 1) < ((beyond.len : Nat) : Int) ∧ (∃ (v40 : Int), w1.cell? ⟨(pblk beyond.ptr), (poff beyond.ptr) + (IntKind.i64.wrap (i - 1)).toNat, none⟩ = some (Value.int .i64 v40) ∧ (IsAt beyond.ptr ∧ (0 ≤ i ∧ i < ((beyond.len : Nat) : Int) ∧ (∃ (v44 : Int), w1.cell? ⟨(pblk beyond.ptr), (poff beyond.ptr) + i.toNat, none⟩ = some (Value.int .i64 v44) ∧ (∀ w5, Ext w1 w5 → (F_towpathref12_May_k1 R i again_ (decide (v40 ≥ v44)) w5))))))))) ∧
  ((decide (i > 0)) = false → (∀ w6, Ext w1 w6 → (F_towpathref12_May_k1 R i again_ false w6))))))))))))))) ∧
  ((decide (i < ((beyond.len : Nat) : Int))) = false → (R true w1))

def F_towpathref12_May (mark : Int) (beyond : Slc) (R : Bool → World → Prop) (w : World) : Prop :=
  (((decide (mark < 0)) || (decide (mark > 65536))) = true → (R false w)) ∧
  (((decide (mark < 0)) || (decide (mark > 65536))) = false → (∃ (I : Int → World → Prop) (μ : Int → World → Nat), I 0 w ∧
  ∀ (i : Int) w, I i w → F_towpathref12_May_L0 mark beyond R (fun (i' : Int) w' => I i' w' ∧ μ i' w' < μ i w) i w))

def F_towpathlaw01_Book_keepInt (b_ : Option Addr) (l_ : Slc) (R : World → Prop) (w : World) : Prop :=
  IsAt b_ ∧ (∃ (v7 : Int), w.cell? ⟨(pblk b_), (poff b_), none⟩ = some (Value.int .i64 v7) ∧ (Writable w (pblk b_) (poff b_) 1 ∧ (∀ w1, w1 = World.puts (pblk b_) (poff b_) [Value.int .i64 (IntKind.i64.wrap (v7 + 1))] w → (∀ w2, (∃ k, w2 = w1.drewN k) → (IsAt b_ ∧ (∃ (v15 : Slc), w2.cell? ⟨(pblk b_), (poff b_) + 2, none⟩ = some (Value.slice v15.ptr v15.len v15.cap) ∧ (IsAt b_ ∧ (∃ (v20 : Int), w2.cell? ⟨(pblk b_), (poff b_), none⟩ = some (Value.int .i64 v20) ∧ (∀ b_1 w3, b_1 = w2.heap.size → w3 = w2.alloc (Obj.cells ([Value.slice l_.ptr l_.len l_.cap, Value.slice none 0 0, Value.int .i64 v20]).toArray ty_towpathlaw01_heldInt (0, 0)) → (w3.cell? ⟨(pblk b_), (poff b_) + 2, none⟩ = some (Value.slice v15.ptr v15.len v15.cap) ∧ (∃ src, SrcAt w3 (Slc.mk (some ⟨b_1, 0, none⟩) 1 1) 3 src ∧ AppendW 3 56 ty_towpathlaw01_heldInt [Value.slice none 0 0, Value.slice none 0 0, Value.int .i64 0] v15 src 1 w3 (fun v23 w4 => (IsAt b_ ∧ (Writable w4 (pblk b_) ((poff b_) + 2) 1 ∧ (∀ w5, w5 = World.puts (pblk b_) ((poff b_) + 2) [Value.slice v23.ptr v23.len v23.cap] w4 → ((R w5)))))))))))))))))

def F_gate_Gate_is (g : Option Addr) (n_ : Int) (R : Bool → World → Prop) (w : World) : Prop :=
  ((decide (n_ ≤ 65536)) = true → (IsAt g ∧ (0 ≤ IntKind.i64.wrap (Int.tdiv n_ 64) ∧ IntKind.i64.wrap (Int.tdiv n_ 64) < (1025 : Int) ∧ (∃ (v14 : Int), w.cell? ⟨(pblk g), ((poff g) + 2) + (IntKind.i64.wrap (Int.tdiv n_ 64)).toNat, none⟩ = some (Value.int .u64 v14) ∧ (0 ≤ Int.tmod n_ 64 ∧ (R ((band .u64 (Int.fdiv v14 (2 ^ (min (Int.tmod n_ 64).toNat 64))) 1) == 1) w)))))) ∧
  ((decide (n_ ≤ 65536)) = false → (R false w))

def F_towpathlaw01_Book_fillByte_L0 (b_ : Option Addr) (R : World → Prop) (again_ : Int → World → Prop) (i : Int) (w1 : World) : Prop :=
  IsAt b_ ∧ (∃ (v9 : Slc), w1.cell? ⟨(pblk b_), (poff b_) + 1, none⟩ = some (Value.slice v9.ptr v9.len v9.cap) ∧ (((decide (i < ((v9.len : Nat) : Int))) = true → (False)) ∧
  ((decide (i < ((v9.len : Nat) : Int))) = false → (R w1))))

def F_towpathlaw01_Book_fillByte (b_ : Option Addr) (R : World → Prop) (w : World) : Prop :=
  ∃ (I : Int → World → Prop) (μ : Int → World → Nat), I 0 w ∧
  ∀ (i : Int) w, I i w → F_towpathlaw01_Book_fillByte_L0 b_ R (fun (i' : Int) w' => I i' w' ∧ μ i' w' < μ i w) i w

def F_towpathlaw01_Book_fillInt_L1 (i : Int) (again_ : Int → World → Prop) (b_1 : Nat) (again_1 : Int → World → Prop) (k : Int) (w4 : World) : Prop :=
  ∃ (v23 : Slc), w4.cell? ⟨b_1, 0, none⟩ = some (Value.slice v23.ptr v23.len v23.cap) ∧ (((decide (k < ((v23.len : Nat) : Int))) = true → (∀ w5, (∃ k, w5 = w4.drewN k) → (∃ (v29 : Slc), w5.cell? ⟨b_1, 0, none⟩ = some (Value.slice v29.ptr v29.len v29.cap) ∧ (∃ (v32 : Int), w5.cell? ⟨b_1, 2, none⟩ = some (Value.int .i64 v32) ∧ (C_towpathlaw01_markInt v32 w5 (fun (v33 : Int) w6 => w6.cell? ⟨b_1, 0, none⟩ = some (Value.slice v29.ptr v29.len v29.cap) ∧ (IsAt v29.ptr ∧ (0 ≤ k ∧ k < ((v29.len : Nat) : Int) ∧ (Writable w6 (pblk v29.ptr) ((poff v29.ptr) + k.toNat) 1 ∧ (∀ w7, w7 = World.puts (pblk v29.ptr) ((poff v29.ptr) + k.toNat) [Value.int .i64 v33] w6 → ((again_1 (IntKind.i64.wrap (k + 1)) w7)))))))))))) ∧
  ((decide (k < ((v23.len : Nat) : Int))) = false → (again_ (IntKind.i64.wrap (i + 1)) w4)))

def F_towpathlaw01_Book_fillInt_L0 (b_ : Option Addr) (R : World → Prop) (again_ : Int → World → Prop) (i : Int) (w1 : World) : Prop :=
  IsAt b_ ∧ (∃ (v9 : Slc), w1.cell? ⟨(pblk b_), (poff b_) + 2, none⟩ = some (Value.slice v9.ptr v9.len v9.cap) ∧ (((decide (i < ((v9.len : Nat) : Int))) = true → (IsAt b_ ∧ (∃ (v17 : Slc), w1.cell? ⟨(pblk b_), (poff b_) + 2, none⟩ = some (Value.slice v17.ptr v17.len v17.cap) ∧ (IsAt v17.ptr ∧ (0 ≤ i ∧ i < ((v17.len : Nat) : Int) ∧ (∃ (v20 : T_towpathlaw01_heldInt), CellsAt w1 (pblk v17.ptr) ((poff v17.ptr) + i.toNat * 3) [Value.slice v20.l.ptr v20.l.len v20.l.cap, Value.slice v20.long.ptr v20.long.len v20.long.cap, Value.int .i64 v20.n] ∧ (∀ b_1 w2, b_1 = w1.heap.size → w2 = w1.alloc (Obj.cells ([Value.slice none 0 0, Value.slice none 0 0, Value.int .i64 0]).toArray ty_towpathlaw01_heldInt (0, 0)) → (Writable w2 b_1 0 3 ∧ (∀ w3, w3 = World.puts b_1 0 [Value.slice v20.l.ptr v20.l.len v20.l.cap, Value.slice v20.long.ptr v20.long.len v20.long.cap, Value.int .i64 v20.n] w2 → (∃ (I : Int → World → Prop) (μ : Int → World → Nat), I 0 w3 ∧
  ∀ (k : Int) w, I k w → F_towpathlaw01_Book_fillInt_L1 i again_ b_1 (fun (k' : Int) w' => I k' w' ∧ μ k' w' < μ k w) k w)))))))))) ∧
  ((decide (i < ((v9.len : Nat) : Int))) = false → (R w1))))

def F_towpathlaw01_Book_fillInt (b_ : Option Addr) (R : World → Prop) (w : World) : Prop :=
  ∃ (I : Int → World → Prop) (μ : Int → World → Nat), I 0 w ∧
  ∀ (i : Int) w, I i w → F_towpathlaw01_Book_fillInt_L0 b_ R (fun (i' : Int) w' => I i' w' ∧ μ i' w' < μ i w) i w

def F_towpathlaw01_Book_fillText_L0 (b_ : Option Addr) (R : World → Prop) (again_ : Int → World → Prop) (i : Int) (w1 : World) : Prop :=
  IsAt b_ ∧ (∃ (v9 : Slc), w1.cell? ⟨(pblk b_), (poff b_) + 3, none⟩ = some (Value.slice v9.ptr v9.len v9.cap) ∧ (((decide (i < ((v9.len : Nat) : Int))) = true → (False)) ∧
  ((decide (i < ((v9.len : Nat) : Int))) = false → (R w1))))

def F_towpathlaw01_Book_fillText (b_ : Option Addr) (R : World → Prop) (w : World) : Prop :=
  ∃ (I : Int → World → Prop) (μ : Int → World → Nat), I 0 w ∧
  ∀ (i : Int) w, I i w → F_towpathlaw01_Book_fillText_L0 b_ R (fun (i' : Int) w' => I i' w' ∧ μ i' w' < μ i w) i w

def F_towpathlaw01_Book_fillWrite_L0 (b_ : Option Addr) (R : World → Prop) (again_ : Int → World → Prop) (i : Int) (w1 : World) : Prop :=
  IsAt b_ ∧ (∃ (v9 : Slc), w1.cell? ⟨(pblk b_), (poff b_) + 4, none⟩ = some (Value.slice v9.ptr v9.len v9.cap) ∧ (((decide (i < ((v9.len : Nat) : Int))) = true → (False)) ∧
  ((decide (i < ((v9.len : Nat) : Int))) = false → (R w1))))

def F_towpathlaw01_Book_fillWrite (b_ : Option Addr) (R : World → Prop) (w : World) : Prop :=
  ∃ (I : Int → World → Prop) (μ : Int → World → Nat), I 0 w ∧
  ∀ (i : Int) w, I i w → F_towpathlaw01_Book_fillWrite_L0 b_ R (fun (i' : Int) w' => I i' w' ∧ μ i' w' < μ i w) i w

def F_towpathlaw01_Book_fillEntry_L0 (b_ : Option Addr) (R : World → Prop) (again_ : Int → World → Prop) (i : Int) (w1 : World) : Prop :=
  IsAt b_ ∧ (∃ (v9 : Slc), w1.cell? ⟨(pblk b_), (poff b_) + 5, none⟩ = some (Value.slice v9.ptr v9.len v9.cap) ∧ (((decide (i < ((v9.len : Nat) : Int))) = true → (False)) ∧
  ((decide (i < ((v9.len : Nat) : Int))) = false → (R w1))))

def F_towpathlaw01_Book_fillEntry (b_ : Option Addr) (R : World → Prop) (w : World) : Prop :=
  ∃ (I : Int → World → Prop) (μ : Int → World → Nat), I 0 w ∧
  ∀ (i : Int) w, I i w → F_towpathlaw01_Book_fillEntry_L0 b_ R (fun (i' : Int) w' => I i' w' ∧ μ i' w' < μ i w) i w

def F_towpathlaw01_Book_fillVersion_L0 (b_ : Option Addr) (R : World → Prop) (again_ : Int → World → Prop) (i : Int) (w1 : World) : Prop :=
  IsAt b_ ∧ (∃ (v9 : Slc), w1.cell? ⟨(pblk b_), (poff b_) + 6, none⟩ = some (Value.slice v9.ptr v9.len v9.cap) ∧ (((decide (i < ((v9.len : Nat) : Int))) = true → (False)) ∧
  ((decide (i < ((v9.len : Nat) : Int))) = false → (R w1))))

def F_towpathlaw01_Book_fillVersion (b_ : Option Addr) (R : World → Prop) (w : World) : Prop :=
  ∃ (I : Int → World → Prop) (μ : Int → World → Nat), I 0 w ∧
  ∀ (i : Int) w, I i w → F_towpathlaw01_Book_fillVersion_L0 b_ R (fun (i' : Int) w' => I i' w' ∧ μ i' w' < μ i w) i w

def F_towpathlaw01_Book_fillTxn_L0 (b_ : Option Addr) (R : World → Prop) (again_ : Int → World → Prop) (i : Int) (w1 : World) : Prop :=
  IsAt b_ ∧ (∃ (v9 : Slc), w1.cell? ⟨(pblk b_), (poff b_) + 7, none⟩ = some (Value.slice v9.ptr v9.len v9.cap) ∧ (((decide (i < ((v9.len : Nat) : Int))) = true → (False)) ∧
  ((decide (i < ((v9.len : Nat) : Int))) = false → (R w1))))

def F_towpathlaw01_Book_fillTxn (b_ : Option Addr) (R : World → Prop) (w : World) : Prop :=
  ∃ (I : Int → World → Prop) (μ : Int → World → Nat), I 0 w ∧
  ∀ (i : Int) w, I i w → F_towpathlaw01_Book_fillTxn_L0 b_ R (fun (i' : Int) w' => I i' w' ∧ μ i' w' < μ i w) i w

def F_towpathlaw01_Book_fillHeld_L0 (b_ : Option Addr) (R : World → Prop) (again_ : Int → World → Prop) (i : Int) (w1 : World) : Prop :=
  IsAt b_ ∧ (∃ (v9 : Slc), w1.cell? ⟨(pblk b_), (poff b_) + 8, none⟩ = some (Value.slice v9.ptr v9.len v9.cap) ∧ (((decide (i < ((v9.len : Nat) : Int))) = true → (False)) ∧
  ((decide (i < ((v9.len : Nat) : Int))) = false → (R w1))))

def F_towpathlaw01_Book_fillHeld (b_ : Option Addr) (R : World → Prop) (w : World) : Prop :=
  ∃ (I : Int → World → Prop) (μ : Int → World → Nat), I 0 w ∧
  ∀ (i : Int) w, I i w → F_towpathlaw01_Book_fillHeld_L0 b_ R (fun (i' : Int) w' => I i' w' ∧ μ i' w' < μ i w) i w

def F_towpathlaw01_Book_fillHeldList_L0 (b_ : Option Addr) (R : World → Prop) (again_ : Int → World → Prop) (i : Int) (w1 : World) : Prop :=
  IsAt b_ ∧ (∃ (v9 : Slc), w1.cell? ⟨(pblk b_), (poff b_) + 9, none⟩ = some (Value.slice v9.ptr v9.len v9.cap) ∧ (((decide (i < ((v9.len : Nat) : Int))) = true → (False)) ∧
  ((decide (i < ((v9.len : Nat) : Int))) = false → (R w1))))

def F_towpathlaw01_Book_fillHeldList (b_ : Option Addr) (R : World → Prop) (w : World) : Prop :=
  ∃ (I : Int → World → Prop) (μ : Int → World → Nat), I 0 w ∧
  ∀ (i : Int) w, I i w → F_towpathlaw01_Book_fillHeldList_L0 b_ R (fun (i' : Int) w' => I i' w' ∧ μ i' w' < μ i w) i w

def F_towpathlaw01_Book_fillEvent_L0 (b_ : Option Addr) (R : World → Prop) (again_ : Int → World → Prop) (i : Int) (w1 : World) : Prop :=
  IsAt b_ ∧ (∃ (v9 : Slc), w1.cell? ⟨(pblk b_), (poff b_) + 10, none⟩ = some (Value.slice v9.ptr v9.len v9.cap) ∧ (((decide (i < ((v9.len : Nat) : Int))) = true → (False)) ∧
  ((decide (i < ((v9.len : Nat) : Int))) = false → (R w1))))

def F_towpathlaw01_Book_fillEvent (b_ : Option Addr) (R : World → Prop) (w : World) : Prop :=
  ∃ (I : Int → World → Prop) (μ : Int → World → Nat), I 0 w ∧
  ∀ (i : Int) w, I i w → F_towpathlaw01_Book_fillEvent_L0 b_ R (fun (i' : Int) w' => I i' w' ∧ μ i' w' < μ i w) i w

def F_towpathlaw01_Book_fillAnswer_L0 (b_ : Option Addr) (R : World → Prop) (again_ : Int → World → Prop) (i : Int) (w1 : World) : Prop :=
  IsAt b_ ∧ (∃ (v9 : Slc), w1.cell? ⟨(pblk b_), (poff b_) + 11, none⟩ = some (Value.slice v9.ptr v9.len v9.cap) ∧ (((decide (i < ((v9.len : Nat) : Int))) = true → (False)) ∧
  ((decide (i < ((v9.len : Nat) : Int))) = false → (R w1))))

def F_towpathlaw01_Book_fillAnswer (b_ : Option Addr) (R : World → Prop) (w : World) : Prop :=
  ∃ (I : Int → World → Prop) (μ : Int → World → Nat), I 0 w ∧
  ∀ (i : Int) w, I i w → F_towpathlaw01_Book_fillAnswer_L0 b_ R (fun (i' : Int) w' => I i' w' ∧ μ i' w' < μ i w) i w

def F_towpathlaw01_Book_growByte_L0 (b_ : Option Addr) (R : World → Prop) (again_ : Int → World → Prop) (i : Int) (w1 : World) : Prop :=
  IsAt b_ ∧ (∃ (v10 : Slc), w1.cell? ⟨(pblk b_), (poff b_) + 1, none⟩ = some (Value.slice v10.ptr v10.len v10.cap) ∧ (((decide (i < ((v10.len : Nat) : Int))) = true → (False)) ∧
  ((decide (i < ((v10.len : Nat) : Int))) = false → (R w1))))

def F_towpathlaw01_Book_growByte (b_ : Option Addr) (R : World → Prop) (w : World) : Prop :=
  ∃ (I : Int → World → Prop) (μ : Int → World → Nat), I 0 w ∧
  ∀ (i : Int) w, I i w → F_towpathlaw01_Book_growByte_L0 b_ R (fun (i' : Int) w' => I i' w' ∧ μ i' w' < μ i w) i w

def F_towpathlaw01_Book_growInt_L1 (b_ : Option Addr) (i : Int) (again_ : Int → World → Prop) (b_1 : Nat) (again_1 : Slc → Int → World → Prop) (long1 : Slc) (k : Int) (w4 : World) : Prop :=
  ((decide (k < 70)) = true → (∃ (v30 : Int), w4.cell? ⟨b_1, 2, none⟩ = some (Value.int .i64 v30) ∧ (C_towpathlaw01_markInt v30 w4 (fun (v31 : Int) w5 => ∀ b_2 w6, b_2 = w5.heap.size → w6 = w5.alloc (Obj.cells ([Value.int .i64 v31]).toArray ty_int (0, 0)) → (∃ src, SrcAt w6 (Slc.mk (some ⟨b_2, 0, none⟩) 1 1) 1 src ∧ AppendW 1 8 ty_int [Value.int .i64 0] long1 src 1 w6 (fun long2 w7 => again_1 long2 (IntKind.i64.wrap (k + 1)) w7)))))) ∧
  ((decide (k < 70)) = false → (IsAt b_ ∧ (∃ (v37 : Slc), w4.cell? ⟨(pblk b_), (poff b_) + 2, none⟩ = some (Value.slice v37.ptr v37.len v37.cap) ∧ (IsAt v37.ptr ∧ (0 ≤ i ∧ i < ((v37.len : Nat) : Int) ∧ (Writable w4 (pblk v37.ptr) (((poff v37.ptr) + i.toNat * 3) + 1) 1 ∧ (∀ w8, w8 = World.puts (pblk v37.ptr) (((poff v37.ptr) + i.toNat * 3) + 1) [Value.slice long1.ptr long1.len long1.cap] w4 → (again_ (IntKind.i64.wrap (i + 1)) w8))))))))

def F_towpathlaw01_Book_growInt_L0 (b_ : Option Addr) (R : World → Prop) (again_ : Int → World → Prop) (i : Int) (w1 : World) : Prop :=
  IsAt b_ ∧ (∃ (v10 : Slc), w1.cell? ⟨(pblk b_), (poff b_) + 2, none⟩ = some (Value.slice v10.ptr v10.len v10.cap) ∧ (((decide (i < ((v10.len : Nat) : Int))) = true → (IsAt b_ ∧ (∃ (v18 : Slc), w1.cell? ⟨(pblk b_), (poff b_) + 2, none⟩ = some (Value.slice v18.ptr v18.len v18.cap) ∧ (IsAt v18.ptr ∧ (0 ≤ i ∧ i < ((v18.len : Nat) : Int) ∧ (∃ (v21 : T_towpathlaw01_heldInt), CellsAt w1 (pblk v18.ptr) ((poff v18.ptr) + i.toNat * 3) [Value.slice v21.l.ptr v21.l.len v21.l.cap, Value.slice v21.long.ptr v21.long.len v21.long.cap, Value.int .i64 v21.n] ∧ (∀ b_1 w2, b_1 = w1.heap.size → w2 = w1.alloc (Obj.cells ([Value.slice none 0 0, Value.slice none 0 0, Value.int .i64 0]).toArray ty_towpathlaw01_heldInt (0, 0)) → (Writable w2 b_1 0 3 ∧ (∀ w3, w3 = World.puts b_1 0 [Value.slice v21.l.ptr v21.l.len v21.l.cap, Value.slice v21.long.ptr v21.long.len v21.long.cap, Value.int .i64 v21.n] w2 → (∃ (long : Slc), w3.cell? ⟨b_1, 0, none⟩ = some (Value.slice long.ptr long.len long.cap) ∧ (∃ (I : Slc → Int → World → Prop) (μ : Slc → Int → World → Nat), I long 0 w3 ∧
  ∀ (long1 : Slc) (k : Int) w, I long1 k w → F_towpathlaw01_Book_growInt_L1 b_ i again_ b_1 (fun (long1' : Slc) (k' : Int) w' => I long1' k' w' ∧ μ long1' k' w' < μ long1 k w) long1 k w))))))))))) ∧
  ((decide (i < ((v10.len : Nat) : Int))) = false → (R w1))))

def F_towpathlaw01_Book_growInt (b_ : Option Addr) (R : World → Prop) (w : World) : Prop :=
  ∃ (I : Int → World → Prop) (μ : Int → World → Nat), I 0 w ∧
  ∀ (i : Int) w, I i w → F_towpathlaw01_Book_growInt_L0 b_ R (fun (i' : Int) w' => I i' w' ∧ μ i' w' < μ i w) i w

def F_towpathlaw01_Book_growText_L0 (b_ : Option Addr) (R : World → Prop) (again_ : Int → World → Prop) (i : Int) (w1 : World) : Prop :=
  IsAt b_ ∧ (∃ (v10 : Slc), w1.cell? ⟨(pblk b_), (poff b_) + 3, none⟩ = some (Value.slice v10.ptr v10.len v10.cap) ∧ (((decide (i < ((v10.len : Nat) : Int))) = true → (False)) ∧
  ((decide (i < ((v10.len : Nat) : Int))) = false → (R w1))))

def F_towpathlaw01_Book_growText (b_ : Option Addr) (R : World → Prop) (w : World) : Prop :=
  ∃ (I : Int → World → Prop) (μ : Int → World → Nat), I 0 w ∧
  ∀ (i : Int) w, I i w → F_towpathlaw01_Book_growText_L0 b_ R (fun (i' : Int) w' => I i' w' ∧ μ i' w' < μ i w) i w

def F_towpathlaw01_Book_growWrite_L0 (b_ : Option Addr) (R : World → Prop) (again_ : Int → World → Prop) (i : Int) (w1 : World) : Prop :=
  IsAt b_ ∧ (∃ (v10 : Slc), w1.cell? ⟨(pblk b_), (poff b_) + 4, none⟩ = some (Value.slice v10.ptr v10.len v10.cap) ∧ (((decide (i < ((v10.len : Nat) : Int))) = true → (False)) ∧
  ((decide (i < ((v10.len : Nat) : Int))) = false → (R w1))))

def F_towpathlaw01_Book_growWrite (b_ : Option Addr) (R : World → Prop) (w : World) : Prop :=
  ∃ (I : Int → World → Prop) (μ : Int → World → Nat), I 0 w ∧
  ∀ (i : Int) w, I i w → F_towpathlaw01_Book_growWrite_L0 b_ R (fun (i' : Int) w' => I i' w' ∧ μ i' w' < μ i w) i w

def F_towpathlaw01_Book_growEntry_L0 (b_ : Option Addr) (R : World → Prop) (again_ : Int → World → Prop) (i : Int) (w1 : World) : Prop :=
  IsAt b_ ∧ (∃ (v10 : Slc), w1.cell? ⟨(pblk b_), (poff b_) + 5, none⟩ = some (Value.slice v10.ptr v10.len v10.cap) ∧ (((decide (i < ((v10.len : Nat) : Int))) = true → (False)) ∧
  ((decide (i < ((v10.len : Nat) : Int))) = false → (R w1))))

def F_towpathlaw01_Book_growEntry (b_ : Option Addr) (R : World → Prop) (w : World) : Prop :=
  ∃ (I : Int → World → Prop) (μ : Int → World → Nat), I 0 w ∧
  ∀ (i : Int) w, I i w → F_towpathlaw01_Book_growEntry_L0 b_ R (fun (i' : Int) w' => I i' w' ∧ μ i' w' < μ i w) i w

def F_towpathlaw01_Book_growVersion_L0 (b_ : Option Addr) (R : World → Prop) (again_ : Int → World → Prop) (i : Int) (w1 : World) : Prop :=
  IsAt b_ ∧ (∃ (v10 : Slc), w1.cell? ⟨(pblk b_), (poff b_) + 6, none⟩ = some (Value.slice v10.ptr v10.len v10.cap) ∧ (((decide (i < ((v10.len : Nat) : Int))) = true → (False)) ∧
  ((decide (i < ((v10.len : Nat) : Int))) = false → (R w1))))

def F_towpathlaw01_Book_growVersion (b_ : Option Addr) (R : World → Prop) (w : World) : Prop :=
  ∃ (I : Int → World → Prop) (μ : Int → World → Nat), I 0 w ∧
  ∀ (i : Int) w, I i w → F_towpathlaw01_Book_growVersion_L0 b_ R (fun (i' : Int) w' => I i' w' ∧ μ i' w' < μ i w) i w

def F_towpathlaw01_Book_growTxn_L0 (b_ : Option Addr) (R : World → Prop) (again_ : Int → World → Prop) (i : Int) (w1 : World) : Prop :=
  IsAt b_ ∧ (∃ (v10 : Slc), w1.cell? ⟨(pblk b_), (poff b_) + 7, none⟩ = some (Value.slice v10.ptr v10.len v10.cap) ∧ (((decide (i < ((v10.len : Nat) : Int))) = true → (False)) ∧
  ((decide (i < ((v10.len : Nat) : Int))) = false → (R w1))))

def F_towpathlaw01_Book_growTxn (b_ : Option Addr) (R : World → Prop) (w : World) : Prop :=
  ∃ (I : Int → World → Prop) (μ : Int → World → Nat), I 0 w ∧
  ∀ (i : Int) w, I i w → F_towpathlaw01_Book_growTxn_L0 b_ R (fun (i' : Int) w' => I i' w' ∧ μ i' w' < μ i w) i w

def F_towpathlaw01_Book_growHeld_L0 (b_ : Option Addr) (R : World → Prop) (again_ : Int → World → Prop) (i : Int) (w1 : World) : Prop :=
  IsAt b_ ∧ (∃ (v10 : Slc), w1.cell? ⟨(pblk b_), (poff b_) + 8, none⟩ = some (Value.slice v10.ptr v10.len v10.cap) ∧ (((decide (i < ((v10.len : Nat) : Int))) = true → (False)) ∧
  ((decide (i < ((v10.len : Nat) : Int))) = false → (R w1))))

def F_towpathlaw01_Book_growHeld (b_ : Option Addr) (R : World → Prop) (w : World) : Prop :=
  ∃ (I : Int → World → Prop) (μ : Int → World → Nat), I 0 w ∧
  ∀ (i : Int) w, I i w → F_towpathlaw01_Book_growHeld_L0 b_ R (fun (i' : Int) w' => I i' w' ∧ μ i' w' < μ i w) i w

def F_towpathlaw01_Book_growHeldList_L0 (b_ : Option Addr) (R : World → Prop) (again_ : Int → World → Prop) (i : Int) (w1 : World) : Prop :=
  IsAt b_ ∧ (∃ (v10 : Slc), w1.cell? ⟨(pblk b_), (poff b_) + 9, none⟩ = some (Value.slice v10.ptr v10.len v10.cap) ∧ (((decide (i < ((v10.len : Nat) : Int))) = true → (False)) ∧
  ((decide (i < ((v10.len : Nat) : Int))) = false → (R w1))))

def F_towpathlaw01_Book_growHeldList (b_ : Option Addr) (R : World → Prop) (w : World) : Prop :=
  ∃ (I : Int → World → Prop) (μ : Int → World → Nat), I 0 w ∧
  ∀ (i : Int) w, I i w → F_towpathlaw01_Book_growHeldList_L0 b_ R (fun (i' : Int) w' => I i' w' ∧ μ i' w' < μ i w) i w

def F_towpathlaw01_Book_growEvent_L0 (b_ : Option Addr) (R : World → Prop) (again_ : Int → World → Prop) (i : Int) (w1 : World) : Prop :=
  IsAt b_ ∧ (∃ (v10 : Slc), w1.cell? ⟨(pblk b_), (poff b_) + 10, none⟩ = some (Value.slice v10.ptr v10.len v10.cap) ∧ (((decide (i < ((v10.len : Nat) : Int))) = true → (False)) ∧
  ((decide (i < ((v10.len : Nat) : Int))) = false → (R w1))))

def F_towpathlaw01_Book_growEvent (b_ : Option Addr) (R : World → Prop) (w : World) : Prop :=
  ∃ (I : Int → World → Prop) (μ : Int → World → Nat), I 0 w ∧
  ∀ (i : Int) w, I i w → F_towpathlaw01_Book_growEvent_L0 b_ R (fun (i' : Int) w' => I i' w' ∧ μ i' w' < μ i w) i w

def F_towpathlaw01_Book_growAnswer_L0 (b_ : Option Addr) (R : World → Prop) (again_ : Int → World → Prop) (i : Int) (w1 : World) : Prop :=
  IsAt b_ ∧ (∃ (v10 : Slc), w1.cell? ⟨(pblk b_), (poff b_) + 11, none⟩ = some (Value.slice v10.ptr v10.len v10.cap) ∧ (((decide (i < ((v10.len : Nat) : Int))) = true → (False)) ∧
  ((decide (i < ((v10.len : Nat) : Int))) = false → (R w1))))

def F_towpathlaw01_Book_growAnswer (b_ : Option Addr) (R : World → Prop) (w : World) : Prop :=
  ∃ (I : Int → World → Prop) (μ : Int → World → Nat), I 0 w ∧
  ∀ (i : Int) w, I i w → F_towpathlaw01_Book_growAnswer_L0 b_ R (fun (i' : Int) w' => I i' w' ∧ μ i' w' < μ i w) i w

def F_towpathlaw01_Book_lookByte_L0 (b_ : Option Addr) (R : Bool → World → Prop) (again_ : Int → World → Prop) (i : Int) (w1 : World) : Prop :=
  IsAt b_ ∧ (∃ (v10 : Slc), w1.cell? ⟨(pblk b_), (poff b_) + 1, none⟩ = some (Value.slice v10.ptr v10.len v10.cap) ∧ (((decide (i < ((v10.len : Nat) : Int))) = true → (False)) ∧
  ((decide (i < ((v10.len : Nat) : Int))) = false → (R true w1))))

def F_towpathlaw01_Book_lookByte (b_ : Option Addr) (R : Bool → World → Prop) (w : World) : Prop :=
  ∃ (I : Int → World → Prop) (μ : Int → World → Nat), I 0 w ∧
  ∀ (i : Int) w, I i w → F_towpathlaw01_Book_lookByte_L0 b_ R (fun (i' : Int) w' => I i' w' ∧ μ i' w' < μ i w) i w

def F_towpathlaw01_Book_lookInt_k2 (R : Bool → World → Prop) (k : Int) (again_1 : Int → World → Prop) (t63 : Bool) (w5 : World) : Prop :=
  (t63 = true → (R false w5)) ∧
  (t63 = false → (again_1 (IntKind.i64.wrap (k + 1)) w5))

def F_towpathlaw01_Book_lookInt_L1 (R : Bool → World → Prop) (i : Int) (again_ : Int → World → Prop) (b_1 : Nat) (again_1 : Int → World → Prop) (k : Int) (w4 : World) : Prop :=
  ∃ (v32 : Slc), w4.cell? ⟨b_1, 1, none⟩ = some (Value.slice v32.ptr v32.len v32.cap) ∧ (((decide (k < ((v32.len : Nat) : Int))) = true → (∃ (v38 : Slc), w4.cell? ⟨b_1, 1, none⟩ = some (Value.slice v38.ptr v38.len v38.cap) ∧ (IsAt v38.ptr ∧ (0 ≤ k ∧ k < ((v38.len : Nat) : Int) ∧ (∃ (v41 : Int), w4.cell? ⟨(pblk v38.ptr), (poff v38.ptr) + k.toNat, none⟩ = some (Value.int .i64 v41) ∧ (∃ (v43 : Int), w4.cell? ⟨b_1, 2, none⟩ = some (Value.int .i64 v43) ∧ (∃ (v44 : Bool), (∀ w', Ext w4 w' → C_towpathlaw01_isInt v41 v43 w' (fun (v44' : Bool) w'' => v44' = v44 ∧ Ext w' w'')) ∧ (((!v44) = true → (∀ w7, Ext w4 w7 → (F_towpathlaw01_Book_lookInt_k2 R k again_1 true w7))) ∧
  ((!v44) = false → (∃ (v49 : Slc), w4.cell? ⟨b_1, 0, none⟩ = some (Value.slice v49.ptr v49.len v49.cap) ∧ (((decide (k < ((v49.len : Nat) : Int))) = true → (∃ (v54 : Slc), w4.cell? ⟨b_1, 0, none⟩ = some (Value.slice v54.ptr v54.len v54.cap) ∧ (IsAt v54.ptr ∧ (0 ≤ k ∧ k < ((v54.len : Nat) : Int) ∧ (∃ (v57 : Int), w4.cell? ⟨(pblk v54.ptr), (poff v54.ptr) + k.toNat, none⟩ = some (Value.int .i64 v57) ∧ (∃ (v59 : Int), w4.cell? ⟨b_1, 2, none⟩ = some (Value.int .i64 v59) ∧ (∃ (v60 : Bool), (∀ w', Ext w4 w' → C_towpathlaw01_isInt v57 v59 w' (fun (v60' : Bool) w'' => v60' = v60 ∧ Ext w' w'')) ∧ (∀ w9, Ext w4 w9 → (F_towpathlaw01_Book_lookInt_k2 R k again_1 (!v60) w9))))))))) ∧
  ((decide (k < ((v49.len : Nat) : Int))) = false → (∀ w10, Ext w4 w10 → (F_towpathlaw01_Book_lookInt_k2 R k again_1 false w10)))))))))))))) ∧
  ((decide (k < ((v32.len : Nat) : Int))) = false → (again_ (IntKind.i64.wrap (i + 1)) w4)))

def F_towpathlaw01_Book_lookInt_L0 (b_ : Option Addr) (R : Bool → World → Prop) (again_ : Int → World → Prop) (i : Int) (w1 : World) : Prop :=
  IsAt b_ ∧ (∃ (v10 : Slc), w1.cell? ⟨(pblk b_), (poff b_) + 2, none⟩ = some (Value.slice v10.ptr v10.len v10.cap) ∧ (((decide (i < ((v10.len : Nat) : Int))) = true → (IsAt b_ ∧ (∃ (v18 : Slc), w1.cell? ⟨(pblk b_), (poff b_) + 2, none⟩ = some (Value.slice v18.ptr v18.len v18.cap) ∧ (IsAt v18.ptr ∧ (0 ≤ i ∧ i < ((v18.len : Nat) : Int) ∧ (∃ (v21 : T_towpathlaw01_heldInt), CellsAt w1 (pblk v18.ptr) ((poff v18.ptr) + i.toNat * 3) [Value.slice v21.l.ptr v21.l.len v21.l.cap, Value.slice v21.long.ptr v21.long.len v21.long.cap, Value.int .i64 v21.n] ∧ (∀ b_1 w2, b_1 = w1.heap.size → w2 = w1.alloc (Obj.cells ([Value.slice none 0 0, Value.slice none 0 0, Value.int .i64 0]).toArray ty_towpathlaw01_heldInt (0, 0)) → (Writable w2 b_1 0 3 ∧ (∀ w3, w3 = World.puts b_1 0 [Value.slice v21.l.ptr v21.l.len v21.l.cap, Value.slice v21.long.ptr v21.long.len v21.long.cap, Value.int .i64 v21.n] w2 → (∃ (v23 : Slc), w3.cell? ⟨b_1, 1, none⟩ = some (Value.slice v23.ptr v23.len v23.cap) ∧ (∃ (v26 : Slc), w3.cell? ⟨b_1, 0, none⟩ = some (Value.slice v26.ptr v26.len v26.cap) ∧ (((((v23.len : Nat) : Int) != (IntKind.i64.wrap (((v26.len : Nat) : Int) + 70))) = true → (R false w3)) ∧
  ((((v23.len : Nat) : Int) != (IntKind.i64.wrap (((v26.len : Nat) : Int) + 70))) = false → (∃ (I : Int → World → Prop) (μ : Int → World → Nat), I 0 w3 ∧
  ∀ (k : Int) w, I k w → F_towpathlaw01_Book_lookInt_L1 R i again_ b_1 (fun (k' : Int) w' => I k' w' ∧ μ k' w' < μ k w) k w)))))))))))))) ∧
  ((decide (i < ((v10.len : Nat) : Int))) = false → (R true w1))))

def F_towpathlaw01_Book_lookInt (b_ : Option Addr) (R : Bool → World → Prop) (w : World) : Prop :=
  ∃ (I : Int → World → Prop) (μ : Int → World → Nat), I 0 w ∧
  ∀ (i : Int) w, I i w → F_towpathlaw01_Book_lookInt_L0 b_ R (fun (i' : Int) w' => I i' w' ∧ μ i' w' < μ i w) i w

def F_towpathlaw01_Book_lookText_L0 (b_ : Option Addr) (R : Bool → World → Prop) (again_ : Int → World → Prop) (i : Int) (w1 : World) : Prop :=
  IsAt b_ ∧ (∃ (v10 : Slc), w1.cell? ⟨(pblk b_), (poff b_) + 3, none⟩ = some (Value.slice v10.ptr v10.len v10.cap) ∧ (((decide (i < ((v10.len : Nat) : Int))) = true → (False)) ∧
  ((decide (i < ((v10.len : Nat) : Int))) = false → (R true w1))))

def F_towpathlaw01_Book_lookText (b_ : Option Addr) (R : Bool → World → Prop) (w : World) : Prop :=
  ∃ (I : Int → World → Prop) (μ : Int → World → Nat), I 0 w ∧
  ∀ (i : Int) w, I i w → F_towpathlaw01_Book_lookText_L0 b_ R (fun (i' : Int) w' => I i' w' ∧ μ i' w' < μ i w) i w

def F_towpathlaw01_Book_lookWrite_L0 (b_ : Option Addr) (R : Bool → World → Prop) (again_ : Int → World → Prop) (i : Int) (w1 : World) : Prop :=
  IsAt b_ ∧ (∃ (v10 : Slc), w1.cell? ⟨(pblk b_), (poff b_) + 4, none⟩ = some (Value.slice v10.ptr v10.len v10.cap) ∧ (((decide (i < ((v10.len : Nat) : Int))) = true → (False)) ∧
  ((decide (i < ((v10.len : Nat) : Int))) = false → (R true w1))))

def F_towpathlaw01_Book_lookWrite (b_ : Option Addr) (R : Bool → World → Prop) (w : World) : Prop :=
  ∃ (I : Int → World → Prop) (μ : Int → World → Nat), I 0 w ∧
  ∀ (i : Int) w, I i w → F_towpathlaw01_Book_lookWrite_L0 b_ R (fun (i' : Int) w' => I i' w' ∧ μ i' w' < μ i w) i w

def F_towpathlaw01_Book_lookEntry_L0 (b_ : Option Addr) (R : Bool → World → Prop) (again_ : Int → World → Prop) (i : Int) (w1 : World) : Prop :=
  IsAt b_ ∧ (∃ (v10 : Slc), w1.cell? ⟨(pblk b_), (poff b_) + 5, none⟩ = some (Value.slice v10.ptr v10.len v10.cap) ∧ (((decide (i < ((v10.len : Nat) : Int))) = true → (False)) ∧
  ((decide (i < ((v10.len : Nat) : Int))) = false → (R true w1))))

def F_towpathlaw01_Book_lookEntry (b_ : Option Addr) (R : Bool → World → Prop) (w : World) : Prop :=
  ∃ (I : Int → World → Prop) (μ : Int → World → Nat), I 0 w ∧
  ∀ (i : Int) w, I i w → F_towpathlaw01_Book_lookEntry_L0 b_ R (fun (i' : Int) w' => I i' w' ∧ μ i' w' < μ i w) i w

def F_towpathlaw01_Book_lookVersion_L0 (b_ : Option Addr) (R : Bool → World → Prop) (again_ : Int → World → Prop) (i : Int) (w1 : World) : Prop :=
  IsAt b_ ∧ (∃ (v10 : Slc), w1.cell? ⟨(pblk b_), (poff b_) + 6, none⟩ = some (Value.slice v10.ptr v10.len v10.cap) ∧ (((decide (i < ((v10.len : Nat) : Int))) = true → (False)) ∧
  ((decide (i < ((v10.len : Nat) : Int))) = false → (R true w1))))

def F_towpathlaw01_Book_lookVersion (b_ : Option Addr) (R : Bool → World → Prop) (w : World) : Prop :=
  ∃ (I : Int → World → Prop) (μ : Int → World → Nat), I 0 w ∧
  ∀ (i : Int) w, I i w → F_towpathlaw01_Book_lookVersion_L0 b_ R (fun (i' : Int) w' => I i' w' ∧ μ i' w' < μ i w) i w

def F_towpathlaw01_Book_lookTxn_L0 (b_ : Option Addr) (R : Bool → World → Prop) (again_ : Int → World → Prop) (i : Int) (w1 : World) : Prop :=
  IsAt b_ ∧ (∃ (v10 : Slc), w1.cell? ⟨(pblk b_), (poff b_) + 7, none⟩ = some (Value.slice v10.ptr v10.len v10.cap) ∧ (((decide (i < ((v10.len : Nat) : Int))) = true → (False)) ∧
  ((decide (i < ((v10.len : Nat) : Int))) = false → (R true w1))))

def F_towpathlaw01_Book_lookTxn (b_ : Option Addr) (R : Bool → World → Prop) (w : World) : Prop :=
  ∃ (I : Int → World → Prop) (μ : Int → World → Nat), I 0 w ∧
  ∀ (i : Int) w, I i w → F_towpathlaw01_Book_lookTxn_L0 b_ R (fun (i' : Int) w' => I i' w' ∧ μ i' w' < μ i w) i w

def F_towpathlaw01_Book_lookHeld_L0 (b_ : Option Addr) (R : Bool → World → Prop) (again_ : Int → World → Prop) (i : Int) (w1 : World) : Prop :=
  IsAt b_ ∧ (∃ (v10 : Slc), w1.cell? ⟨(pblk b_), (poff b_) + 8, none⟩ = some (Value.slice v10.ptr v10.len v10.cap) ∧ (((decide (i < ((v10.len : Nat) : Int))) = true → (False)) ∧
  ((decide (i < ((v10.len : Nat) : Int))) = false → (R true w1))))

def F_towpathlaw01_Book_lookHeld (b_ : Option Addr) (R : Bool → World → Prop) (w : World) : Prop :=
  ∃ (I : Int → World → Prop) (μ : Int → World → Nat), I 0 w ∧
  ∀ (i : Int) w, I i w → F_towpathlaw01_Book_lookHeld_L0 b_ R (fun (i' : Int) w' => I i' w' ∧ μ i' w' < μ i w) i w

def F_towpathlaw01_Book_lookHeldList_L0 (b_ : Option Addr) (R : Bool → World → Prop) (again_ : Int → World → Prop) (i : Int) (w1 : World) : Prop :=
  IsAt b_ ∧ (∃ (v10 : Slc), w1.cell? ⟨(pblk b_), (poff b_) + 9, none⟩ = some (Value.slice v10.ptr v10.len v10.cap) ∧ (((decide (i < ((v10.len : Nat) : Int))) = true → (False)) ∧
  ((decide (i < ((v10.len : Nat) : Int))) = false → (R true w1))))

def F_towpathlaw01_Book_lookHeldList (b_ : Option Addr) (R : Bool → World → Prop) (w : World) : Prop :=
  ∃ (I : Int → World → Prop) (μ : Int → World → Nat), I 0 w ∧
  ∀ (i : Int) w, I i w → F_towpathlaw01_Book_lookHeldList_L0 b_ R (fun (i' : Int) w' => I i' w' ∧ μ i' w' < μ i w) i w

def F_towpathlaw01_Book_lookEvent_L0 (b_ : Option Addr) (R : Bool → World → Prop) (again_ : Int → World → Prop) (i : Int) (w1 : World) : Prop :=
  IsAt b_ ∧ (∃ (v10 : Slc), w1.cell? ⟨(pblk b_), (poff b_) + 10, none⟩ = some (Value.slice v10.ptr v10.len v10.cap) ∧ (((decide (i < ((v10.len : Nat) : Int))) = true → (False)) ∧
  ((decide (i < ((v10.len : Nat) : Int))) = false → (R true w1))))

def F_towpathlaw01_Book_lookEvent (b_ : Option Addr) (R : Bool → World → Prop) (w : World) : Prop :=
  ∃ (I : Int → World → Prop) (μ : Int → World → Nat), I 0 w ∧
  ∀ (i : Int) w, I i w → F_towpathlaw01_Book_lookEvent_L0 b_ R (fun (i' : Int) w' => I i' w' ∧ μ i' w' < μ i w) i w

def F_towpathlaw01_Book_lookAnswer_L0 (b_ : Option Addr) (R : Bool → World → Prop) (again_ : Int → World → Prop) (i : Int) (w1 : World) : Prop :=
  IsAt b_ ∧ (∃ (v10 : Slc), w1.cell? ⟨(pblk b_), (poff b_) + 11, none⟩ = some (Value.slice v10.ptr v10.len v10.cap) ∧ (((decide (i < ((v10.len : Nat) : Int))) = true → (False)) ∧
  ((decide (i < ((v10.len : Nat) : Int))) = false → (R true w1))))

def F_towpathlaw01_Book_lookAnswer (b_ : Option Addr) (R : Bool → World → Prop) (w : World) : Prop :=
  ∃ (I : Int → World → Prop) (μ : Int → World → Nat), I 0 w ∧
  ∀ (i : Int) w, I i w → F_towpathlaw01_Book_lookAnswer_L0 b_ R (fun (i' : Int) w' => I i' w' ∧ μ i' w' < μ i w) i w

def F_gate_Gate_Has (g : Option Addr) (number : Int) (R : Bool → World → Prop) (w : World) : Prop :=
  ((!g.isNone) = true → (IsAt g ∧ (∃ (v11 : Bool), w.cell? ⟨(pblk g), (poff g), none⟩ = some (Value.bool v11) ∧ (((v11 && (decide (number ≥ 1))) = true → (IsAt g ∧ (∃ (v22 : Int), w.cell? ⟨(pblk g), (poff g) + 1, none⟩ = some (Value.int .i64 v22) ∧ (((decide (number ≤ v22)) = true → (R true w)) ∧
  ((decide (number ≤ v22)) = false → (C_gate_Gate_is g number w (fun (v27 : Bool) w1 => R v27 w1))))))) ∧
  ((v11 && (decide (number ≥ 1))) = false → (R false w)))))) ∧
  ((!g.isNone) = false → (R false w))

def F_towpathref12_Gate_Has_L0 (g : Option Addr) (number : Int) (R : Bool → World → Prop) (again_ : Int → World → Prop) (i : Int) (w1 : World) : Prop :=
  IsAt g ∧ (∃ (v16 : Slc), w1.cell? ⟨(pblk g), (poff g) + 1, none⟩ = some (Value.slice v16.ptr v16.len v16.cap) ∧ (((decide (i < ((v16.len : Nat) : Int))) = true → (IsAt g ∧ (∃ (v24 : Slc), w1.cell? ⟨(pblk g), (poff g) + 1, none⟩ = some (Value.slice v24.ptr v24.len v24.cap) ∧ (IsAt v24.ptr ∧ (0 ≤ i ∧ i < ((v24.len : Nat) : Int) ∧ (∃ (v27 : Int), w1.cell? ⟨(pblk v24.ptr), (poff v24.ptr) + i.toNat, none⟩ = some (Value.int .i64 v27) ∧ (((v27 == number) = true → (R true w1)) ∧
  ((v27 == number) = false → (again_ (IntKind.i64.wrap (i + 1)) w1))))))))) ∧
  ((decide (i < ((v16.len : Nat) : Int))) = false → (IsAt g ∧ (∃ (v34 : Int), w1.cell? ⟨(pblk g), (poff g), none⟩ = some (Value.int .i64 v34) ∧ (R (decide (number ≤ v34)) w1))))))

def F_towpathref12_Gate_Has (g : Option Addr) (number : Int) (R : Bool → World → Prop) (w : World) : Prop :=
  ((g.isNone || (decide (number < 1))) = true → (R false w)) ∧
  ((g.isNone || (decide (number < 1))) = false → (∃ (I : Int → World → Prop) (μ : Int → World → Nat), I 0 w ∧
  ∀ (i : Int) w, I i w → F_towpathref12_Gate_Has_L0 g number R (fun (i' : Int) w' => I i' w' ∧ μ i' w' < μ i w) i w))

def F_towpathlaw01_markInt (n_ : Int) (R : Int → World → Prop) (w : World) : Prop :=
  R (IntKind.i64.wrap ((-1000) - n_)) w

def F_towpathlaw01_isInt (x : Int) (n_ : Int) (R : Bool → World → Prop) (w : World) : Prop :=
  R (x == (IntKind.i64.wrap ((-1000) - n_))) w

end Go.Proofs.YtchcljkflklddaaDoor
