/- WRITTEN BY PROGRAM (dec.py): for each Go function the clean formula F, the call's contract C, and the proof S that F gives C. -/
import Derived.Test.YtmcpljflohlnaaaRows
import Derived.Test.YtmcpljflohlnaaaCore
namespace Go.Proofs.Ytmcpljflohlnaaa
open Go
set_option linter.unusedVariables false


abbrev ty_int : TypeId := 3

abbrev ty_uint8 : TypeId := 5

abbrev ty_256_uint32 : TypeId := 92

def C_towpathlaw03_SumBursts (b_ : Slc) (at_ : Int) (turned : Int) (w : World) (R : Bool → World → Prop) : Prop :=
  Calls Try.prog 10 #[Value.slice b_.ptr b_.len b_.cap, Value.int .u32 at_, Value.int .u32 turned] w (fun e w' => ∃ (r0 : Bool), e = .returned (Value.bool r0) ∧ R r0 w')

def C_towpathlaw01_Beyond (l_ : Slc) (w : World) (R : Bool → World → Prop) : Prop :=
  Calls Try.prog 37 #[Value.slice l_.ptr l_.len l_.cap] w (fun e w' => ∃ (r0 : Bool), e = .returned (Value.bool r0) ∧ R r0 w')

def C_sum_Hash (key : ByteArray) (w : World) (R : Int → World → Prop) : Prop :=
  Calls Try.prog 38 #[Value.string key] w (fun e w' => ∃ (r0 : Int), e = .returned (Value.int .u32 r0) ∧ R r0 w')

def C_sum_CRC (b_ : Slc) (w : World) (R : Int → World → Prop) : Prop :=
  Calls Try.prog 51 #[Value.slice b_.ptr b_.len b_.cap] w (fun e w' => ∃ (r0 : Int), e = .returned (Value.int .u32 r0) ∧ R r0 w')

def C_sum_More (sum : Int) (b_ : Slc) (w : World) (R : Int → World → Prop) : Prop :=
  Calls Try.prog 53 #[Value.int .u32 sum, Value.slice b_.ptr b_.len b_.cap] w (fun e w' => ∃ (r0 : Int), e = .returned (Value.int .u32 r0) ∧ R r0 w')

def C_towpathlaw03_alive (w : World) (R : Bool → World → Prop) : Prop :=
  Calls Try.prog 56 #[] w (fun e w' => ∃ (r0 : Bool), e = .returned (Value.bool r0) ∧ R r0 w')

def C_sum_table (w : World) (R : List Int → World → Prop) : Prop :=
  Calls Try.prog 65 #[] w (fun e w' => ∃ (r0 : List Int), r0.length = 256 ∧ e = .returned (Value.agg (List.map (Value.int .u32) r0).toArray) ∧ R r0 w')

def F_towpathlaw03_SumBursts_k2 (i : Int) (again_ : Bool → Int → World → Prop) (some_1 : Bool) (w5 : World) : Prop :=
  again_ some_1 (IntKind.i64.wrap (i + 1)) w5

def F_towpathlaw03_SumBursts_L1 (b_ : Slc) (at_ : Int) (turned : Int) (R : Bool → World → Prop) (c : Slc) (again_ : Bool → Int → World → Prop) (some_ : Bool) (i : Int) (w4 : World) : Prop :=
  ((decide (i < 32)) = true → (0 ≤ i ∧ (((((band .u32 (Int.fdiv turned (2 ^ (min i.toNat 32))) 1) == 1) && (decide ((IntKind.i64.wrap ((Int.tmod (IntKind.i64.wrap at_) (IntKind.i64.wrap (8 * ((b_.len : Nat) : Int)))) + i)) < (IntKind.i64.wrap (8 * ((b_.len : Nat) : Int)))))) = true → (∀ w6, (∃ k, w6 = w4.drewN k) → (IsAt c.ptr ∧ (0 ≤ IntKind.i64.wrap (Int.tdiv (IntKind.i64.wrap ((Int.tmod (IntKind.i64.wrap at_) (IntKind.i64.wrap (8 * ((b_.len : Nat) : Int)))) + i)) 8) ∧ IntKind.i64.wrap (Int.tdiv (IntKind.i64.wrap ((Int.tmod (IntKind.i64.wrap at_) (IntKind.i64.wrap (8 * ((b_.len : Nat) : Int)))) + i)) 8) < ((c.len : Nat) : Int) ∧ (∃ (v65 : Int), w6.cell? ⟨(pblk c.ptr), (poff c.ptr) + (IntKind.i64.wrap (Int.tdiv (IntKind.i64.wrap ((Int.tmod (IntKind.i64.wrap at_) (IntKind.i64.wrap (8 * ((b_.len : Nat) : Int)))) + i)) 8)).toNat, none⟩ = some (Value.int .u8 v65) ∧ (0 ≤ Int.tmod (IntKind.i64.wrap ((Int.tmod (IntKind.i64.wrap at_) (IntKind.i64.wrap (8 * ((b_.len : Nat) : Int)))) + i)) 8 ∧ (IsAt c.ptr ∧ (0 ≤ IntKind.i64.wrap (Int.tdiv (IntKind.i64.wrap ((Int.tmod (IntKind.i64.wrap at_) (IntKind.i64.wrap (8 * ((b_.len : Nat) : Int)))) + i)) 8) ∧ IntKind.i64.wrap (Int.tdiv (IntKind.i64.wrap ((Int.tmod (IntKind.i64.wrap at_) (IntKind.i64.wrap (8 * ((b_.len : Nat) : Int)))) + i)) 8) < ((c.len : Nat) : Int) ∧ (Writable w6 (pblk c.ptr) ((poff c.ptr) + (IntKind.i64.wrap (Int.tdiv (IntKind.i64.wrap ((Int.tmod (IntKind.i64.wrap at_) (IntKind.i64.wrap (8 * ((b_.len : Nat) : Int)))) + i)) 8)).toNat) 1 ∧ (∀ w7, w7 = World.puts (pblk c.ptr) ((poff c.ptr) + (IntKind.i64.wrap (Int.tdiv (IntKind.i64.wrap ((Int.tmod (IntKind.i64.wrap at_) (IntKind.i64.wrap (8 * ((b_.len : Nat) : Int)))) + i)) 8)).toNat) [Value.int .u8 (bxor .u8 v65 (IntKind.u8.wrap (1 * 2 ^ (min (Int.tmod (IntKind.i64.wrap ((Int.tmod (IntKind.i64.wrap at_) (IntKind.i64.wrap (8 * ((b_.len : Nat) : Int)))) + i)) 8).toNat 8))))] w6 → (F_towpathlaw03_SumBursts_k2 i again_ true w7))))))))))) ∧
  ((((band .u32 (Int.fdiv turned (2 ^ (min i.toNat 32))) 1) == 1) && (decide ((IntKind.i64.wrap ((Int.tmod (IntKind.i64.wrap at_) (IntKind.i64.wrap (8 * ((b_.len : Nat) : Int)))) + i)) < (IntKind.i64.wrap (8 * ((b_.len : Nat) : Int)))))) = false → (F_towpathlaw03_SumBursts_k2 i again_ some_ w4))))) ∧
  ((decide (i < 32)) = false → (C_sum_CRC c w4 (fun (v72 : Int) w8 => C_sum_CRC b_ w8 (fun (v74 : Int) w9 => R ((v72 != v74) == some_) w9))))

def F_towpathlaw03_SumBursts_k0 (b_ : Slc) (at_ : Int) (turned : Int) (R : Bool → World → Prop) (t28 : Bool) (w1 : World) : Prop :=
  (t28 = true → (C_towpathlaw03_alive w1 (fun (v29 : Bool) w2 => R v29 w2))) ∧
  (t28 = false → (∃ src, SrcAt w1 b_ 1 src ∧ AppendW 1 1 ty_uint8 [Value.int .u8 0] (Slc.mk none 0 0) src b_.len w1 (fun c w3 => (IntKind.i64.wrap (8 * ((b_.len : Nat) : Int))) ≠ 0 ∧ (∃ (I : Bool → Int → World → Prop) (μ : Bool → Int → World → Nat), I false 0 w3 ∧
  ∀ (some_ : Bool) (i : Int) w, I some_ i w → F_towpathlaw03_SumBursts_L1 b_ at_ turned R c (fun (some_' : Bool) (i' : Int) w' => I some_' i' w' ∧ μ some_' i' w' < μ some_ i w) some_ i w))))

def F_towpathlaw03_SumBursts (b_ : Slc) (at_ : Int) (turned : Int) (R : Bool → World → Prop) (w : World) : Prop :=
  C_towpathlaw03_alive w (fun (v12 : Bool) w10 => ((!v12) = true → (F_towpathlaw03_SumBursts_k0 b_ at_ turned R true w10)) ∧
  ((!v12) = false → (∀ b_1 w11, b_1 = w10.heap.size → w11 = w10.alloc (Obj.cells ([Value.int .i64 ((b_.len : Nat) : Int)]).toArray ty_int (0, 0)) → (C_towpathlaw01_Beyond (Slc.mk (some ⟨b_1, 0, none⟩) 1 1) w11 (fun (v18 : Bool) w12 => F_towpathlaw03_SumBursts_k0 b_ at_ turned R ((v18 || (((b_.len : Nat) : Int) == 0)) || (turned == 0)) w12)))))

def F_towpathlaw01_Beyond_L0 (l_ : Slc) (R : Bool → World → Prop) (again_ : Int → Int → World → Prop) (n_ : Int) (i : Int) (w1 : World) : Prop :=
  ((decide (i < ((l_.len : Nat) : Int))) = true → (IsAt l_.ptr ∧ (0 ≤ i ∧ i < ((l_.len : Nat) : Int) ∧ (∃ (v15 : Int), w1.cell? ⟨(pblk l_.ptr), (poff l_.ptr) + i.toNat, none⟩ = some (Value.int .i64 v15) ∧ (((decide ((IntKind.i64.wrap (n_ + v15)) > 1048576)) = true → (R true w1)) ∧
  ((decide ((IntKind.i64.wrap (n_ + v15)) > 1048576)) = false → (again_ (IntKind.i64.wrap (n_ + v15)) (IntKind.i64.wrap (i + 1)) w1))))))) ∧
  ((decide (i < ((l_.len : Nat) : Int))) = false → (R false w1))

def F_towpathlaw01_Beyond (l_ : Slc) (R : Bool → World → Prop) (w : World) : Prop :=
  ∃ (I : Int → Int → World → Prop) (μ : Int → Int → World → Nat), I 0 0 w ∧
  ∀ (n_ : Int) (i : Int) w, I n_ i w → F_towpathlaw01_Beyond_L0 l_ R (fun (n_' : Int) (i' : Int) w' => I n_' i' w' ∧ μ n_' i' w' < μ n_ i w) n_ i w

def F_sum_Hash_L0 (key : ByteArray) (R : Int → World → Prop) (again_ : Int → Int → World → Prop) (h_ : Int) (t7 : Int) (w1 : World) : Prop :=
  ((decide (t7 < ((key.size : Nat) : Int))) = true → (0 ≤ t7 ∧ t7 < ((key.size : Nat) : Int) ∧ (again_ (IntKind.u32.wrap ((bxor .u32 h_ (IntKind.u32.wrap (byteAt key t7))) * 16777619)) (IntKind.i64.wrap (t7 + 1)) w1))) ∧
  ((decide (t7 < ((key.size : Nat) : Int))) = false → (R h_ w1))

def F_sum_Hash (key : ByteArray) (R : Int → World → Prop) (w : World) : Prop :=
  ∃ (I : Int → Int → World → Prop) (μ : Int → Int → World → Nat), I 2166136261 0 w ∧
  ∀ (h_ : Int) (t7 : Int) w, I h_ t7 w → F_sum_Hash_L0 key R (fun (h_' : Int) (t7' : Int) w' => I h_' t7' w' ∧ μ h_' t7' w' < μ h_ t7 w) h_ t7 w

def F_sum_CRC (b_ : Slc) (R : Int → World → Prop) (w : World) : Prop :=
  C_sum_More 0 b_ w (fun (v4 : Int) w1 => R v4 w1)

def F_sum_More_L0 (b_ : Slc) (R : Int → World → Prop) (b_1 : Nat) (again_ : Int → Int → World → Prop) (c : Int) (t14 : Int) (w4 : World) : Prop :=
  ((decide (t14 < ((b_.len : Nat) : Int))) = true → (IsAt b_.ptr ∧ (0 ≤ t14 ∧ t14 < ((b_.len : Nat) : Int) ∧ (∃ (x : Int), w4.cell? ⟨(pblk b_.ptr), (poff b_.ptr) + t14.toNat, none⟩ = some (Value.int .u8 x) ∧ (0 ≤ bxor .u8 (IntKind.u8.wrap c) x ∧ bxor .u8 (IntKind.u8.wrap c) x < (256 : Int) ∧ (∃ (v23 : Int), w4.cell? ⟨b_1, 0 + (bxor .u8 (IntKind.u8.wrap c) x).toNat, none⟩ = some (Value.int .u32 v23) ∧ (again_ (bxor .u32 v23 (Int.fdiv c (2 ^ 8))) (IntKind.i64.wrap (t14 + 1)) w4))))))) ∧
  ((decide (t14 < ((b_.len : Nat) : Int))) = false → (R (bxor .u32 (IntKind.max .u32) c) w4))

def F_sum_More (sum : Int) (b_ : Slc) (R : Int → World → Prop) (w : World) : Prop :=
  C_sum_table w (fun (v9 : List Int) w1 => (v9.length = 256) → ∀ b_1 w2, b_1 = w1.heap.size → w2 = w1.alloc (Obj.cells ((List.map (Value.int .u32) (List.replicate 256 0))).toArray ty_256_uint32 (0, 0)) → (Writable w2 b_1 0 256 ∧ (∀ w3, w3 = World.puts b_1 0 (List.map (Value.int .u32) v9) w2 → (∃ (I : Int → Int → World → Prop) (μ : Int → Int → World → Nat), I (bxor .u32 (IntKind.max .u32) sum) 0 w3 ∧
  ∀ (c : Int) (t14 : Int) w, I c t14 w → F_sum_More_L0 b_ R b_1 (fun (c' : Int) (t14' : Int) w' => I c' t14' w' ∧ μ c' t14' w' < μ c t14 w) c t14 w))))

def F_towpathlaw03_alive (R : Bool → World → Prop) (w : World) : Prop :=
  ∀ b_ w1, b_ = w.heap.size → w1 = w.alloc (Obj.cells ([Value.int .u8 49, Value.int .u8 50, Value.int .u8 51, Value.int .u8 52, Value.int .u8 53, Value.int .u8 54, Value.int .u8 55, Value.int .u8 56, Value.int .u8 57]).toArray ty_uint8 (0, 0)) → (∃ (T_ k_ : Nat), w1.shape? b_ = some (T_, k_) ∧ (∀ w2, w2 = w1.freeze ⟨b_, k_, none⟩ 1 → (C_sum_CRC (Slc.mk (some ⟨b_, 0, none⟩) 9 9) w2 (fun (v3 : Int) w3 => ((v3 == 3808858755) = true → (C_sum_Hash (ByteArray.mk #[102, 111, 111, 98, 97, 114]) w3 (fun (v6 : Int) w4 => ((v6 == 3214735720) = true → (C_sum_Hash ByteArray.empty w4 (fun (v10 : Int) w5 => R (v10 == 2166136261) w5))) ∧
  ((v6 == 3214735720) = false → (R false w4))))) ∧
  ((v3 == 3808858755) = false → (R false w3))))))

def F_sum_table_L1 (b_1 : Nat) (t4 : Int) (again_ : Int → World → Prop) (again_1 : Int → Int → World → Prop) (c : Int) (t9 : Int) (w4 : World) : Prop :=
  ((decide (t9 < 8)) = true → (again_1 (bxor .u32 (Int.fdiv c (2 ^ 1)) (band .u32 2197175160 (IntKind.u32.wrap (0 - (band .u32 c 1))))) (IntKind.i64.wrap (t9 + 1)) w4)) ∧
  ((decide (t9 < 8)) = false → (0 ≤ t4 ∧ t4 < (256 : Int) ∧ (Writable w4 b_1 (0 + t4.toNat) 1 ∧ (∀ w5, w5 = World.puts b_1 (0 + t4.toNat) [Value.int .u32 c] w4 → (again_ (IntKind.i64.wrap (t4 + 1)) w5)))))

def F_sum_table_L0 (R : List Int → World → Prop) (b_ : Nat) (b_1 : Nat) (again_ : Int → World → Prop) (t4 : Int) (w3 : World) : Prop :=
  ((decide (t4 < 256)) = true → (∃ (I : Int → Int → World → Prop) (μ : Int → Int → World → Nat), I (IntKind.u32.wrap t4) 0 w3 ∧
  ∀ (c : Int) (t9 : Int) w, I c t9 w → F_sum_table_L1 b_1 t4 again_ (fun (c' : Int) (t9' : Int) w' => I c' t9' w' ∧ μ c' t9' w' < μ c t9 w) c t9 w)) ∧
  ((decide (t4 < 256)) = false → (∃ (v23 : List Int), (v23.length = 256) ∧ CellsAt w3 b_1 0 (List.map (Value.int .u32) v23) ∧ (Writable w3 b_ 0 256 ∧ (∀ w6, w6 = World.puts b_ 0 (List.map (Value.int .u32) v23) w3 → (∃ (res : List Int), (res.length = 256) ∧ CellsAt w6 b_ 0 (List.map (Value.int .u32) res) ∧ (R res w6))))))

def F_sum_table (R : List Int → World → Prop) (w : World) : Prop :=
  ∀ b_ w1, b_ = w.heap.size → w1 = w.alloc (Obj.cells ((List.map (Value.int .u32) (List.replicate 256 0))).toArray ty_256_uint32 (0, 0)) → (∀ b_1 w2, b_1 = w1.heap.size → w2 = w1.alloc (Obj.cells ((List.map (Value.int .u32) (List.replicate 256 0))).toArray ty_256_uint32 (0, 0)) → (∃ (I : Int → World → Prop) (μ : Int → World → Nat), I 0 w2 ∧
  ∀ (t4 : Int) w, I t4 w → F_sum_table_L0 R b_ b_1 (fun (t4' : Int) w' => I t4' w' ∧ μ t4' w' < μ t4 w) t4 w))

end Go.Proofs.Ytmcpljflohlnaaa
