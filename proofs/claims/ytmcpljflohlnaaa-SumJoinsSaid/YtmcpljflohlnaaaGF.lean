/- WRITTEN BY PROGRAM (dec.py): for each Go function the clean formula F, the call's contract C, and the proof S that F gives C. -/
import Derived.Test.YtmcpljflohlnaaaRows
import Derived.Test.YtmcpljflohlnaaaCore
namespace Go.Proofs.Ytmcpljflohlnaaa
open Go
set_option linter.unusedVariables false


abbrev ty_int : TypeId := 3

abbrev ty_uint8 : TypeId := 5

abbrev ty_256_uint32 : TypeId := 92

def C_towpathlaw03_SumKeys (key : ByteArray) (w : World) (R : Bool → World → Prop) : Prop :=
  Calls Try.prog 5 #[Value.string key] w (fun e w' => ∃ (r0 : Bool), e = .returned (Value.bool r0) ∧ R r0 w')

def C_towpathlaw03_SumBytes (b_ : Slc) (before : Int) (w : World) (R : Bool → World → Prop) : Prop :=
  Calls Try.prog 8 #[Value.slice b_.ptr b_.len b_.cap, Value.int .u32 before] w (fun e w' => ∃ (r0 : Bool), e = .returned (Value.bool r0) ∧ R r0 w')

def C_towpathlaw03_SumJoins (a_ : Slc) (b_ : Slc) (sum0 : Int) (w : World) (R : Bool → World → Prop) : Prop :=
  Calls Try.prog 9 #[Value.slice a_.ptr a_.len a_.cap, Value.slice b_.ptr b_.len b_.cap, Value.int .u32 sum0] w (fun e w' => ∃ (r0 : Bool), e = .returned (Value.bool r0) ∧ R r0 w')

def C_towpathlaw03_SumBursts (b_ : Slc) (at_ : Int) (turned : Int) (w : World) (R : Bool → World → Prop) : Prop :=
  Calls Try.prog 10 #[Value.slice b_.ptr b_.len b_.cap, Value.int .u32 at_, Value.int .u32 turned] w (fun e w' => ∃ (r0 : Bool), e = .returned (Value.bool r0) ∧ R r0 w')

def C_towpathlaw01_Beyond (l_ : Slc) (w : World) (R : Bool → World → Prop) : Prop :=
  Calls Try.prog 37 #[Value.slice l_.ptr l_.len l_.cap] w (fun e w' => ∃ (r0 : Bool), e = .returned (Value.bool r0) ∧ R r0 w')

def C_sum_Hash (key : ByteArray) (w : World) (R : Int → World → Prop) : Prop :=
  Calls Try.prog 38 #[Value.string key] w (fun e w' => ∃ (r0 : Int), e = .returned (Value.int .u32 r0) ∧ R r0 w')

def C_towpathref03_Hash (key : ByteArray) (w : World) (R : Int → World → Prop) : Prop :=
  Calls Try.prog 39 #[Value.string key] w (fun e w' => ∃ (r0 : Int), e = .returned (Value.int .u32 r0) ∧ R r0 w')

def C_towpathlaw01_TwinBytes (l_ : Slc) (w : World) (R : Slc → World → Prop) : Prop :=
  Calls Try.prog 50 #[Value.slice l_.ptr l_.len l_.cap] w (fun e w' => ∃ (r0 : Slc), e = .returned (Value.slice r0.ptr r0.len r0.cap) ∧ R r0 w')

def C_sum_CRC (b_ : Slc) (w : World) (R : Int → World → Prop) : Prop :=
  Calls Try.prog 51 #[Value.slice b_.ptr b_.len b_.cap] w (fun e w' => ∃ (r0 : Int), e = .returned (Value.int .u32 r0) ∧ R r0 w')

def C_towpathref03_CRC (b_ : Slc) (w : World) (R : Int → World → Prop) : Prop :=
  Calls Try.prog 52 #[Value.slice b_.ptr b_.len b_.cap] w (fun e w' => ∃ (r0 : Int), e = .returned (Value.int .u32 r0) ∧ R r0 w')

def C_sum_More (sum : Int) (b_ : Slc) (w : World) (R : Int → World → Prop) : Prop :=
  Calls Try.prog 53 #[Value.int .u32 sum, Value.slice b_.ptr b_.len b_.cap] w (fun e w' => ∃ (r0 : Int), e = .returned (Value.int .u32 r0) ∧ R r0 w')

def C_towpathref03_More (sum : Int) (b_ : Slc) (w : World) (R : Int → World → Prop) : Prop :=
  Calls Try.prog 54 #[Value.int .u32 sum, Value.slice b_.ptr b_.len b_.cap] w (fun e w' => ∃ (r0 : Int), e = .returned (Value.int .u32 r0) ∧ R r0 w')

def C_towpathlaw01_LeftBytes (t_ : Slc) (l_ : Slc) (w : World) (R : Bool → World → Prop) : Prop :=
  Calls Try.prog 55 #[Value.slice t_.ptr t_.len t_.cap, Value.slice l_.ptr l_.len l_.cap] w (fun e w' => ∃ (r0 : Bool), e = .returned (Value.bool r0) ∧ R r0 w')

def C_towpathlaw03_alive (w : World) (R : Bool → World → Prop) : Prop :=
  Calls Try.prog 56 #[] w (fun e w' => ∃ (r0 : Bool), e = .returned (Value.bool r0) ∧ R r0 w')

def C_sum_table (w : World) (R : List Int → World → Prop) : Prop :=
  Calls Try.prog 65 #[] w (fun e w' => ∃ (r0 : List Int), r0.length = 256 ∧ e = .returned (Value.agg (List.map (Value.int .u32) r0).toArray) ∧ R r0 w')

def F_towpathlaw03_SumKeys (key : ByteArray) (R : Bool → World → Prop) (w : World) : Prop :=
  ∀ b_ w1, b_ = w.heap.size → w1 = w.alloc (Obj.cells ([Value.int .i64 ((key.size : Nat) : Int)]).toArray ty_int (0, 0)) → (C_towpathlaw01_Beyond (Slc.mk (some ⟨b_, 0, none⟩) 1 1) w1 (fun (v6 : Bool) w2 => (v6 = true → (R true w2)) ∧
  (v6 = false → (C_sum_Hash key w2 (fun (v9 : Int) w3 => C_towpathref03_Hash key w3 (fun (v11 : Int) w4 => R (v9 == v11) w4))))))

def F_towpathlaw03_SumBytes (b_ : Slc) (before : Int) (R : Bool → World → Prop) (w : World) : Prop :=
  ∀ b_1 w1, b_1 = w.heap.size → w1 = w.alloc (Obj.cells ([Value.int .i64 ((b_.len : Nat) : Int)]).toArray ty_int (0, 0)) → (C_towpathlaw01_Beyond (Slc.mk (some ⟨b_1, 0, none⟩) 1 1) w1 (fun (v9 : Bool) w2 => (v9 = true → (R true w2)) ∧
  (v9 = false → (C_towpathlaw01_TwinBytes b_ w2 (fun (v11 : Slc) w3 => C_sum_CRC v11 w3 (fun (v13 : Int) w4 => C_towpathref03_CRC b_ w4 (fun (v15 : Int) w5 => ((v13 == v15) = true → (C_sum_More before v11 w5 (fun (v20 : Int) w6 => C_towpathref03_More before b_ w6 (fun (v23 : Int) w7 => ((v20 == v23) = true → (C_towpathlaw01_LeftBytes v11 b_ w7 (fun (v29 : Bool) w8 => R v29 w8))) ∧
  ((v20 == v23) = false → (R false w7)))))) ∧
  ((v13 == v15) = false → (R false w5)))))))))

def F_towpathlaw03_SumJoins_k0 (a_ : Slc) (b_ : Slc) (sum0 : Int) (R : Bool → World → Prop) (t17 : Bool) (w1 : World) : Prop :=
  (t17 = true → (C_towpathlaw03_alive w1 (fun (v18 : Bool) w2 => R v18 w2))) ∧
  (t17 = false → (∃ src, SrcAt w1 a_ 1 src ∧ AppendW 1 1 ty_uint8 [Value.int .u8 0] (Slc.mk none 0 0) src a_.len w1 (fun both w3 => ∃ src, SrcAt w3 b_ 1 src ∧ AppendW 1 1 ty_uint8 [Value.int .u8 0] both src b_.len w3 (fun both1 w4 => C_sum_CRC a_ w4 (fun (v26 : Int) w5 => C_sum_More v26 b_ w5 (fun (v28 : Int) w6 => C_sum_CRC both1 w6 (fun (v30 : Int) w7 => ((v28 == v30) = true → (C_sum_More sum0 a_ w7 (fun (v35 : Int) w8 => C_sum_More v35 b_ w8 (fun (v37 : Int) w9 => C_sum_More sum0 both1 w9 (fun (v40 : Int) w10 => ((v37 == v40) = true → (C_sum_More sum0 (Slc.mk none 0 0) w10 (fun (v45 : Int) w11 => R (v45 == sum0) w11))) ∧
  ((v37 == v40) = false → (R false w10))))))) ∧
  ((v28 == v30) = false → (R false w7)))))))))

def F_towpathlaw03_SumJoins (a_ : Slc) (b_ : Slc) (sum0 : Int) (R : Bool → World → Prop) (w : World) : Prop :=
  C_towpathlaw03_alive w (fun (v8 : Bool) w12 => ((!v8) = true → (F_towpathlaw03_SumJoins_k0 a_ b_ sum0 R true w12)) ∧
  ((!v8) = false → (∀ b_1 w13, b_1 = w12.heap.size → w13 = w12.alloc (Obj.cells ([Value.int .i64 ((a_.len : Nat) : Int), Value.int .i64 ((b_.len : Nat) : Int)]).toArray ty_int (0, 0)) → (C_towpathlaw01_Beyond (Slc.mk (some ⟨b_1, 0, none⟩) 2 2) w13 (fun (v16 : Bool) w14 => F_towpathlaw03_SumJoins_k0 a_ b_ sum0 R v16 w14)))))

def F_towpathlaw03_SumBursts_k2 (i : Int) (again_ : Bool → Int → World → Prop) (some_1 : Bool) (w5 : World) : Prop :=
  again_ some_1 (IntKind.i64.wrap (i + 1)) w5

def F_towpathlaw03_SumBursts_L1 (b_ : Slc) (at_ : Int) (turned : Int) (R : Bool → World → Prop) (c : Slc) (again_ : Bool → Int → World → Prop) (some_ : Bool) (i : Int) (w4 : World) : Prop :=
  ((decide (i < 32)) = true → (0 ≤ i ∧ (((((band .u32 (Int.fdiv turned (2 ^ (min i.toNat 32))) 1) == 1) && (decide ((IntKind.i64.wrap ((Int.tmod (IntKind.i64.wrap at_) (IntKind.i64.wrap (8 * ((b_.len : Nat) : Int)))) + i)) < (IntKind.i64.wrap (8 * ((b_.len : Nat) : Int)))))) = true → (∀ w6, (∃ k, w6 = w4.drewN k) → (IsAt c.ptr ∧ (0 ≤ IntKind.i64.wrap (Int.tdiv (IntKind.i64.wrap ((Int.tmod (IntKind.i64.wrap at_) (IntKind.i64.wrap (8 * ((b_.len : Nat) : Int)))) + i)) 8) ∧ IntKind.i64.wrap (Int.tdiv (IntKind.i64.wrap ((Int.tmod (IntKind.i64.wrap at_) (IntKind.i64.wrap (8 * ((b_.len : Nat) : Int)))) + i)) 8) < ((c.len : Nat) : Int) ∧ (∃ (v65 : Int), w6.cell? ⟨(pblk c.ptr), (poff c.ptr) + (IntKind.i64.wrap (Int.tdiv (IntKind.i64.wrap ((Int.tmod (IntKind.i64.wrap at_) (IntKind.i64.wrap (8 * ((b_.len : Nat) : Int)))) + i)) 8)).toNat, none⟩ = some (Value.int .u8 v65) ∧ (0 ≤ Int.tmod (IntKind.i64.wrap ((Int.tmod (IntKind.i64.wrap at_) (IntKind.i64.wrap (8 * ((b_.len : Nat) : Int)))) + i)) 8 ∧ (IsAt c.ptr ∧ (0 ≤ IntKind.i64.wrap (Int.tdiv (IntKind.i64.wrap ((Int.tmod (IntKind.i64.wrap at_) (IntKind.i64.wrap (8 * ((b_.len : Nat) : Int)))) + i)) 8) ∧ IntKind.i64.wrap (Int.tdiv (IntKind.i64.wrap ((Int.tmod (IntKind.i64.wrap at_) (IntKind.i64.wrap (8 * ((b_.len : Nat) : Int)))) + i)) 8) < ((c.len : Nat) : Int) ∧ (Writable w6 (pblk c.ptr) ((poff c.ptr) + (IntKind.i64.wrap (Int.tdiv (IntKind.i64.wrap ((Int.tmod (IntKind.i64.wrap at_) (IntKind.i64.wrap (8 * ((b_.len : Nat) : Int)))) + i)) 8)).toNat) 1 ∧ (∀ w7, w7 = World.puts (pblk c.ptr) ((poff c.ptr) + (IntKind.i64.wrap (Int.tdiv (IntKind.i64.wrap ((Int.tmod (IntKind.i64.wrap at_) (IntKind.i64.wrap (8 * ((b_.len : Nat) : Int)))) + i)) 8)).toNat) [Value.int .u8 (bxor .u8 v65 (IntKind.u8.wrap (1 * 2 ^ (min (Int.tmod (IntKind.i64.wrap ((Int.tmod (IntKind.i64.wrap at_) (IntKind.i64.wrap (8 * ((b_.len : Nat) : Int)))) + i)) 8).toNat 8))))] w6 → (F_towpathlaw03_SumBursts_k2 i again_ true w7))))))))))) ∧
  ((((band .u32 (Int.fdiv turned (2 ^ (min i.toNat 32))) 1) == 1) && (decide ((IntKind.i64.wrap ((Int.tmod (IntKind.i64.wrap at_) (IntKind.i64.wrap (8 * ((b_.len : Nat) : Int)))) + i)) < (IntKind.i64.wrap (8 * ((b_.len : Nat) : Int)))))) = false → (F_towpathlaw03_SumBursts_k2 i again_ some_ w4))))) ∧
  ((decide (i < 32)) = false → (C_sum_CRC c w4 (fun (v72 : Int) w8 => C_sum_CRC b_ w8 (fun (v74 : Int) w9 => R ((v72 != v74) == some_) w9))))

def F_towpathlaw03_SumBursts_k0 (b_ : Slc) (at_ : Int) (turned : Int) (R : Bool → World → Prop) (t28 : Bool) (w1 : World) : Prop :=
  (t28 = true → (C_towpathlaw03_alive w1 (fun (v29 : Bool) w2 => R v29 w2))) ∧
  (t28 = false → (∃ src, SrcAt w1 b_ 1 src ∧ AppendW 1 1 ty_uint8 [Value.int .u8 0] (Slc.mk none 0 0) src b_.len w1 (fun c w3 => (IntKind.i64.wrap (8 * ((b_.len : Nat) : Int))) ≠ 0 ∧ (∃ (I : Bool → Int → World → Prop) (μ : Bool → Int → World → Nat), I false 0 w3 ∧
  ∀ (some_ : Bool) (i : Int) w, I some_ i w → F_towpathlaw03_SumBursts_L1 b_ at_ turned R c (fun (some_' : Bool) (i' : Int) w' => I some_' i' w' ∧ μ some_' i' w' < μ some_ i w) some_ i w))))

def F_towpathlaw03_SumBursts (b_ : Slc) (at_ : Int) (turned : Int) (R : Bool → World → Prop) (w : World) : Prop :=
  C_towpathlaw03_alive w (fun (v12 : Bool) w10 => ((!v12) = true → (F_towpathlaw03_SumBursts_k0 b_ at_ turned R true w10)) ∧
  ((!v12) = false → (∀ b_1 w11, b_1 = w10.heap.size → w11 = w10.alloc (Obj.cells ([Value.int .i64 ((b_.len : Nat) : Int)]).toArray ty_int (0, 0)) → (C_towpathlaw01_Beyond (Slc.mk (some ⟨b_1, 0, none⟩) 1 1) w11 (fun (v18 : Bool) w12 => F_towpathlaw03_SumBursts_k0 b_ at_ turned R ((v18 || (((b_.len : Nat) : Int) == 0)) || (turned == 0)) w12)))))

def F_towpathlaw01_Beyond_L0 (l_ : Slc) (R : Bool → World → Prop) (again_ : Int → Int → World → Prop) (n_ : Int) (i : Int) (w1 : World) : Prop :=
  ((decide (i < ((l_.len : Nat) : Int))) = true → (IsAt l_.ptr ∧ (0 ≤ i ∧ i < ((l_.len : Nat) : Int) ∧ (∃ (v15 : Int), w1.cell? ⟨(pblk l_.ptr), (poff l_.ptr) + i.toNat, none⟩ = some (Value.int .i64 v15) ∧ (((decide ((IntKind.i64.wrap (n_ + v15)) > 1048576)) = true → (R true w1)) ∧
  ((decide ((IntKind.i64.wrap (n_ + v15)) > 1048576)) = false → (again_ (IntKind.i64.wrap (n_ + v15)) (IntKind.i64.wrap (i + 1)) w1))))))) ∧
  ((decide (i < ((l_.len : Nat) : Int))) = false → (R false w1))

def F_towpathlaw01_Beyond (l_ : Slc) (R : Bool → World → Prop) (w : World) : Prop :=
  ∃ (I : Int → Int → World → Prop) (μ : Int → Int → World → Nat), I 0 0 w ∧
  ∀ (n_ : Int) (i : Int) w, I n_ i w → F_towpathlaw01_Beyond_L0 l_ R (fun (n_' : Int) (i' : Int) w' => I n_' i' w' ∧ μ n_' i' w' < μ n_ i w) n_ i w

def F_sum_Hash_L0 (key : ByteArray) (R : Int → World → Prop) (again_ : Int → Int → World → Prop) (h_ : Int) (t7 : Int) (w1 : World) : Prop :=
  ((decide (t7 < ((key.size : Nat) : Int))) = true → (0 ≤ t7 ∧ t7 < ((key.size : Nat) : Int) ∧ (again_ (IntKind.u32.wrap ((bxor .u32 h_ (IntKind.u32.wrap (byteAt key t7))) * 16777619)) (IntKind.i64.wrap (t7 + 1)) w1))) ∧
  ((decide (t7 < ((key.size : Nat) : Int))) = false → (R h_ w1))

def F_sum_Hash (key : ByteArray) (R : Int → World → Prop) (w : World) : Prop :=
  ∃ (I : Int → Int → World → Prop) (μ : Int → Int → World → Nat), I 2166136261 0 w ∧
  ∀ (h_ : Int) (t7 : Int) w, I h_ t7 w → F_sum_Hash_L0 key R (fun (h_' : Int) (t7' : Int) w' => I h_' t7' w' ∧ μ h_' t7' w' < μ h_ t7 w) h_ t7 w

def F_towpathref03_Hash_L0 (key : ByteArray) (R : Int → World → Prop) (again_ : Int → Int → World → Prop) (h_ : Int) (i : Int) (w1 : World) : Prop :=
  ((decide (i < ((key.size : Nat) : Int))) = true → (0 ≤ i ∧ i < ((key.size : Nat) : Int) ∧ (again_ (IntKind.u32.wrap ((bxor .u32 h_ (IntKind.u32.wrap (byteAt key i))) * 16777619)) (IntKind.i64.wrap (i + 1)) w1))) ∧
  ((decide (i < ((key.size : Nat) : Int))) = false → (R h_ w1))

def F_towpathref03_Hash (key : ByteArray) (R : Int → World → Prop) (w : World) : Prop :=
  ∃ (I : Int → Int → World → Prop) (μ : Int → Int → World → Nat), I 2166136261 0 w ∧
  ∀ (h_ : Int) (i : Int) w, I h_ i w → F_towpathref03_Hash_L0 key R (fun (h_' : Int) (i' : Int) w' => I h_' i' w' ∧ μ h_' i' w' < μ h_ i w) h_ i w

def F_towpathlaw01_TwinBytes_L0 (l_ : Slc) (R : Slc → World → Prop) (again_ : Slc → Int → World → Prop) (t_ : Slc) (i : Int) (w2 : World) : Prop :=
  ((decide (i < ((l_.len : Nat) : Int))) = true → (IsAt l_.ptr ∧ (0 ≤ i ∧ i < ((l_.len : Nat) : Int) ∧ (∃ (v19 : Int), w2.cell? ⟨(pblk l_.ptr), (poff l_.ptr) + i.toNat, none⟩ = some (Value.int .u8 v19) ∧ (∀ b_1 w3, b_1 = w2.heap.size → w3 = w2.alloc (Obj.cells ([Value.int .u8 v19]).toArray ty_uint8 (0, 0)) → (∃ src, SrcAt w3 (Slc.mk (some ⟨b_1, 0, none⟩) 1 1) 1 src ∧ AppendW 1 1 ty_uint8 [Value.int .u8 0] t_ src 1 w3 (fun t_1 w4 => again_ t_1 (IntKind.i64.wrap (i + 1)) w4))))))) ∧
  ((decide (i < ((l_.len : Nat) : Int))) = false → (∀ b_2 w5, b_2 = w2.heap.size → w5 = w2.alloc (Obj.cells ([Value.int .u8 77]).toArray ty_uint8 (0, 0)) → (∃ src, SrcAt w5 (Slc.mk (some ⟨b_2, 0, none⟩) 1 1) 1 src ∧ AppendW 1 1 ty_uint8 [Value.int .u8 0] t_ src 1 w5 (fun v24 w6 => 0 ≤ ((l_.len : Nat) : Int) ∧ ((l_.len : Nat) : Int) ≤ ((v24.cap : Nat) : Int) ∧ (R (Slc.mk v24.ptr (((l_.len : Nat) : Int).toNat) v24.cap) w6)))))

def F_towpathlaw01_TwinBytes (l_ : Slc) (R : Slc → World → Prop) (w : World) : Prop :=
  0 ≤ (0 : Int) ∧ (0 : Int) ≤ IntKind.i64.wrap (((l_.len : Nat) : Int) + 1) ∧ (1 : Int) * (IntKind.i64.wrap (((l_.len : Nat) : Int) + 1)) ≤ 281474976710656 ∧ (∀ b_ w1, b_ = w.heap.size → w1 = w.alloc (Obj.cells (repCells ((IntKind.i64.wrap (((l_.len : Nat) : Int) + 1)).toNat) [Value.int .u8 0]) ty_uint8 (0, 0)) → (∃ (I : Slc → Int → World → Prop) (μ : Slc → Int → World → Nat), I (Slc.mk (some ⟨b_, 0, none⟩) 0 ((IntKind.i64.wrap (((l_.len : Nat) : Int) + 1)).toNat)) 0 w1 ∧
  ∀ (t_ : Slc) (i : Int) w, I t_ i w → F_towpathlaw01_TwinBytes_L0 l_ R (fun (t_' : Slc) (i' : Int) w' => I t_' i' w' ∧ μ t_' i' w' < μ t_ i w) t_ i w))

def F_sum_CRC (b_ : Slc) (R : Int → World → Prop) (w : World) : Prop :=
  C_sum_More 0 b_ w (fun (v4 : Int) w1 => R v4 w1)

def F_towpathref03_CRC (b_ : Slc) (R : Int → World → Prop) (w : World) : Prop :=
  C_towpathref03_More 0 b_ w (fun (v4 : Int) w1 => R v4 w1)

def F_sum_More_L0 (b_ : Slc) (R : Int → World → Prop) (b_1 : Nat) (again_ : Int → Int → World → Prop) (c : Int) (t14 : Int) (w4 : World) : Prop :=
  ((decide (t14 < ((b_.len : Nat) : Int))) = true → (IsAt b_.ptr ∧ (0 ≤ t14 ∧ t14 < ((b_.len : Nat) : Int) ∧ (∃ (x : Int), w4.cell? ⟨(pblk b_.ptr), (poff b_.ptr) + t14.toNat, none⟩ = some (Value.int .u8 x) ∧ (0 ≤ bxor .u8 (IntKind.u8.wrap c) x ∧ bxor .u8 (IntKind.u8.wrap c) x < (256 : Int) ∧ (∃ (v23 : Int), w4.cell? ⟨b_1, 0 + (bxor .u8 (IntKind.u8.wrap c) x).toNat, none⟩ = some (Value.int .u32 v23) ∧ (again_ (bxor .u32 v23 (Int.fdiv c (2 ^ 8))) (IntKind.i64.wrap (t14 + 1)) w4))))))) ∧
  ((decide (t14 < ((b_.len : Nat) : Int))) = false → (R (bxor .u32 (IntKind.max .u32) c) w4))

def F_sum_More (sum : Int) (b_ : Slc) (R : Int → World → Prop) (w : World) : Prop :=
  C_sum_table w (fun (v9 : List Int) w1 => (v9.length = 256) → ∀ b_1 w2, b_1 = w1.heap.size → w2 = w1.alloc (Obj.cells ((List.map (Value.int .u32) (List.replicate 256 0))).toArray ty_256_uint32 (0, 0)) → (Writable w2 b_1 0 256 ∧ (∀ w3, w3 = World.puts b_1 0 (List.map (Value.int .u32) v9) w2 → (∃ (I : Int → Int → World → Prop) (μ : Int → Int → World → Nat), I (bxor .u32 (IntKind.max .u32) sum) 0 w3 ∧
  ∀ (c : Int) (t14 : Int) w, I c t14 w → F_sum_More_L0 b_ R b_1 (fun (c' : Int) (t14' : Int) w' => I c' t14' w' ∧ μ c' t14' w' < μ c t14 w) c t14 w))))

def F_towpathref03_More_k2 (k : Int) (again_1 : Int → Int → World → Prop) (c2 : Int) (w3 : World) : Prop :=
  again_1 c2 (IntKind.i64.wrap (k + 1)) w3

def F_towpathref03_More_L1 (i : Int) (again_ : Int → Int → World → Prop) (again_1 : Int → Int → World → Prop) (c1 : Int) (k : Int) (w2 : World) : Prop :=
  ((decide (k < 8)) = true → ((((Int.tmod c1 2) == 1) = true → (F_towpathref03_More_k2 k again_1 (bxor .u32 (IntKind.u32.wrap (Int.tdiv c1 2)) 2197175160) w2)) ∧
  (((Int.tmod c1 2) == 1) = false → (F_towpathref03_More_k2 k again_1 (IntKind.u32.wrap (Int.tdiv c1 2)) w2)))) ∧
  ((decide (k < 8)) = false → (again_ c1 (IntKind.i64.wrap (i + 1)) w2))

def F_towpathref03_More_L0 (b_ : Slc) (R : Int → World → Prop) (again_ : Int → Int → World → Prop) (c : Int) (i : Int) (w1 : World) : Prop :=
  ((decide (i < ((b_.len : Nat) : Int))) = true → (IsAt b_.ptr ∧ (0 ≤ i ∧ i < ((b_.len : Nat) : Int) ∧ (∃ (v21 : Int), w1.cell? ⟨(pblk b_.ptr), (poff b_.ptr) + i.toNat, none⟩ = some (Value.int .u8 v21) ∧ (∃ (I : Int → Int → World → Prop) (μ : Int → Int → World → Nat), I (bxor .u32 c (IntKind.u32.wrap v21)) 0 w1 ∧
  ∀ (c1 : Int) (k : Int) w, I c1 k w → F_towpathref03_More_L1 i again_ (fun (c1' : Int) (k' : Int) w' => I c1' k' w' ∧ μ c1' k' w' < μ c1 k w) c1 k w))))) ∧
  ((decide (i < ((b_.len : Nat) : Int))) = false → (R (IntKind.u32.wrap (4294967295 - c)) w1))

def F_towpathref03_More (sum : Int) (b_ : Slc) (R : Int → World → Prop) (w : World) : Prop :=
  ∃ (I : Int → Int → World → Prop) (μ : Int → Int → World → Nat), I (IntKind.u32.wrap (4294967295 - sum)) 0 w ∧
  ∀ (c : Int) (i : Int) w, I c i w → F_towpathref03_More_L0 b_ R (fun (c' : Int) (i' : Int) w' => I c' i' w' ∧ μ c' i' w' < μ c i w) c i w

def F_towpathlaw01_LeftBytes_L0 (t_ : Slc) (l_ : Slc) (R : Bool → World → Prop) (again_ : Int → World → Prop) (i : Int) (w1 : World) : Prop :=
  ((decide (i < ((l_.len : Nat) : Int))) = true → (IsAt t_.ptr ∧ (0 ≤ i ∧ i < ((t_.len : Nat) : Int) ∧ (∃ (v28 : Int), w1.cell? ⟨(pblk t_.ptr), (poff t_.ptr) + i.toNat, none⟩ = some (Value.int .u8 v28) ∧ (IsAt l_.ptr ∧ (0 ≤ i ∧ i < ((l_.len : Nat) : Int) ∧ (∃ (v32 : Int), w1.cell? ⟨(pblk l_.ptr), (poff l_.ptr) + i.toNat, none⟩ = some (Value.int .u8 v32) ∧ (∀ w2, Ext w1 w2 → (((v28 != v32) = true → (R false w2)) ∧
  ((v28 != v32) = false → (again_ (IntKind.i64.wrap (i + 1)) w2))))))))))) ∧
  ((decide (i < ((l_.len : Nat) : Int))) = false → (0 ≤ IntKind.i64.wrap (((l_.len : Nat) : Int) + 1) ∧ IntKind.i64.wrap (((l_.len : Nat) : Int) + 1) ≤ ((t_.cap : Nat) : Int) ∧ (IsAt t_.ptr ∧ (0 ≤ ((l_.len : Nat) : Int) ∧ ((l_.len : Nat) : Int) < (((IntKind.i64.wrap (((l_.len : Nat) : Int) + 1)).toNat : Nat) : Int) ∧ (∃ (x : Int), w1.cell? ⟨(pblk t_.ptr), (poff t_.ptr) + ((l_.len : Nat) : Int).toNat, none⟩ = some (Value.int .u8 x) ∧ (R (x == 77) w1))))))

def F_towpathlaw01_LeftBytes (t_ : Slc) (l_ : Slc) (R : Bool → World → Prop) (w : World) : Prop :=
  (((((t_.len : Nat) : Int) != ((l_.len : Nat) : Int)) || (decide (((t_.cap : Nat) : Int) ≤ ((l_.len : Nat) : Int)))) = true → (R false w)) ∧
  (((((t_.len : Nat) : Int) != ((l_.len : Nat) : Int)) || (decide (((t_.cap : Nat) : Int) ≤ ((l_.len : Nat) : Int)))) = false → (∃ (I : Int → World → Prop) (μ : Int → World → Nat), I 0 w ∧
  ∀ (i : Int) w, I i w → F_towpathlaw01_LeftBytes_L0 t_ l_ R (fun (i' : Int) w' => I i' w' ∧ μ i' w' < μ i w) i w))

def F_towpathlaw03_alive (R : Bool → World → Prop) (w : World) : Prop :=
  ∀ b_ w1, b_ = w.heap.size → w1 = w.alloc (Obj.cells ([Value.int .u8 49, Value.int .u8 50, Value.int .u8 51, Value.int .u8 52, Value.int .u8 53, Value.int .u8 54, Value.int .u8 55, Value.int .u8 56, Value.int .u8 57]).toArray ty_uint8 (0, 0)) → (∃ (T_ k_ : Nat), w1.shape? b_ = some (T_, k_) ∧ (∀ w2, w2 = w1.freeze ⟨b_, k_, none⟩ 1 → (C_sum_CRC (Slc.mk (some ⟨b_, 0, none⟩) 9 9) w2 (fun (v3 : Int) w3 => ((v3 == 3808858755) = true → (C_sum_Hash (ByteArray.mk #[102, 111, 111, 98, 97, 114]) w3 (fun (v6 : Int) w4 => ((v6 == 3214735720) = true → (C_sum_Hash ByteArray.empty w4 (fun (v10 : Int) w5 => R (v10 == 2166136261) w5))) ∧
  ((v6 == 3214735720) = false → (R false w4))))) ∧
  ((v3 == 3808858755) = false → (R false w3))))))

def F_sum_table_L1 (b_1 : Nat) (t4 : Int) (again_ : Int → World → Prop) (again_1 : Int → Int → World → Prop) (c : Int) (t9 : Int) (w4 : World) : Prop :=
  ((decide (t9 < 8)) = true → (again_1 (bxor .u32 (Int.fdiv c (2 ^ 1)) (band .u32 2197175160 (IntKind.u32.wrap (0 - (band .u32 c 1))))) (IntKind.i64.wrap (t9 + 1)) w4)) ∧
  ((decide (t9 < 8)) = false → (0 ≤ t4 ∧ t4 < (256 : Int) ∧ (Writable w4 b_1 (0 + t4.toNat) 1 ∧ (∀ w5, w5 = World.puts b_1 (0 + t4.toNat) [Value.int .u32 c] w4 → (again_ (IntKind.i64.wrap (t4 + 1)) w5)))))

def F_sum_table_L0 (R : List Int → World → Prop) (b_ : Nat) (b_1 : Nat) (again_ : Int → World → Prop) (t4 : Int) (w3 : World) : Prop :=
  ((decide (t4 < 256)) = true → (∃ (I : Int → Int → World → Prop) (μ : Int → Int → World → Nat), I (IntKind.u32.wrap t4) 0 w3 ∧
  ∀ (c : Int) (t9 : Int) w, I c t9 w → F_sum_table_L1 b_1 t4 again_ (fun (c' : Int) (t9' : Int) w' => I c' t9' w' ∧ μ c' t9' w' < μ c t9 w) c t9 w)) ∧
  ((decide (t4 < 256)) = false → (∃ (v23 : List Int), (v23.length = 256) ∧ CellsAt w3 b_1 0 (List.map (Value.int .u32) v23) ∧ (Writable w3 b_ 0 256 ∧ (∀ w6, w6 = World.puts b_ 0 (List.map (Value.int .u32) v23) w3 → (∃ (res : List Int), (res.length = 256) ∧ CellsAt w6 b_ 0 (List.map (Value.int .u32) res) ∧ (R res w6))))))

def F_sum_table (R : List Int → World → Prop) (w : World) : Prop :=
  ∀ b_ w1, b_ = w.heap.size → w1 = w.alloc (Obj.cells ((List.map (Value.int .u32) (List.replicate 256 0))).toArray ty_256_uint32 (0, 0)) → (∀ b_1 w2, b_1 = w1.heap.size → w2 = w1.alloc (Obj.cells ((List.map (Value.int .u32) (List.replicate 256 0))).toArray ty_256_uint32 (0, 0)) → (∃ (I : Int → World → Prop) (μ : Int → World → Nat), I 0 w2 ∧
  ∀ (t4 : Int) w, I t4 w → F_sum_table_L0 R b_ b_1 (fun (t4' : Int) w' => I t4' w' ∧ μ t4' w' < μ t4 w) t4 w))

end Go.Proofs.Ytmcpljflohlnaaa
