/- WRITTEN BY PROGRAM (dec.py): for each Go function the clean formula F, the call's contract C, and the proof S that F gives C. -/
import Derived.Test.YtcgfmkpddhhmgaaRows
import Derived.Test.YtcgfmkpddhhmgaaCore
namespace Go.Proofs.Ytcgfmkpddhhmgaa
open Go
set_option linter.unusedVariables false


abbrev ty_int : TypeId := 3

abbrev ty_api_Version : TypeId := 30

abbrev ty_chain_mark : TypeId := 54

structure T_api_Version where
  Number : Int
  Val : ByteArray
  Drop : Bool

structure T_chain_mark where
  l : Slc
  at_ : Int

def C_towpathlaw08_ChainOrders (l_ : Slc) (turn : Int) (w : World) (R : Bool → World → Prop) : Prop :=
  Calls Try.prog 3 #[Value.slice l_.ptr l_.len l_.cap, Value.int .u8 turn] w (fun e w' => ∃ (r0 : Bool), e = .returned (Value.bool r0) ∧ R r0 w')

def C_towpathlaw08_ChainThins (l_ : Slc) (least : Int) (mark : Int) (w : World) (R : Bool → World → Prop) : Prop :=
  Calls Try.prog 4 #[Value.slice l_.ptr l_.len l_.cap, Value.int .i64 least, Value.int .u16 mark] w (fun e w' => ∃ (r0 : Bool), e = .returned (Value.bool r0) ∧ R r0 w')

def C_towpathlaw08_ChainTwice (l_ : Slc) (a_ : Int) (b_ : Int) (w : World) (R : Bool → World → Prop) : Prop :=
  Calls Try.prog 5 #[Value.slice l_.ptr l_.len l_.cap, Value.int .u16 a_, Value.int .u16 b_] w (fun e w' => ∃ (r0 : Bool), e = .returned (Value.bool r0) ∧ R r0 w')

def C_towpathlaw08_ChainKeeps (l_ : Slc) (mark : Int) (more : Int) (w : World) (R : Bool → World → Prop) : Prop :=
  Calls Try.prog 6 #[Value.slice l_.ptr l_.len l_.cap, Value.int .u16 mark, Value.int .u8 more] w (fun e w' => ∃ (r0 : Bool), e = .returned (Value.bool r0) ∧ R r0 w')

def C_towpathlaw08_alive (w : World) (R : Bool → World → Prop) : Prop :=
  Calls Try.prog 7 #[] w (fun e w' => ∃ (r0 : Bool), e = .returned (Value.bool r0) ∧ R r0 w')

def C_towpathlaw01_Beyond (l_ : Slc) (w : World) (R : Bool → World → Prop) : Prop :=
  Calls Try.prog 8 #[Value.slice l_.ptr l_.len l_.cap] w (fun e w' => ∃ (r0 : Bool), e = .returned (Value.bool r0) ∧ R r0 w')

def C_towpathlaw01_VersionsSize (l_ : Slc) (w : World) (R : Int → World → Prop) : Prop :=
  Calls Try.prog 9 #[Value.slice l_.ptr l_.len l_.cap] w (fun e w' => ∃ (r0 : Int), e = .returned (Value.int .i64 r0) ∧ R r0 w')

def C_chain_Put (l_ : Slc) (v : T_api_Version) (w : World) (R : Slc → Bool → Int → World → Prop) : Prop :=
  Calls Try.prog 10 #[Value.slice l_.ptr l_.len l_.cap, Value.agg #[Value.int .i64 v.Number, Value.string v.Val, Value.bool v.Drop]] w (fun e w' => ∃ (r0 : Slc) (r1 : Bool) (r2 : Int), e = .returned (Value.tuple #[Value.slice r0.ptr r0.len r0.cap, Value.bool r1, Value.int .i64 r2]) ∧ R r0 r1 r2 w')

def C_chain_Check (l_ : Slc) (w : World) (R : Int → World → Prop) : Prop :=
  Calls Try.prog 11 #[Value.slice l_.ptr l_.len l_.cap] w (fun e w' => ∃ (r0 : Int), e = .returned (Value.int .i64 r0) ∧ R r0 w')

def C_towpathlaw01_SameVersions (a_ : Slc) (b_ : Slc) (w : World) (R : Bool → World → Prop) : Prop :=
  Calls Try.prog 12 #[Value.slice a_.ptr a_.len a_.cap, Value.slice b_.ptr b_.len b_.cap] w (fun e w' => ∃ (r0 : Bool), e = .returned (Value.bool r0) ∧ R r0 w')

def C_chain_At (l_ : Slc) (mark : Int) (w : World) (R : T_api_Version → Bool → Int → World → Prop) : Prop :=
  Calls Try.prog 13 #[Value.slice l_.ptr l_.len l_.cap, Value.int .i64 mark] w (fun e w' => ∃ (r0 : T_api_Version) (r1 : Bool) (r2 : Int), e = .returned (Value.tuple #[Value.agg #[Value.int .i64 r0.Number, Value.string r0.Val, Value.bool r0.Drop], Value.bool r1, Value.int .i64 r2]) ∧ R r0 r1 r2 w')

def C_chain_Collect (l_ : Slc) (least : Int) (w : World) (R : Slc → Int → Int → World → Prop) : Prop :=
  Calls Try.prog 14 #[Value.slice l_.ptr l_.len l_.cap, Value.int .i64 least] w (fun e w' => ∃ (r0 : Slc) (r1 : Int) (r2 : Int), e = .returned (Value.tuple #[Value.slice r0.ptr r0.len r0.cap, Value.int .i64 r1, Value.int .i64 r2]) ∧ R r0 r1 r2 w')

def C_chain_Dump (l_ : Slc) (mark : Int) (beyond : Slc) (w : World) (R : Slc → Int → World → Prop) : Prop :=
  Calls Try.prog 15 #[Value.slice l_.ptr l_.len l_.cap, Value.int .i64 mark, Value.slice beyond.ptr beyond.len beyond.cap] w (fun e w' => ∃ (r0 : Slc) (r1 : Int), e = .returned (Value.tuple #[Value.slice r0.ptr r0.len r0.cap, Value.int .i64 r1]) ∧ R r0 r1 w')

def C_towpathlaw08_list (w : World) (R : Slc → World → Prop) : Prop :=
  Calls Try.prog 16 #[] w (fun e w' => ∃ (r0 : Slc), e = .returned (Value.slice r0.ptr r0.len r0.cap) ∧ R r0 w')

def C_chain_list_upto (l_ : Slc) (at_ : Int) (w : World) (R : Int → World → Prop) : Prop :=
  Calls Try.prog 17 #[Value.slice l_.ptr l_.len l_.cap, Value.int .i64 at_] w (fun e w' => ∃ (r0 : Int), e = .returned (Value.int .i64 r0) ∧ R r0 w')

def C_slices_Clone_api_Version_api_Version (s : Slc) (w : World) (R : Slc → World → Prop) : Prop :=
  Calls Try.prog 18 #[Value.slice s.ptr s.len s.cap] w (fun e w' => ∃ (r0 : Slc), e = .returned (Value.slice r0.ptr r0.len r0.cap) ∧ R r0 w')

def C_slices_Insert_api_Version_api_Version (s : Slc) (i : Int) (v : Slc) (w : World) (R : Slc → World → Prop) : Prop :=
  Calls Try.prog 19 #[Value.slice s.ptr s.len s.cap, Value.int .i64 i, Value.slice v.ptr v.len v.cap] w (fun e w' => ∃ (r0 : Slc), e = .returned (Value.slice r0.ptr r0.len r0.cap) ∧ R r0 w')

def C_slices_Contains_int_int (s : Slc) (v : Int) (w : World) (R : Bool → World → Prop) : Prop :=
  Calls Try.prog 20 #[Value.slice s.ptr s.len s.cap, Value.int .i64 v] w (fun e w' => ∃ (r0 : Bool), e = .returned (Value.bool r0) ∧ R r0 w')

def C_sort_Search (n_ : Int) (f : Value) (w : World) (R : Int → World → Prop) : Prop :=
  Calls Try.prog 21 #[Value.int .i64 n_, f] w (fun e w' => ∃ (r0 : Int), e = .returned (Value.int .i64 r0) ∧ R r0 w')

def C_chain_mark_above (m_ : T_chain_mark) (i : Int) (w : World) (R : Bool → World → Prop) : Prop :=
  Calls Try.prog 22 #[Value.agg #[Value.slice m_.l.ptr m_.l.len m_.l.cap, Value.int .i64 m_.at_], Value.int .i64 i] w (fun e w' => ∃ (r0 : Bool), e = .returned (Value.bool r0) ∧ R r0 w')

def C_slices_rotateRight_api_Version (s : Slc) (r : Int) (w : World) (R : World → Prop) : Prop :=
  Calls Try.prog 24 #[Value.slice s.ptr s.len s.cap, Value.int .i64 r] w (fun e w' => e = .returned (Value.tuple #[]) ∧ R w')

def C_slices_Index_int_int (s : Slc) (v : Int) (w : World) (R : Int → World → Prop) : Prop :=
  Calls Try.prog 25 #[Value.slice s.ptr s.len s.cap, Value.int .i64 v] w (fun e w' => ∃ (r0 : Int), e = .returned (Value.int .i64 r0) ∧ R r0 w')

def C_slices_rotateLeft_api_Version (s : Slc) (r : Int) (w : World) (R : World → Prop) : Prop :=
  Calls Try.prog 26 #[Value.slice s.ptr s.len s.cap, Value.int .i64 r] w (fun e w' => e = .returned (Value.tuple #[]) ∧ R w')

def C_slices_Reverse_api_Version_api_Version (s : Slc) (w : World) (R : World → Prop) : Prop :=
  Calls Try.prog 27 #[Value.slice s.ptr s.len s.cap] w (fun e w' => e = .returned (Value.tuple #[]) ∧ R w')

def F_towpathlaw08_ChainOrders_k2 (i : Int) (again_ : Slc → Slc → Int → World → Prop) (own1 : Slc) (x1 : Slc) (w4 : World) : Prop :=
  again_ own1 x1 (IntKind.i64.wrap (i + 1)) w4

def F_towpathlaw08_ChainOrders_k5 (R : Bool → World → Prop) (i2 : Int) (again_2 : Int → World → Prop) (t140 : Bool) (w16 : World) : Prop :=
  (t140 = true → (R false w16)) ∧
  (t140 = false → (again_2 (IntKind.i64.wrap (i2 + 1)) w16))

def F_towpathlaw08_ChainOrders_L4 (R : Bool → World → Prop) (own : Slc) (x : Slc) (again_2 : Int → World → Prop) (i2 : Int) (w12 : World) : Prop :=
  ((decide (i2 < ((own.len : Nat) : Int))) = true → (IsAt own.ptr ∧ (0 ≤ i2 ∧ i2 < ((own.len : Nat) : Int) ∧ (∃ (v122 : Int), w12.cell? ⟨(pblk own.ptr), (poff own.ptr) + i2.toNat * 3, none⟩ = some (Value.int .i64 v122) ∧ (C_chain_At x v122 w12 (fun (v123 : T_api_Version) (ok2 : Bool) (e2 : Int) w13 => ∀ b_1 w14, b_1 = w13.heap.size → w14 = w13.alloc (Obj.cells ([Value.int .i64 0, Value.string ByteArray.empty, Value.bool false]).toArray ty_api_Version (0, 0)) → (Writable w14 b_1 0 3 ∧ (∀ w15, w15 = World.puts b_1 0 [Value.int .i64 v123.Number, Value.string v123.Val, Value.bool v123.Drop] w14 → ((((e2 != 0) || (!ok2)) = true → (∀ w17, Ext w15 w17 → (F_towpathlaw08_ChainOrders_k5 R i2 again_2 true w17))) ∧
  (((e2 != 0) || (!ok2)) = false → (∃ (v134 : T_api_Version), CellsAt w15 b_1 0 [Value.int .i64 v134.Number, Value.string v134.Val, Value.bool v134.Drop] ∧ (IsAt own.ptr ∧ (0 ≤ i2 ∧ i2 < ((own.len : Nat) : Int) ∧ (∃ (v138 : T_api_Version), CellsAt w15 (pblk own.ptr) ((poff own.ptr) + i2.toNat * 3) [Value.int .i64 v138.Number, Value.string v138.Val, Value.bool v138.Drop] ∧ (∀ w18, Ext w15 w18 → (F_towpathlaw08_ChainOrders_k5 R i2 again_2 (!(((v134.Number == v138.Number) && (v134.Val == v138.Val)) && (v134.Drop == v138.Drop))) w18)))))))))))))))) ∧
  ((decide (i2 < ((own.len : Nat) : Int))) = false → (R true w12))

def F_towpathlaw08_ChainOrders_L3 (turn : Int) (R : Bool → World → Prop) (own : Slc) (x : Slc) (again_1 : Slc → Int → World → Prop) (z : Slc) (i1 : Int) (w9 : World) : Prop :=
  ((decide (i1 < ((own.len : Nat) : Int))) = true → (((own.len : Nat) : Int) ≠ 0 ∧ (IsAt own.ptr ∧ (0 ≤ Int.tmod (IntKind.i64.wrap ((IntKind.i64.wrap ((IntKind.i64.wrap (((own.len : Nat) : Int) - 1)) - i1)) + (IntKind.i64.wrap turn))) ((own.len : Nat) : Int) ∧ Int.tmod (IntKind.i64.wrap ((IntKind.i64.wrap ((IntKind.i64.wrap (((own.len : Nat) : Int) - 1)) - i1)) + (IntKind.i64.wrap turn))) ((own.len : Nat) : Int) < ((own.len : Nat) : Int) ∧ (∃ (v94 : T_api_Version), CellsAt w9 (pblk own.ptr) ((poff own.ptr) + (Int.tmod (IntKind.i64.wrap ((IntKind.i64.wrap ((IntKind.i64.wrap (((own.len : Nat) : Int) - 1)) - i1)) + (IntKind.i64.wrap turn))) ((own.len : Nat) : Int)).toNat * 3) [Value.int .i64 v94.Number, Value.string v94.Val, Value.bool v94.Drop] ∧ (C_chain_Put z v94 w9 (fun (y1 : Slc) (ok1 : Bool) (e1 : Int) w10 => (((e1 != 0) || (!ok1)) = true → (R false w10)) ∧
  (((e1 != 0) || (!ok1)) = false → (again_1 y1 (IntKind.i64.wrap (i1 + 1)) w10))))))))) ∧
  ((decide (i1 < ((own.len : Nat) : Int))) = false → (C_towpathlaw01_SameVersions x z w9 (fun (v108 : Bool) w11 => ((!v108) = true → (R false w11)) ∧
  ((!v108) = false → (∃ (I : Int → World → Prop) (μ : Int → World → Nat), I 0 w11 ∧
  ∀ (i2 : Int) w, I i2 w → F_towpathlaw08_ChainOrders_L4 R own x (fun (i2' : Int) w' => I i2' w' ∧ μ i2' w' < μ i2 w) i2 w)))))

def F_towpathlaw08_ChainOrders_L1 (l_ : Slc) (turn : Int) (R : Bool → World → Prop) (again_ : Slc → Slc → Int → World → Prop) (own : Slc) (x : Slc) (i : Int) (w3 : World) : Prop :=
  ((decide (i < ((l_.len : Nat) : Int))) = true → (IsAt l_.ptr ∧ (0 ≤ i ∧ i < ((l_.len : Nat) : Int) ∧ (∃ (v45 : T_api_Version), CellsAt w3 (pblk l_.ptr) ((poff l_.ptr) + i.toNat * 3) [Value.int .i64 v45.Number, Value.string v45.Val, Value.bool v45.Drop] ∧ (C_chain_Put x v45 w3 (fun (y : Slc) (ok : Bool) (e : Int) w5 => (((e == 0) && ok) = true → (IsAt l_.ptr ∧ (0 ≤ i ∧ i < ((l_.len : Nat) : Int) ∧ (∃ (v60 : T_api_Version), CellsAt w5 (pblk l_.ptr) ((poff l_.ptr) + i.toNat * 3) [Value.int .i64 v60.Number, Value.string v60.Val, Value.bool v60.Drop] ∧ (∀ b_ w6, b_ = w5.heap.size → w6 = w5.alloc (Obj.cells ([Value.int .i64 v60.Number, Value.string v60.Val, Value.bool v60.Drop]).toArray ty_api_Version (0, 0)) → (∃ src, SrcAt w6 (Slc.mk (some ⟨b_, 0, none⟩) 1 1) 3 src ∧ AppendW 3 32 ty_api_Version [Value.int .i64 0, Value.string ByteArray.empty, Value.bool false] own src 1 w6 (fun own2 w7 => F_towpathlaw08_ChainOrders_k2 i again_ own2 y w7))))))) ∧
  (((e == 0) && ok) = false → (F_towpathlaw08_ChainOrders_k2 i again_ own x w5)))))))) ∧
  ((decide (i < ((l_.len : Nat) : Int))) = false → (C_chain_Check x w3 (fun (v64 : Int) w8 => (((v64 != 0) || (((x.len : Nat) : Int) != ((own.len : Nat) : Int))) = true → (R false w8)) ∧
  (((v64 != 0) || (((x.len : Nat) : Int) != ((own.len : Nat) : Int))) = false → (∃ (I : Slc → Int → World → Prop) (μ : Slc → Int → World → Nat), I (Slc.mk none 0 0) 0 w8 ∧
  ∀ (z : Slc) (i1 : Int) w, I z i1 w → F_towpathlaw08_ChainOrders_L3 turn R own x (fun (z' : Slc) (i1' : Int) w' => I z' i1' w' ∧ μ z' i1' w' < μ z i1 w) z i1 w)))))

def F_towpathlaw08_ChainOrders_k0 (l_ : Slc) (turn : Int) (R : Bool → World → Prop) (t32 : Bool) (w1 : World) : Prop :=
  (t32 = true → (C_towpathlaw08_alive w1 (fun (v33 : Bool) w2 => R v33 w2))) ∧
  (t32 = false → (∃ (I : Slc → Slc → Int → World → Prop) (μ : Slc → Slc → Int → World → Nat), I (Slc.mk none 0 0) (Slc.mk none 0 0) 0 w1 ∧
  ∀ (own : Slc) (x : Slc) (i : Int) w, I own x i w → F_towpathlaw08_ChainOrders_L1 l_ turn R (fun (own' : Slc) (x' : Slc) (i' : Int) w' => I own' x' i' w' ∧ μ own' x' i' w' < μ own x i w) own x i w))

def F_towpathlaw08_ChainOrders (l_ : Slc) (turn : Int) (R : Bool → World → Prop) (w : World) : Prop :=
  C_towpathlaw08_alive w (fun (v20 : Bool) w19 => ((!v20) = true → (F_towpathlaw08_ChainOrders_k0 l_ turn R true w19)) ∧
  ((!v20) = false → (C_towpathlaw01_VersionsSize l_ w19 (fun (v24 : Int) w20 => ∀ b_2 w21, b_2 = w20.heap.size → w21 = w20.alloc (Obj.cells ([Value.int .i64 v24]).toArray ty_int (0, 0)) → (C_towpathlaw01_Beyond (Slc.mk (some ⟨b_2, 0, none⟩) 1 1) w21 (fun (v26 : Bool) w22 => F_towpathlaw08_ChainOrders_k0 l_ turn R (v26 || (decide (((l_.len : Nat) : Int) > 60))) w22))))))

def F_towpathlaw08_ChainThins_k3 (i : Int) (again_ : Int → Int → World → Prop) (low1 : Int) (w6 : World) : Prop :=
  again_ low1 (IntKind.i64.wrap (i + 1)) w6

def F_towpathlaw08_ChainThins_k5 (l_ : Slc) (R : Bool → World → Prop) (x : Slc) (at_ : Int) (w9 : World) : Prop :=
  C_chain_At l_ at_ w9 (fun (v106 : T_api_Version) (ok : Bool) (g : Int) w10 => ∀ b_ w11, b_ = w10.heap.size → w11 = w10.alloc (Obj.cells ([Value.int .i64 0, Value.string ByteArray.empty, Value.bool false]).toArray ty_api_Version (0, 0)) → (Writable w11 b_ 0 3 ∧ (∀ w12, w12 = World.puts b_ 0 [Value.int .i64 v106.Number, Value.string v106.Val, Value.bool v106.Drop] w11 → (C_chain_At x at_ w12 (fun (v113 : T_api_Version) (is : Bool) (h_ : Int) w13 => ∀ b_1 w14, b_1 = w13.heap.size → w14 = w13.alloc (Obj.cells ([Value.int .i64 0, Value.string ByteArray.empty, Value.bool false]).toArray ty_api_Version (0, 0)) → (Writable w14 b_1 0 3 ∧ (∀ w15, w15 = World.puts b_1 0 [Value.int .i64 v113.Number, Value.string v113.Val, Value.bool v113.Drop] w14 → (((((g == 0) && (h_ == 0)) && (ok == is)) = true → (∃ (v129 : T_api_Version), CellsAt w15 b_ 0 [Value.int .i64 v129.Number, Value.string v129.Val, Value.bool v129.Drop] ∧ (∃ (v130 : T_api_Version), CellsAt w15 b_1 0 [Value.int .i64 v130.Number, Value.string v130.Val, Value.bool v130.Drop] ∧ (R (((v129.Number == v130.Number) && (v129.Val == v130.Val)) && (v129.Drop == v130.Drop)) w15)))) ∧
  ((((g == 0) && (h_ == 0)) && (ok == is)) = false → (R false w15))))))))))

def F_towpathlaw08_ChainThins_k4 (l_ : Slc) (least : Int) (mark : Int) (R : Bool → World → Prop) (x : Slc) (t96 : Bool) (w8 : World) : Prop :=
  (t96 = true → (R false w8)) ∧
  (t96 = false → (((decide ((IntKind.i64.wrap mark) < least)) = true → (F_towpathlaw08_ChainThins_k5 l_ R x least w8)) ∧
  ((decide ((IntKind.i64.wrap mark) < least)) = false → (F_towpathlaw08_ChainThins_k5 l_ R x (IntKind.i64.wrap mark) w8))))

def F_towpathlaw08_ChainThins_L2 (l_ : Slc) (least : Int) (mark : Int) (R : Bool → World → Prop) (x : Slc) (again_ : Int → Int → World → Prop) (low : Int) (i : Int) (w5 : World) : Prop :=
  ((decide (i < ((x.len : Nat) : Int))) = true → (IsAt x.ptr ∧ (0 ≤ i ∧ i < ((x.len : Nat) : Int) ∧ (∃ (v69 : Int), w5.cell? ⟨(pblk x.ptr), (poff x.ptr) + i.toNat * 3, none⟩ = some (Value.int .i64 v69) ∧ (((decide (v69 ≤ least)) = true → (F_towpathlaw08_ChainThins_k3 i again_ (IntKind.i64.wrap (low + 1)) w5)) ∧
  ((decide (v69 ≤ least)) = false → (F_towpathlaw08_ChainThins_k3 i again_ low w5))))))) ∧
  ((decide (i < ((x.len : Nat) : Int))) = false → (C_chain_Collect x least w5 (fun (again_1 : Slc) (m_ : Int) (f : Int) w7 => ((((decide (low > 1)) || (f != 0)) || (m_ != 0)) = true → (F_towpathlaw08_ChainThins_k4 l_ least mark R x true w7)) ∧
  ((((decide (low > 1)) || (f != 0)) || (m_ != 0)) = false → (C_towpathlaw01_SameVersions again_1 x w7 (fun (v94 : Bool) w16 => F_towpathlaw08_ChainThins_k4 l_ least mark R x (!v94) w16))))))

def F_towpathlaw08_ChainThins_k1 (l_ : Slc) (least : Int) (mark : Int) (R : Bool → World → Prop) (x : Slc) (t58 : Bool) (w4 : World) : Prop :=
  (t58 = true → (R false w4)) ∧
  (t58 = false → (∃ (I : Int → Int → World → Prop) (μ : Int → Int → World → Nat), I 0 0 w4 ∧
  ∀ (low : Int) (i : Int) w, I low i w → F_towpathlaw08_ChainThins_L2 l_ least mark R x (fun (low' : Int) (i' : Int) w' => I low' i' w' ∧ μ low' i' w' < μ low i w) low i w))

def F_towpathlaw08_ChainThins_k0 (l_ : Slc) (least : Int) (mark : Int) (R : Bool → World → Prop) (t34 : Bool) (w1 : World) : Prop :=
  (t34 = true → (C_towpathlaw08_alive w1 (fun (v35 : Bool) w2 => R v35 w2))) ∧
  (t34 = false → (C_chain_Collect l_ least w1 (fun (x : Slc) (n_ : Int) (e : Int) w3 => (((e != 0) || ((IntKind.i64.wrap (((x.len : Nat) : Int) + n_)) != ((l_.len : Nat) : Int))) = true → (F_towpathlaw08_ChainThins_k1 l_ least mark R x true w3)) ∧
  (((e != 0) || ((IntKind.i64.wrap (((x.len : Nat) : Int) + n_)) != ((l_.len : Nat) : Int))) = false → (C_chain_Check x w3 (fun (v56 : Int) w17 => F_towpathlaw08_ChainThins_k1 l_ least mark R x (v56 != 0) w17))))))

def F_towpathlaw08_ChainThins (l_ : Slc) (least : Int) (mark : Int) (R : Bool → World → Prop) (w : World) : Prop :=
  C_towpathlaw08_alive w (fun (v22 : Bool) w18 => ((!v22) = true → (F_towpathlaw08_ChainThins_k0 l_ least mark R true w18)) ∧
  ((!v22) = false → (C_chain_Check l_ w18 (fun (v26 : Int) w19 => ((v26 != 0) = true → (F_towpathlaw08_ChainThins_k0 l_ least mark R true w19)) ∧
  ((v26 != 0) = false → (C_towpathlaw01_VersionsSize l_ w19 (fun (v31 : Int) w20 => ∀ b_2 w21, b_2 = w20.heap.size → w21 = w20.alloc (Obj.cells ([Value.int .i64 v31]).toArray ty_int (0, 0)) → (C_towpathlaw01_Beyond (Slc.mk (some ⟨b_2, 0, none⟩) 1 1) w21 (fun (v33 : Bool) w22 => F_towpathlaw08_ChainThins_k0 l_ least mark R v33 w22)))))))))

def F_towpathlaw08_ChainTwice_k0 (l_ : Slc) (a_ : Int) (b_ : Int) (R : Bool → World → Prop) (t30 : Bool) (w1 : World) : Prop :=
  (t30 = true → (C_towpathlaw08_alive w1 (fun (v31 : Bool) w2 => R v31 w2))) ∧
  (t30 = false → (C_chain_Collect l_ (if (IntKind.i64.wrap b_) < (IntKind.i64.wrap a_) then (IntKind.i64.wrap b_) else (IntKind.i64.wrap a_)) w1 (fun (x : Slc) (n_ : Int) (e : Int) w3 => C_chain_Collect x (if (IntKind.i64.wrap b_) > (IntKind.i64.wrap a_) then (IntKind.i64.wrap b_) else (IntKind.i64.wrap a_)) w3 (fun (y : Slc) (m_ : Int) (f : Int) w4 => C_chain_Collect l_ (if (IntKind.i64.wrap b_) > (IntKind.i64.wrap a_) then (IntKind.i64.wrap b_) else (IntKind.i64.wrap a_)) w4 (fun (z : Slc) (k : Int) (g : Int) w5 => (((((e == 0) && (f == 0)) && (g == 0)) && ((IntKind.i64.wrap (n_ + m_)) == k)) = true → (C_towpathlaw01_SameVersions y z w5 (fun (v83 : Bool) w6 => R v83 w6))) ∧
  (((((e == 0) && (f == 0)) && (g == 0)) && ((IntKind.i64.wrap (n_ + m_)) == k)) = false → (R false w5)))))))

def F_towpathlaw08_ChainTwice (l_ : Slc) (a_ : Int) (b_ : Int) (R : Bool → World → Prop) (w : World) : Prop :=
  C_towpathlaw08_alive w (fun (v18 : Bool) w7 => ((!v18) = true → (F_towpathlaw08_ChainTwice_k0 l_ a_ b_ R true w7)) ∧
  ((!v18) = false → (C_chain_Check l_ w7 (fun (v22 : Int) w8 => ((v22 != 0) = true → (F_towpathlaw08_ChainTwice_k0 l_ a_ b_ R true w8)) ∧
  ((v22 != 0) = false → (C_towpathlaw01_VersionsSize l_ w8 (fun (v27 : Int) w9 => ∀ b_1 w10, b_1 = w9.heap.size → w10 = w9.alloc (Obj.cells ([Value.int .i64 v27]).toArray ty_int (0, 0)) → (C_towpathlaw01_Beyond (Slc.mk (some ⟨b_1, 0, none⟩) 1 1) w10 (fun (v29 : Bool) w11 => F_towpathlaw08_ChainTwice_k0 l_ a_ b_ R v29 w11)))))))))

def F_towpathlaw08_ChainKeeps_k2 (i : Int) (again_ : Slc → Int → Int → World → Prop) (beyond1 : Slc) (last1 : Int) (w4 : World) : Prop :=
  again_ beyond1 last1 (IntKind.i64.wrap (i - 1)) w4

def F_towpathlaw08_ChainKeeps_k3 (l_ : Slc) (beyond : Slc) (last : Int) (i : Int) (again_ : Slc → Int → Int → World → Prop) (t63 : Bool) (w5 : World) : Prop :=
  (t63 = true → (IsAt l_.ptr ∧ (0 ≤ i ∧ i < ((l_.len : Nat) : Int) ∧ (∃ (v69 : Int), w5.cell? ⟨(pblk l_.ptr), (poff l_.ptr) + i.toNat * 3, none⟩ = some (Value.int .i64 v69) ∧ (∀ b_ w6, b_ = w5.heap.size → w6 = w5.alloc (Obj.cells ([Value.int .i64 v69]).toArray ty_int (0, 0)) → (∃ src, SrcAt w6 (Slc.mk (some ⟨b_, 0, none⟩) 1 1) 1 src ∧ AppendW 1 8 ty_int [Value.int .i64 0] beyond src 1 w6 (fun beyond2 w7 => IsAt l_.ptr ∧ (0 ≤ i ∧ i < ((l_.len : Nat) : Int) ∧ (∃ (v76 : Int), w7.cell? ⟨(pblk l_.ptr), (poff l_.ptr) + i.toNat * 3, none⟩ = some (Value.int .i64 v76) ∧ (((decide (v76 > last)) = true → (IsAt l_.ptr ∧ (0 ≤ i ∧ i < ((l_.len : Nat) : Int) ∧ (∃ (last2 : Int), w7.cell? ⟨(pblk l_.ptr), (poff l_.ptr) + i.toNat * 3, none⟩ = some (Value.int .i64 last2) ∧ (F_towpathlaw08_ChainKeeps_k2 i again_ beyond2 last2 w7))))) ∧
  ((decide (v76 > last)) = false → (F_towpathlaw08_ChainKeeps_k2 i again_ beyond2 last w7)))))))))))) ∧
  (t63 = false → (F_towpathlaw08_ChainKeeps_k2 i again_ beyond last w5))

def F_towpathlaw08_ChainKeeps_k6 (mark : Int) (last : Int) (at_ : Int) (again_1 : Int → World → Prop) (w11 : World) : Prop :=
  again_1 (IntKind.i64.wrap (at_ + (if (IntKind.i64.wrap (last - (IntKind.i64.wrap mark))) > 1 then (IntKind.i64.wrap (last - (IntKind.i64.wrap mark))) else 1))) w11

def F_towpathlaw08_ChainKeeps_k8 (mark : Int) (R : Bool → World → Prop) (last : Int) (at_ : Int) (again_1 : Int → World → Prop) (t142 : Bool) (w19 : World) : Prop :=
  (t142 = true → (R false w19)) ∧
  (t142 = false → (F_towpathlaw08_ChainKeeps_k6 mark last at_ again_1 w19))

def F_towpathlaw08_ChainKeeps_k9 (mark : Int) (R : Bool → World → Prop) (last : Int) (at_ : Int) (again_1 : Int → World → Prop) (t149 : Bool) (w20 : World) : Prop :=
  (t149 = true → (R false w20)) ∧
  (t149 = false → (F_towpathlaw08_ChainKeeps_k6 mark last at_ again_1 w20))

def F_towpathlaw08_ChainKeeps_k7 (mark : Int) (R : Bool → World → Prop) (last : Int) (at_ : Int) (again_1 : Int → World → Prop) (b_1 : Nat) (is : Bool) (b_2 : Nat) (t136 : Bool) (w18 : World) : Prop :=
  (t136 = true → ((is = true → (∃ (v140 : Bool), w18.cell? ⟨b_2, 2, none⟩ = some (Value.bool v140) ∧ (F_towpathlaw08_ChainKeeps_k8 mark R last at_ again_1 (!v140) w18))) ∧
  (is = false → (F_towpathlaw08_ChainKeeps_k8 mark R last at_ again_1 false w18)))) ∧
  (t136 = false → (((!is) = true → (F_towpathlaw08_ChainKeeps_k9 mark R last at_ again_1 true w18)) ∧
  ((!is) = false → (∃ (v146 : T_api_Version), CellsAt w18 b_1 0 [Value.int .i64 v146.Number, Value.string v146.Val, Value.bool v146.Drop] ∧ (∃ (v147 : T_api_Version), CellsAt w18 b_2 0 [Value.int .i64 v147.Number, Value.string v147.Val, Value.bool v147.Drop] ∧ (F_towpathlaw08_ChainKeeps_k9 mark R last at_ again_1 (!(((v146.Number == v147.Number) && (v146.Val == v147.Val)) && (v146.Drop == v147.Drop))) w18))))))

def F_towpathlaw08_ChainKeeps_k11 (R : Bool → World → Prop) (i1 : Int) (again_2 : Int → World → Prop) (t174 : Bool) (w22 : World) : Prop :=
  (t174 = true → (R false w22)) ∧
  (t174 = false → (again_2 (IntKind.i64.wrap (i1 + 1)) w22))

def F_towpathlaw08_ChainKeeps_L10 (mark : Int) (R : Bool → World → Prop) (x : Slc) (again_2 : Int → World → Prop) (i1 : Int) (w21 : World) : Prop :=
  ((decide (i1 < ((x.len : Nat) : Int))) = true → (IsAt x.ptr ∧ (0 ≤ i1 ∧ i1 < ((x.len : Nat) : Int) ∧ (∃ (v160 : Int), w21.cell? ⟨(pblk x.ptr), (poff x.ptr) + i1.toNat * 3, none⟩ = some (Value.int .i64 v160) ∧ (((decide (v160 ≤ (IntKind.i64.wrap mark))) = true → (((decide (i1 > 0)) = true → (F_towpathlaw08_ChainKeeps_k11 R i1 again_2 true w21)) ∧
  ((decide (i1 > 0)) = false → (IsAt x.ptr ∧ (0 ≤ i1 ∧ i1 < ((x.len : Nat) : Int) ∧ (∃ (v172 : Bool), w21.cell? ⟨(pblk x.ptr), ((poff x.ptr) + i1.toNat * 3) + 2, none⟩ = some (Value.bool v172) ∧ (F_towpathlaw08_ChainKeeps_k11 R i1 again_2 v172 w21))))))) ∧
  ((decide (v160 ≤ (IntKind.i64.wrap mark))) = false → (F_towpathlaw08_ChainKeeps_k11 R i1 again_2 false w21))))))) ∧
  ((decide (i1 < ((x.len : Nat) : Int))) = false → (R true w21))

def F_towpathlaw08_ChainKeeps_L5 (l_ : Slc) (mark : Int) (R : Bool → World → Prop) (last : Int) (x : Slc) (again_1 : Int → World → Prop) (at_ : Int) (w10 : World) : Prop :=
  ((decide (at_ ≤ last)) = true → (C_chain_At l_ at_ w10 (fun (v114 : T_api_Version) (ok : Bool) (f : Int) w12 => ∀ b_1 w13, b_1 = w12.heap.size → w13 = w12.alloc (Obj.cells ([Value.int .i64 0, Value.string ByteArray.empty, Value.bool false]).toArray ty_api_Version (0, 0)) → (Writable w13 b_1 0 3 ∧ (∀ w14, w14 = World.puts b_1 0 [Value.int .i64 v114.Number, Value.string v114.Val, Value.bool v114.Drop] w13 → (C_chain_At x at_ w14 (fun (v121 : T_api_Version) (is : Bool) (g : Int) w15 => ∀ b_2 w16, b_2 = w15.heap.size → w16 = w15.alloc (Obj.cells ([Value.int .i64 0, Value.string ByteArray.empty, Value.bool false]).toArray ty_api_Version (0, 0)) → (Writable w16 b_2 0 3 ∧ (∀ w17, w17 = World.puts b_2 0 [Value.int .i64 v121.Number, Value.string v121.Val, Value.bool v121.Drop] w16 → ((((f != 0) || (g != 0)) = true → (R false w17)) ∧
  (((f != 0) || (g != 0)) = false → (((!ok) = true → (F_towpathlaw08_ChainKeeps_k7 mark R last at_ again_1 b_1 is b_2 true w17)) ∧
  ((!ok) = false → (∃ (v135 : Bool), w17.cell? ⟨b_1, 2, none⟩ = some (Value.bool v135) ∧ (F_towpathlaw08_ChainKeeps_k7 mark R last at_ again_1 b_1 is b_2 v135 w17))))))))))))))) ∧
  ((decide (at_ ≤ last)) = false → (∃ (I : Int → World → Prop) (μ : Int → World → Nat), I 0 w10 ∧
  ∀ (i1 : Int) w, I i1 w → F_towpathlaw08_ChainKeeps_L10 mark R x (fun (i1' : Int) w' => I i1' w' ∧ μ i1' w' < μ i1 w) i1 w))

def F_towpathlaw08_ChainKeeps_k4 (l_ : Slc) (mark : Int) (R : Bool → World → Prop) (last : Int) (x : Slc) (t98 : Bool) (w9 : World) : Prop :=
  (t98 = true → (R false w9)) ∧
  (t98 = false → (∃ (I : Int → World → Prop) (μ : Int → World → Nat), I (IntKind.i64.wrap mark) w9 ∧
  ∀ (at_ : Int) w, I at_ w → F_towpathlaw08_ChainKeeps_L5 l_ mark R last x (fun (at_' : Int) w' => I at_' w' ∧ μ at_' w' < μ at_ w) at_ w))

def F_towpathlaw08_ChainKeeps_L1 (l_ : Slc) (mark : Int) (more : Int) (R : Bool → World → Prop) (again_ : Slc → Int → Int → World → Prop) (beyond : Slc) (last : Int) (i : Int) (w3 : World) : Prop :=
  ((decide (i ≥ 0)) = true → (IsAt l_.ptr ∧ (0 ≤ i ∧ i < ((l_.len : Nat) : Int) ∧ (∃ (v47 : Int), w3.cell? ⟨(pblk l_.ptr), (poff l_.ptr) + i.toNat * 3, none⟩ = some (Value.int .i64 v47) ∧ (((decide (v47 > (IntKind.i64.wrap mark))) = true → (IsAt l_.ptr ∧ (0 ≤ i ∧ i < ((l_.len : Nat) : Int) ∧ (∃ (v56 : Int), w3.cell? ⟨(pblk l_.ptr), (poff l_.ptr) + i.toNat * 3, none⟩ = some (Value.int .i64 v56) ∧ (F_towpathlaw08_ChainKeeps_k3 l_ beyond last i again_ (decide (v56 ≤ (IntKind.i64.wrap ((IntKind.i64.wrap mark) + (IntKind.i64.wrap more))))) w3))))) ∧
  ((decide (v47 > (IntKind.i64.wrap mark))) = false → (F_towpathlaw08_ChainKeeps_k3 l_ beyond last i again_ false w3))))))) ∧
  ((decide (i ≥ 0)) = false → (C_chain_Dump l_ (IntKind.i64.wrap mark) beyond w3 (fun (x : Slc) (e : Int) w8 => ((e != 0) = true → (F_towpathlaw08_ChainKeeps_k4 l_ mark R last x true w8)) ∧
  ((e != 0) = false → (C_chain_Check x w8 (fun (v96 : Int) w23 => F_towpathlaw08_ChainKeeps_k4 l_ mark R last x (v96 != 0) w23))))))

def F_towpathlaw08_ChainKeeps_k0 (l_ : Slc) (mark : Int) (more : Int) (R : Bool → World → Prop) (t32 : Bool) (w1 : World) : Prop :=
  (t32 = true → (C_towpathlaw08_alive w1 (fun (v33 : Bool) w2 => R v33 w2))) ∧
  (t32 = false → (∃ (I : Slc → Int → Int → World → Prop) (μ : Slc → Int → Int → World → Nat), I (Slc.mk none 0 0) (IntKind.i64.wrap mark) (IntKind.i64.wrap (((l_.len : Nat) : Int) - 1)) w1 ∧
  ∀ (beyond : Slc) (last : Int) (i : Int) w, I beyond last i w → F_towpathlaw08_ChainKeeps_L1 l_ mark more R (fun (beyond' : Slc) (last' : Int) (i' : Int) w' => I beyond' last' i' w' ∧ μ beyond' last' i' w' < μ beyond last i w) beyond last i w))

def F_towpathlaw08_ChainKeeps (l_ : Slc) (mark : Int) (more : Int) (R : Bool → World → Prop) (w : World) : Prop :=
  C_towpathlaw08_alive w (fun (v20 : Bool) w24 => ((!v20) = true → (F_towpathlaw08_ChainKeeps_k0 l_ mark more R true w24)) ∧
  ((!v20) = false → (C_chain_Check l_ w24 (fun (v24 : Int) w25 => ((v24 != 0) = true → (F_towpathlaw08_ChainKeeps_k0 l_ mark more R true w25)) ∧
  ((v24 != 0) = false → (C_towpathlaw01_VersionsSize l_ w25 (fun (v29 : Int) w26 => ∀ b_3 w27, b_3 = w26.heap.size → w27 = w26.alloc (Obj.cells ([Value.int .i64 v29]).toArray ty_int (0, 0)) → (C_towpathlaw01_Beyond (Slc.mk (some ⟨b_3, 0, none⟩) 1 1) w27 (fun (v31 : Bool) w28 => F_towpathlaw08_ChainKeeps_k0 l_ mark more R v31 w28)))))))))

def F_towpathlaw08_alive (R : Bool → World → Prop) (w : World) : Prop :=
  C_towpathlaw08_list w (fun (v14 : Slc) w1 => C_chain_Put v14 (T_api_Version.mk 5 (ByteArray.mk #[122]) false) w1 (fun (l_ : Slc) (ok : Bool) (e : Int) w2 => C_towpathlaw08_list w2 (fun (v21 : Slc) w3 => C_chain_Put v21 (T_api_Version.mk 4 (ByteArray.mk #[122]) false) w3 (fun (v23 : Slc) (no : Bool) (f : Int) w4 => C_towpathlaw08_list w4 (fun (v28 : Slc) w5 => C_chain_At v28 3 w5 (fun (v29 : T_api_Version) (is : Bool) (g : Int) w6 => ∀ b_ w7, b_ = w6.heap.size → w7 = w6.alloc (Obj.cells ([Value.int .i64 0, Value.string ByteArray.empty, Value.bool false]).toArray ty_api_Version (0, 0)) → (Writable w7 b_ 0 3 ∧ (∀ w8, w8 = World.puts b_ 0 [Value.int .i64 v29.Number, Value.string v29.Val, Value.bool v29.Drop] w7 → (C_towpathlaw08_list w8 (fun (v34 : Slc) w9 => C_chain_Collect v34 9 w9 (fun (x : Slc) (n_ : Int) (h_ : Int) w10 => ((((((((ok && (!no)) && is) && (e == 0)) && (f == 0)) && (g == 0)) && (h_ == 0)) && (((l_.len : Nat) : Int) == 4)) = true → (IsAt l_.ptr ∧ (0 ≤ (2 : Int) ∧ (2 : Int) < ((l_.len : Nat) : Int) ∧ (∃ (v72 : ByteArray), w10.cell? ⟨(pblk l_.ptr), (poff l_.ptr) + 7, none⟩ = some (Value.string v72) ∧ (((v72.toList == (ByteArray.mk #[122]).toList) = true → (∃ (v77 : ByteArray), w10.cell? ⟨b_, 1, none⟩ = some (Value.string v77) ∧ (((((v77.toList == (ByteArray.mk #[120]).toList) && (n_ == 2)) && (((x.len : Nat) : Int) == 1)) = true → (∀ b_1 w11, b_1 = w10.heap.size → w11 = w10.alloc (Obj.cells ([Value.int .i64 0, Value.string ByteArray.empty, Value.bool false]).toArray ty_api_Version (0, 0)) → (C_chain_Check (Slc.mk (some ⟨b_1, 0, none⟩) 1 1) w11 (fun (v92 : Int) w12 => R (v92 == 1) w12)))) ∧
  ((((v77.toList == (ByteArray.mk #[120]).toList) && (n_ == 2)) && (((x.len : Nat) : Int) == 1)) = false → (R false w10))))) ∧
  ((v72.toList == (ByteArray.mk #[122]).toList) = false → (R false w10))))))) ∧
  ((((((((ok && (!no)) && is) && (e == 0)) && (f == 0)) && (g == 0)) && (h_ == 0)) && (((l_.len : Nat) : Int) == 4)) = false → (R false w10)))))))))))))

def F_towpathlaw01_Beyond_L0 (l_ : Slc) (R : Bool → World → Prop) (again_ : Int → Int → World → Prop) (n_ : Int) (i : Int) (w1 : World) : Prop :=
  ((decide (i < ((l_.len : Nat) : Int))) = true → (IsAt l_.ptr ∧ (0 ≤ i ∧ i < ((l_.len : Nat) : Int) ∧ (∃ (v15 : Int), w1.cell? ⟨(pblk l_.ptr), (poff l_.ptr) + i.toNat, none⟩ = some (Value.int .i64 v15) ∧ (((decide ((IntKind.i64.wrap (n_ + v15)) > 1048576)) = true → (R true w1)) ∧
  ((decide ((IntKind.i64.wrap (n_ + v15)) > 1048576)) = false → (again_ (IntKind.i64.wrap (n_ + v15)) (IntKind.i64.wrap (i + 1)) w1))))))) ∧
  ((decide (i < ((l_.len : Nat) : Int))) = false → (R false w1))

def F_towpathlaw01_Beyond (l_ : Slc) (R : Bool → World → Prop) (w : World) : Prop :=
  ∃ (I : Int → Int → World → Prop) (μ : Int → Int → World → Nat), I 0 0 w ∧
  ∀ (n_ : Int) (i : Int) w, I n_ i w → F_towpathlaw01_Beyond_L0 l_ R (fun (n_' : Int) (i' : Int) w' => I n_' i' w' ∧ μ n_' i' w' < μ n_ i w) n_ i w

def F_towpathlaw01_VersionsSize_L0 (l_ : Slc) (R : Int → World → Prop) (again_ : Int → Int → World → Prop) (n_ : Int) (i : Int) (w1 : World) : Prop :=
  (((decide (i < ((l_.len : Nat) : Int))) && (decide (n_ ≤ 1048576))) = true → (IsAt l_.ptr ∧ (0 ≤ i ∧ i < ((l_.len : Nat) : Int) ∧ (∃ (v22 : ByteArray), w1.cell? ⟨(pblk l_.ptr), ((poff l_.ptr) + i.toNat * 3) + 1, none⟩ = some (Value.string v22) ∧ (again_ (IntKind.i64.wrap (n_ + ((v22.size : Nat) : Int))) (IntKind.i64.wrap (i + 1)) w1))))) ∧
  (((decide (i < ((l_.len : Nat) : Int))) && (decide (n_ ≤ 1048576))) = false → (R n_ w1))

def F_towpathlaw01_VersionsSize (l_ : Slc) (R : Int → World → Prop) (w : World) : Prop :=
  ∃ (I : Int → Int → World → Prop) (μ : Int → Int → World → Nat), I ((l_.len : Nat) : Int) 0 w ∧
  ∀ (n_ : Int) (i : Int) w, I n_ i w → F_towpathlaw01_VersionsSize_L0 l_ R (fun (n_' : Int) (i' : Int) w' => I n_' i' w' ∧ μ n_' i' w' < μ n_ i w) n_ i w

def F_chain_Put_k1 (l_ : Slc) (R : Slc → Bool → Int → World → Prop) (b_ : Nat) (v20 : Int) (t33 : Bool) (w4 : World) : Prop :=
  (t33 = true → (C_slices_Clone_api_Version_api_Version l_ w4 (fun (v35 : Slc) w5 => R v35 false 0 w5))) ∧
  (t33 = false → (∀ w6, (∃ k, w6 = w4.drewN k) → (∃ (v39 : T_api_Version), CellsAt w6 b_ 0 [Value.int .i64 v39.Number, Value.string v39.Val, Value.bool v39.Drop] ∧ ((C_slices_Clone_api_Version_api_Version l_ w6 (fun (v37 : Slc) w7 => CellsAt w7 b_ 0 [Value.int .i64 v39.Number, Value.string v39.Val, Value.bool v39.Drop] ∧ (∀ b_1 w8, b_1 = w7.heap.size → w8 = w7.alloc (Obj.cells ([Value.int .i64 v39.Number, Value.string v39.Val, Value.bool v39.Drop]).toArray ty_api_Version (0, 0)) → ((C_slices_Insert_api_Version_api_Version v37 v20 (Slc.mk (some ⟨b_1, 0, none⟩) 1 1) w8 (fun (v41 : Slc) w9 => (R v41 true 0 w9))))))) ∧
  (∀ b_2 w10, b_2 = w6.heap.size → w10 = w6.alloc (Obj.cells ([Value.int .i64 v39.Number, Value.string v39.Val, Value.bool v39.Drop]).toArray ty_api_Version (0, 0)) → ((C_slices_Clone_api_Version_api_Version l_ w10 (fun (v371 : Slc) w11 => (C_slices_Insert_api_Version_api_Version v371 v20 (Slc.mk (some ⟨b_2, 0, none⟩) 1 1) w11 (fun (v411 : Slc) w12 => (R v411 true 0 w12)))))))))))

def F_chain_Put_k0 (l_ : Slc) (R : Slc → Bool → Int → World → Prop) (b_ : Nat) (t16 : Bool) (w2 : World) : Prop :=
  (t16 = true → (R (Slc.mk none 0 0) false 1 w2)) ∧
  (t16 = false → (∃ (v19 : Int), w2.cell? ⟨b_, 0, none⟩ = some (Value.int .i64 v19) ∧ (C_chain_list_upto l_ v19 w2 (fun (v20 : Int) w3 => ((decide (v20 > 0)) = true → (IsAt l_.ptr ∧ (0 ≤ IntKind.i64.wrap (v20 - 1) ∧ IntKind.i64.wrap (v20 - 1) < ((l_.len : Nat) : Int) ∧ (∃ (v29 : Int), w3.cell? ⟨(pblk l_.ptr), (poff l_.ptr) + (IntKind.i64.wrap (v20 - 1)).toNat * 3, none⟩ = some (Value.int .i64 v29) ∧ (∃ (v31 : Int), w3.cell? ⟨b_, 0, none⟩ = some (Value.int .i64 v31) ∧ (∀ w13, Ext w3 w13 → (F_chain_Put_k1 l_ R b_ v20 (v29 == v31) w13))))))) ∧
  ((decide (v20 > 0)) = false → (∀ w14, Ext w3 w14 → (F_chain_Put_k1 l_ R b_ v20 false w14)))))))

def F_chain_Put (l_ : Slc) (v : T_api_Version) (R : Slc → Bool → Int → World → Prop) (w : World) : Prop :=
  ∀ b_ w1, b_ = w.heap.size → w1 = w.alloc (Obj.cells ([Value.int .i64 v.Number, Value.string v.Val, Value.bool v.Drop]).toArray ty_api_Version (0, 0)) → (C_chain_Check l_ w1 (fun (v9 : Int) w15 => ((v9 != 0) = true → (F_chain_Put_k0 l_ R b_ true w15)) ∧
  ((v9 != 0) = false → (∃ (v12 : T_api_Version), CellsAt w15 b_ 0 [Value.int .i64 v12.Number, Value.string v12.Val, Value.bool v12.Drop] ∧ (∀ b_3 w16, b_3 = w15.heap.size → w16 = w15.alloc (Obj.cells ([Value.int .i64 v12.Number, Value.string v12.Val, Value.bool v12.Drop]).toArray ty_api_Version (0, 0)) → (C_chain_Check (Slc.mk (some ⟨b_3, 0, none⟩) 1 1) w16 (fun (v14 : Int) w17 => F_chain_Put_k0 l_ R b_ (v14 != 0) w17)))))))

def F_chain_Check_k1 (R : Int → World → Prop) (t7 : Int) (again_ : Int → World → Prop) (t49 : Bool) (w4 : World) : Prop :=
  (t49 = true → (R 1 w4)) ∧
  (t49 = false → (again_ (IntKind.i64.wrap (t7 + 1)) w4))

def F_chain_Check_L0 (l_ : Slc) (R : Int → World → Prop) (again_ : Int → World → Prop) (t7 : Int) (w1 : World) : Prop :=
  ((decide (t7 < ((l_.len : Nat) : Int))) = true → (IsAt l_.ptr ∧ (0 ≤ t7 ∧ t7 < ((l_.len : Nat) : Int) ∧ (∃ (v11 : T_api_Version), CellsAt w1 (pblk l_.ptr) ((poff l_.ptr) + t7.toNat * 3) [Value.int .i64 v11.Number, Value.string v11.Val, Value.bool v11.Drop] ∧ (∀ b_ w2, b_ = w1.heap.size → w2 = w1.alloc (Obj.cells ([Value.int .i64 0, Value.string ByteArray.empty, Value.bool false]).toArray ty_api_Version (0, 0)) → (Writable w2 b_ 0 3 ∧ (∀ w3, w3 = World.puts b_ 0 [Value.int .i64 v11.Number, Value.string v11.Val, Value.bool v11.Drop] w2 → (∃ (v13 : Int), w3.cell? ⟨b_, 0, none⟩ = some (Value.int .i64 v13) ∧ (((decide (v13 < 1)) = true → (∀ w5, Ext w3 w5 → (F_chain_Check_k1 R t7 again_ true w5))) ∧
  ((decide (v13 < 1)) = false → (∃ (v17 : Int), w3.cell? ⟨b_, 0, none⟩ = some (Value.int .i64 v17) ∧ (((decide (v17 > 65536)) = true → (∀ w6, Ext w3 w6 → (F_chain_Check_k1 R t7 again_ true w6))) ∧
  ((decide (v17 > 65536)) = false → (∃ (v22 : ByteArray), w3.cell? ⟨b_, 1, none⟩ = some (Value.string v22) ∧ (((decide (((v22.size : Nat) : Int) > 1024)) = true → (∀ w7, Ext w3 w7 → (F_chain_Check_k1 R t7 again_ true w7))) ∧
  ((decide (((v22.size : Nat) : Int) > 1024)) = false → (∃ (v28 : Bool), w3.cell? ⟨b_, 2, none⟩ = some (Value.bool v28) ∧ ((v28 = true → (∃ (v31 : ByteArray), w3.cell? ⟨b_, 1, none⟩ = some (Value.string v31) ∧ (((!(v31.toList == ByteArray.empty.toList)) = true → (∀ w8, Ext w3 w8 → (F_chain_Check_k1 R t7 again_ true w8))) ∧
  ((!(v31.toList == ByteArray.empty.toList)) = false → (((decide (t7 > 0)) = true → (IsAt l_.ptr ∧ (0 ≤ IntKind.i64.wrap (t7 - 1) ∧ IntKind.i64.wrap (t7 - 1) < ((l_.len : Nat) : Int) ∧ (∃ (v44 : Int), w3.cell? ⟨(pblk l_.ptr), (poff l_.ptr) + (IntKind.i64.wrap (t7 - 1)).toNat * 3, none⟩ = some (Value.int .i64 v44) ∧ (∃ (v46 : Int), w3.cell? ⟨b_, 0, none⟩ = some (Value.int .i64 v46) ∧ (∀ w9, Ext w3 w9 → (F_chain_Check_k1 R t7 again_ (decide (v44 ≥ v46)) w9))))))) ∧
  ((decide (t7 > 0)) = false → (∀ w10, Ext w3 w10 → (F_chain_Check_k1 R t7 again_ false w10)))))))) ∧
  (v28 = false → (((decide (t7 > 0)) = true → (IsAt l_.ptr ∧ (0 ≤ IntKind.i64.wrap (t7 - 1) ∧ IntKind.i64.wrap (t7 - 1) < ((l_.len : Nat) : Int) ∧ (∃ (v441 : Int), w3.cell? ⟨(pblk l_.ptr), (poff l_.ptr) + (IntKind.i64.wrap (t7 - 1)).toNat * 3, none⟩ = some (Value.int .i64 v441) ∧ (∃ (v461 : Int), w3.cell? ⟨b_, 0, none⟩ = some (Value.int .i64 v461) ∧ (∀ w11, Ext w3 w11 → (F_chain_Check_k1 R t7 again_ (decide (v441 ≥ v461)) w11))))))) ∧
  ((decide (t7 > 0)) = false → (∀ w12, Ext w3 w12 → (F_chain_Check_k1 R t7 again_ false w12))))))))))))))))))))))) ∧
  ((decide (t7 < ((l_.len : Nat) : Int))) = false → (R 0 w1))

def F_chain_Check (l_ : Slc) (R : Int → World → Prop) (w : World) : Prop :=
  ∃ (I : Int → World → Prop) (μ : Int → World → Nat), I 0 w ∧
  ∀ (t7 : Int) w, I t7 w → F_chain_Check_L0 l_ R (fun (t7' : Int) w' => I t7' w' ∧ μ t7' w' < μ t7 w) t7 w

def F_towpathlaw01_SameVersions_L0 (a_ : Slc) (b_ : Slc) (R : Bool → World → Prop) (again_ : Int → World → Prop) (i : Int) (w1 : World) : Prop :=
  ((decide (i < ((a_.len : Nat) : Int))) = true → (IsAt a_.ptr ∧ (0 ≤ i ∧ i < ((a_.len : Nat) : Int) ∧ (∃ (v20 : T_api_Version), CellsAt w1 (pblk a_.ptr) ((poff a_.ptr) + i.toNat * 3) [Value.int .i64 v20.Number, Value.string v20.Val, Value.bool v20.Drop] ∧ (IsAt b_.ptr ∧ (0 ≤ i ∧ i < ((b_.len : Nat) : Int) ∧ (∃ (v24 : T_api_Version), CellsAt w1 (pblk b_.ptr) ((poff b_.ptr) + i.toNat * 3) [Value.int .i64 v24.Number, Value.string v24.Val, Value.bool v24.Drop] ∧ (∀ w2, Ext w1 w2 → (((!(((v20.Number == v24.Number) && (v20.Val == v24.Val)) && (v20.Drop == v24.Drop))) = true → (R false w2)) ∧
  ((!(((v20.Number == v24.Number) && (v20.Val == v24.Val)) && (v20.Drop == v24.Drop))) = false → (again_ (IntKind.i64.wrap (i + 1)) w2))))))))))) ∧
  ((decide (i < ((a_.len : Nat) : Int))) = false → (R true w1))

def F_towpathlaw01_SameVersions (a_ : Slc) (b_ : Slc) (R : Bool → World → Prop) (w : World) : Prop :=
  ((((a_.len : Nat) : Int) != ((b_.len : Nat) : Int)) = true → (R false w)) ∧
  ((((a_.len : Nat) : Int) != ((b_.len : Nat) : Int)) = false → (∃ (I : Int → World → Prop) (μ : Int → World → Nat), I 0 w ∧
  ∀ (i : Int) w, I i w → F_towpathlaw01_SameVersions_L0 a_ b_ R (fun (i' : Int) w' => I i' w' ∧ μ i' w' < μ i w) i w))

def F_chain_At (l_ : Slc) (mark : Int) (R : T_api_Version → Bool → Int → World → Prop) (w : World) : Prop :=
  ∀ b_ w1, b_ = w.heap.size → w1 = w.alloc (Obj.cells ([Value.int .i64 0, Value.string ByteArray.empty, Value.bool false]).toArray ty_api_Version (0, 0)) → (C_chain_Check l_ w1 (fun (v10 : Int) w2 => ((v10 != 0) = true → (Writable w2 b_ 0 3 ∧ (∀ w3, w3 = World.puts b_ 0 [Value.int .i64 0, Value.string ByteArray.empty, Value.bool false] w2 → (∃ (res : T_api_Version), CellsAt w3 b_ 0 [Value.int .i64 res.Number, Value.string res.Val, Value.bool res.Drop] ∧ (R res false v10 w3))))) ∧
  ((v10 != 0) = false → (C_chain_list_upto l_ mark w2 (fun (v17 : Int) w4 => ((v17 == 0) = true → (Writable w4 b_ 0 3 ∧ (∀ w5, w5 = World.puts b_ 0 [Value.int .i64 0, Value.string ByteArray.empty, Value.bool false] w4 → (∃ (res1 : T_api_Version), CellsAt w5 b_ 0 [Value.int .i64 res1.Number, Value.string res1.Val, Value.bool res1.Drop] ∧ (R res1 false 0 w5))))) ∧
  ((v17 == 0) = false → (IsAt l_.ptr ∧ (0 ≤ IntKind.i64.wrap (v17 - 1) ∧ IntKind.i64.wrap (v17 - 1) < ((l_.len : Nat) : Int) ∧ (∃ (v25 : T_api_Version), CellsAt w4 (pblk l_.ptr) ((poff l_.ptr) + (IntKind.i64.wrap (v17 - 1)).toNat * 3) [Value.int .i64 v25.Number, Value.string v25.Val, Value.bool v25.Drop] ∧ (Writable w4 b_ 0 3 ∧ (∀ w6, w6 = World.puts b_ 0 [Value.int .i64 v25.Number, Value.string v25.Val, Value.bool v25.Drop] w4 → (∃ (res2 : T_api_Version), CellsAt w6 b_ 0 [Value.int .i64 res2.Number, Value.string res2.Val, Value.bool res2.Drop] ∧ (R res2 true 0 w6)))))))))))))

def F_chain_Collect (l_ : Slc) (least : Int) (R : Slc → Int → Int → World → Prop) (w : World) : Prop :=
  C_chain_Check l_ w (fun (v11 : Int) w1 => ((v11 != 0) = true → (R (Slc.mk none 0 0) 0 v11 w1)) ∧
  ((v11 != 0) = false → (C_chain_list_upto l_ least w1 (fun (v17 : Int) w2 => C_slices_Clone_api_Version_api_Version l_ w2 (fun (v21 : Slc) w3 => (0 ≤ (if (IntKind.i64.wrap (v17 - 1)) > 0 then (IntKind.i64.wrap (v17 - 1)) else 0) ∧ (if (IntKind.i64.wrap (v17 - 1)) > 0 then (IntKind.i64.wrap (v17 - 1)) else 0) ≤ ((v21.len : Nat) : Int) ∧ ((v21.len : Nat) : Int) ≤ ((v21.len : Nat) : Int) ∧ ((v21.len : Nat) : Int) ≤ ((v21.cap : Nat) : Int)) ∧ (∀ s, s = Slc.cut 3 v21 (if (IntKind.i64.wrap (v17 - 1)) > 0 then (IntKind.i64.wrap (v17 - 1)) else 0) ((v21.len : Nat) : Int) ((v21.len : Nat) : Int) → (R s (if (IntKind.i64.wrap (v17 - 1)) > 0 then (IntKind.i64.wrap (v17 - 1)) else 0) 0 w3)))))))

def F_chain_Dump_k2 (t44 : Int) (again_ : Slc → Int → World → Prop) (out2 : Slc) (w5 : World) : Prop :=
  again_ out2 (IntKind.i64.wrap (t44 + 1)) w5

def F_chain_Dump_L1 (beyond : Slc) (R : Slc → Int → World → Prop) (s : Slc) (again_ : Slc → Int → World → Prop) (out1 : Slc) (t44 : Int) (w4 : World) : Prop :=
  ((decide (t44 < ((s.len : Nat) : Int))) = true → (IsAt s.ptr ∧ (0 ≤ t44 ∧ t44 < ((s.len : Nat) : Int) ∧ (∃ (v47 : T_api_Version), CellsAt w4 (pblk s.ptr) ((poff s.ptr) + t44.toNat * 3) [Value.int .i64 v47.Number, Value.string v47.Val, Value.bool v47.Drop] ∧ (∀ b_ w6, b_ = w4.heap.size → w6 = w4.alloc (Obj.cells ([Value.int .i64 0, Value.string ByteArray.empty, Value.bool false]).toArray ty_api_Version (0, 0)) → (Writable w6 b_ 0 3 ∧ (∀ w7, w7 = World.puts b_ 0 [Value.int .i64 v47.Number, Value.string v47.Val, Value.bool v47.Drop] w6 → (∃ (v50 : Int), w7.cell? ⟨b_, 0, none⟩ = some (Value.int .i64 v50) ∧ (C_slices_Contains_int_int beyond v50 w7 (fun (v51 : Bool) w8 => (v51 = true → (∃ (v53 : T_api_Version), CellsAt w8 b_ 0 [Value.int .i64 v53.Number, Value.string v53.Val, Value.bool v53.Drop] ∧ (∀ b_1 w9, b_1 = w8.heap.size → w9 = w8.alloc (Obj.cells ([Value.int .i64 v53.Number, Value.string v53.Val, Value.bool v53.Drop]).toArray ty_api_Version (0, 0)) → (∃ src, SrcAt w9 (Slc.mk (some ⟨b_1, 0, none⟩) 1 1) 3 src ∧ AppendW 3 32 ty_api_Version [Value.int .i64 0, Value.string ByteArray.empty, Value.bool false] out1 src 1 w9 (fun out3 w10 => F_chain_Dump_k2 t44 again_ out3 w10))))) ∧
  (v51 = false → (F_chain_Dump_k2 t44 again_ out1 w8)))))))))))) ∧
  ((decide (t44 < ((s.len : Nat) : Int))) = false → (R out1 0 w4))

def F_chain_Dump_k0 (l_ : Slc) (beyond : Slc) (R : Slc → Int → World → Prop) (v20 : Int) (out : Slc) (w3 : World) : Prop :=
  (0 ≤ v20 ∧ v20 ≤ ((l_.len : Nat) : Int) ∧ ((l_.len : Nat) : Int) ≤ ((l_.cap : Nat) : Int) ∧ ((l_.cap : Nat) : Int) ≤ ((l_.cap : Nat) : Int)) ∧ (∀ s, s = Slc.cut 3 l_ v20 ((l_.len : Nat) : Int) ((l_.cap : Nat) : Int) → (∃ (I : Slc → Int → World → Prop) (μ : Slc → Int → World → Nat), I out 0 w3 ∧
  ∀ (out1 : Slc) (t44 : Int) w, I out1 t44 w → F_chain_Dump_L1 beyond R s (fun (out1' : Slc) (t44' : Int) w' => I out1' t44' w' ∧ μ out1' t44' w' < μ out1 t44 w) out1 t44 w))

def F_chain_Dump_k3 (l_ : Slc) (beyond : Slc) (R : Slc → Int → World → Prop) (v20 : Int) (t31 : Bool) (w11 : World) : Prop :=
  (t31 = true → (IsAt l_.ptr ∧ (0 ≤ IntKind.i64.wrap (v20 - 1) ∧ IntKind.i64.wrap (v20 - 1) < ((l_.len : Nat) : Int) ∧ (∃ (v37 : T_api_Version), CellsAt w11 (pblk l_.ptr) ((poff l_.ptr) + (IntKind.i64.wrap (v20 - 1)).toNat * 3) [Value.int .i64 v37.Number, Value.string v37.Val, Value.bool v37.Drop] ∧ (∀ b_2 w12, b_2 = w11.heap.size → w12 = w11.alloc (Obj.cells ([Value.int .i64 v37.Number, Value.string v37.Val, Value.bool v37.Drop]).toArray ty_api_Version (0, 0)) → (∃ src, SrcAt w12 (Slc.mk (some ⟨b_2, 0, none⟩) 1 1) 3 src ∧ AppendW 3 32 ty_api_Version [Value.int .i64 0, Value.string ByteArray.empty, Value.bool false] (Slc.mk none 0 0) src 1 w12 (fun out4 w13 => F_chain_Dump_k0 l_ beyond R v20 out4 w13))))))) ∧
  (t31 = false → (F_chain_Dump_k0 l_ beyond R v20 (Slc.mk none 0 0) w11))

def F_chain_Dump (l_ : Slc) (mark : Int) (beyond : Slc) (R : Slc → Int → World → Prop) (w : World) : Prop :=
  C_chain_Check l_ w (fun (v14 : Int) w1 => ((v14 != 0) = true → (R (Slc.mk none 0 0) v14 w1)) ∧
  ((v14 != 0) = false → (C_chain_list_upto l_ mark w1 (fun (v20 : Int) w2 => ((decide (v20 > 0)) = true → (IsAt l_.ptr ∧ (0 ≤ IntKind.i64.wrap (v20 - 1) ∧ IntKind.i64.wrap (v20 - 1) < ((l_.len : Nat) : Int) ∧ (∃ (v29 : Bool), w2.cell? ⟨(pblk l_.ptr), ((poff l_.ptr) + (IntKind.i64.wrap (v20 - 1)).toNat * 3) + 2, none⟩ = some (Value.bool v29) ∧ (F_chain_Dump_k3 l_ beyond R v20 (!v29) w2))))) ∧
  ((decide (v20 > 0)) = false → (F_chain_Dump_k3 l_ beyond R v20 false w2))))))

def F_towpathlaw08_list (R : Slc → World → Prop) (w : World) : Prop :=
  ∀ b_ w1, b_ = w.heap.size → w1 = w.alloc (Obj.cells ([Value.int .i64 2, Value.string (ByteArray.mk #[120]), Value.bool false, Value.int .i64 4, Value.string ByteArray.empty, Value.bool true, Value.int .i64 6, Value.string (ByteArray.mk #[121]), Value.bool false]).toArray ty_api_Version (0, 0)) → (R (Slc.mk (some ⟨b_, 0, none⟩) 3 3) w1)

def F_chain_list_upto (l_ : Slc) (at_ : Int) (R : Int → World → Prop) (w : World) : Prop :=
  C_sort_Search ((l_.len : Nat) : Int) (Value.func (.func 22) #[Value.agg #[Value.slice l_.ptr l_.len l_.cap, Value.int .i64 at_]] #[]) w (fun (v11 : Int) w1 => R v11 w1)

def F_slices_Clone_api_Version_api_Version (s : Slc) (R : Slc → World → Prop) (w : World) : Prop :=
  (s.ptr.isNone = true → (R (Slc.mk none 0 0) w)) ∧
  (s.ptr.isNone = false → (∀ b_ w1, b_ = w.heap.size → w1 = w.alloc (Obj.cells ([]).toArray ty_api_Version (0, 0)) → (∃ src, SrcAt w1 s 3 src ∧ AppendW 3 32 ty_api_Version [Value.int .i64 0, Value.string ByteArray.empty, Value.bool false] (Slc.mk (some ⟨b_, 0, none⟩) 0 0) src s.len w1 (fun v7 w2 => R v7 w2))))

def F_slices_Insert_api_Version_api_Version (s : Slc) (i : Int) (v : Slc) (R : Slc → World → Prop) (w : World) : Prop :=
  (0 ≤ i ∧ i ≤ ((s.len : Nat) : Int) ∧ ((s.len : Nat) : Int) ≤ ((s.cap : Nat) : Int) ∧ ((s.cap : Nat) : Int) ≤ ((s.cap : Nat) : Int)) ∧ (∀ s1, s1 = Slc.cut 3 s i ((s.len : Nat) : Int) ((s.cap : Nat) : Int) → (((((v.len : Nat) : Int) == 0) = true → (R s w)) ∧
  ((((v.len : Nat) : Int) == 0) = false → (((i == ((s.len : Nat) : Int)) = true → (∃ src, SrcAt w v 3 src ∧ AppendW 3 32 ty_api_Version [Value.int .i64 0, Value.string ByteArray.empty, Value.bool false] s src v.len w (fun v25 w1 => R v25 w1))) ∧
  ((i == ((s.len : Nat) : Int)) = false → (((decide ((IntKind.i64.wrap (((s.len : Nat) : Int) + ((v.len : Nat) : Int))) > ((s.cap : Nat) : Int))) = true → (0 ≤ i ∧ i ≤ ((s.cap : Nat) : Int) ∧ (0 ≤ IntKind.i64.wrap ((IntKind.i64.wrap (((s.len : Nat) : Int) + ((v.len : Nat) : Int))) - i) ∧ IntKind.i64.wrap ((IntKind.i64.wrap (((s.len : Nat) : Int) + ((v.len : Nat) : Int))) - i) * (32 : Int) ≤ 281474976710656 ∧ AppendW 3 32 ty_api_Version [Value.int .i64 0, Value.string ByteArray.empty, Value.bool false] (Slc.mk s.ptr i.toNat s.cap) (repCells ((IntKind.i64.wrap ((IntKind.i64.wrap (((s.len : Nat) : Int) + ((v.len : Nat) : Int))) - i)).toNat) [Value.int .i64 0, Value.string ByteArray.empty, Value.bool false]).toList ((IntKind.i64.wrap ((IntKind.i64.wrap (((s.len : Nat) : Int) + ((v.len : Nat) : Int))) - i)).toNat) w (fun s2 w2 => (0 ≤ i ∧ i ≤ ((s2.len : Nat) : Int) ∧ ((s2.len : Nat) : Int) ≤ ((s2.cap : Nat) : Int) ∧ ((s2.cap : Nat) : Int) ≤ ((s2.cap : Nat) : Int)) ∧ (∀ s3, s3 = Slc.cut 3 s2 i ((s2.len : Nat) : Int) ((s2.cap : Nat) : Int) → (∃ src, SrcAtN w2 v (min v.len s3.len) 3 src ∧ CopyW s3 src w2 (fun w3 => ∀ w4, (∃ k, w4 = w3.drewN k) → ((0 ≤ IntKind.i64.wrap (i + ((v.len : Nat) : Int)) ∧ IntKind.i64.wrap (i + ((v.len : Nat) : Int)) ≤ ((s2.len : Nat) : Int) ∧ ((s2.len : Nat) : Int) ≤ ((s2.cap : Nat) : Int) ∧ ((s2.cap : Nat) : Int) ≤ ((s2.cap : Nat) : Int)) ∧ (∀ s4, s4 = Slc.cut 3 s2 (IntKind.i64.wrap (i + ((v.len : Nat) : Int))) ((s2.len : Nat) : Int) ((s2.cap : Nat) : Int) → ((0 ≤ i ∧ i ≤ ((s.len : Nat) : Int) ∧ ((s.len : Nat) : Int) ≤ ((s.cap : Nat) : Int) ∧ ((s.cap : Nat) : Int) ≤ ((s.cap : Nat) : Int)) ∧ (∀ s5, s5 = Slc.cut 3 s i ((s.len : Nat) : Int) ((s.cap : Nat) : Int) → (∃ src, SrcAtN w4 s5 (min s5.len s4.len) 3 src ∧ CopyW s4 src w4 (fun w5 => R s2 w5))))))))))))) ∧
  ((decide ((IntKind.i64.wrap (((s.len : Nat) : Int) + ((v.len : Nat) : Int))) > ((s.cap : Nat) : Int))) = false → (0 ≤ IntKind.i64.wrap (((s.len : Nat) : Int) + ((v.len : Nat) : Int)) ∧ IntKind.i64.wrap (((s.len : Nat) : Int) + ((v.len : Nat) : Int)) ≤ ((s.cap : Nat) : Int) ∧ ((0 ≤ IntKind.i64.wrap (i + ((v.len : Nat) : Int)) ∧ IntKind.i64.wrap (i + ((v.len : Nat) : Int)) ≤ (((IntKind.i64.wrap (((s.len : Nat) : Int) + ((v.len : Nat) : Int))).toNat : Nat) : Int) ∧ (((IntKind.i64.wrap (((s.len : Nat) : Int) + ((v.len : Nat) : Int))).toNat : Nat) : Int) ≤ ((s.cap : Nat) : Int) ∧ ((s.cap : Nat) : Int) ≤ ((s.cap : Nat) : Int)) ∧ (∀ s6, s6 = Slc.cut 3 (Slc.mk s.ptr ((IntKind.i64.wrap (((s.len : Nat) : Int) + ((v.len : Nat) : Int))).toNat) s.cap) (IntKind.i64.wrap (i + ((v.len : Nat) : Int))) (((IntKind.i64.wrap (((s.len : Nat) : Int) + ((v.len : Nat) : Int))).toNat : Nat) : Int) ((s.cap : Nat) : Int) → (OvApart w v s6 ∧ (((!false) = true → (∀ w6, (∃ k, w6 = w.drewN k) → ((0 ≤ IntKind.i64.wrap (i + ((v.len : Nat) : Int)) ∧ IntKind.i64.wrap (i + ((v.len : Nat) : Int)) ≤ (((IntKind.i64.wrap (((s.len : Nat) : Int) + ((v.len : Nat) : Int))).toNat : Nat) : Int) ∧ (((IntKind.i64.wrap (((s.len : Nat) : Int) + ((v.len : Nat) : Int))).toNat : Nat) : Int) ≤ ((s.cap : Nat) : Int) ∧ ((s.cap : Nat) : Int) ≤ ((s.cap : Nat) : Int)) ∧ (∀ s7, s7 = Slc.cut 3 (Slc.mk s.ptr ((IntKind.i64.wrap (((s.len : Nat) : Int) + ((v.len : Nat) : Int))).toNat) s.cap) (IntKind.i64.wrap (i + ((v.len : Nat) : Int))) (((IntKind.i64.wrap (((s.len : Nat) : Int) + ((v.len : Nat) : Int))).toNat : Nat) : Int) ((s.cap : Nat) : Int) → ((0 ≤ i ∧ i ≤ (((IntKind.i64.wrap (((s.len : Nat) : Int) + ((v.len : Nat) : Int))).toNat : Nat) : Int) ∧ (((IntKind.i64.wrap (((s.len : Nat) : Int) + ((v.len : Nat) : Int))).toNat : Nat) : Int) ≤ ((s.cap : Nat) : Int) ∧ ((s.cap : Nat) : Int) ≤ ((s.cap : Nat) : Int)) ∧ (∀ s8, s8 = Slc.cut 3 (Slc.mk s.ptr ((IntKind.i64.wrap (((s.len : Nat) : Int) + ((v.len : Nat) : Int))).toNat) s.cap) i (((IntKind.i64.wrap (((s.len : Nat) : Int) + ((v.len : Nat) : Int))).toNat : Nat) : Int) ((s.cap : Nat) : Int) → (∃ src, SrcAtN w6 s8 (min s8.len s7.len) 3 src ∧ CopyW s7 src w6 (fun w7 => (0 ≤ i ∧ i ≤ (((IntKind.i64.wrap (((s.len : Nat) : Int) + ((v.len : Nat) : Int))).toNat : Nat) : Int) ∧ (((IntKind.i64.wrap (((s.len : Nat) : Int) + ((v.len : Nat) : Int))).toNat : Nat) : Int) ≤ ((s.cap : Nat) : Int) ∧ ((s.cap : Nat) : Int) ≤ ((s.cap : Nat) : Int)) ∧ (∀ s9, s9 = Slc.cut 3 (Slc.mk s.ptr ((IntKind.i64.wrap (((s.len : Nat) : Int) + ((v.len : Nat) : Int))).toNat) s.cap) i (((IntKind.i64.wrap (((s.len : Nat) : Int) + ((v.len : Nat) : Int))).toNat : Nat) : Int) ((s.cap : Nat) : Int) → (∃ src, SrcAtN w7 v (min v.len s9.len) 3 src ∧ CopyW s9 src w7 (fun w8 => R (Slc.mk s.ptr ((IntKind.i64.wrap (((s.len : Nat) : Int) + ((v.len : Nat) : Int))).toNat) s.cap) w8))))))))))) ∧
  ((!false) = false → ((0 ≤ ((s.len : Nat) : Int) ∧ ((s.len : Nat) : Int) ≤ (((IntKind.i64.wrap (((s.len : Nat) : Int) + ((v.len : Nat) : Int))).toNat : Nat) : Int) ∧ (((IntKind.i64.wrap (((s.len : Nat) : Int) + ((v.len : Nat) : Int))).toNat : Nat) : Int) ≤ ((s.cap : Nat) : Int) ∧ ((s.cap : Nat) : Int) ≤ ((s.cap : Nat) : Int)) ∧ (∀ s10, s10 = Slc.cut 3 (Slc.mk s.ptr ((IntKind.i64.wrap (((s.len : Nat) : Int) + ((v.len : Nat) : Int))).toNat) s.cap) ((s.len : Nat) : Int) (((IntKind.i64.wrap (((s.len : Nat) : Int) + ((v.len : Nat) : Int))).toNat : Nat) : Int) ((s.cap : Nat) : Int) → (∃ src, SrcAtN w v (min v.len s10.len) 3 src ∧ CopyW s10 src w (fun w9 => (0 ≤ i ∧ i ≤ (((IntKind.i64.wrap (((s.len : Nat) : Int) + ((v.len : Nat) : Int))).toNat : Nat) : Int) ∧ (((IntKind.i64.wrap (((s.len : Nat) : Int) + ((v.len : Nat) : Int))).toNat : Nat) : Int) ≤ ((s.cap : Nat) : Int) ∧ ((s.cap : Nat) : Int) ≤ ((s.cap : Nat) : Int)) ∧ (∀ s11, s11 = Slc.cut 3 (Slc.mk s.ptr ((IntKind.i64.wrap (((s.len : Nat) : Int) + ((v.len : Nat) : Int))).toNat) s.cap) i (((IntKind.i64.wrap (((s.len : Nat) : Int) + ((v.len : Nat) : Int))).toNat : Nat) : Int) ((s.cap : Nat) : Int) → (C_slices_rotateRight_api_Version s11 ((v.len : Nat) : Int) w9 (fun w10 => R (Slc.mk s.ptr ((IntKind.i64.wrap (((s.len : Nat) : Int) + ((v.len : Nat) : Int))).toNat) s.cap) w10))))))))))))))))))))

def F_slices_Contains_int_int (s : Slc) (v : Int) (R : Bool → World → Prop) (w : World) : Prop :=
  C_slices_Index_int_int s v w (fun (v7 : Int) w1 => R (decide (v7 ≥ 0)) w1)

def F_sort_Search_L0 (f : Value) (R : Int → World → Prop) (again_ : Int → Int → World → Prop) (i : Int) (j : Int) (w1 : World) : Prop :=
  ((decide (i < j)) = true → (CallsV (P := Try.prog) f #[Value.int .i64 (IntKind.i64.wrap (Int.fdiv (IntKind.u64.wrap (IntKind.i64.wrap (i + j))) (2 ^ 1)))] w1 (fun e' w2 => ∃ (v20 : Bool), e' = Ending.returned (Value.bool v20) ∧ (((!v20) = true → (again_ (IntKind.i64.wrap ((IntKind.i64.wrap (Int.fdiv (IntKind.u64.wrap (IntKind.i64.wrap (i + j))) (2 ^ 1))) + 1)) j w2)) ∧
  ((!v20) = false → (again_ i (IntKind.i64.wrap (Int.fdiv (IntKind.u64.wrap (IntKind.i64.wrap (i + j))) (2 ^ 1))) w2)))))) ∧
  ((decide (i < j)) = false → (R i w1))

def F_sort_Search (n_ : Int) (f : Value) (R : Int → World → Prop) (w : World) : Prop :=
  ∃ (I : Int → Int → World → Prop) (μ : Int → Int → World → Nat), I 0 n_ w ∧
  ∀ (i : Int) (j : Int) w, I i j w → F_sort_Search_L0 f R (fun (i' : Int) (j' : Int) w' => I i' j' w' ∧ μ i' j' w' < μ i j w) i j w

def F_chain_mark_above (m_ : T_chain_mark) (i : Int) (R : Bool → World → Prop) (w : World) : Prop :=
  ∀ b_ w1, b_ = w.heap.size → w1 = w.alloc (Obj.cells ([Value.slice m_.l.ptr m_.l.len m_.l.cap, Value.int .i64 m_.at_]).toArray ty_chain_mark (0, 0)) → (∃ (v6 : Slc), w1.cell? ⟨b_, 0, none⟩ = some (Value.slice v6.ptr v6.len v6.cap) ∧ (IsAt v6.ptr ∧ (0 ≤ i ∧ i < ((v6.len : Nat) : Int) ∧ (∃ (v10 : Int), w1.cell? ⟨(pblk v6.ptr), (poff v6.ptr) + i.toNat * 3, none⟩ = some (Value.int .i64 v10) ∧ (∃ (v12 : Int), w1.cell? ⟨b_, 1, none⟩ = some (Value.int .i64 v12) ∧ (∀ w2, Ext w1 w2 → (R (decide (v10 > v12)) w2)))))))

def F_slices_rotateRight_api_Version (s : Slc) (r : Int) (R : World → Prop) (w : World) : Prop :=
  C_slices_rotateLeft_api_Version s (IntKind.i64.wrap (((s.len : Nat) : Int) - r)) w (fun w1 => R w1)

def F_slices_Index_int_int_L0 (s : Slc) (v : Int) (R : Int → World → Prop) (again_ : Int → World → Prop) (t8 : Int) (w1 : World) : Prop :=
  ((decide (t8 < ((s.len : Nat) : Int))) = true → (IsAt s.ptr ∧ (0 ≤ t8 ∧ t8 < ((s.len : Nat) : Int) ∧ (∃ (v15 : Int), w1.cell? ⟨(pblk s.ptr), (poff s.ptr) + t8.toNat, none⟩ = some (Value.int .i64 v15) ∧ (((v == v15) = true → (R t8 w1)) ∧
  ((v == v15) = false → (again_ (IntKind.i64.wrap (t8 + 1)) w1))))))) ∧
  ((decide (t8 < ((s.len : Nat) : Int))) = false → (R (-1) w1))

def F_slices_Index_int_int (s : Slc) (v : Int) (R : Int → World → Prop) (w : World) : Prop :=
  ∃ (I : Int → World → Prop) (μ : Int → World → Nat), I 0 w ∧
  ∀ (t8 : Int) w, I t8 w → F_slices_Index_int_int_L0 s v R (fun (t8' : Int) w' => I t8' w' ∧ μ t8' w' < μ t8 w) t8 w

def F_slices_rotateLeft_api_Version (s : Slc) (r : Int) (R : World → Prop) (w : World) : Prop :=
  0 ≤ r ∧ r ≤ ((s.cap : Nat) : Int) ∧ (C_slices_Reverse_api_Version_api_Version (Slc.mk s.ptr r.toNat s.cap) w (fun w1 => (0 ≤ r ∧ r ≤ ((s.len : Nat) : Int) ∧ ((s.len : Nat) : Int) ≤ ((s.cap : Nat) : Int) ∧ ((s.cap : Nat) : Int) ≤ ((s.cap : Nat) : Int)) ∧ (∀ s1, s1 = Slc.cut 3 s r ((s.len : Nat) : Int) ((s.cap : Nat) : Int) → (C_slices_Reverse_api_Version_api_Version s1 w1 (fun w2 => C_slices_Reverse_api_Version_api_Version s w2 (fun w3 => R w3))))))

def F_slices_Reverse_api_Version_api_Version_L0 (s : Slc) (R : World → Prop) (again_ : Int → Int → World → Prop) (i : Int) (j : Int) (w1 : World) : Prop :=
  ((decide (i < j)) = true → (∀ w2, (∃ k, w2 = w1.drewN k) → (IsAt s.ptr ∧ (0 ≤ j ∧ j < ((s.len : Nat) : Int) ∧ (∃ (v21 : T_api_Version), CellsAt w2 (pblk s.ptr) ((poff s.ptr) + j.toNat * 3) [Value.int .i64 v21.Number, Value.string v21.Val, Value.bool v21.Drop] ∧ (IsAt s.ptr ∧ (0 ≤ i ∧ i < ((s.len : Nat) : Int) ∧ (∃ (v25 : T_api_Version), CellsAt w2 (pblk s.ptr) ((poff s.ptr) + i.toNat * 3) [Value.int .i64 v25.Number, Value.string v25.Val, Value.bool v25.Drop] ∧ (IsAt s.ptr ∧ (0 ≤ i ∧ i < ((s.len : Nat) : Int) ∧ (Writable w2 (pblk s.ptr) ((poff s.ptr) + i.toNat * 3) 3 ∧ (∀ w3, w3 = World.puts (pblk s.ptr) ((poff s.ptr) + i.toNat * 3) [Value.int .i64 v21.Number, Value.string v21.Val, Value.bool v21.Drop] w2 → ((IsAt s.ptr ∧ (0 ≤ j ∧ j < ((s.len : Nat) : Int) ∧ (Writable w3 (pblk s.ptr) ((poff s.ptr) + j.toNat * 3) 3 ∧ (∀ w4, w4 = World.puts (pblk s.ptr) ((poff s.ptr) + j.toNat * 3) [Value.int .i64 v25.Number, Value.string v25.Val, Value.bool v25.Drop] w3 → ((again_ (IntKind.i64.wrap (i + 1)) (IntKind.i64.wrap (j - 1)) w4))))))))))))))))))) ∧
  ((decide (i < j)) = false → (R w1))

def F_slices_Reverse_api_Version_api_Version (s : Slc) (R : World → Prop) (w : World) : Prop :=
  ∃ (I : Int → Int → World → Prop) (μ : Int → Int → World → Nat), I 0 (IntKind.i64.wrap (((s.len : Nat) : Int) - 1)) w ∧
  ∀ (i : Int) (j : Int) w, I i j w → F_slices_Reverse_api_Version_api_Version_L0 s R (fun (i' : Int) (j' : Int) w' => I i' j' w' ∧ μ i' j' w' < μ i j w) i j w

def Ok_T_api_Version (w : World) (x : T_api_Version) : Prop := ((-9223372036854775808) ≤ x.Number ∧ x.Number ≤ 9223372036854775807) ∧ (x.Val.size ≤ 140737488351232) ∧ True

end Go.Proofs.Ytcgfmkpddhhmgaa
