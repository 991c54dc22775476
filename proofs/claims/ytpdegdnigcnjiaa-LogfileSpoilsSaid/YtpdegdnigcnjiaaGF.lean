/- WRITTEN BY PROGRAM (dec.py): for each Go function the clean formula F, the call's contract C, and the proof S that F gives C. -/
import Derived.Test.YtpdegdnigcnjiaaRows
import Derived.Test.YtpdegdnigcnjiaaCore
namespace Go.Proofs.Ytpdegdnigcnjiaa
open Go
set_option linter.unusedVariables false


abbrev ty_int : TypeId := 3

abbrev ty_uint8 : TypeId := 5

abbrev ty_string : TypeId := 9

abbrev ty_sl_uint8 : TypeId := 22

abbrev ty_api_Errno : TypeId := 29

abbrev ty_sl_api_Txn : TypeId := 37

abbrev ty_api_Txn : TypeId := 49

abbrev ty_ptr_codec_Reader : TypeId := 82

abbrev ty_uint64 : TypeId := 86

abbrev ty_api_Write : TypeId := 102

abbrev ty_ptr_api_Errno : TypeId := 110

abbrev ty_codec_Reader : TypeId := 135

abbrev ty_codec_Writer : TypeId := 142

abbrev ty_256_uint32 : TypeId := 154

structure T_api_Txn where
  Number : Int
  Writes : Slc

structure T_api_Write where
  Key : ByteArray
  Val : ByteArray
  Drop : Bool

def C_towpathlaw06_LogfileSpoils (l_ : Slc) (at_ : Int) (other : Int) (w : World) (R : Bool → World → Prop) : Prop :=
  Calls Try.prog 6 #[Value.slice l_.ptr l_.len l_.cap, Value.int .u32 at_, Value.int .u8 other] w (fun e w' => ∃ (r0 : Bool), e = .returned (Value.bool r0) ∧ R r0 w')

def C_towpathlaw01_Beyond (l_ : Slc) (w : World) (R : Bool → World → Prop) : Prop :=
  Calls Try.prog 10 #[Value.slice l_.ptr l_.len l_.cap] w (fun e w' => ∃ (r0 : Bool), e = .returned (Value.bool r0) ∧ R r0 w')

def C_towpathlaw06_alive (w : World) (R : Bool → World → Prop) : Prop :=
  Calls Try.prog 15 #[] w (fun e w' => ∃ (r0 : Bool), e = .returned (Value.bool r0) ∧ R r0 w')

def C_towpathlaw01_TxnsSize (l_ : Slc) (w : World) (R : Int → World → Prop) : Prop :=
  Calls Try.prog 16 #[Value.slice l_.ptr l_.len l_.cap] w (fun e w' => ∃ (r0 : Int), e = .returned (Value.int .i64 r0) ∧ R r0 w')

def C_logfile_Encode (l_ : Slc) (w : World) (R : Slc → Int → World → Prop) : Prop :=
  Calls Try.prog 17 #[Value.slice l_.ptr l_.len l_.cap] w (fun e w' => ∃ (r0 : Slc) (r1 : Int), e = .returned (Value.tuple #[Value.slice r0.ptr r0.len r0.cap, Value.int .i64 r1]) ∧ R r0 r1 w')

def C_logfile_Check (l_ : Slc) (w : World) (R : Int → World → Prop) : Prop :=
  Calls Try.prog 18 #[Value.slice l_.ptr l_.len l_.cap] w (fun e w' => ∃ (r0 : Int), e = .returned (Value.int .i64 r0) ∧ R r0 w')

def C_logfile_Read (b_ : Slc) (w : World) (R : Slc → Int → Int → World → Prop) : Prop :=
  Calls Try.prog 19 #[Value.slice b_.ptr b_.len b_.cap] w (fun e w' => ∃ (r0 : Slc) (r1 : Int) (r2 : Int), e = .returned (Value.tuple #[Value.slice r0.ptr r0.len r0.cap, Value.int .i64 r1, Value.int .i64 r2]) ∧ R r0 r1 r2 w')

def C_towpathlaw01_SameTxns (a_ : Slc) (b_ : Slc) (w : World) (R : Bool → World → Prop) : Prop :=
  Calls Try.prog 20 #[Value.slice a_.ptr a_.len a_.cap, Value.slice b_.ptr b_.len b_.cap] w (fun e w' => ∃ (r0 : Bool), e = .returned (Value.bool r0) ∧ R r0 w')

def C_record_Check (t_ : T_api_Txn) (w : World) (R : Int → World → Prop) : Prop :=
  Calls Try.prog 22 #[Value.agg #[Value.int .i64 t_.Number, Value.slice t_.Writes.ptr t_.Writes.len t_.Writes.cap]] w (fun e w' => ∃ (r0 : Int), e = .returned (Value.int .i64 r0) ∧ R r0 w')

def C_towpathlaw01_SameTxn (a_ : T_api_Txn) (b_ : T_api_Txn) (w : World) (R : Bool → World → Prop) : Prop :=
  Calls Try.prog 23 #[Value.agg #[Value.int .i64 a_.Number, Value.slice a_.Writes.ptr a_.Writes.len a_.Writes.cap], Value.agg #[Value.int .i64 b_.Number, Value.slice b_.Writes.ptr b_.Writes.len b_.Writes.cap]] w (fun e w' => ∃ (r0 : Bool), e = .returned (Value.bool r0) ∧ R r0 w')

def C_codec_NewReader (b_ : Slc) (w : World) (R : Option Addr → World → Prop) : Prop :=
  Calls Try.prog 37 #[Value.slice b_.ptr b_.len b_.cap] w (fun e w' => ∃ (r0 : Option Addr), e = .returned (Value.pointer r0) ∧ R r0 w')

def C_codec_Reader_Left (r : Option Addr) (w : World) (R : Int → World → Prop) : Prop :=
  Calls Try.prog 39 #[Value.pointer r] w (fun e w' => ∃ (r0 : Int), e = .returned (Value.int .i64 r0) ∧ R r0 w')

def C_codec_Reader_End (r : Option Addr) (w : World) (R : Int → World → Prop) : Prop :=
  Calls Try.prog 40 #[Value.pointer r] w (fun e w' => ∃ (r0 : Int), e = .returned (Value.int .i64 r0) ∧ R r0 w')

def C_codec_Reader_Var (r : Option Addr) (w : World) (R : Int → World → Prop) : Prop :=
  Calls Try.prog 42 #[Value.pointer r] w (fun e w' => ∃ (r0 : Int), e = .returned (Value.int .u64 r0) ∧ R r0 w')

def C_codec_Reader_Fixed (r : Option Addr) (width : Int) (w : World) (R : Int → World → Prop) : Prop :=
  Calls Try.prog 44 #[Value.pointer r, Value.int .i64 width] w (fun e w' => ∃ (r0 : Int), e = .returned (Value.int .u64 r0) ∧ R r0 w')

def C_codec_Reader_Text (r : Option Addr) (most : Int) (w : World) (R : ByteArray → World → Prop) : Prop :=
  Calls Try.prog 45 #[Value.pointer r, Value.int .i64 most] w (fun e w' => ∃ (r0 : ByteArray), e = .returned (Value.string r0) ∧ R r0 w')

def C_codec_NewWriter (w : World) (R : Option Addr → World → Prop) : Prop :=
  Calls Try.prog 46 #[] w (fun e w' => ∃ (r0 : Option Addr), e = .returned (Value.pointer r0) ∧ R r0 w')

def C_codec_Writer_Var (w_ : Option Addr) (n_ : Int) (w : World) (R : World → Prop) : Prop :=
  Calls Try.prog 47 #[Value.pointer w_, Value.int .u64 n_] w (fun e w' => e = .returned (Value.tuple #[]) ∧ R w')

def C_codec_Writer_Text (w_ : Option Addr) (s : ByteArray) (w : World) (R : World → Prop) : Prop :=
  Calls Try.prog 48 #[Value.pointer w_, Value.string s] w (fun e w' => e = .returned (Value.tuple #[]) ∧ R w')

def C_codec_Writer_Fixed (w_ : Option Addr) (n_ : Int) (width : Int) (w : World) (R : Int → World → Prop) : Prop :=
  Calls Try.prog 49 #[Value.pointer w_, Value.int .u64 n_, Value.int .i64 width] w (fun e w' => ∃ (r0 : Int), e = .returned (Value.int .i64 r0) ∧ R r0 w')

def C_codec_Writer_Done (w_ : Option Addr) (w : World) (R : Slc → World → Prop) : Prop :=
  Calls Try.prog 50 #[Value.pointer w_] w (fun e w' => ∃ (r0 : Slc), e = .returned (Value.slice r0.ptr r0.len r0.cap) ∧ R r0 w')

def C_towpathlaw01_TxnSize (t_ : T_api_Txn) (w : World) (R : Int → World → Prop) : Prop :=
  Calls Try.prog 52 #[Value.agg #[Value.int .i64 t_.Number, Value.slice t_.Writes.ptr t_.Writes.len t_.Writes.cap]] w (fun e w' => ∃ (r0 : Int), e = .returned (Value.int .i64 r0) ∧ R r0 w')

def C_record_Encode (t_ : T_api_Txn) (w : World) (R : Slc → Int → World → Prop) : Prop :=
  Calls Try.prog 53 #[Value.agg #[Value.int .i64 t_.Number, Value.slice t_.Writes.ptr t_.Writes.len t_.Writes.cap]] w (fun e w' => ∃ (r0 : Slc) (r1 : Int), e = .returned (Value.tuple #[Value.slice r0.ptr r0.len r0.cap, Value.int .i64 r1]) ∧ R r0 r1 w')

def C_sum_CRC (b_ : Slc) (w : World) (R : Int → World → Prop) : Prop :=
  Calls Try.prog 54 #[Value.slice b_.ptr b_.len b_.cap] w (fun e w' => ∃ (r0 : Int), e = .returned (Value.int .u32 r0) ∧ R r0 w')

def C_logfile_turns (w : World) (R : Value → World → Prop) : Prop :=
  Calls Try.prog 55 #[] w (fun e w' => ∃ (r0 : Value), e = .returned (r0) ∧ R r0 w')

def C_logfile_records (b_ : Slc) (e : Option Addr) (w : World) (R : Value → World → Prop) : Prop :=
  Calls Try.prog 56 #[Value.slice b_.ptr b_.len b_.cap, Value.pointer e] w (fun e w' => ∃ (r0 : Value), e = .returned (r0) ∧ R r0 w')

def C_record_Check_1 (w_ : T_api_Write) (w : World) (R : Bool → World → Prop) : Prop :=
  Calls Try.prog 57 #[Value.agg #[Value.string w_.Key, Value.string w_.Val, Value.bool w_.Drop]] w (fun e w' => ∃ (r0 : Bool), e = .returned (Value.bool r0) ∧ R r0 w')

def C_slices_ContainsFunc_api_Write_api_Write (s : Slc) (f : Value) (w : World) (R : Bool → World → Prop) : Prop :=
  Calls Try.prog 58 #[Value.slice s.ptr s.len s.cap, f] w (fun e w' => ∃ (r0 : Bool), e = .returned (Value.bool r0) ∧ R r0 w')

def C_towpathlaw01_SameWrites (a_ : Slc) (b_ : Slc) (w : World) (R : Bool → World → Prop) : Prop :=
  Calls Try.prog 59 #[Value.slice a_.ptr a_.len a_.cap, Value.slice b_.ptr b_.len b_.cap] w (fun e w' => ∃ (r0 : Bool), e = .returned (Value.bool r0) ∧ R r0 w')

def C_slices_Clone_byte_byte (s : Slc) (w : World) (R : Slc → World → Prop) : Prop :=
  Calls Try.prog 71 #[Value.slice s.ptr s.len s.cap] w (fun e w' => ∃ (r0 : Slc), e = .returned (Value.slice r0.ptr r0.len r0.cap) ∧ R r0 w')

def C_codec_Reader_take (r : Option Addr) (next : Value) (w : World) (R : Bool → World → Prop) : Prop :=
  Calls Try.prog 72 #[Value.pointer r, next] w (fun e w' => ∃ (r0 : Bool), e = .returned (Value.bool r0) ∧ R r0 w')

def C_codec_Reader_Var_1 (b_ : Slc) (t1 : Option Addr) (w : World) (R : Int → Int → World → Prop) : Prop :=
  Calls Try.prog 73 #[Value.slice b_.ptr b_.len b_.cap, Value.pointer t1] w (fun e w' => ∃ (r0 : Int) (r1 : Int), e = .returned (Value.tuple #[Value.int .i64 r0, Value.int .i64 r1]) ∧ R r0 r1 w')

def C_codec_short (b_ : Slc) (w : World) (R : Int → Int → Int → World → Prop) : Prop :=
  Calls Try.prog 74 #[Value.slice b_.ptr b_.len b_.cap] w (fun e w' => ∃ (r0 : Int) (r1 : Int) (r2 : Int), e = .returned (Value.tuple #[Value.int .u64 r0, Value.int .i64 r1, Value.int .i64 r2]) ∧ R r0 r1 r2 w')

def C_codec_Reader_Fixed_1 (b_ : Slc) (t1 : Option Addr) (t2 : Option Addr) (w : World) (R : Int → Int → World → Prop) : Prop :=
  Calls Try.prog 75 #[Value.slice b_.ptr b_.len b_.cap, Value.pointer t1, Value.pointer t2] w (fun e w' => ∃ (r0 : Int) (r1 : Int), e = .returned (Value.tuple #[Value.int .i64 r0, Value.int .i64 r1]) ∧ R r0 r1 w')

def C_codec_Reader_Text_1 (b_ : Slc) (t1 : Option Addr) (t2 : Option Addr) (w : World) (R : Int → Int → World → Prop) : Prop :=
  Calls Try.prog 76 #[Value.slice b_.ptr b_.len b_.cap, Value.pointer t1, Value.pointer t2] w (fun e w' => ∃ (r0 : Int) (r1 : Int), e = .returned (Value.tuple #[Value.int .i64 r0, Value.int .i64 r1]) ∧ R r0 r1 w')

def C_codec_Writer_gone (w_ : Option Addr) (w : World) (R : Bool → World → Prop) : Prop :=
  Calls Try.prog 77 #[Value.pointer w_] w (fun e w' => ∃ (r0 : Bool), e = .returned (Value.bool r0) ∧ R r0 w')

def C_towpathlaw01_WritesSize (l_ : Slc) (w : World) (R : Int → World → Prop) : Prop :=
  Calls Try.prog 80 #[Value.slice l_.ptr l_.len l_.cap] w (fun e w' => ∃ (r0 : Int), e = .returned (Value.int .i64 r0) ∧ R r0 w')

def C_sum_More (sum : Int) (b_ : Slc) (w : World) (R : Int → World → Prop) : Prop :=
  Calls Try.prog 81 #[Value.int .u32 sum, Value.slice b_.ptr b_.len b_.cap] w (fun e w' => ∃ (r0 : Int), e = .returned (Value.int .u32 r0) ∧ R r0 w')

def C_logfile_turns_1 (t_ : T_api_Txn) (t1 : Option Addr) (w : World) (R : Int → World → Prop) : Prop :=
  Calls Try.prog 82 #[Value.agg #[Value.int .i64 t_.Number, Value.slice t_.Writes.ptr t_.Writes.len t_.Writes.cap], Value.pointer t1] w (fun e w' => ∃ (r0 : Int), e = .returned (Value.int .i64 r0) ∧ R r0 w')

def C_logfile_records_1 (yield : Value) (t1 : Option Addr) (t2 : Option Addr) (w : World) (R : World → Prop) : Prop :=
  Calls Try.prog 83 #[yield, Value.pointer t1, Value.pointer t2] w (fun e w' => e = .returned (Value.tuple #[]) ∧ R w')

def C_record_Decode (b_ : Slc) (w : World) (R : T_api_Txn → Int → World → Prop) : Prop :=
  Calls Try.prog 84 #[Value.slice b_.ptr b_.len b_.cap] w (fun e w' => ∃ (r0 : T_api_Txn) (r1 : Int), e = .returned (Value.tuple #[Value.agg #[Value.int .i64 r0.Number, Value.slice r0.Writes.ptr r0.Writes.len r0.Writes.cap], Value.int .i64 r1]) ∧ R r0 r1 w')

def C_slices_IndexFunc_api_Write_api_Write (s : Slc) (f : Value) (w : World) (R : Int → World → Prop) : Prop :=
  Calls Try.prog 85 #[Value.slice s.ptr s.len s.cap, f] w (fun e w' => ∃ (r0 : Int), e = .returned (Value.int .i64 r0) ∧ R r0 w')

def C_sum_table (w : World) (R : List Int → World → Prop) : Prop :=
  Calls Try.prog 90 #[] w (fun e w' => ∃ (r0 : List Int), r0.length = 256 ∧ e = .returned (Value.agg (List.map (Value.int .u32) r0).toArray) ∧ R r0 w')

def C_record_Decode_1 (is : Bool) (e : Int) (t2 : Option Addr) (t3 : Option Addr) (w : World) (R : Int → World → Prop) : Prop :=
  Calls Try.prog 91 #[Value.bool is, Value.int .i64 e, Value.pointer t2, Value.pointer t3] w (fun e w' => ∃ (r0 : Int), e = .returned (Value.int .i64 r0) ∧ R r0 w')

def F_towpathlaw06_LogfileSpoils_k2 (l_ : Slc) (R : Bool → World → Prop) (whole : Int) (x : Slc) (t109 : Bool) (w8 : World) : Prop :=
  (t109 = true → (R false w8)) ∧
  (t109 = false → (∀ w9, (∃ k, w9 = w8.drewN k) → (((((x.len : Nat) : Int) == whole) = true → (R true w9)) ∧
  ((((x.len : Nat) : Int) == whole) = false → (IsAt x.ptr ∧ (0 ≤ whole ∧ whole < ((x.len : Nat) : Int) ∧ (∃ (v118 : T_api_Txn), CellsAt w9 (pblk x.ptr) ((poff x.ptr) + whole.toNat * 2) [Value.int .i64 v118.Number, Value.slice v118.Writes.ptr v118.Writes.len v118.Writes.cap] ∧ (IsAt l_.ptr ∧ (0 ≤ whole ∧ whole < ((l_.len : Nat) : Int) ∧ (∃ (v122 : T_api_Txn), CellsAt w9 (pblk l_.ptr) ((poff l_.ptr) + whole.toNat * 2) [Value.int .i64 v122.Number, Value.slice v122.Writes.ptr v122.Writes.len v122.Writes.cap] ∧ (C_towpathlaw01_SameTxn v118 v122 w9 (fun (v123 : Bool) w10 => (R (!v123) w10)))))))))))))

def F_towpathlaw06_LogfileSpoils_k1 (l_ : Slc) (at_ : Int) (other : Int) (R : Bool → World → Prop) (b_ : Slc) (ends : Int) (whole : Int) (w5 : World) : Prop :=
  IsAt b_.ptr ∧ (0 ≤ Int.tmod (IntKind.i64.wrap at_) ((b_.len : Nat) : Int) ∧ Int.tmod (IntKind.i64.wrap at_) ((b_.len : Nat) : Int) < ((b_.len : Nat) : Int) ∧ (Writable w5 (pblk b_.ptr) ((poff b_.ptr) + (Int.tmod (IntKind.i64.wrap at_) ((b_.len : Nat) : Int)).toNat) 1 ∧ (∀ w6, w6 = World.puts (pblk b_.ptr) ((poff b_.ptr) + (Int.tmod (IntKind.i64.wrap at_) ((b_.len : Nat) : Int)).toNat) [Value.int .u8 other] w5 → (C_logfile_Read b_ w6 (fun (x : Slc) (good : Int) (v81_2 : Int) w7 => ∀ w11, (∃ k, w11 = w7.drewN k) → (((decide (((x.len : Nat) : Int) < whole)) = true → (F_towpathlaw06_LogfileSpoils_k2 l_ R whole x true w11)) ∧
  ((decide (((x.len : Nat) : Int) < whole)) = false → (0 ≤ whole ∧ whole ≤ ((x.cap : Nat) : Int) ∧ (0 ≤ whole ∧ whole ≤ ((l_.cap : Nat) : Int) ∧ (C_towpathlaw01_SameTxns (Slc.mk x.ptr whole.toNat x.cap) (Slc.mk l_.ptr whole.toNat l_.cap) w11 (fun (v96 : Bool) w12 => (F_towpathlaw06_LogfileSpoils_k2 l_ R whole x (((!v96) || (decide (good < ends))) || (decide (whole ≥ ((l_.len : Nat) : Int)))) w12))))))))))))

def F_towpathlaw06_LogfileSpoils_L3 (l_ : Slc) (at_ : Int) (other : Int) (R : Bool → World → Prop) (b_ : Slc) (again_ : Int → Int → World → Prop) (ends1 : Int) (whole1 : Int) (w13 : World) : Prop :=
  ((decide (whole1 < ((l_.len : Nat) : Int))) = true → (0 ≤ IntKind.i64.wrap (whole1 + 1) ∧ IntKind.i64.wrap (whole1 + 1) ≤ ((l_.cap : Nat) : Int) ∧ (C_logfile_Encode (Slc.mk l_.ptr ((IntKind.i64.wrap (whole1 + 1)).toNat) l_.cap) w13 (fun (c : Slc) (f : Int) w14 => ((f != 0) = true → (R false w14)) ∧
  ((f != 0) = false → (((decide (((c.len : Nat) : Int) > (Int.tmod (IntKind.i64.wrap at_) ((b_.len : Nat) : Int)))) = true → (F_towpathlaw06_LogfileSpoils_k1 l_ at_ other R b_ ends1 whole1 w14)) ∧
  ((decide (((c.len : Nat) : Int) > (Int.tmod (IntKind.i64.wrap at_) ((b_.len : Nat) : Int)))) = false → (again_ ((c.len : Nat) : Int) (IntKind.i64.wrap (whole1 + 1)) w14)))))))) ∧
  ((decide (whole1 < ((l_.len : Nat) : Int))) = false → (F_towpathlaw06_LogfileSpoils_k1 l_ at_ other R b_ ends1 whole1 w13))

def F_towpathlaw06_LogfileSpoils_k0 (l_ : Slc) (at_ : Int) (other : Int) (R : Bool → World → Prop) (t24 : Bool) (w1 : World) : Prop :=
  (t24 = true → (C_towpathlaw06_alive w1 (fun (v25 : Bool) w2 => R v25 w2))) ∧
  (t24 = false → (C_logfile_Encode l_ w1 (fun (b_ : Slc) (e : Int) w3 => (((e != 0) || (((b_.len : Nat) : Int) == 0)) = true → (C_logfile_Check l_ w3 (fun (v40 : Int) w4 => R (e == v40) w4))) ∧
  (((e != 0) || (((b_.len : Nat) : Int) == 0)) = false → (((b_.len : Nat) : Int) ≠ 0 ∧ (IsAt b_.ptr ∧ (0 ≤ Int.tmod (IntKind.i64.wrap at_) ((b_.len : Nat) : Int) ∧ Int.tmod (IntKind.i64.wrap at_) ((b_.len : Nat) : Int) < ((b_.len : Nat) : Int) ∧ (∃ (v50 : Int), w3.cell? ⟨(pblk b_.ptr), (poff b_.ptr) + (Int.tmod (IntKind.i64.wrap at_) ((b_.len : Nat) : Int)).toNat, none⟩ = some (Value.int .u8 v50) ∧ (((v50 == other) = true → (R true w3)) ∧
  ((v50 == other) = false → (∃ (I : Int → Int → World → Prop) (μ : Int → Int → World → Nat), I 0 0 w3 ∧
  ∀ (ends1 : Int) (whole1 : Int) w, I ends1 whole1 w → F_towpathlaw06_LogfileSpoils_L3 l_ at_ other R b_ (fun (ends1' : Int) (whole1' : Int) w' => I ends1' whole1' w' ∧ μ ends1' whole1' w' < μ ends1 whole1 w) ends1 whole1 w)))))))))))

def F_towpathlaw06_LogfileSpoils (l_ : Slc) (at_ : Int) (other : Int) (R : Bool → World → Prop) (w : World) : Prop :=
  C_towpathlaw06_alive w (fun (v17 : Bool) w15 => ((!v17) = true → (F_towpathlaw06_LogfileSpoils_k0 l_ at_ other R true w15)) ∧
  ((!v17) = false → (C_towpathlaw01_TxnsSize l_ w15 (fun (v21 : Int) w16 => ∀ b_1 w17, b_1 = w16.heap.size → w17 = w16.alloc (Obj.cells ([Value.int .i64 v21]).toArray ty_int (0, 0)) → (C_towpathlaw01_Beyond (Slc.mk (some ⟨b_1, 0, none⟩) 1 1) w17 (fun (v23 : Bool) w18 => F_towpathlaw06_LogfileSpoils_k0 l_ at_ other R v23 w18))))))

def F_towpathlaw01_Beyond_L0 (l_ : Slc) (R : Bool → World → Prop) (again_ : Int → Int → World → Prop) (n_ : Int) (i : Int) (w1 : World) : Prop :=
  ((decide (i < ((l_.len : Nat) : Int))) = true → (IsAt l_.ptr ∧ (0 ≤ i ∧ i < ((l_.len : Nat) : Int) ∧ (∃ (v15 : Int), w1.cell? ⟨(pblk l_.ptr), (poff l_.ptr) + i.toNat, none⟩ = some (Value.int .i64 v15) ∧ (((decide ((IntKind.i64.wrap (n_ + v15)) > 1048576)) = true → (R true w1)) ∧
  ((decide ((IntKind.i64.wrap (n_ + v15)) > 1048576)) = false → (again_ (IntKind.i64.wrap (n_ + v15)) (IntKind.i64.wrap (i + 1)) w1))))))) ∧
  ((decide (i < ((l_.len : Nat) : Int))) = false → (R false w1))

def F_towpathlaw01_Beyond (l_ : Slc) (R : Bool → World → Prop) (w : World) : Prop :=
  ∃ (I : Int → Int → World → Prop) (μ : Int → Int → World → Nat), I 0 0 w ∧
  ∀ (n_ : Int) (i : Int) w, I n_ i w → F_towpathlaw01_Beyond_L0 l_ R (fun (n_' : Int) (i' : Int) w' => I n_' i' w' ∧ μ n_' i' w' < μ n_ i w) n_ i w

def F_towpathlaw06_alive (R : Bool → World → Prop) (w : World) : Prop :=
  ∀ b_ w1, b_ = w.heap.size → w1 = w.alloc (Obj.cells ([Value.string (ByteArray.mk #[97]), Value.string (ByteArray.mk #[120]), Value.bool false]).toArray ty_api_Write (0, 0)) → (∀ b_1 w2, b_1 = w1.heap.size → w2 = w1.alloc (Obj.cells ([Value.int .i64 1, Value.slice (some ⟨b_, 0, none⟩) 1 1, Value.int .i64 2, Value.slice none 0 0]).toArray ty_api_Txn (0, 0)) → (C_logfile_Encode (Slc.mk (some ⟨b_1, 0, none⟩) 2 2) w2 (fun (b_2 : Slc) (e : Int) w3 => ∀ b_3 w4, b_3 = w3.heap.size → w4 = w3.alloc (Obj.cells ([Value.int .u8 0]).toArray ty_uint8 (0, 0)) → (C_logfile_Read (Slc.mk (some ⟨b_3, 0, none⟩) 1 1) w4 (fun (v17 : Slc) (v17_1 : Int) (f : Int) w5 => ((((e == 0) && (f == 5)) && (((b_2.len : Nat) : Int) == 19)) = true → (IsAt b_2.ptr ∧ (0 ≤ (0 : Int) ∧ (0 : Int) < ((b_2.len : Nat) : Int) ∧ (∃ (v35 : Int), w5.cell? ⟨(pblk b_2.ptr), (poff b_2.ptr), none⟩ = some (Value.int .u8 v35) ∧ (((v35 == 7) = true → (IsAt b_2.ptr ∧ (0 ≤ (12 : Int) ∧ (12 : Int) < ((b_2.len : Nat) : Int) ∧ (∃ (v41 : Int), w5.cell? ⟨(pblk b_2.ptr), (poff b_2.ptr) + 12, none⟩ = some (Value.int .u8 v41) ∧ (((v41 == 2) = true → (∀ b_4 w6, b_4 = w5.heap.size → w6 = w5.alloc (Obj.cells ([Value.int .i64 2, Value.slice none 0 0]).toArray ty_api_Txn (0, 0)) → (C_logfile_Check (Slc.mk (some ⟨b_4, 0, none⟩) 1 1) w6 (fun (v47 : Int) w7 => R (v47 == 6) w7)))) ∧
  ((v41 == 2) = false → (R false w5))))))) ∧
  ((v35 == 7) = false → (R false w5))))))) ∧
  ((((e == 0) && (f == 5)) && (((b_2.len : Nat) : Int) == 19)) = false → (R false w5)))))))

def F_towpathlaw01_TxnsSize_L0 (l_ : Slc) (R : Int → World → Prop) (again_ : Int → Int → World → Prop) (n_ : Int) (i : Int) (w1 : World) : Prop :=
  (((decide (i < ((l_.len : Nat) : Int))) && (decide (n_ ≤ 1048576))) = true → (IsAt l_.ptr ∧ (0 ≤ i ∧ i < ((l_.len : Nat) : Int) ∧ (∃ (v21 : T_api_Txn), CellsAt w1 (pblk l_.ptr) ((poff l_.ptr) + i.toNat * 2) [Value.int .i64 v21.Number, Value.slice v21.Writes.ptr v21.Writes.len v21.Writes.cap] ∧ (C_towpathlaw01_TxnSize v21 w1 (fun (v22 : Int) w2 => again_ (IntKind.i64.wrap (n_ + v22)) (IntKind.i64.wrap (i + 1)) w2)))))) ∧
  (((decide (i < ((l_.len : Nat) : Int))) && (decide (n_ ≤ 1048576))) = false → (R n_ w1))

def F_towpathlaw01_TxnsSize (l_ : Slc) (R : Int → World → Prop) (w : World) : Prop :=
  ∃ (I : Int → Int → World → Prop) (μ : Int → Int → World → Nat), I ((l_.len : Nat) : Int) 0 w ∧
  ∀ (n_ : Int) (i : Int) w, I n_ i w → F_towpathlaw01_TxnsSize_L0 l_ R (fun (n_' : Int) (i' : Int) w' => I n_' i' w' ∧ μ n_' i' w' < μ n_ i w) n_ i w

def F_logfile_Encode_L0 (l_ : Slc) (R : Slc → Int → World → Prop) (v15 : Option Addr) (again_ : Int → World → Prop) (t18 : Int) (w3 : World) : Prop :=
  ((decide (t18 < ((l_.len : Nat) : Int))) = true → (IsAt l_.ptr ∧ (0 ≤ t18 ∧ t18 < ((l_.len : Nat) : Int) ∧ (∃ (v21 : T_api_Txn), CellsAt w3 (pblk l_.ptr) ((poff l_.ptr) + t18.toNat * 2) [Value.int .i64 v21.Number, Value.slice v21.Writes.ptr v21.Writes.len v21.Writes.cap] ∧ (∀ b_ w4, b_ = w3.heap.size → w4 = w3.alloc (Obj.cells ([Value.int .i64 0, Value.slice none 0 0]).toArray ty_api_Txn (0, 0)) → (Writable w4 b_ 0 2 ∧ (∀ w5, w5 = World.puts b_ 0 [Value.int .i64 v21.Number, Value.slice v21.Writes.ptr v21.Writes.len v21.Writes.cap] w4 → (∃ (v23 : T_api_Txn), CellsAt w5 b_ 0 [Value.int .i64 v23.Number, Value.slice v23.Writes.ptr v23.Writes.len v23.Writes.cap] ∧ (C_record_Encode v23 w5 (fun (b_1 : Slc) (v24_1 : Int) w6 => ∃ str : ByteArray, SrcAt w6 b_1 1 (strCells str) ∧ (C_codec_Writer_Text v15 str w6 (fun w7 => C_sum_CRC b_1 w7 (fun (v33 : Int) w8 => C_codec_Writer_Fixed v15 (IntKind.u64.wrap v33) 4 w8 (fun (v35 : Int) w9 => again_ (IntKind.i64.wrap (t18 + 1)) w9)))))))))))))) ∧
  ((decide (t18 < ((l_.len : Nat) : Int))) = false → (C_codec_Writer_Done v15 w3 (fun (v38 : Slc) w10 => R v38 0 w10)))

def F_logfile_Encode (l_ : Slc) (R : Slc → Int → World → Prop) (w : World) : Prop :=
  C_logfile_Check l_ w (fun (v11 : Int) w1 => ((v11 != 0) = true → (R (Slc.mk none 0 0) v11 w1)) ∧
  ((v11 != 0) = false → (C_codec_NewWriter w1 (fun (v15 : Option Addr) w2 => ∃ (I : Int → World → Prop) (μ : Int → World → Nat), I 0 w2 ∧
  ∀ (t18 : Int) w, I t18 w → F_logfile_Encode_L0 l_ R v15 (fun (t18' : Int) w' => I t18' w' ∧ μ t18' w' < μ t18 w) t18 w))))

def F_logfile_Check_L0 (l_ : Slc) (R : Int → World → Prop) (v7 : Value) (again_ : Int → World → Prop) (t10 : Int) (w2 : World) : Prop :=
  ((decide (t10 < ((l_.len : Nat) : Int))) = true → (IsAt l_.ptr ∧ (0 ≤ t10 ∧ t10 < ((l_.len : Nat) : Int) ∧ (∃ (v13 : T_api_Txn), CellsAt w2 (pblk l_.ptr) ((poff l_.ptr) + t10.toNat * 2) [Value.int .i64 v13.Number, Value.slice v13.Writes.ptr v13.Writes.len v13.Writes.cap] ∧ (∀ b_ w3, b_ = w2.heap.size → w3 = w2.alloc (Obj.cells ([Value.int .i64 0, Value.slice none 0 0]).toArray ty_api_Txn (0, 0)) → (Writable w3 b_ 0 2 ∧ (∀ w4, w4 = World.puts b_ 0 [Value.int .i64 v13.Number, Value.slice v13.Writes.ptr v13.Writes.len v13.Writes.cap] w3 → (∃ (v15 : T_api_Txn), CellsAt w4 b_ 0 [Value.int .i64 v15.Number, Value.slice v15.Writes.ptr v15.Writes.len v15.Writes.cap] ∧ (CallsV (P := Try.prog) v7 #[Value.agg #[Value.int .i64 v15.Number, Value.slice v15.Writes.ptr v15.Writes.len v15.Writes.cap]] w4 (fun e' w5 => ∃ (v16 : Int), e' = Ending.returned (Value.int .i64 v16) ∧ (((v16 != 0) = true → (R v16 w5)) ∧
  ((v16 != 0) = false → (again_ (IntKind.i64.wrap (t10 + 1)) w5))))))))))))) ∧
  ((decide (t10 < ((l_.len : Nat) : Int))) = false → (R 0 w2))

def F_logfile_Check (l_ : Slc) (R : Int → World → Prop) (w : World) : Prop :=
  C_logfile_turns w (fun (v7 : Value) w1 => ∃ (I : Int → World → Prop) (μ : Int → World → Nat), I 0 w1 ∧
  ∀ (t10 : Int) w, I t10 w → F_logfile_Check_L0 l_ R v7 (fun (t10' : Int) w' => I t10' w' ∧ μ t10' w' < μ t10 w) t10 w)

def F_logfile_Read_B0 (b_1 : Nat) (b_2 : Nat) (b_3 : Nat) (b_4 : Nat) (rec_ : Recs) (D : Nat) (Kb : Bool → World → Prop) (t9 : Int) (t10 : T_api_Txn) (w7 : World) : Prop :=
  ∃ (v12 : Int), w7.cell? ⟨b_4, 0, none⟩ = some (Value.int .i64 v12) ∧ (∃ (v13 : Slc), w7.cell? ⟨b_1, 0, none⟩ = some (Value.slice v13.ptr v13.len v13.cap) ∧ (((v12 != (IntKind.i64.wrap (((v13.len : Nat) : Int) + 1))) = true → (∀ w10, (∃ k, w10 = w7.drewN k) → (∃ (v17 : Slc), w10.cell? ⟨b_1, 0, none⟩ = some (Value.slice v17.ptr v17.len v17.cap) ∧ (∃ (v18 : Int), w10.cell? ⟨b_2, 0, none⟩ = some (Value.int .i64 v18) ∧ (Writable w10 b_1 0 1 ∧ (∀ w11, w11 = World.puts b_1 0 [Value.slice v17.ptr v17.len v17.cap] w10 → (w11.cell? ⟨b_2, 0, none⟩ = some (Value.int .i64 v18) ∧ (Writable w11 b_2 0 1 ∧ (∀ w12, w12 = World.puts b_2 0 [Value.int .i64 v18] w11 → ((Writable w12 b_3 0 1 ∧ (∀ w13, w13 = World.puts b_3 0 [Value.int .i64 6] w12 → ((w13.heap[D + 1]? = some (.loop (rec_ .busy none)) ∧ (∀ w14, w14 = w13.putObj (D + 1) (.loop (rec_ .done (some .ret))) → Kb false w14))))))))))))))) ∧
  ((v12 != (IntKind.i64.wrap (((v13.len : Nat) : Int) + 1))) = false → (∃ (v19 : Slc), w7.cell? ⟨b_1, 0, none⟩ = some (Value.slice v19.ptr v19.len v19.cap) ∧ (∃ (v20 : T_api_Txn), CellsAt w7 b_4 0 [Value.int .i64 v20.Number, Value.slice v20.Writes.ptr v20.Writes.len v20.Writes.cap] ∧ (∀ b_5 w15, b_5 = w7.heap.size → w15 = w7.alloc (Obj.cells ([Value.int .i64 v20.Number, Value.slice v20.Writes.ptr v20.Writes.len v20.Writes.cap]).toArray ty_api_Txn (0, 0)) → (∃ src, SrcAt w15 (Slc.mk (some ⟨b_5, 0, none⟩) 1 1) 2 src ∧ AppendW 2 32 ty_api_Txn [Value.int .i64 0, Value.slice none 0 0] v19 src 1 w15 (fun v22 w16 => Writable w16 b_1 0 1 ∧ (∀ w17, w17 = World.puts b_1 0 [Value.slice v22.ptr v22.len v22.cap] w16 → (Writable w17 b_2 0 1 ∧ (∀ w18, w18 = World.puts b_2 0 [Value.int .i64 t9] w17 → (w18.heap[D + 1]? = some (.loop (rec_ .busy none)) ∧ (∀ w19, w19 = w18.putObj (D + 1) (.loop (rec_ .ready none)) → Kb true w19)))))))))))))

def F_logfile_Read_S1 (b_1 : Nat) (b_2 : Nat) (b_3 : Nat) (rec_ : Recs) (D : Nat) (Kb : Bool → World → Prop) (t9 : Int) (t10 : T_api_Txn) (w6 : World) : Prop :=
  ∀ b_4 w8, b_4 = w6.heap.size → w8 = w6.alloc (Obj.cells ([Value.int .i64 0, Value.slice none 0 0]).toArray ty_api_Txn (0, 0)) → (Writable w8 b_4 0 2 ∧ (∀ w9, w9 = World.puts b_4 0 [Value.int .i64 t10.Number, Value.slice t10.Writes.ptr t10.Writes.len t10.Writes.cap] w8 → (w9.heap[D + 1]? = some (.loop (rec_ .ready none)) ∧ (∀ w7, w7 = w9.putObj (D + 1) (.loop (rec_ .busy none)) → F_logfile_Read_B0 b_1 b_2 b_3 b_4 rec_ D Kb t9 t10 w7))))

def F_logfile_Read_A2 (R : Slc → Int → Int → World → Prop) (b_1 : Nat) (b_2 : Nat) (b_3 : Nat) (D : Nat) (w21 : World) : Prop :=
  ∀ w24, (∃ k, w24 = w21.drewN k) → (∃ (v24 : Slc), w24.cell? ⟨b_1, 0, none⟩ = some (Value.slice v24.ptr v24.len v24.cap) ∧ (∃ (v25 : Int), w24.cell? ⟨b_2, 0, none⟩ = some (Value.int .i64 v25) ∧ (∃ (v26 : Int), w24.cell? ⟨b_3, 0, none⟩ = some (Value.int .i64 v26) ∧ (Writable w24 b_1 0 1 ∧ (∀ w25, w25 = World.puts b_1 0 [Value.slice v24.ptr v24.len v24.cap] w24 → (w25.cell? ⟨b_3, 0, none⟩ = some (Value.int .i64 v26) ∧ w25.cell? ⟨b_2, 0, none⟩ = some (Value.int .i64 v25) ∧ (Writable w25 b_2 0 1 ∧ (∀ w26, w26 = World.puts b_2 0 [Value.int .i64 v25] w25 → (w26.cell? ⟨b_3, 0, none⟩ = some (Value.int .i64 v26) ∧ (Writable w26 b_3 0 1 ∧ (∀ w27, w27 = World.puts b_3 0 [Value.int .i64 v26] w26 → ((w27.heap[D]? = some (.deferred (some [])) ∧ (∀ w28, w28 = w27.putObj D (.deferred none) → (∃ (res : Slc), CellsAt w28 b_1 0 [Value.slice res.ptr res.len res.cap] ∧ (∃ (res1 : Int), CellsAt w28 b_2 0 [Value.int .i64 res1] ∧ (∃ (res2 : Int), CellsAt w28 b_3 0 [Value.int .i64 res2] ∧ (R res res1 res2 w28))))))))))))))))))

def F_logfile_Read (b_ : Slc) (R : Slc → Int → Int → World → Prop) (w : World) : Prop :=
  ∀ b_1 w1, b_1 = w.heap.size → w1 = w.alloc (Obj.cells ([Value.slice none 0 0]).toArray ty_sl_api_Txn (0, 0)) → (∀ b_2 w2, b_2 = w1.heap.size → w2 = w1.alloc (Obj.cells ([Value.int .i64 0]).toArray ty_int (0, 0)) → (∀ b_3 w3, b_3 = w2.heap.size → w3 = w2.alloc (Obj.cells ([Value.int .i64 0]).toArray ty_api_Errno (0, 0)) → (C_logfile_records b_ (some ⟨b_3, 0, none⟩) w3 (fun (v8 : Value) w4 => ∀ (rec_ : Recs) (D : Nat) w5, D = w4.heap.size → w5 = (w4.alloc (.deferred (some []))).alloc (.loop (rec_ .ready none)) → (∀ (t9 : Int) (t10 : T_api_Txn) (w6 : World) (Kb : Bool → World → Prop), w6.heap[D + 1]? = some (.loop (rec_ .ready none)) → (F_logfile_Read_S1 b_1 b_2 b_3 rec_ D Kb t9 t10 w6) → CallsY (P := Try.prog) (yieldV (D + 1)) #[Value.int .i64 t9, Value.agg #[Value.int .i64 t10.Number, Value.slice t10.Writes.ptr t10.Writes.len t10.Writes.cap]] w6 (fun e_ W_ => ∃ b_, e_ = Ending.returned (.bool b_) ∧ Kb b_ W_)) → CallsV (P := Try.prog) v8 #[yieldV (D + 1)] w5 (fun e_ w22 => (∃ v_, e_ = Ending.returned v_) ∧ ∃ st_ pe_, w22.heap[D + 1]? = some (.loop (rec_ st_ pe_)) ∧ st_ ≠ .busy ∧ ∀ w23, w23 = w22.putObj (D + 1) (.loop (rec_ .exhausted pe_)) → (((pe_ = none) ∧ (F_logfile_Read_A2 R b_1 b_2 b_3 D w23)) ∨ (pe_ = some .ret ∧ (w23.heap[D]? = some (.deferred (some [])) ∧ (∀ w29, w29 = w23.putObj D (.deferred none) → (∃ (res3 : Slc), CellsAt w29 b_1 0 [Value.slice res3.ptr res3.len res3.cap] ∧ (∃ (res4 : Int), CellsAt w29 b_2 0 [Value.int .i64 res4] ∧ (∃ (res5 : Int), CellsAt w29 b_3 0 [Value.int .i64 res5] ∧ (R res3 res4 res5 w29)))))))))))))

def F_towpathlaw01_SameTxns_L0 (a_ : Slc) (b_ : Slc) (R : Bool → World → Prop) (again_ : Int → World → Prop) (i : Int) (w1 : World) : Prop :=
  ((decide (i < ((a_.len : Nat) : Int))) = true → (IsAt a_.ptr ∧ (0 ≤ i ∧ i < ((a_.len : Nat) : Int) ∧ (∃ (v20 : T_api_Txn), CellsAt w1 (pblk a_.ptr) ((poff a_.ptr) + i.toNat * 2) [Value.int .i64 v20.Number, Value.slice v20.Writes.ptr v20.Writes.len v20.Writes.cap] ∧ (IsAt b_.ptr ∧ (0 ≤ i ∧ i < ((b_.len : Nat) : Int) ∧ (∃ (v24 : T_api_Txn), CellsAt w1 (pblk b_.ptr) ((poff b_.ptr) + i.toNat * 2) [Value.int .i64 v24.Number, Value.slice v24.Writes.ptr v24.Writes.len v24.Writes.cap] ∧ (∃ (v25 : Bool), (∀ w', Ext w1 w' → C_towpathlaw01_SameTxn v20 v24 w' (fun (v25' : Bool) w'' => v25' = v25 ∧ Ext w' w'')) ∧ (∀ w3, Ext w1 w3 → (((!v25) = true → (R false w3)) ∧
  ((!v25) = false → (again_ (IntKind.i64.wrap (i + 1)) w3)))))))))))) ∧
  ((decide (i < ((a_.len : Nat) : Int))) = false → (R true w1))

def F_towpathlaw01_SameTxns (a_ : Slc) (b_ : Slc) (R : Bool → World → Prop) (w : World) : Prop :=
  ((((a_.len : Nat) : Int) != ((b_.len : Nat) : Int)) = true → (R false w)) ∧
  ((((a_.len : Nat) : Int) != ((b_.len : Nat) : Int)) = false → (∃ (I : Int → World → Prop) (μ : Int → World → Nat), I 0 w ∧
  ∀ (i : Int) w, I i w → F_towpathlaw01_SameTxns_L0 a_ b_ R (fun (i' : Int) w' => I i' w' ∧ μ i' w' < μ i w) i w))

def F_record_Check_k0 (R : Int → World → Prop) (t23 : Bool) (w2 : World) : Prop :=
  (t23 = true → (R 1 w2)) ∧
  (t23 = false → (R 0 w2))

def F_record_Check (t_ : T_api_Txn) (R : Int → World → Prop) (w : World) : Prop :=
  ∀ b_ w1, b_ = w.heap.size → w1 = w.alloc (Obj.cells ([Value.int .i64 t_.Number, Value.slice t_.Writes.ptr t_.Writes.len t_.Writes.cap]).toArray ty_api_Txn (0, 0)) → (∃ (v5 : Int), w1.cell? ⟨b_, 0, none⟩ = some (Value.int .i64 v5) ∧ (((decide (v5 < 1)) = true → (F_record_Check_k0 R true w1)) ∧
  ((decide (v5 < 1)) = false → (∃ (v9 : Int), w1.cell? ⟨b_, 0, none⟩ = some (Value.int .i64 v9) ∧ (((decide (v9 > 65536)) = true → (F_record_Check_k0 R true w1)) ∧
  ((decide (v9 > 65536)) = false → (∃ (v14 : Slc), w1.cell? ⟨b_, 1, none⟩ = some (Value.slice v14.ptr v14.len v14.cap) ∧ (((decide (((v14.len : Nat) : Int) > 32)) = true → (F_record_Check_k0 R true w1)) ∧
  ((decide (((v14.len : Nat) : Int) > 32)) = false → (∃ (v20 : Slc), w1.cell? ⟨b_, 1, none⟩ = some (Value.slice v20.ptr v20.len v20.cap) ∧ (C_slices_ContainsFunc_api_Write_api_Write v20 (Value.func (.func 57) #[] #[]) w1 (fun (v22 : Bool) w3 => F_record_Check_k0 R v22 w3))))))))))))

def F_towpathlaw01_SameTxn (a_ : T_api_Txn) (b_ : T_api_Txn) (R : Bool → World → Prop) (w : World) : Prop :=
  ∀ b_1 w1, b_1 = w.heap.size → w1 = w.alloc (Obj.cells ([Value.int .i64 a_.Number, Value.slice a_.Writes.ptr a_.Writes.len a_.Writes.cap]).toArray ty_api_Txn (0, 0)) → (∀ b_2 w2, b_2 = w1.heap.size → w2 = w1.alloc (Obj.cells ([Value.int .i64 b_.Number, Value.slice b_.Writes.ptr b_.Writes.len b_.Writes.cap]).toArray ty_api_Txn (0, 0)) → (∃ (v6 : Int), w2.cell? ⟨b_1, 0, none⟩ = some (Value.int .i64 v6) ∧ (∃ (v8 : Int), w2.cell? ⟨b_2, 0, none⟩ = some (Value.int .i64 v8) ∧ (((v6 == v8) = true → (∃ (v12 : Slc), w2.cell? ⟨b_1, 1, none⟩ = some (Value.slice v12.ptr v12.len v12.cap) ∧ (∃ (v14 : Slc), w2.cell? ⟨b_2, 1, none⟩ = some (Value.slice v14.ptr v14.len v14.cap) ∧ (C_towpathlaw01_SameWrites v12 v14 w2 (fun (v15 : Bool) w3 => R v15 w3))))) ∧
  ((v6 == v8) = false → (R false w2))))))

def F_codec_NewReader (b_ : Slc) (R : Option Addr → World → Prop) (w : World) : Prop :=
  C_slices_Clone_byte_byte b_ w (fun (v4 : Slc) w1 => ∀ b_1 w2, b_1 = w1.heap.size → w2 = w1.alloc (Obj.cells ([Value.bool true, Value.slice v4.ptr v4.len v4.cap, Value.int .i64 0]).toArray ty_codec_Reader (0, 0)) → (R (some ⟨b_1, 0, none⟩) w2))

def F_codec_Reader_Left (r : Option Addr) (R : Int → World → Prop) (w : World) : Prop :=
  (r.isNone = true → (R 0 w)) ∧
  (r.isNone = false → (IsAt r ∧ (∃ (v8 : Slc), w.cell? ⟨(pblk r), (poff r) + 1, none⟩ = some (Value.slice v8.ptr v8.len v8.cap) ∧ (R ((v8.len : Nat) : Int) w))))

def F_codec_Reader_End_k1 (r : Option Addr) (R : Int → World → Prop) (t13 : Bool) (w2 : World) : Prop :=
  (t13 = true → (R 4 w2)) ∧
  (t13 = false → (IsAt r ∧ (∃ (v30 : Int), w2.cell? ⟨(pblk r), (poff r) + 2, none⟩ = some (Value.int .i64 v30) ∧ (R v30 w2))))

def F_codec_Reader_End_k0 (r : Option Addr) (R : Int → World → Prop) (t3 : Bool) (w1 : World) : Prop :=
  (t3 = true → (R 2 w1)) ∧
  (t3 = false → (IsAt r ∧ (∃ (v17 : Int), w1.cell? ⟨(pblk r), (poff r) + 2, none⟩ = some (Value.int .i64 v17) ∧ (((v17 == 0) = true → (IsAt r ∧ (∃ (v23 : Slc), w1.cell? ⟨(pblk r), (poff r) + 1, none⟩ = some (Value.slice v23.ptr v23.len v23.cap) ∧ (F_codec_Reader_End_k1 r R (decide (((v23.len : Nat) : Int) > 0)) w1)))) ∧
  ((v17 == 0) = false → (F_codec_Reader_End_k1 r R false w1))))))

def F_codec_Reader_End (r : Option Addr) (R : Int → World → Prop) (w : World) : Prop :=
  (r.isNone = true → (F_codec_Reader_End_k0 r R true w)) ∧
  (r.isNone = false → (IsAt r ∧ (∃ (v10 : Bool), w.cell? ⟨(pblk r), (poff r), none⟩ = some (Value.bool v10) ∧ (F_codec_Reader_End_k0 r R (!v10) w))))

def F_codec_Reader_Var (r : Option Addr) (R : Int → World → Prop) (w : World) : Prop :=
  ∀ b_ w1, b_ = w.heap.size → w1 = w.alloc (Obj.cells ([Value.int .u64 0]).toArray ty_uint64 (0, 0)) → (C_codec_Reader_take r (Value.func (.func 73) #[] #[Value.pointer (some ⟨b_, 0, none⟩)]) w1 (fun (v5 : Bool) w2 => ∃ (v6 : Int), w2.cell? ⟨b_, 0, none⟩ = some (Value.int .u64 v6) ∧ (Writable w2 b_ 0 1 ∧ (∀ w3, w3 = World.puts b_ 0 [Value.int .u64 v6] w2 → (∃ (res : Int), CellsAt w3 b_ 0 [Value.int .u64 res] ∧ (R res w3))))))

def F_codec_Reader_Fixed (r : Option Addr) (width : Int) (R : Int → World → Prop) (w : World) : Prop :=
  ∀ b_ w1, b_ = w.heap.size → w1 = w.alloc (Obj.cells ([Value.int .i64 width]).toArray ty_int (0, 0)) → (∀ b_1 w2, b_1 = w1.heap.size → w2 = w1.alloc (Obj.cells ([Value.int .u64 0]).toArray ty_uint64 (0, 0)) → (C_codec_Reader_take r (Value.func (.func 75) #[] #[Value.pointer (some ⟨b_, 0, none⟩), Value.pointer (some ⟨b_1, 0, none⟩)]) w2 (fun (v7 : Bool) w3 => ∃ (v8 : Int), w3.cell? ⟨b_1, 0, none⟩ = some (Value.int .u64 v8) ∧ (Writable w3 b_1 0 1 ∧ (∀ w4, w4 = World.puts b_1 0 [Value.int .u64 v8] w3 → (∃ (res : Int), CellsAt w4 b_1 0 [Value.int .u64 res] ∧ (R res w4)))))))

def F_codec_Reader_Text (r : Option Addr) (most : Int) (R : ByteArray → World → Prop) (w : World) : Prop :=
  ∀ b_ w1, b_ = w.heap.size → w1 = w.alloc (Obj.cells ([Value.int .i64 most]).toArray ty_int (0, 0)) → (∀ b_1 w2, b_1 = w1.heap.size → w2 = w1.alloc (Obj.cells ([Value.string ByteArray.empty]).toArray ty_string (0, 0)) → (C_codec_Reader_take r (Value.func (.func 76) #[] #[Value.pointer (some ⟨b_, 0, none⟩), Value.pointer (some ⟨b_1, 0, none⟩)]) w2 (fun (v7 : Bool) w3 => ∃ (v8 : ByteArray), w3.cell? ⟨b_1, 0, none⟩ = some (Value.string v8) ∧ (Writable w3 b_1 0 1 ∧ (∀ w4, w4 = World.puts b_1 0 [Value.string v8] w3 → (∃ (res : ByteArray), CellsAt w4 b_1 0 [Value.string res] ∧ (R res w4)))))))

def F_codec_NewWriter (R : Option Addr → World → Prop) (w : World) : Prop :=
  ∀ b_ w1, b_ = w.heap.size → w1 = w.alloc (Obj.cells ([Value.bool true, Value.slice none 0 0]).toArray ty_codec_Writer (0, 0)) → (R (some ⟨b_, 0, none⟩) w1)

def F_codec_Writer_Var_L0 (w_ : Option Addr) (R : World → Prop) (again_ : Int → World → Prop) (n_1 : Int) (w2 : World) : Prop :=
  ((decide (n_1 ≥ 128)) = true → (IsAt w_ ∧ (∃ (v14 : Slc), w2.cell? ⟨(pblk w_), (poff w_) + 1, none⟩ = some (Value.slice v14.ptr v14.len v14.cap) ∧ (∀ b_ w3, b_ = w2.heap.size → w3 = w2.alloc (Obj.cells ([Value.int .u8 (bor .u8 (IntKind.u8.wrap n_1) 128)]).toArray ty_uint8 (0, 0)) → (∃ src, SrcAt w3 (Slc.mk (some ⟨b_, 0, none⟩) 1 1) 1 src ∧ AppendW 1 1 ty_uint8 [Value.int .u8 0] v14 src 1 w3 (fun v19 w4 => IsAt w_ ∧ (Writable w4 (pblk w_) ((poff w_) + 1) 1 ∧ (∀ w5, w5 = World.puts (pblk w_) ((poff w_) + 1) [Value.slice v19.ptr v19.len v19.cap] w4 → (again_ (Int.fdiv n_1 (2 ^ 7)) w5))))))))) ∧
  ((decide (n_1 ≥ 128)) = false → (IsAt w_ ∧ (∃ (v26 : Slc), w2.cell? ⟨(pblk w_), (poff w_) + 1, none⟩ = some (Value.slice v26.ptr v26.len v26.cap) ∧ (∀ b_1 w6, b_1 = w2.heap.size → w6 = w2.alloc (Obj.cells ([Value.int .u8 (IntKind.u8.wrap n_1)]).toArray ty_uint8 (0, 0)) → (∃ src, SrcAt w6 (Slc.mk (some ⟨b_1, 0, none⟩) 1 1) 1 src ∧ AppendW 1 1 ty_uint8 [Value.int .u8 0] v26 src 1 w6 (fun v30 w7 => IsAt w_ ∧ (Writable w7 (pblk w_) ((poff w_) + 1) 1 ∧ (∀ w8, w8 = World.puts (pblk w_) ((poff w_) + 1) [Value.slice v30.ptr v30.len v30.cap] w7 → (R w8)))))))))

def F_codec_Writer_Var (w_ : Option Addr) (n_ : Int) (R : World → Prop) (w : World) : Prop :=
  C_codec_Writer_gone w_ w (fun (v5 : Bool) w1 => (v5 = true → (R w1)) ∧
  (v5 = false → (∃ (I : Int → World → Prop) (μ : Int → World → Nat), I n_ w1 ∧
  ∀ (n_1 : Int) w, I n_1 w → F_codec_Writer_Var_L0 w_ R (fun (n_1' : Int) w' => I n_1' w' ∧ μ n_1' w' < μ n_1 w) n_1 w)))

def F_codec_Writer_Text (w_ : Option Addr) (s : ByteArray) (R : World → Prop) (w : World) : Prop :=
  C_codec_Writer_gone w_ w (fun (v5 : Bool) w1 => (v5 = true → (R w1)) ∧
  (v5 = false → (C_codec_Writer_Var w_ (IntKind.u64.wrap ((s.size : Nat) : Int)) w1 (fun w2 => IsAt w_ ∧ (∃ (v15 : Slc), w2.cell? ⟨(pblk w_), (poff w_) + 1, none⟩ = some (Value.slice v15.ptr v15.len v15.cap) ∧ (AppendW 1 1 ty_uint8 [Value.int .u8 0] v15 (strCells s) s.size w2 (fun v17 w3 => IsAt w_ ∧ (Writable w3 (pblk w_) ((poff w_) + 1) 1 ∧ (∀ w4, w4 = World.puts (pblk w_) ((poff w_) + 1) [Value.slice v17.ptr v17.len v17.cap] w3 → (R w4))))))))))

def F_codec_Writer_Fixed_L0 (w_ : Option Addr) (width : Int) (R : Int → World → Prop) (again_ : Int → Int → World → Prop) (n_1 : Int) (t24 : Int) (w2 : World) : Prop :=
  ((decide (t24 < width)) = true → (IsAt w_ ∧ (∃ (v30 : Slc), w2.cell? ⟨(pblk w_), (poff w_) + 1, none⟩ = some (Value.slice v30.ptr v30.len v30.cap) ∧ (∀ b_ w3, b_ = w2.heap.size → w3 = w2.alloc (Obj.cells ([Value.int .u8 (IntKind.u8.wrap n_1)]).toArray ty_uint8 (0, 0)) → (∃ src, SrcAt w3 (Slc.mk (some ⟨b_, 0, none⟩) 1 1) 1 src ∧ AppendW 1 1 ty_uint8 [Value.int .u8 0] v30 src 1 w3 (fun v34 w4 => IsAt w_ ∧ (Writable w4 (pblk w_) ((poff w_) + 1) 1 ∧ (∀ w5, w5 = World.puts (pblk w_) ((poff w_) + 1) [Value.slice v34.ptr v34.len v34.cap] w4 → (again_ (Int.fdiv n_1 (2 ^ 8)) (IntKind.i64.wrap (t24 + 1)) w5))))))))) ∧
  ((decide (t24 < width)) = false → (R 0 w2))

def F_codec_Writer_Fixed (w_ : Option Addr) (n_ : Int) (width : Int) (R : Int → World → Prop) (w : World) : Prop :=
  C_codec_Writer_gone w_ w (fun (v9 : Bool) w1 => (v9 = true → (R 2 w1)) ∧
  (v9 = false → ((((decide (width < 1)) || (decide (width > 8))) = true → (R 1 w1)) ∧
  (((decide (width < 1)) || (decide (width > 8))) = false → (0 ≤ IntKind.i64.wrap (8 * width) ∧ ((((Int.fdiv n_ (2 ^ (min (IntKind.i64.wrap (8 * width)).toNat 64))) != 0) = true → (R 3 w1)) ∧
  (((Int.fdiv n_ (2 ^ (min (IntKind.i64.wrap (8 * width)).toNat 64))) != 0) = false → (∃ (I : Int → Int → World → Prop) (μ : Int → Int → World → Nat), I n_ 0 w1 ∧
  ∀ (n_1 : Int) (t24 : Int) w, I n_1 t24 w → F_codec_Writer_Fixed_L0 w_ width R (fun (n_1' : Int) (t24' : Int) w' => I n_1' t24' w' ∧ μ n_1' t24' w' < μ n_1 t24 w) n_1 t24 w))))))))

def F_codec_Writer_Done (w_ : Option Addr) (R : Slc → World → Prop) (w : World) : Prop :=
  C_codec_Writer_gone w_ w (fun (v4 : Bool) w1 => (v4 = true → (R (Slc.mk none 0 0) w1)) ∧
  (v4 = false → (IsAt w_ ∧ (∃ (v8 : Slc), w1.cell? ⟨(pblk w_), (poff w_) + 1, none⟩ = some (Value.slice v8.ptr v8.len v8.cap) ∧ (C_slices_Clone_byte_byte v8 w1 (fun (v9 : Slc) w2 => R v9 w2))))))

def F_towpathlaw01_TxnSize (t_ : T_api_Txn) (R : Int → World → Prop) (w : World) : Prop :=
  ∀ b_ w1, b_ = w.heap.size → w1 = w.alloc (Obj.cells ([Value.int .i64 t_.Number, Value.slice t_.Writes.ptr t_.Writes.len t_.Writes.cap]).toArray ty_api_Txn (0, 0)) → (∃ (v4 : Slc), w1.cell? ⟨b_, 1, none⟩ = some (Value.slice v4.ptr v4.len v4.cap) ∧ (C_towpathlaw01_WritesSize v4 w1 (fun (v5 : Int) w2 => R (IntKind.i64.wrap (1 + v5)) w2)))

def F_record_Encode_k1 (t28 : Int) (again_ : Int → World → Prop) (w7 : World) : Prop :=
  again_ (IntKind.i64.wrap (t28 + 1)) w7

def F_record_Encode_L0 (R : Slc → Int → World → Prop) (b_ : Nat) (v13 : Option Addr) (v26 : Slc) (again_ : Int → World → Prop) (t28 : Int) (w6 : World) : Prop :=
  ((decide (t28 < ((v26.len : Nat) : Int))) = true → (∃ (v32 : Slc), w6.cell? ⟨b_, 1, none⟩ = some (Value.slice v32.ptr v32.len v32.cap) ∧ (IsAt v32.ptr ∧ (0 ≤ t28 ∧ t28 < ((v32.len : Nat) : Int) ∧ (∃ (v35 : T_api_Write), CellsAt w6 (pblk v32.ptr) ((poff v32.ptr) + t28.toNat * 3) [Value.string v35.Key, Value.string v35.Val, Value.bool v35.Drop] ∧ (∀ b_1 w8, b_1 = w6.heap.size → w8 = w6.alloc (Obj.cells ([Value.string ByteArray.empty, Value.string ByteArray.empty, Value.bool false]).toArray ty_api_Write (0, 0)) → (Writable w8 b_1 0 3 ∧ (∀ w9, w9 = World.puts b_1 0 [Value.string v35.Key, Value.string v35.Val, Value.bool v35.Drop] w8 → (∃ (v38 : ByteArray), w9.cell? ⟨b_1, 0, none⟩ = some (Value.string v38) ∧ (C_codec_Writer_Text v13 v38 w9 (fun w10 => ∃ (v41 : Bool), w10.cell? ⟨b_1, 2, none⟩ = some (Value.bool v41) ∧ ((v41 = true → (C_codec_Writer_Fixed v13 1 1 w10 (fun (v43 : Int) w11 => F_record_Encode_k1 t28 again_ w11))) ∧
  (v41 = false → (C_codec_Writer_Fixed v13 0 1 w10 (fun (v45 : Int) w12 => ∃ (v48 : ByteArray), w12.cell? ⟨b_1, 1, none⟩ = some (Value.string v48) ∧ (C_codec_Writer_Text v13 v48 w12 (fun w13 => F_record_Encode_k1 t28 again_ w13))))))))))))))))) ∧
  ((decide (t28 < ((v26.len : Nat) : Int))) = false → (C_codec_Writer_Done v13 w6 (fun (v52 : Slc) w14 => R v52 0 w14)))

def F_record_Encode (t_ : T_api_Txn) (R : Slc → Int → World → Prop) (w : World) : Prop :=
  ∀ b_ w1, b_ = w.heap.size → w1 = w.alloc (Obj.cells ([Value.int .i64 t_.Number, Value.slice t_.Writes.ptr t_.Writes.len t_.Writes.cap]).toArray ty_api_Txn (0, 0)) → (∃ (v8 : T_api_Txn), CellsAt w1 b_ 0 [Value.int .i64 v8.Number, Value.slice v8.Writes.ptr v8.Writes.len v8.Writes.cap] ∧ (C_record_Check v8 w1 (fun (v9 : Int) w2 => ((v9 != 0) = true → (R (Slc.mk none 0 0) v9 w2)) ∧
  ((v9 != 0) = false → (C_codec_NewWriter w2 (fun (v13 : Option Addr) w3 => ∃ (v16 : Int), w3.cell? ⟨b_, 0, none⟩ = some (Value.int .i64 v16) ∧ (C_codec_Writer_Var v13 (IntKind.u64.wrap v16) w3 (fun w4 => ∃ (v21 : Slc), w4.cell? ⟨b_, 1, none⟩ = some (Value.slice v21.ptr v21.len v21.cap) ∧ (C_codec_Writer_Var v13 (IntKind.u64.wrap ((v21.len : Nat) : Int)) w4 (fun w5 => ∃ (v26 : Slc), w5.cell? ⟨b_, 1, none⟩ = some (Value.slice v26.ptr v26.len v26.cap) ∧ (∃ (I : Int → World → Prop) (μ : Int → World → Nat), I 0 w5 ∧
  ∀ (t28 : Int) w, I t28 w → F_record_Encode_L0 R b_ v13 v26 (fun (t28' : Int) w' => I t28' w' ∧ μ t28' w' < μ t28 w) t28 w)))))))))))

def F_sum_CRC (b_ : Slc) (R : Int → World → Prop) (w : World) : Prop :=
  C_sum_More 0 b_ w (fun (v4 : Int) w1 => R v4 w1)

def F_logfile_turns (R : Value → World → Prop) (w : World) : Prop :=
  ∀ b_ w1, b_ = w.heap.size → w1 = w.alloc (Obj.cells ([Value.int .i64 0]).toArray ty_int (0, 0)) → (Writable w1 b_ 0 1 ∧ (∀ w2, w2 = World.puts b_ 0 [Value.int .i64 1] w1 → (R (Value.func (.func 82) #[] #[Value.pointer (some ⟨b_, 0, none⟩)]) w2)))

def F_logfile_records (b_ : Slc) (e : Option Addr) (R : Value → World → Prop) (w : World) : Prop :=
  ∀ b_1 w1, b_1 = w.heap.size → w1 = w.alloc (Obj.cells ([Value.slice b_.ptr b_.len b_.cap]).toArray ty_sl_uint8 (0, 0)) → (∀ b_2 w2, b_2 = w1.heap.size → w2 = w1.alloc (Obj.cells ([Value.pointer e]).toArray ty_ptr_api_Errno (0, 0)) → (R (Value.func (.func 83) #[] #[Value.pointer (some ⟨b_1, 0, none⟩), Value.pointer (some ⟨b_2, 0, none⟩)]) w2))

def F_record_Check_1 (w_ : T_api_Write) (R : Bool → World → Prop) (w : World) : Prop :=
  ∀ b_ w1, b_ = w.heap.size → w1 = w.alloc (Obj.cells ([Value.string w_.Key, Value.string w_.Val, Value.bool w_.Drop]).toArray ty_api_Write (0, 0)) → (∃ (v4 : ByteArray), w1.cell? ⟨b_, 0, none⟩ = some (Value.string v4) ∧ (((v4.toList == ByteArray.empty.toList) = true → (R true w1)) ∧
  ((v4.toList == ByteArray.empty.toList) = false → (∃ (v8 : ByteArray), w1.cell? ⟨b_, 0, none⟩ = some (Value.string v8) ∧ (((decide (((v8.size : Nat) : Int) > 64)) = true → (R true w1)) ∧
  ((decide (((v8.size : Nat) : Int) > 64)) = false → (∃ (v14 : ByteArray), w1.cell? ⟨b_, 1, none⟩ = some (Value.string v14) ∧ (((decide (((v14.size : Nat) : Int) > 1024)) = true → (R true w1)) ∧
  ((decide (((v14.size : Nat) : Int) > 1024)) = false → (∃ (v20 : Bool), w1.cell? ⟨b_, 2, none⟩ = some (Value.bool v20) ∧ ((v20 = true → (∃ (v23 : ByteArray), w1.cell? ⟨b_, 1, none⟩ = some (Value.string v23) ∧ (R (!(v23.toList == ByteArray.empty.toList)) w1))) ∧
  (v20 = false → (R false w1)))))))))))))

def F_slices_ContainsFunc_api_Write_api_Write (s : Slc) (f : Value) (R : Bool → World → Prop) (w : World) : Prop :=
  C_slices_IndexFunc_api_Write_api_Write s f w (fun (v7 : Int) w1 => R (decide (v7 ≥ 0)) w1)

def F_towpathlaw01_SameWrites_L0 (a_ : Slc) (b_ : Slc) (R : Bool → World → Prop) (again_ : Int → World → Prop) (i : Int) (w1 : World) : Prop :=
  ((decide (i < ((a_.len : Nat) : Int))) = true → (IsAt a_.ptr ∧ (0 ≤ i ∧ i < ((a_.len : Nat) : Int) ∧ (∃ (v20 : T_api_Write), CellsAt w1 (pblk a_.ptr) ((poff a_.ptr) + i.toNat * 3) [Value.string v20.Key, Value.string v20.Val, Value.bool v20.Drop] ∧ (IsAt b_.ptr ∧ (0 ≤ i ∧ i < ((b_.len : Nat) : Int) ∧ (∃ (v24 : T_api_Write), CellsAt w1 (pblk b_.ptr) ((poff b_.ptr) + i.toNat * 3) [Value.string v24.Key, Value.string v24.Val, Value.bool v24.Drop] ∧ (∀ w2, Ext w1 w2 → (((!(((v20.Key == v24.Key) && (v20.Val == v24.Val)) && (v20.Drop == v24.Drop))) = true → (R false w2)) ∧
  ((!(((v20.Key == v24.Key) && (v20.Val == v24.Val)) && (v20.Drop == v24.Drop))) = false → (again_ (IntKind.i64.wrap (i + 1)) w2))))))))))) ∧
  ((decide (i < ((a_.len : Nat) : Int))) = false → (R true w1))

def F_towpathlaw01_SameWrites (a_ : Slc) (b_ : Slc) (R : Bool → World → Prop) (w : World) : Prop :=
  ((((a_.len : Nat) : Int) != ((b_.len : Nat) : Int)) = true → (R false w)) ∧
  ((((a_.len : Nat) : Int) != ((b_.len : Nat) : Int)) = false → (∃ (I : Int → World → Prop) (μ : Int → World → Nat), I 0 w ∧
  ∀ (i : Int) w, I i w → F_towpathlaw01_SameWrites_L0 a_ b_ R (fun (i' : Int) w' => I i' w' ∧ μ i' w' < μ i w) i w))

def F_slices_Clone_byte_byte (s : Slc) (R : Slc → World → Prop) (w : World) : Prop :=
  (s.ptr.isNone = true → (R (Slc.mk none 0 0) w)) ∧
  (s.ptr.isNone = false → (∀ b_ w1, b_ = w.heap.size → w1 = w.alloc (Obj.cells ([]).toArray ty_uint8 (0, 0)) → (∃ src, SrcAt w1 s 1 src ∧ AppendW 1 1 ty_uint8 [Value.int .u8 0] (Slc.mk (some ⟨b_, 0, none⟩) 0 0) src s.len w1 (fun v7 w2 => R v7 w2))))

def F_codec_Reader_take_k0 (r : Option Addr) (next : Value) (R : Bool → World → Prop) (t22 : Bool) (w1 : World) : Prop :=
  (t22 = true → (R false w1)) ∧
  (t22 = false → (IsAt r ∧ (∃ (v28 : Slc), w1.cell? ⟨(pblk r), (poff r) + 1, none⟩ = some (Value.slice v28.ptr v28.len v28.cap) ∧ (CallsV (P := Try.prog) next #[Value.slice v28.ptr v28.len v28.cap] w1 (fun e' w2 => ∃ (n_ : Int) (e : Int), e' = Ending.returned (Value.tuple #[Value.int .i64 n_, Value.int .i64 e]) ∧ (((e != 0) = true → (IsAt r ∧ (Writable w2 (pblk r) ((poff r) + 2) 1 ∧ (∀ w3, w3 = World.puts (pblk r) ((poff r) + 2) [Value.int .i64 e] w2 → (R false w3))))) ∧
  ((e != 0) = false → (∀ w4, (∃ k, w4 = w2.drewN k) → (IsAt r ∧ (∃ (v42 : Slc), w4.cell? ⟨(pblk r), (poff r) + 1, none⟩ = some (Value.slice v42.ptr v42.len v42.cap) ∧ (IsAt r ∧ (∃ (v47 : Slc), w4.cell? ⟨(pblk r), (poff r) + 1, none⟩ = some (Value.slice v47.ptr v47.len v47.cap) ∧ (IsAt r ∧ (∃ (v52 : Slc), w4.cell? ⟨(pblk r), (poff r) + 1, none⟩ = some (Value.slice v52.ptr v52.len v52.cap) ∧ ((0 ≤ n_ ∧ n_ ≤ ((v47.len : Nat) : Int) ∧ ((v47.len : Nat) : Int) ≤ ((v52.len : Nat) : Int) ∧ ((v52.len : Nat) : Int) ≤ ((v42.cap : Nat) : Int)) ∧ (∀ s, s = Slc.cut 1 v42 n_ ((v47.len : Nat) : Int) ((v52.len : Nat) : Int) → (IsAt r ∧ (Writable w4 (pblk r) ((poff r) + 1) 1 ∧ (∀ w5, w5 = World.puts (pblk r) ((poff r) + 1) [Value.slice s.ptr s.len s.cap] w4 → (R true w5))))))))))))))))))))

def F_codec_Reader_take (r : Option Addr) (next : Value) (R : Bool → World → Prop) (w : World) : Prop :=
  (r.isNone = true → (F_codec_Reader_take_k0 r next R true w)) ∧
  (r.isNone = false → (IsAt r ∧ (∃ (v13 : Bool), w.cell? ⟨(pblk r), (poff r), none⟩ = some (Value.bool v13) ∧ (((!v13) = true → (F_codec_Reader_take_k0 r next R true w)) ∧
  ((!v13) = false → (IsAt r ∧ (∃ (v20 : Int), w.cell? ⟨(pblk r), (poff r) + 2, none⟩ = some (Value.int .i64 v20) ∧ (F_codec_Reader_take_k0 r next R (v20 != 0) w))))))))

def F_codec_Reader_Var_1 (b_ : Slc) (t1 : Option Addr) (R : Int → Int → World → Prop) (w : World) : Prop :=
  C_codec_short b_ w (fun (v : Int) (size : Int) (e : Int) w1 => IsAt t1 ∧ (Writable w1 (pblk t1) (poff t1) 1 ∧ (∀ w2, w2 = World.puts (pblk t1) (poff t1) [Value.int .u64 v] w1 → (R size e w2))))

def F_codec_short_L0 (b_ : Slc) (R : Int → Int → Int → World → Prop) (again_ : Int → Int → World → Prop) (n_ : Int) (t9 : Int) (w1 : World) : Prop :=
  ((decide (t9 < ((b_.len : Nat) : Int))) = true → (IsAt b_.ptr ∧ (0 ≤ t9 ∧ t9 < ((b_.len : Nat) : Int) ∧ (∃ (c : Int), w1.cell? ⟨(pblk b_.ptr), (poff b_.ptr) + t9.toNat, none⟩ = some (Value.int .u8 c) ∧ (((((t9 == 9) && (decide (c > 1))) || ((decide (t9 > 0)) && (c == 0))) = true → (R 0 0 4 w1)) ∧
  ((((t9 == 9) && (decide (c > 1))) || ((decide (t9 > 0)) && (c == 0))) = false → (0 ≤ IntKind.i64.wrap (7 * t9) ∧ (((decide (c < 128)) = true → (R (bor .u64 n_ (IntKind.u64.wrap ((IntKind.u64.wrap (band .u8 c 127)) * 2 ^ (min (IntKind.i64.wrap (7 * t9)).toNat 64)))) (IntKind.i64.wrap (t9 + 1)) 0 w1)) ∧
  ((decide (c < 128)) = false → (again_ (bor .u64 n_ (IntKind.u64.wrap ((IntKind.u64.wrap (band .u8 c 127)) * 2 ^ (min (IntKind.i64.wrap (7 * t9)).toNat 64)))) (IntKind.i64.wrap (t9 + 1)) w1)))))))))) ∧
  ((decide (t9 < ((b_.len : Nat) : Int))) = false → (R 0 0 5 w1))

def F_codec_short (b_ : Slc) (R : Int → Int → Int → World → Prop) (w : World) : Prop :=
  ∃ (I : Int → Int → World → Prop) (μ : Int → Int → World → Nat), I 0 0 w ∧
  ∀ (n_ : Int) (t9 : Int) w, I n_ t9 w → F_codec_short_L0 b_ R (fun (n_' : Int) (t9' : Int) w' => I n_' t9' w' ∧ μ n_' t9' w' < μ n_ t9 w) n_ t9 w

def F_codec_Reader_Fixed_1_L1 (b_ : Slc) (t1 : Option Addr) (t2 : Option Addr) (R : Int → Int → World → Prop) (again_ : Int → World → Prop) (i : Int) (w2 : World) : Prop :=
  ((decide (i ≥ 0)) = true → (∀ w3, (∃ k, w3 = w2.drewN k) → (IsAt t2 ∧ (∃ (v25 : Int), w3.cell? ⟨(pblk t2), (poff t2), none⟩ = some (Value.int .u64 v25) ∧ (IsAt b_.ptr ∧ (0 ≤ i ∧ i < ((b_.len : Nat) : Int) ∧ (∃ (v30 : Int), w3.cell? ⟨(pblk b_.ptr), (poff b_.ptr) + i.toNat, none⟩ = some (Value.int .u8 v30) ∧ (Writable w3 (pblk t2) (poff t2) 1 ∧ (∀ w4, w4 = World.puts (pblk t2) (poff t2) [Value.int .u64 (bor .u64 (IntKind.u64.wrap (v25 * 2 ^ 8)) (IntKind.u64.wrap v30))] w3 → (again_ (IntKind.i64.wrap (i - 1)) w4)))))))))) ∧
  ((decide (i ≥ 0)) = false → (IsAt t1 ∧ (∃ (v33 : Int), w2.cell? ⟨(pblk t1), (poff t1), none⟩ = some (Value.int .i64 v33) ∧ (R v33 0 w2))))

def F_codec_Reader_Fixed_1_k0 (b_ : Slc) (t1 : Option Addr) (t2 : Option Addr) (R : Int → Int → World → Prop) (t7 : Bool) (w1 : World) : Prop :=
  (t7 = true → (R 0 1 w1)) ∧
  (t7 = false → (IsAt t1 ∧ (∃ (v15 : Int), w1.cell? ⟨(pblk t1), (poff t1), none⟩ = some (Value.int .i64 v15) ∧ (((decide (v15 > ((b_.len : Nat) : Int))) = true → (R 0 5 w1)) ∧
  ((decide (v15 > ((b_.len : Nat) : Int))) = false → (IsAt t1 ∧ (∃ (v19 : Int), w1.cell? ⟨(pblk t1), (poff t1), none⟩ = some (Value.int .i64 v19) ∧ (∃ (I : Int → World → Prop) (μ : Int → World → Nat), I (IntKind.i64.wrap (v19 - 1)) w1 ∧
  ∀ (i : Int) w, I i w → F_codec_Reader_Fixed_1_L1 b_ t1 t2 R (fun (i' : Int) w' => I i' w' ∧ μ i' w' < μ i w) i w))))))))

def F_codec_Reader_Fixed_1 (b_ : Slc) (t1 : Option Addr) (t2 : Option Addr) (R : Int → Int → World → Prop) (w : World) : Prop :=
  IsAt t1 ∧ (∃ (v8 : Int), w.cell? ⟨(pblk t1), (poff t1), none⟩ = some (Value.int .i64 v8) ∧ (((decide (v8 < 1)) = true → (F_codec_Reader_Fixed_1_k0 b_ t1 t2 R true w)) ∧
  ((decide (v8 < 1)) = false → (∃ (v11 : Int), w.cell? ⟨(pblk t1), (poff t1), none⟩ = some (Value.int .i64 v11) ∧ (F_codec_Reader_Fixed_1_k0 b_ t1 t2 R (decide (v11 > 8)) w)))))

def F_codec_Reader_Text_1 (b_ : Slc) (t1 : Option Addr) (t2 : Option Addr) (R : Int → Int → World → Prop) (w : World) : Prop :=
  IsAt t1 ∧ (∃ (v9 : Int), w.cell? ⟨(pblk t1), (poff t1), none⟩ = some (Value.int .i64 v9) ∧ (((decide (v9 < 0)) = true → (R 0 1 w)) ∧
  ((decide (v9 < 0)) = false → (C_codec_short b_ w (fun (n_ : Int) (size : Int) (e : Int) w1 => ((e != 0) = true → (R 0 e w1)) ∧
  ((e != 0) = false → (IsAt t1 ∧ (∃ (v23 : Int), w1.cell? ⟨(pblk t1), (poff t1), none⟩ = some (Value.int .i64 v23) ∧ (((decide (n_ > (IntKind.u64.wrap v23))) = true → (R 0 3 w1)) ∧
  ((decide (n_ > (IntKind.u64.wrap v23))) = false → (((decide (n_ > (IntKind.u64.wrap (IntKind.i64.wrap (((b_.len : Nat) : Int) - size))))) = true → (R 0 5 w1)) ∧
  ((decide (n_ > (IntKind.u64.wrap (IntKind.i64.wrap (((b_.len : Nat) : Int) - size))))) = false → ((0 ≤ size ∧ size ≤ IntKind.i64.wrap (size + (IntKind.i64.wrap n_)) ∧ IntKind.i64.wrap (size + (IntKind.i64.wrap n_)) ≤ ((b_.cap : Nat) : Int) ∧ ((b_.cap : Nat) : Int) ≤ ((b_.cap : Nat) : Int)) ∧ (∀ s, s = Slc.cut 1 b_ size (IntKind.i64.wrap (size + (IntKind.i64.wrap n_))) ((b_.cap : Nat) : Int) → (∃ str : ByteArray, SrcAt w1 s 1 (strCells str) ∧ (IsAt t2 ∧ (Writable w1 (pblk t2) (poff t2) 1 ∧ (∀ w2, w2 = World.puts (pblk t2) (poff t2) [Value.string str] w1 → (R (IntKind.i64.wrap (size + (IntKind.i64.wrap n_))) 0 w2)))))))))))))))))))

def F_codec_Writer_gone (w_ : Option Addr) (R : Bool → World → Prop) (w : World) : Prop :=
  (w_.isNone = true → (R true w)) ∧
  (w_.isNone = false → (IsAt w_ ∧ (∃ (v9 : Bool), w.cell? ⟨(pblk w_), (poff w_), none⟩ = some (Value.bool v9) ∧ (R (!v9) w))))

def F_towpathlaw01_WritesSize_L0 (l_ : Slc) (R : Int → World → Prop) (again_ : Int → Int → World → Prop) (n_ : Int) (i : Int) (w1 : World) : Prop :=
  (((decide (i < ((l_.len : Nat) : Int))) && (decide (n_ ≤ 1048576))) = true → (IsAt l_.ptr ∧ (0 ≤ i ∧ i < ((l_.len : Nat) : Int) ∧ (∃ (v22 : ByteArray), w1.cell? ⟨(pblk l_.ptr), (poff l_.ptr) + i.toNat * 3, none⟩ = some (Value.string v22) ∧ (IsAt l_.ptr ∧ (0 ≤ i ∧ i < ((l_.len : Nat) : Int) ∧ (∃ (v29 : ByteArray), w1.cell? ⟨(pblk l_.ptr), ((poff l_.ptr) + i.toNat * 3) + 1, none⟩ = some (Value.string v29) ∧ (∀ w2, Ext w1 w2 → (again_ (IntKind.i64.wrap ((IntKind.i64.wrap (n_ + ((v22.size : Nat) : Int))) + ((v29.size : Nat) : Int))) (IntKind.i64.wrap (i + 1)) w2))))))))) ∧
  (((decide (i < ((l_.len : Nat) : Int))) && (decide (n_ ≤ 1048576))) = false → (R n_ w1))

def F_towpathlaw01_WritesSize (l_ : Slc) (R : Int → World → Prop) (w : World) : Prop :=
  ∃ (I : Int → Int → World → Prop) (μ : Int → Int → World → Nat), I ((l_.len : Nat) : Int) 0 w ∧
  ∀ (n_ : Int) (i : Int) w, I n_ i w → F_towpathlaw01_WritesSize_L0 l_ R (fun (n_' : Int) (i' : Int) w' => I n_' i' w' ∧ μ n_' i' w' < μ n_ i w) n_ i w

def F_sum_More_L0 (b_ : Slc) (R : Int → World → Prop) (b_1 : Nat) (again_ : Int → Int → World → Prop) (c : Int) (t14 : Int) (w4 : World) : Prop :=
  ((decide (t14 < ((b_.len : Nat) : Int))) = true → (IsAt b_.ptr ∧ (0 ≤ t14 ∧ t14 < ((b_.len : Nat) : Int) ∧ (∃ (x : Int), w4.cell? ⟨(pblk b_.ptr), (poff b_.ptr) + t14.toNat, none⟩ = some (Value.int .u8 x) ∧ (0 ≤ bxor .u8 (IntKind.u8.wrap c) x ∧ bxor .u8 (IntKind.u8.wrap c) x < (256 : Int) ∧ (∃ (v23 : Int), w4.cell? ⟨b_1, 0 + (bxor .u8 (IntKind.u8.wrap c) x).toNat, none⟩ = some (Value.int .u32 v23) ∧ (again_ (bxor .u32 v23 (Int.fdiv c (2 ^ 8))) (IntKind.i64.wrap (t14 + 1)) w4))))))) ∧
  ((decide (t14 < ((b_.len : Nat) : Int))) = false → (R (bxor .u32 (IntKind.max .u32) c) w4))

def F_sum_More (sum : Int) (b_ : Slc) (R : Int → World → Prop) (w : World) : Prop :=
  C_sum_table w (fun (v9 : List Int) w1 => (v9.length = 256) → ∀ b_1 w2, b_1 = w1.heap.size → w2 = w1.alloc (Obj.cells ((List.map (Value.int .u32) (List.replicate 256 0))).toArray ty_256_uint32 (0, 0)) → (Writable w2 b_1 0 256 ∧ (∀ w3, w3 = World.puts b_1 0 (List.map (Value.int .u32) v9) w2 → (∃ (I : Int → Int → World → Prop) (μ : Int → Int → World → Nat), I (bxor .u32 (IntKind.max .u32) sum) 0 w3 ∧
  ∀ (c : Int) (t14 : Int) w, I c t14 w → F_sum_More_L0 b_ R b_1 (fun (c' : Int) (t14' : Int) w' => I c' t14' w' ∧ μ c' t14' w' < μ c t14 w) c t14 w))))

def F_logfile_turns_1 (t_ : T_api_Txn) (t1 : Option Addr) (R : Int → World → Prop) (w : World) : Prop :=
  ∀ b_ w1, b_ = w.heap.size → w1 = w.alloc (Obj.cells ([Value.int .i64 t_.Number, Value.slice t_.Writes.ptr t_.Writes.len t_.Writes.cap]).toArray ty_api_Txn (0, 0)) → (∃ (v5 : T_api_Txn), CellsAt w1 b_ 0 [Value.int .i64 v5.Number, Value.slice v5.Writes.ptr v5.Writes.len v5.Writes.cap] ∧ (C_record_Check v5 w1 (fun (v6 : Int) w2 => ((v6 != 0) = true → (R v6 w2)) ∧
  ((v6 != 0) = false → (∃ (v11 : Int), w2.cell? ⟨b_, 0, none⟩ = some (Value.int .i64 v11) ∧ (IsAt t1 ∧ (∃ (v12 : Int), w2.cell? ⟨(pblk t1), (poff t1), none⟩ = some (Value.int .i64 v12) ∧ (((v11 != v12) = true → (R 6 w2)) ∧
  ((v11 != v12) = false → (IsAt t1 ∧ (∃ (v14 : Int), w2.cell? ⟨(pblk t1), (poff t1), none⟩ = some (Value.int .i64 v14) ∧ (Writable w2 (pblk t1) (poff t1) 1 ∧ (∀ w3, w3 = World.puts (pblk t1) (poff t1) [Value.int .i64 (IntKind.i64.wrap (v14 + 1))] w2 → (R 0 w3))))))))))))))

def F_logfile_records_1_k1 (yield : Value) (t1 : Option Addr) (t2 : Option Addr) (R : World → Prop) (v12 : Option Addr) (again_ : Int → World → Prop) (s : Slc) (v25 : Int) (t34 : Bool) (w7 : World) : Prop :=
  (t34 = true → (∀ w8, (∃ k, w8 = w7.drewN k) → (IsAt t2 ∧ (∃ (v35 : Option Addr), w8.cell? ⟨(pblk t2), (poff t2), none⟩ = some (Value.pointer v35) ∧ (∃ (v37 : Int), (C_codec_Reader_End v12 w8 (fun (v37' : Int) w'' => v37' = v37 ∧ w'' = w8)) ∧ (IsAt v35 ∧ (Writable w8 (pblk v35) (poff v35) 1 ∧ (∀ w10, w10 = World.puts (pblk v35) (poff v35) [Value.int .i64 v37] w8 → (R w10))))))))) ∧
  (t34 = false → (C_sum_CRC s w7 (fun (v42 : Int) w11 => (((IntKind.u32.wrap v25) != v42) = true → (IsAt t2 ∧ (∃ (v44 : Option Addr), w11.cell? ⟨(pblk t2), (poff t2), none⟩ = some (Value.pointer v44) ∧ (IsAt v44 ∧ (Writable w11 (pblk v44) (poff v44) 1 ∧ (∀ w12, w12 = World.puts (pblk v44) (poff v44) [Value.int .i64 4] w11 → (R w12))))))) ∧
  (((IntKind.u32.wrap v25) != v42) = false → (C_record_Decode s w11 (fun (v48 : T_api_Txn) (f : Int) w13 => ∀ b_ w14, b_ = w13.heap.size → w14 = w13.alloc (Obj.cells ([Value.int .i64 0, Value.slice none 0 0]).toArray ty_api_Txn (0, 0)) → (Writable w14 b_ 0 2 ∧ (∀ w15, w15 = World.puts b_ 0 [Value.int .i64 v48.Number, Value.slice v48.Writes.ptr v48.Writes.len v48.Writes.cap] w14 → (((f != 0) = true → (IsAt t2 ∧ (∃ (v53 : Option Addr), w15.cell? ⟨(pblk t2), (poff t2), none⟩ = some (Value.pointer v53) ∧ (IsAt v53 ∧ (Writable w15 (pblk v53) (poff v53) 1 ∧ (∀ w16, w16 = World.puts (pblk v53) (poff v53) [Value.int .i64 f] w15 → (R w16))))))) ∧
  ((f != 0) = false → (∀ w17, (∃ k, w17 = w15.drewN k) → (IsAt t1 ∧ (∃ (v57 : Slc), w17.cell? ⟨(pblk t1), (poff t1), none⟩ = some (Value.slice v57.ptr v57.len v57.cap) ∧ (∃ (v60 : Int), (C_codec_Reader_Left v12 w17 (fun (v60' : Int) w'' => v60' = v60 ∧ w'' = w17)) ∧ (∃ (v62 : T_api_Txn), CellsAt w17 b_ 0 [Value.int .i64 v62.Number, Value.slice v62.Writes.ptr v62.Writes.len v62.Writes.cap] ∧ (CallsY (P := Try.prog) yield #[Value.int .i64 (IntKind.i64.wrap (((v57.len : Nat) : Int) - v60)), Value.agg #[Value.int .i64 v62.Number, Value.slice v62.Writes.ptr v62.Writes.len v62.Writes.cap]] w17 (fun e' w19 => ∃ (v63 : Bool), e' = Ending.returned (Value.bool v63) ∧ (((!v63) = true → (R w19)) ∧
  ((!v63) = false → (C_codec_Reader_Left v12 w19 (fun (v18 : Int) w20 => again_ v18 w20)))))))))))))))))))))

def F_logfile_records_1_L0 (yield : Value) (t1 : Option Addr) (t2 : Option Addr) (R : World → Prop) (v12 : Option Addr) (again_ : Int → World → Prop) (left : Int) (w2 : World) : Prop :=
  ((decide (left > 0)) = true → (C_codec_Reader_Text v12 65536 w2 (fun (v20 : ByteArray) w3 => ∀ s w4, OfString ty_uint8 v20 w3 s w4 → (C_codec_Reader_Left v12 w4 (fun (v23 : Int) w5 => C_codec_Reader_Fixed v12 4 w5 (fun (v25 : Int) w6 => ((v23 == left) = true → (F_logfile_records_1_k1 yield t1 t2 R v12 again_ s v25 true w6)) ∧
  ((v23 == left) = false → (C_codec_Reader_Left v12 w6 (fun (v31 : Int) w21 => F_logfile_records_1_k1 yield t1 t2 R v12 again_ s v25 (v31 == v23) w21))))))))) ∧
  ((decide (left > 0)) = false → (R w2))

def F_logfile_records_1 (yield : Value) (t1 : Option Addr) (t2 : Option Addr) (R : World → Prop) (w : World) : Prop :=
  IsAt t1 ∧ (∃ (v11 : Slc), w.cell? ⟨(pblk t1), (poff t1), none⟩ = some (Value.slice v11.ptr v11.len v11.cap) ∧ (C_codec_NewReader v11 w (fun (v12 : Option Addr) w1 => IsAt t1 ∧ (∃ (v13 : Slc), w1.cell? ⟨(pblk t1), (poff t1), none⟩ = some (Value.slice v13.ptr v13.len v13.cap) ∧ (∃ (I : Int → World → Prop) (μ : Int → World → Nat), I ((v13.len : Nat) : Int) w1 ∧
  ∀ (left : Int) w, I left w → F_logfile_records_1_L0 yield t1 t2 R v12 (fun (left' : Int) w' => I left' w' ∧ μ left' w' < μ left w) left w)))))

def F_record_Decode_k1 (b_4 : Nat) (t51 : Int) (again_ : Int → World → Prop) (b_5 : Nat) (w24 : World) : Prop :=
  ∃ (v91 : Slc), w24.cell? ⟨b_4, 1, none⟩ = some (Value.slice v91.ptr v91.len v91.cap) ∧ (∃ (v92 : T_api_Write), CellsAt w24 b_5 0 [Value.string v92.Key, Value.string v92.Val, Value.bool v92.Drop] ∧ (∀ b_6 w25, b_6 = w24.heap.size → w25 = w24.alloc (Obj.cells ([Value.string v92.Key, Value.string v92.Val, Value.bool v92.Drop]).toArray ty_api_Write (0, 0)) → (∃ src, SrcAt w25 (Slc.mk (some ⟨b_6, 0, none⟩) 1 1) 3 src ∧ AppendW 3 40 ty_api_Write [Value.string ByteArray.empty, Value.string ByteArray.empty, Value.bool false] v91 src 1 w25 (fun v94 w26 => Writable w26 b_4 1 1 ∧ (∀ w27, w27 = World.puts b_4 1 [Value.slice v94.ptr v94.len v94.cap] w26 → (again_ (IntKind.u64.wrap (t51 + 1)) w27))))))

def F_record_Decode_L0 (R : T_api_Txn → Int → World → Prop) (b_1 : Nat) (b_2 : Nat) (b_3 : Nat) (v38 : Int) (b_4 : Nat) (again_ : Int → World → Prop) (t51 : Int) (w15 : World) : Prop :=
  ((decide (t51 < v38)) = true → (∀ b_5 w16, b_5 = w15.heap.size → w16 = w15.alloc (Obj.cells ([Value.string ByteArray.empty, Value.string ByteArray.empty, Value.bool false]).toArray ty_api_Write (0, 0)) → (∃ (v53 : Option Addr), w16.cell? ⟨b_2, 0, none⟩ = some (Value.pointer v53) ∧ (C_codec_Reader_Text v53 64 w16 (fun (v54 : ByteArray) w17 => Writable w17 b_5 0 1 ∧ (∀ w18, w18 = World.puts b_5 0 [Value.string v54] w17 → (∃ (v58 : ByteArray), w18.cell? ⟨b_5, 0, none⟩ = some (Value.string v58) ∧ (C_record_Decode_1 (v58.toList == ByteArray.empty.toList) 1 (some ⟨b_2, 0, none⟩) (some ⟨b_3, 0, none⟩) w18 (fun (v60 : Int) w19 => ((v60 != 0) = true → (Writable w19 b_1 0 2 ∧ (∀ w20, w20 = World.puts b_1 0 [Value.int .i64 0, Value.slice none 0 0] w19 → (∃ (res2 : T_api_Txn), CellsAt w20 b_1 0 [Value.int .i64 res2.Number, Value.slice res2.Writes.ptr res2.Writes.len res2.Writes.cap] ∧ (R res2 v60 w20))))) ∧
  ((v60 != 0) = false → (∃ (v65 : Option Addr), w19.cell? ⟨b_2, 0, none⟩ = some (Value.pointer v65) ∧ (C_codec_Reader_Fixed v65 1 w19 (fun (v66 : Int) w21 => C_record_Decode_1 (decide (v66 > 1)) 4 (some ⟨b_2, 0, none⟩) (some ⟨b_3, 0, none⟩) w21 (fun (v70 : Int) w22 => ((v70 != 0) = true → (Writable w22 b_1 0 2 ∧ (∀ w23, w23 = World.puts b_1 0 [Value.int .i64 0, Value.slice none 0 0] w22 → (∃ (res3 : T_api_Txn), CellsAt w23 b_1 0 [Value.int .i64 res3.Number, Value.slice res3.Writes.ptr res3.Writes.len res3.Writes.cap] ∧ (R res3 v70 w23))))) ∧
  ((v70 != 0) = false → (Writable w22 b_5 2 1 ∧ (∀ w28, w28 = World.puts b_5 2 [Value.bool (v66 == 1)] w22 → (∃ (v79 : Bool), w28.cell? ⟨b_5, 2, none⟩ = some (Value.bool v79) ∧ (((!v79) = true → (∃ (v81 : Option Addr), w28.cell? ⟨b_2, 0, none⟩ = some (Value.pointer v81) ∧ (C_codec_Reader_Text v81 1024 w28 (fun (v82 : ByteArray) w29 => Writable w29 b_5 1 1 ∧ (∀ w30, w30 = World.puts b_5 1 [Value.string v82] w29 → (C_record_Decode_1 false 0 (some ⟨b_2, 0, none⟩) (some ⟨b_3, 0, none⟩) w30 (fun (v85 : Int) w31 => ((v85 != 0) = true → (Writable w31 b_1 0 2 ∧ (∀ w32, w32 = World.puts b_1 0 [Value.int .i64 0, Value.slice none 0 0] w31 → (∃ (res4 : T_api_Txn), CellsAt w32 b_1 0 [Value.int .i64 res4.Number, Value.slice res4.Writes.ptr res4.Writes.len res4.Writes.cap] ∧ (R res4 v85 w32))))) ∧
  ((v85 != 0) = false → (F_record_Decode_k1 b_4 t51 again_ b_5 w31))))))))) ∧
  ((!v79) = false → (F_record_Decode_k1 b_4 t51 again_ b_5 w28))))))))))))))))))))) ∧
  ((decide (t51 < v38)) = false → (∃ (v97 : Option Addr), w15.cell? ⟨b_2, 0, none⟩ = some (Value.pointer v97) ∧ (C_codec_Reader_End v97 w15 (fun (v98 : Int) w33 => ((v98 != 0) = true → (Writable w33 b_1 0 2 ∧ (∀ w34, w34 = World.puts b_1 0 [Value.int .i64 0, Value.slice none 0 0] w33 → (∃ (res5 : T_api_Txn), CellsAt w34 b_1 0 [Value.int .i64 res5.Number, Value.slice res5.Writes.ptr res5.Writes.len res5.Writes.cap] ∧ (R res5 v98 w34))))) ∧
  ((v98 != 0) = false → (∃ (v103 : T_api_Txn), CellsAt w33 b_4 0 [Value.int .i64 v103.Number, Value.slice v103.Writes.ptr v103.Writes.len v103.Writes.cap] ∧ (Writable w33 b_1 0 2 ∧ (∀ w35, w35 = World.puts b_1 0 [Value.int .i64 v103.Number, Value.slice v103.Writes.ptr v103.Writes.len v103.Writes.cap] w33 → (∃ (res6 : T_api_Txn), CellsAt w35 b_1 0 [Value.int .i64 res6.Number, Value.slice res6.Writes.ptr res6.Writes.len res6.Writes.cap] ∧ (R res6 0 w35))))))))))

def F_record_Decode (b_ : Slc) (R : T_api_Txn → Int → World → Prop) (w : World) : Prop :=
  ∀ b_1 w1, b_1 = w.heap.size → w1 = w.alloc (Obj.cells ([Value.int .i64 0, Value.slice none 0 0]).toArray ty_api_Txn (0, 0)) → (C_codec_NewReader b_ w1 (fun (v19 : Option Addr) w2 => ∀ b_2 w3, b_2 = w2.heap.size → w3 = w2.alloc (Obj.cells ([Value.pointer none]).toArray ty_ptr_codec_Reader (0, 0)) → (Writable w3 b_2 0 1 ∧ (∀ w4, w4 = World.puts b_2 0 [Value.pointer v19] w3 → (∀ b_3 w5, b_3 = w4.heap.size → w5 = w4.alloc (Obj.cells ([Value.int .i64 0]).toArray ty_int (0, 0)) → (Writable w5 b_3 0 1 ∧ (∀ w6, w6 = World.puts b_3 0 [Value.int .i64 ((b_.len : Nat) : Int)] w5 → (∃ (v23 : Option Addr), w6.cell? ⟨b_2, 0, none⟩ = some (Value.pointer v23) ∧ (C_codec_Reader_Var v23 w6 (fun (v24 : Int) w7 => C_record_Decode_1 ((decide (v24 < 1)) || (decide (v24 > 65536))) 1 (some ⟨b_2, 0, none⟩) (some ⟨b_3, 0, none⟩) w7 (fun (v32 : Int) w8 => ((v32 != 0) = true → (Writable w8 b_1 0 2 ∧ (∀ w9, w9 = World.puts b_1 0 [Value.int .i64 0, Value.slice none 0 0] w8 → (∃ (res : T_api_Txn), CellsAt w9 b_1 0 [Value.int .i64 res.Number, Value.slice res.Writes.ptr res.Writes.len res.Writes.cap] ∧ (R res v32 w9))))) ∧
  ((v32 != 0) = false → (∃ (v37 : Option Addr), w8.cell? ⟨b_2, 0, none⟩ = some (Value.pointer v37) ∧ (C_codec_Reader_Var v37 w8 (fun (v38 : Int) w10 => C_record_Decode_1 (decide (v38 > 32)) 3 (some ⟨b_2, 0, none⟩) (some ⟨b_3, 0, none⟩) w10 (fun (v42 : Int) w11 => ((v42 != 0) = true → (Writable w11 b_1 0 2 ∧ (∀ w12, w12 = World.puts b_1 0 [Value.int .i64 0, Value.slice none 0 0] w11 → (∃ (res1 : T_api_Txn), CellsAt w12 b_1 0 [Value.int .i64 res1.Number, Value.slice res1.Writes.ptr res1.Writes.len res1.Writes.cap] ∧ (R res1 v42 w12))))) ∧
  ((v42 != 0) = false → (∀ b_4 w13, b_4 = w11.heap.size → w13 = w11.alloc (Obj.cells ([Value.int .i64 0, Value.slice none 0 0]).toArray ty_api_Txn (0, 0)) → (Writable w13 b_4 0 2 ∧ (∀ w14, w14 = World.puts b_4 0 [Value.int .i64 (IntKind.i64.wrap v24), Value.slice none 0 0] w13 → (∃ (I : Int → World → Prop) (μ : Int → World → Nat), I 0 w14 ∧
  ∀ (t51 : Int) w, I t51 w → F_record_Decode_L0 R b_1 b_2 b_3 v38 b_4 (fun (t51' : Int) w' => I t51' w' ∧ μ t51' w' < μ t51 w) t51 w)))))))))))))))))))))

def F_slices_IndexFunc_api_Write_api_Write_L0 (s : Slc) (f : Value) (R : Int → World → Prop) (again_ : Int → World → Prop) (t8 : Int) (w1 : World) : Prop :=
  ((decide (t8 < ((s.len : Nat) : Int))) = true → (IsAt s.ptr ∧ (0 ≤ t8 ∧ t8 < ((s.len : Nat) : Int) ∧ (∃ (v15 : T_api_Write), CellsAt w1 (pblk s.ptr) ((poff s.ptr) + t8.toNat * 3) [Value.string v15.Key, Value.string v15.Val, Value.bool v15.Drop] ∧ (CallsV (P := Try.prog) f #[Value.agg #[Value.string v15.Key, Value.string v15.Val, Value.bool v15.Drop]] w1 (fun e' w2 => ∃ (v16 : Bool), e' = Ending.returned (Value.bool v16) ∧ ((v16 = true → (R t8 w2)) ∧
  (v16 = false → (again_ (IntKind.i64.wrap (t8 + 1)) w2))))))))) ∧
  ((decide (t8 < ((s.len : Nat) : Int))) = false → (R (-1) w1))

def F_slices_IndexFunc_api_Write_api_Write (s : Slc) (f : Value) (R : Int → World → Prop) (w : World) : Prop :=
  ∃ (I : Int → World → Prop) (μ : Int → World → Nat), I 0 w ∧
  ∀ (t8 : Int) w, I t8 w → F_slices_IndexFunc_api_Write_api_Write_L0 s f R (fun (t8' : Int) w' => I t8' w' ∧ μ t8' w' < μ t8 w) t8 w

def F_sum_table_L1 (b_1 : Nat) (t4 : Int) (again_ : Int → World → Prop) (again_1 : Int → Int → World → Prop) (c : Int) (t9 : Int) (w4 : World) : Prop :=
  ((decide (t9 < 8)) = true → (again_1 (bxor .u32 (Int.fdiv c (2 ^ 1)) (band .u32 2197175160 (IntKind.u32.wrap (0 - (band .u32 c 1))))) (IntKind.i64.wrap (t9 + 1)) w4)) ∧
  ((decide (t9 < 8)) = false → (0 ≤ t4 ∧ t4 < (256 : Int) ∧ (Writable w4 b_1 (0 + t4.toNat) 1 ∧ (∀ w5, w5 = World.puts b_1 (0 + t4.toNat) [Value.int .u32 c] w4 → (again_ (IntKind.i64.wrap (t4 + 1)) w5)))))

def F_sum_table_L0 (R : List Int → World → Prop) (b_ : Nat) (b_1 : Nat) (again_ : Int → World → Prop) (t4 : Int) (w3 : World) : Prop :=
  ((decide (t4 < 256)) = true → (∃ (I : Int → Int → World → Prop) (μ : Int → Int → World → Nat), I (IntKind.u32.wrap t4) 0 w3 ∧
  ∀ (c : Int) (t9 : Int) w, I c t9 w → F_sum_table_L1 b_1 t4 again_ (fun (c' : Int) (t9' : Int) w' => I c' t9' w' ∧ μ c' t9' w' < μ c t9 w) c t9 w)) ∧
  ((decide (t4 < 256)) = false → (∃ (v23 : List Int), (v23.length = 256) ∧ CellsAt w3 b_1 0 (List.map (Value.int .u32) v23) ∧ (Writable w3 b_ 0 256 ∧ (∀ w6, w6 = World.puts b_ 0 (List.map (Value.int .u32) v23) w3 → (∃ (res : List Int), (res.length = 256) ∧ CellsAt w6 b_ 0 (List.map (Value.int .u32) res) ∧ (R res w6))))))

def F_sum_table (R : List Int → World → Prop) (w : World) : Prop :=
  ∀ b_ w1, b_ = w.heap.size → w1 = w.alloc (Obj.cells ((List.map (Value.int .u32) (List.replicate 256 0))).toArray ty_256_uint32 (0, 0)) → (∀ b_1 w2, b_1 = w1.heap.size → w2 = w1.alloc (Obj.cells ((List.map (Value.int .u32) (List.replicate 256 0))).toArray ty_256_uint32 (0, 0)) → (∃ (I : Int → World → Prop) (μ : Int → World → Nat), I 0 w2 ∧
  ∀ (t4 : Int) w, I t4 w → F_sum_table_L0 R b_ b_1 (fun (t4' : Int) w' => I t4' w' ∧ μ t4' w' < μ t4 w) t4 w))

def F_record_Decode_1 (is : Bool) (e : Int) (t2 : Option Addr) (t3 : Option Addr) (R : Int → World → Prop) (w : World) : Prop :=
  ∀ w1, (∃ k, w1 = w.drewN k) → (IsAt t2 ∧ (∃ (v7 : Option Addr), w1.cell? ⟨(pblk t2), (poff t2), none⟩ = some (Value.pointer v7) ∧ (IsAt t3 ∧ (∃ (v9 : Int), w1.cell? ⟨(pblk t3), (poff t3), none⟩ = some (Value.int .i64 v9) ∧ (C_codec_Reader_Left v7 w1 (fun (v8 : Int) w2 => w2.cell? ⟨(pblk t3), (poff t3), none⟩ = some (Value.int .i64 v9) ∧ (((v8 == v9) = true → (IsAt t2 ∧ (∃ (v11 : Option Addr), w2.cell? ⟨(pblk t2), (poff t2), none⟩ = some (Value.pointer v11) ∧ (C_codec_Reader_End v11 w2 (fun (v12 : Int) w3 => R v12 w3))))) ∧
  ((v8 == v9) = false → (IsAt t2 ∧ (∃ (v13 : Option Addr), w2.cell? ⟨(pblk t2), (poff t2), none⟩ = some (Value.pointer v13) ∧ (C_codec_Reader_Left v13 w2 (fun (v14 : Int) w4 => IsAt t3 ∧ (Writable w4 (pblk t3) (poff t3) 1 ∧ (∀ w5, w5 = World.puts (pblk t3) (poff t3) [Value.int .i64 v14] w4 → ((is = true → (R e w5)) ∧
  (is = false → (R 0 w5)))))))))))))))))

def Ok_T_api_Write (w : World) (x : T_api_Write) : Prop := (x.Key.size ≤ 140737488351232) ∧ (x.Val.size ≤ 140737488351232) ∧ True

def Ok_T_api_Txn (w : World) (x : T_api_Txn) : Prop := ((-9223372036854775808) ≤ x.Number ∧ x.Number ≤ 9223372036854775807) ∧ (OkSl w x.Writes 3 40 (fun es => ∃ e_ : T_api_Write, es = [Value.string e_.Key, Value.string e_.Val, Value.bool e_.Drop] ∧ (Ok_T_api_Write w e_)))

end Go.Proofs.Ytpdegdnigcnjiaa
