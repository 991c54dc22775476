/- WRITTEN BY PROGRAM (dec.py): for each Go function the clean formula F, the call's contract C, and the proof S that F gives C. -/
import Derived.Test.YtfmkemmgakdddaaRows
import Derived.Test.YtfmkemmgakdddaaCore
namespace Go.Proofs.Ytfmkemmgakdddaa
open Go
set_option linter.unusedVariables false


abbrev ty_int : TypeId := 3

abbrev ty_uint8 : TypeId := 5

abbrev ty_string : TypeId := 9

abbrev ty_api_Txn : TypeId := 27

abbrev ty_api_Write : TypeId := 61

abbrev ty_ptr_codec_Reader : TypeId := 81

abbrev ty_uint64 : TypeId := 84

abbrev ty_towpathref02_Reader : TypeId := 89

abbrev ty_codec_Reader : TypeId := 123

abbrev ty_codec_Writer : TypeId := 137

structure T_api_Txn where
  Number : Int
  Writes : Slc

structure T_api_Write where
  Key : ByteArray
  Val : ByteArray
  Drop : Bool

structure T_towpathref02_Reader where
  Gone : Bool
  B : Slc
  At : Int
  Code : Int

def C_towpathlaw05_RecordDecodes (b_ : Slc) (w : World) (R : Bool → World → Prop) : Prop :=
  Calls Try.prog 3 #[Value.slice b_.ptr b_.len b_.cap] w (fun e w' => ∃ (r0 : Bool), e = .returned (Value.bool r0) ∧ R r0 w')

def C_towpathlaw05_RecordBack (t_ : T_api_Txn) (cut : Int) (more : Int) (w : World) (R : Bool → World → Prop) : Prop :=
  Calls Try.prog 7 #[Value.agg #[Value.int .i64 t_.Number, Value.slice t_.Writes.ptr t_.Writes.len t_.Writes.cap], Value.int .u16 cut, Value.int .u8 more] w (fun e w' => ∃ (r0 : Bool), e = .returned (Value.bool r0) ∧ R r0 w')

def C_towpathlaw05_RecordApart (t_ : T_api_Txn) (u : T_api_Txn) (w : World) (R : Bool → World → Prop) : Prop :=
  Calls Try.prog 8 #[Value.agg #[Value.int .i64 t_.Number, Value.slice t_.Writes.ptr t_.Writes.len t_.Writes.cap], Value.agg #[Value.int .i64 u.Number, Value.slice u.Writes.ptr u.Writes.len u.Writes.cap]] w (fun e w' => ∃ (r0 : Bool), e = .returned (Value.bool r0) ∧ R r0 w')

def C_towpathlaw05_RecordOne (b_ : Slc) (w : World) (R : Bool → World → Prop) : Prop :=
  Calls Try.prog 9 #[Value.slice b_.ptr b_.len b_.cap] w (fun e w' => ∃ (r0 : Bool), e = .returned (Value.bool r0) ∧ R r0 w')

def C_towpathlaw01_Beyond (l_ : Slc) (w : World) (R : Bool → World → Prop) : Prop :=
  Calls Try.prog 10 #[Value.slice l_.ptr l_.len l_.cap] w (fun e w' => ∃ (r0 : Bool), e = .returned (Value.bool r0) ∧ R r0 w')

def C_towpathlaw01_TwinBytes (l_ : Slc) (w : World) (R : Slc → World → Prop) : Prop :=
  Calls Try.prog 11 #[Value.slice l_.ptr l_.len l_.cap] w (fun e w' => ∃ (r0 : Slc), e = .returned (Value.slice r0.ptr r0.len r0.cap) ∧ R r0 w')

def C_record_Decode (b_ : Slc) (w : World) (R : T_api_Txn → Int → World → Prop) : Prop :=
  Calls Try.prog 12 #[Value.slice b_.ptr b_.len b_.cap] w (fun e w' => ∃ (r0 : T_api_Txn) (r1 : Int), e = .returned (Value.tuple #[Value.agg #[Value.int .i64 r0.Number, Value.slice r0.Writes.ptr r0.Writes.len r0.Writes.cap], Value.int .i64 r1]) ∧ R r0 r1 w')

def C_towpathref05_Decode (b_ : Slc) (w : World) (R : T_api_Txn → Int → World → Prop) : Prop :=
  Calls Try.prog 13 #[Value.slice b_.ptr b_.len b_.cap] w (fun e w' => ∃ (r0 : T_api_Txn) (r1 : Int), e = .returned (Value.tuple #[Value.agg #[Value.int .i64 r0.Number, Value.slice r0.Writes.ptr r0.Writes.len r0.Writes.cap], Value.int .i64 r1]) ∧ R r0 r1 w')

def C_towpathlaw01_SameTxn (a_ : T_api_Txn) (b_ : T_api_Txn) (w : World) (R : Bool → World → Prop) : Prop :=
  Calls Try.prog 14 #[Value.agg #[Value.int .i64 a_.Number, Value.slice a_.Writes.ptr a_.Writes.len a_.Writes.cap], Value.agg #[Value.int .i64 b_.Number, Value.slice b_.Writes.ptr b_.Writes.len b_.Writes.cap]] w (fun e w' => ∃ (r0 : Bool), e = .returned (Value.bool r0) ∧ R r0 w')

def C_towpathlaw01_LeftBytes (t_ : Slc) (l_ : Slc) (w : World) (R : Bool → World → Prop) : Prop :=
  Calls Try.prog 15 #[Value.slice t_.ptr t_.len t_.cap, Value.slice l_.ptr l_.len l_.cap] w (fun e w' => ∃ (r0 : Bool), e = .returned (Value.bool r0) ∧ R r0 w')

def C_record_Check (t_ : T_api_Txn) (w : World) (R : Int → World → Prop) : Prop :=
  Calls Try.prog 24 #[Value.agg #[Value.int .i64 t_.Number, Value.slice t_.Writes.ptr t_.Writes.len t_.Writes.cap]] w (fun e w' => ∃ (r0 : Int), e = .returned (Value.int .i64 r0) ∧ R r0 w')

def C_towpathlaw01_TxnSize (t_ : T_api_Txn) (w : World) (R : Int → World → Prop) : Prop :=
  Calls Try.prog 32 #[Value.agg #[Value.int .i64 t_.Number, Value.slice t_.Writes.ptr t_.Writes.len t_.Writes.cap]] w (fun e w' => ∃ (r0 : Int), e = .returned (Value.int .i64 r0) ∧ R r0 w')

def C_towpathlaw05_alive (w : World) (R : Bool → World → Prop) : Prop :=
  Calls Try.prog 34 #[] w (fun e w' => ∃ (r0 : Bool), e = .returned (Value.bool r0) ∧ R r0 w')

def C_record_Encode (t_ : T_api_Txn) (w : World) (R : Slc → Int → World → Prop) : Prop :=
  Calls Try.prog 35 #[Value.agg #[Value.int .i64 t_.Number, Value.slice t_.Writes.ptr t_.Writes.len t_.Writes.cap]] w (fun e w' => ∃ (r0 : Slc) (r1 : Int), e = .returned (Value.tuple #[Value.slice r0.ptr r0.len r0.cap, Value.int .i64 r1]) ∧ R r0 r1 w')

def C_towpathlaw01_SameBytes (a_ : Slc) (b_ : Slc) (w : World) (R : Bool → World → Prop) : Prop :=
  Calls Try.prog 36 #[Value.slice a_.ptr a_.len a_.cap, Value.slice b_.ptr b_.len b_.cap] w (fun e w' => ∃ (r0 : Bool), e = .returned (Value.bool r0) ∧ R r0 w')

def C_record_Size (t_ : T_api_Txn) (w : World) (R : Int → Int → World → Prop) : Prop :=
  Calls Try.prog 37 #[Value.agg #[Value.int .i64 t_.Number, Value.slice t_.Writes.ptr t_.Writes.len t_.Writes.cap]] w (fun e w' => ∃ (r0 : Int) (r1 : Int), e = .returned (Value.tuple #[Value.int .i64 r0, Value.int .i64 r1]) ∧ R r0 r1 w')

def C_codec_NewReader (b_ : Slc) (w : World) (R : Option Addr → World → Prop) : Prop :=
  Calls Try.prog 38 #[Value.slice b_.ptr b_.len b_.cap] w (fun e w' => ∃ (r0 : Option Addr), e = .returned (Value.pointer r0) ∧ R r0 w')

def C_record_Decode_1 (is : Bool) (e : Int) (t2 : Option Addr) (t3 : Option Addr) (w : World) (R : Int → World → Prop) : Prop :=
  Calls Try.prog 39 #[Value.bool is, Value.int .i64 e, Value.pointer t2, Value.pointer t3] w (fun e w' => ∃ (r0 : Int), e = .returned (Value.int .i64 r0) ∧ R r0 w')

def C_codec_Reader_Left (r : Option Addr) (w : World) (R : Int → World → Prop) : Prop :=
  Calls Try.prog 40 #[Value.pointer r] w (fun e w' => ∃ (r0 : Int), e = .returned (Value.int .i64 r0) ∧ R r0 w')

def C_codec_Reader_End (r : Option Addr) (w : World) (R : Int → World → Prop) : Prop :=
  Calls Try.prog 41 #[Value.pointer r] w (fun e w' => ∃ (r0 : Int), e = .returned (Value.int .i64 r0) ∧ R r0 w')

def C_codec_Reader_Var (r : Option Addr) (w : World) (R : Int → World → Prop) : Prop :=
  Calls Try.prog 42 #[Value.pointer r] w (fun e w' => ∃ (r0 : Int), e = .returned (Value.int .u64 r0) ∧ R r0 w')

def C_codec_Reader_Text (r : Option Addr) (most : Int) (w : World) (R : ByteArray → World → Prop) : Prop :=
  Calls Try.prog 43 #[Value.pointer r, Value.int .i64 most] w (fun e w' => ∃ (r0 : ByteArray), e = .returned (Value.string r0) ∧ R r0 w')

def C_codec_Reader_Fixed (r : Option Addr) (width : Int) (w : World) (R : Int → World → Prop) : Prop :=
  Calls Try.prog 44 #[Value.pointer r, Value.int .i64 width] w (fun e w' => ∃ (r0 : Int), e = .returned (Value.int .u64 r0) ∧ R r0 w')

def C_towpathref02_Reader_Var (r : T_towpathref02_Reader) (w : World) (R : T_towpathref02_Reader → Int → World → Prop) : Prop :=
  Calls Try.prog 45 #[Value.agg #[Value.bool r.Gone, Value.slice r.B.ptr r.B.len r.B.cap, Value.int .i64 r.At, Value.int .i64 r.Code]] w (fun e w' => ∃ (r0 : T_towpathref02_Reader) (r1 : Int), e = .returned (Value.tuple #[Value.agg #[Value.bool r0.Gone, Value.slice r0.B.ptr r0.B.len r0.B.cap, Value.int .i64 r0.At, Value.int .i64 r0.Code], Value.int .u64 r1]) ∧ R r0 r1 w')

def C_towpathref05_one (r : T_towpathref02_Reader) (w : World) (R : T_towpathref02_Reader → T_api_Write → Int → World → Prop) : Prop :=
  Calls Try.prog 46 #[Value.agg #[Value.bool r.Gone, Value.slice r.B.ptr r.B.len r.B.cap, Value.int .i64 r.At, Value.int .i64 r.Code]] w (fun e w' => ∃ (r0 : T_towpathref02_Reader) (r1 : T_api_Write) (r2 : Int), e = .returned (Value.tuple #[Value.agg #[Value.bool r0.Gone, Value.slice r0.B.ptr r0.B.len r0.B.cap, Value.int .i64 r0.At, Value.int .i64 r0.Code], Value.agg #[Value.string r1.Key, Value.string r1.Val, Value.bool r1.Drop], Value.int .i64 r2]) ∧ R r0 r1 r2 w')

def C_towpathref02_Reader_End (r : T_towpathref02_Reader) (w : World) (R : Int → World → Prop) : Prop :=
  Calls Try.prog 47 #[Value.agg #[Value.bool r.Gone, Value.slice r.B.ptr r.B.len r.B.cap, Value.int .i64 r.At, Value.int .i64 r.Code]] w (fun e w' => ∃ (r0 : Int), e = .returned (Value.int .i64 r0) ∧ R r0 w')

def C_towpathlaw01_SameWrites (a_ : Slc) (b_ : Slc) (w : World) (R : Bool → World → Prop) : Prop :=
  Calls Try.prog 48 #[Value.slice a_.ptr a_.len a_.cap, Value.slice b_.ptr b_.len b_.cap] w (fun e w' => ∃ (r0 : Bool), e = .returned (Value.bool r0) ∧ R r0 w')

def C_record_Check_1 (w_ : T_api_Write) (w : World) (R : Bool → World → Prop) : Prop :=
  Calls Try.prog 62 #[Value.agg #[Value.string w_.Key, Value.string w_.Val, Value.bool w_.Drop]] w (fun e w' => ∃ (r0 : Bool), e = .returned (Value.bool r0) ∧ R r0 w')

def C_slices_ContainsFunc_api_Write_api_Write (s : Slc) (f : Value) (w : World) (R : Bool → World → Prop) : Prop :=
  Calls Try.prog 63 #[Value.slice s.ptr s.len s.cap, f] w (fun e w' => ∃ (r0 : Bool), e = .returned (Value.bool r0) ∧ R r0 w')

def C_towpathlaw01_WritesSize (l_ : Slc) (w : World) (R : Int → World → Prop) : Prop :=
  Calls Try.prog 65 #[Value.slice l_.ptr l_.len l_.cap] w (fun e w' => ∃ (r0 : Int), e = .returned (Value.int .i64 r0) ∧ R r0 w')

def C_codec_NewWriter (w : World) (R : Option Addr → World → Prop) : Prop :=
  Calls Try.prog 67 #[] w (fun e w' => ∃ (r0 : Option Addr), e = .returned (Value.pointer r0) ∧ R r0 w')

def C_codec_Writer_Var (w_ : Option Addr) (n_ : Int) (w : World) (R : World → Prop) : Prop :=
  Calls Try.prog 68 #[Value.pointer w_, Value.int .u64 n_] w (fun e w' => e = .returned (Value.tuple #[]) ∧ R w')

def C_codec_Writer_Text (w_ : Option Addr) (s : ByteArray) (w : World) (R : World → Prop) : Prop :=
  Calls Try.prog 69 #[Value.pointer w_, Value.string s] w (fun e w' => e = .returned (Value.tuple #[]) ∧ R w')

def C_codec_Writer_Fixed (w_ : Option Addr) (n_ : Int) (width : Int) (w : World) (R : Int → World → Prop) : Prop :=
  Calls Try.prog 70 #[Value.pointer w_, Value.int .u64 n_, Value.int .i64 width] w (fun e w' => ∃ (r0 : Int), e = .returned (Value.int .i64 r0) ∧ R r0 w')

def C_codec_Writer_Done (w_ : Option Addr) (w : World) (R : Slc → World → Prop) : Prop :=
  Calls Try.prog 71 #[Value.pointer w_] w (fun e w' => ∃ (r0 : Slc), e = .returned (Value.slice r0.ptr r0.len r0.cap) ∧ R r0 w')

def C_slices_Clone_byte_byte (s : Slc) (w : World) (R : Slc → World → Prop) : Prop :=
  Calls Try.prog 72 #[Value.slice s.ptr s.len s.cap] w (fun e w' => ∃ (r0 : Slc), e = .returned (Value.slice r0.ptr r0.len r0.cap) ∧ R r0 w')

def C_codec_Reader_take (r : Option Addr) (next : Value) (w : World) (R : Bool → World → Prop) : Prop :=
  Calls Try.prog 73 #[Value.pointer r, next] w (fun e w' => ∃ (r0 : Bool), e = .returned (Value.bool r0) ∧ R r0 w')

def C_codec_Reader_Var_1 (b_ : Slc) (t1 : Option Addr) (w : World) (R : Int → Int → World → Prop) : Prop :=
  Calls Try.prog 74 #[Value.slice b_.ptr b_.len b_.cap, Value.pointer t1] w (fun e w' => ∃ (r0 : Int) (r1 : Int), e = .returned (Value.tuple #[Value.int .i64 r0, Value.int .i64 r1]) ∧ R r0 r1 w')

def C_codec_short (b_ : Slc) (w : World) (R : Int → Int → Int → World → Prop) : Prop :=
  Calls Try.prog 75 #[Value.slice b_.ptr b_.len b_.cap] w (fun e w' => ∃ (r0 : Int) (r1 : Int) (r2 : Int), e = .returned (Value.tuple #[Value.int .u64 r0, Value.int .i64 r1, Value.int .i64 r2]) ∧ R r0 r1 r2 w')

def C_codec_Reader_Text_1 (b_ : Slc) (t1 : Option Addr) (t2 : Option Addr) (w : World) (R : Int → Int → World → Prop) : Prop :=
  Calls Try.prog 76 #[Value.slice b_.ptr b_.len b_.cap, Value.pointer t1, Value.pointer t2] w (fun e w' => ∃ (r0 : Int) (r1 : Int), e = .returned (Value.tuple #[Value.int .i64 r0, Value.int .i64 r1]) ∧ R r0 r1 w')

def C_codec_Reader_Fixed_1 (b_ : Slc) (t1 : Option Addr) (t2 : Option Addr) (w : World) (R : Int → Int → World → Prop) : Prop :=
  Calls Try.prog 77 #[Value.slice b_.ptr b_.len b_.cap, Value.pointer t1, Value.pointer t2] w (fun e w' => ∃ (r0 : Int) (r1 : Int), e = .returned (Value.tuple #[Value.int .i64 r0, Value.int .i64 r1]) ∧ R r0 r1 w')

def C_towpathref02_Reader_dead (r : T_towpathref02_Reader) (w : World) (R : Bool → World → Prop) : Prop :=
  Calls Try.prog 78 #[Value.agg #[Value.bool r.Gone, Value.slice r.B.ptr r.B.len r.B.cap, Value.int .i64 r.At, Value.int .i64 r.Code]] w (fun e w' => ∃ (r0 : Bool), e = .returned (Value.bool r0) ∧ R r0 w')

def C_towpathref02_Reader_wrong (r : T_towpathref02_Reader) (e : Int) (w : World) (R : T_towpathref02_Reader → World → Prop) : Prop :=
  Calls Try.prog 79 #[Value.agg #[Value.bool r.Gone, Value.slice r.B.ptr r.B.len r.B.cap, Value.int .i64 r.At, Value.int .i64 r.Code], Value.int .i64 e] w (fun e w' => ∃ (r0 : T_towpathref02_Reader), e = .returned (Value.agg #[Value.bool r0.Gone, Value.slice r0.B.ptr r0.B.len r0.B.cap, Value.int .i64 r0.At, Value.int .i64 r0.Code]) ∧ R r0 w')

def C_towpathref02_Reader_Text (r : T_towpathref02_Reader) (most : Int) (w : World) (R : T_towpathref02_Reader → ByteArray → World → Prop) : Prop :=
  Calls Try.prog 80 #[Value.agg #[Value.bool r.Gone, Value.slice r.B.ptr r.B.len r.B.cap, Value.int .i64 r.At, Value.int .i64 r.Code], Value.int .i64 most] w (fun e w' => ∃ (r0 : T_towpathref02_Reader) (r1 : ByteArray), e = .returned (Value.tuple #[Value.agg #[Value.bool r0.Gone, Value.slice r0.B.ptr r0.B.len r0.B.cap, Value.int .i64 r0.At, Value.int .i64 r0.Code], Value.string r1]) ∧ R r0 r1 w')

def C_towpathref02_Reader_Fixed (r : T_towpathref02_Reader) (width : Int) (w : World) (R : T_towpathref02_Reader → Int → World → Prop) : Prop :=
  Calls Try.prog 81 #[Value.agg #[Value.bool r.Gone, Value.slice r.B.ptr r.B.len r.B.cap, Value.int .i64 r.At, Value.int .i64 r.Code], Value.int .i64 width] w (fun e w' => ∃ (r0 : T_towpathref02_Reader) (r1 : Int), e = .returned (Value.tuple #[Value.agg #[Value.bool r0.Gone, Value.slice r0.B.ptr r0.B.len r0.B.cap, Value.int .i64 r0.At, Value.int .i64 r0.Code], Value.int .u64 r1]) ∧ R r0 r1 w')

def C_slices_IndexFunc_api_Write_api_Write (s : Slc) (f : Value) (w : World) (R : Int → World → Prop) : Prop :=
  Calls Try.prog 89 #[Value.slice s.ptr s.len s.cap, f] w (fun e w' => ∃ (r0 : Int), e = .returned (Value.int .i64 r0) ∧ R r0 w')

def C_codec_Writer_gone (w_ : Option Addr) (w : World) (R : Bool → World → Prop) : Prop :=
  Calls Try.prog 90 #[Value.pointer w_] w (fun e w' => ∃ (r0 : Bool), e = .returned (Value.bool r0) ∧ R r0 w')

def F_towpathlaw05_RecordDecodes_L1 (R : Bool → World → Prop) (v14 : Slc) (b_2 : Nat) (b_3 : Nat) (again_ : Int → World → Prop) (i : Int) (w11 : World) : Prop :=
  ((decide (i < ((v14.len : Nat) : Int))) = true → (IsAt v14.ptr ∧ (0 ≤ i ∧ i < ((v14.len : Nat) : Int) ∧ (Writable w11 (pblk v14.ptr) ((poff v14.ptr) + i.toNat) 1 ∧ (∀ w12, w12 = World.puts (pblk v14.ptr) ((poff v14.ptr) + i.toNat) [Value.int .u8 238] w11 → (again_ (IntKind.i64.wrap (i + 1)) w12)))))) ∧
  ((decide (i < ((v14.len : Nat) : Int))) = false → (∃ (v49 : T_api_Txn), CellsAt w11 b_2 0 [Value.int .i64 v49.Number, Value.slice v49.Writes.ptr v49.Writes.len v49.Writes.cap] ∧ (∃ (v50 : T_api_Txn), CellsAt w11 b_3 0 [Value.int .i64 v50.Number, Value.slice v50.Writes.ptr v50.Writes.len v50.Writes.cap] ∧ (C_towpathlaw01_SameTxn v49 v50 w11 (fun (v51 : Bool) w13 => R v51 w13)))))

def F_towpathlaw05_RecordDecodes_k0 (R : Bool → World → Prop) (v14 : Slc) (b_2 : Nat) (b_3 : Nat) (t39 : Bool) (w10 : World) : Prop :=
  (t39 = true → (R false w10)) ∧
  (t39 = false → (∃ (I : Int → World → Prop) (μ : Int → World → Nat), I 0 w10 ∧
  ∀ (i : Int) w, I i w → F_towpathlaw05_RecordDecodes_L1 R v14 b_2 b_3 (fun (i' : Int) w' => I i' w' ∧ μ i' w' < μ i w) i w))

def F_towpathlaw05_RecordDecodes (b_ : Slc) (R : Bool → World → Prop) (w : World) : Prop :=
  ∀ b_1 w1, b_1 = w.heap.size → w1 = w.alloc (Obj.cells ([Value.int .i64 ((b_.len : Nat) : Int)]).toArray ty_int (0, 0)) → (C_towpathlaw01_Beyond (Slc.mk (some ⟨b_1, 0, none⟩) 1 1) w1 (fun (v12 : Bool) w2 => (v12 = true → (R true w2)) ∧
  (v12 = false → (C_towpathlaw01_TwinBytes b_ w2 (fun (v14 : Slc) w3 => C_record_Decode v14 w3 (fun (v17 : T_api_Txn) (e : Int) w4 => ∀ b_2 w5, b_2 = w4.heap.size → w5 = w4.alloc (Obj.cells ([Value.int .i64 0, Value.slice none 0 0]).toArray ty_api_Txn (0, 0)) → (Writable w5 b_2 0 2 ∧ (∀ w6, w6 = World.puts b_2 0 [Value.int .i64 v17.Number, Value.slice v17.Writes.ptr v17.Writes.len v17.Writes.cap] w5 → (C_towpathref05_Decode b_ w6 (fun (v22 : T_api_Txn) (f : Int) w7 => ∀ b_3 w8, b_3 = w7.heap.size → w8 = w7.alloc (Obj.cells ([Value.int .i64 0, Value.slice none 0 0]).toArray ty_api_Txn (0, 0)) → (Writable w8 b_3 0 2 ∧ (∀ w9, w9 = World.puts b_3 0 [Value.int .i64 v22.Number, Value.slice v22.Writes.ptr v22.Writes.len v22.Writes.cap] w8 → (((e != f) = true → (F_towpathlaw05_RecordDecodes_k0 R v14 b_2 b_3 true w9)) ∧
  ((e != f) = false → (∃ (v29 : T_api_Txn), CellsAt w9 b_2 0 [Value.int .i64 v29.Number, Value.slice v29.Writes.ptr v29.Writes.len v29.Writes.cap] ∧ (∃ (v30 : T_api_Txn), CellsAt w9 b_3 0 [Value.int .i64 v30.Number, Value.slice v30.Writes.ptr v30.Writes.len v30.Writes.cap] ∧ (C_towpathlaw01_SameTxn v29 v30 w9 (fun (v31 : Bool) w14 => ((!v31) = true → (F_towpathlaw05_RecordDecodes_k0 R v14 b_2 b_3 true w14)) ∧
  ((!v31) = false → (C_towpathlaw01_LeftBytes v14 b_ w14 (fun (v37 : Bool) w15 => F_towpathlaw05_RecordDecodes_k0 R v14 b_2 b_3 (!v37) w15)))))))))))))))))))))

def F_towpathlaw05_RecordBack_k1 (cut : Int) (more : Int) (R : Bool → World → Prop) (b_1 : Slc) (t65 : Bool) (w9 : World) : Prop :=
  (t65 = true → (R false w9)) ∧
  (t65 = false → (((b_1.len : Nat) : Int) ≠ 0 ∧ (0 ≤ Int.tmod (IntKind.i64.wrap cut) ((b_1.len : Nat) : Int) ∧ Int.tmod (IntKind.i64.wrap cut) ((b_1.len : Nat) : Int) ≤ ((b_1.cap : Nat) : Int) ∧ (C_record_Decode (Slc.mk b_1.ptr ((Int.tmod (IntKind.i64.wrap cut) ((b_1.len : Nat) : Int)).toNat) b_1.cap) w9 (fun (v74 : T_api_Txn) (g : Int) w10 => ∀ b_3 w11, b_3 = w10.heap.size → w11 = w10.alloc (Obj.cells ([Value.int .i64 0, Value.slice none 0 0]).toArray ty_api_Txn (0, 0)) → (Writable w11 b_3 0 2 ∧ (∀ w12, w12 = World.puts b_3 0 [Value.int .i64 v74.Number, Value.slice v74.Writes.ptr v74.Writes.len v74.Writes.cap] w11 → (C_towpathlaw01_TwinBytes b_1 w12 (fun (v79 : Slc) w13 => ∀ b_4 w14, b_4 = w13.heap.size → w14 = w13.alloc (Obj.cells ([Value.int .u8 more]).toArray ty_uint8 (0, 0)) → (∃ src, SrcAt w14 (Slc.mk (some ⟨b_4, 0, none⟩) 1 1) 1 src ∧ AppendW 1 1 ty_uint8 [Value.int .u8 0] v79 src 1 w14 (fun v82 w15 => C_record_Decode v82 w15 (fun (v83 : T_api_Txn) (h_ : Int) w16 => ∀ b_5 w17, b_5 = w16.heap.size → w17 = w16.alloc (Obj.cells ([Value.int .i64 0, Value.slice none 0 0]).toArray ty_api_Txn (0, 0)) → (Writable w17 b_5 0 2 ∧ (∀ w18, w18 = World.puts b_5 0 [Value.int .i64 v83.Number, Value.slice v83.Writes.ptr v83.Writes.len v83.Writes.cap] w17 → (R ((g == 5) && (h_ == 4)) w18)))))))))))))))

def F_towpathlaw05_RecordBack_k0 (cut : Int) (more : Int) (R : Bool → World → Prop) (b_ : Nat) (t22 : Bool) (w2 : World) : Prop :=
  (t22 = true → (C_towpathlaw05_alive w2 (fun (v23 : Bool) w3 => R v23 w3))) ∧
  (t22 = false → (∃ (v25 : T_api_Txn), CellsAt w2 b_ 0 [Value.int .i64 v25.Number, Value.slice v25.Writes.ptr v25.Writes.len v25.Writes.cap] ∧ (C_record_Encode v25 w2 (fun (b_1 : Slc) (e : Int) w4 => ((e != 0) = true → (((e == 1) = true → (∃ (v34 : T_api_Txn), CellsAt w4 b_ 0 [Value.int .i64 v34.Number, Value.slice v34.Writes.ptr v34.Writes.len v34.Writes.cap] ∧ (C_record_Check v34 w4 (fun (v35 : Int) w5 => R ((v35 == 1) && (((b_1.len : Nat) : Int) == 0)) w5)))) ∧
  ((e == 1) = false → (R false w4)))) ∧
  ((e != 0) = false → (C_record_Decode b_1 w4 (fun (v45 : T_api_Txn) (f : Int) w6 => ∀ b_2 w7, b_2 = w6.heap.size → w7 = w6.alloc (Obj.cells ([Value.int .i64 0, Value.slice none 0 0]).toArray ty_api_Txn (0, 0)) → (Writable w7 b_2 0 2 ∧ (∀ w8, w8 = World.puts b_2 0 [Value.int .i64 v45.Number, Value.slice v45.Writes.ptr v45.Writes.len v45.Writes.cap] w7 → (((f != 0) = true → (F_towpathlaw05_RecordBack_k1 cut more R b_1 true w8)) ∧
  ((f != 0) = false → (∃ (v51 : T_api_Txn), CellsAt w8 b_ 0 [Value.int .i64 v51.Number, Value.slice v51.Writes.ptr v51.Writes.len v51.Writes.cap] ∧ (C_record_Check v51 w8 (fun (v52 : Int) w19 => ((v52 != 0) = true → (F_towpathlaw05_RecordBack_k1 cut more R b_1 true w19)) ∧
  ((v52 != 0) = false → (∃ (v56 : T_api_Txn), CellsAt w19 b_2 0 [Value.int .i64 v56.Number, Value.slice v56.Writes.ptr v56.Writes.len v56.Writes.cap] ∧ (∃ (v57 : T_api_Txn), CellsAt w19 b_ 0 [Value.int .i64 v57.Number, Value.slice v57.Writes.ptr v57.Writes.len v57.Writes.cap] ∧ (C_towpathlaw01_SameTxn v56 v57 w19 (fun (v58 : Bool) w20 => F_towpathlaw05_RecordBack_k1 cut more R b_1 ((!v58) || (((b_1.len : Nat) : Int) == 0)) w20)))))))))))))))))))

def F_towpathlaw05_RecordBack (t_ : T_api_Txn) (cut : Int) (more : Int) (R : Bool → World → Prop) (w : World) : Prop :=
  ∀ b_ w1, b_ = w.heap.size → w1 = w.alloc (Obj.cells ([Value.int .i64 t_.Number, Value.slice t_.Writes.ptr t_.Writes.len t_.Writes.cap]).toArray ty_api_Txn (0, 0)) → (C_towpathlaw05_alive w1 (fun (v15 : Bool) w21 => ((!v15) = true → (F_towpathlaw05_RecordBack_k0 cut more R b_ true w21)) ∧
  ((!v15) = false → (∃ (v18 : T_api_Txn), CellsAt w21 b_ 0 [Value.int .i64 v18.Number, Value.slice v18.Writes.ptr v18.Writes.len v18.Writes.cap] ∧ (C_towpathlaw01_TxnSize v18 w21 (fun (v19 : Int) w22 => ∀ b_6 w23, b_6 = w22.heap.size → w23 = w22.alloc (Obj.cells ([Value.int .i64 v19]).toArray ty_int (0, 0)) → (C_towpathlaw01_Beyond (Slc.mk (some ⟨b_6, 0, none⟩) 1 1) w23 (fun (v21 : Bool) w24 => F_towpathlaw05_RecordBack_k0 cut more R b_ v21 w24))))))))

def F_towpathlaw05_RecordApart_k0 (R : Bool → World → Prop) (b_ : Nat) (b_1 : Nat) (t19 : Bool) (w3 : World) : Prop :=
  (t19 = true → (C_towpathlaw05_alive w3 (fun (v20 : Bool) w4 => R v20 w4))) ∧
  (t19 = false → (∃ (v22 : T_api_Txn), CellsAt w3 b_ 0 [Value.int .i64 v22.Number, Value.slice v22.Writes.ptr v22.Writes.len v22.Writes.cap] ∧ (C_record_Encode v22 w3 (fun (a_ : Slc) (e : Int) w5 => ∃ (v27 : T_api_Txn), CellsAt w5 b_1 0 [Value.int .i64 v27.Number, Value.slice v27.Writes.ptr v27.Writes.len v27.Writes.cap] ∧ (C_record_Encode v27 w5 (fun (b_2 : Slc) (f : Int) w6 => (((e != 0) || (f != 0)) = true → (R (((e == 0) || (e == 1)) && ((f == 0) || (f == 1))) w6)) ∧
  (((e != 0) || (f != 0)) = false → (∀ w7, (∃ k, w7 = w6.drewN k) → (0 ≤ (if ((b_2.len : Nat) : Int) < ((a_.len : Nat) : Int) then ((b_2.len : Nat) : Int) else ((a_.len : Nat) : Int)) ∧ (if ((b_2.len : Nat) : Int) < ((a_.len : Nat) : Int) then ((b_2.len : Nat) : Int) else ((a_.len : Nat) : Int)) ≤ ((a_.cap : Nat) : Int) ∧ (0 ≤ (if ((b_2.len : Nat) : Int) < ((a_.len : Nat) : Int) then ((b_2.len : Nat) : Int) else ((a_.len : Nat) : Int)) ∧ (if ((b_2.len : Nat) : Int) < ((a_.len : Nat) : Int) then ((b_2.len : Nat) : Int) else ((a_.len : Nat) : Int)) ≤ ((b_2.cap : Nat) : Int) ∧ (∃ (v63 : T_api_Txn), CellsAt w7 b_ 0 [Value.int .i64 v63.Number, Value.slice v63.Writes.ptr v63.Writes.len v63.Writes.cap] ∧ (∃ (v64 : T_api_Txn), CellsAt w7 b_1 0 [Value.int .i64 v64.Number, Value.slice v64.Writes.ptr v64.Writes.len v64.Writes.cap] ∧ (C_towpathlaw01_SameBytes (Slc.mk a_.ptr ((if ((b_2.len : Nat) : Int) < ((a_.len : Nat) : Int) then ((b_2.len : Nat) : Int) else ((a_.len : Nat) : Int)).toNat) a_.cap) (Slc.mk b_2.ptr ((if ((b_2.len : Nat) : Int) < ((a_.len : Nat) : Int) then ((b_2.len : Nat) : Int) else ((a_.len : Nat) : Int)).toNat) b_2.cap) w7 (fun (v62 : Bool) w8 => CellsAt w8 b_1 0 [Value.int .i64 v64.Number, Value.slice v64.Writes.ptr v64.Writes.len v64.Writes.cap] ∧ CellsAt w8 b_ 0 [Value.int .i64 v63.Number, Value.slice v63.Writes.ptr v63.Writes.len v63.Writes.cap] ∧ (C_towpathlaw01_SameTxn v63 v64 w8 (fun (v65 : Bool) w9 => (R (v62 == v65) w9)))))))))))))))))

def F_towpathlaw05_RecordApart (t_ : T_api_Txn) (u : T_api_Txn) (R : Bool → World → Prop) (w : World) : Prop :=
  ∀ b_ w1, b_ = w.heap.size → w1 = w.alloc (Obj.cells ([Value.int .i64 t_.Number, Value.slice t_.Writes.ptr t_.Writes.len t_.Writes.cap]).toArray ty_api_Txn (0, 0)) → (∀ b_1 w2, b_1 = w1.heap.size → w2 = w1.alloc (Obj.cells ([Value.int .i64 u.Number, Value.slice u.Writes.ptr u.Writes.len u.Writes.cap]).toArray ty_api_Txn (0, 0)) → (∀ w10, (∃ k, w10 = w2.drewN k) → (C_towpathlaw05_alive w10 (fun (v10 : Bool) w11 => (((!v10) = true → (F_towpathlaw05_RecordApart_k0 R b_ b_1 true w11)) ∧
  ((!v10) = false → (∃ (v13 : T_api_Txn), CellsAt w11 b_ 0 [Value.int .i64 v13.Number, Value.slice v13.Writes.ptr v13.Writes.len v13.Writes.cap] ∧ (∃ (v15 : T_api_Txn), CellsAt w11 b_1 0 [Value.int .i64 v15.Number, Value.slice v15.Writes.ptr v15.Writes.len v15.Writes.cap] ∧ (C_towpathlaw01_TxnSize v13 w11 (fun (v14 : Int) w12 => CellsAt w12 b_1 0 [Value.int .i64 v15.Number, Value.slice v15.Writes.ptr v15.Writes.len v15.Writes.cap] ∧ (C_towpathlaw01_TxnSize v15 w12 (fun (v16 : Int) w13 => (∀ b_3 w14, b_3 = w13.heap.size → w14 = w13.alloc (Obj.cells ([Value.int .i64 v14, Value.int .i64 v16]).toArray ty_int (0, 0)) → ((C_towpathlaw01_Beyond (Slc.mk (some ⟨b_3, 0, none⟩) 2 2) w14 (fun (v18 : Bool) w15 => (F_towpathlaw05_RecordApart_k0 R b_ b_1 v18 w15)))))))))))))))))

def F_towpathlaw05_RecordOne_k0 (b_ : Slc) (R : Bool → World → Prop) (t16 : Bool) (w1 : World) : Prop :=
  (t16 = true → (C_towpathlaw05_alive w1 (fun (v17 : Bool) w2 => R v17 w2))) ∧
  (t16 = false → (C_record_Decode b_ w1 (fun (v20 : T_api_Txn) (e : Int) w3 => ∀ b_1 w4, b_1 = w3.heap.size → w4 = w3.alloc (Obj.cells ([Value.int .i64 0, Value.slice none 0 0]).toArray ty_api_Txn (0, 0)) → (Writable w4 b_1 0 2 ∧ (∀ w5, w5 = World.puts b_1 0 [Value.int .i64 v20.Number, Value.slice v20.Writes.ptr v20.Writes.len v20.Writes.cap] w4 → (((e != 0) = true → (∃ (v26 : Int), w5.cell? ⟨b_1, 0, none⟩ = some (Value.int .i64 v26) ∧ (((v26 == 0) = true → (∃ (v30 : Slc), w5.cell? ⟨b_1, 1, none⟩ = some (Value.slice v30.ptr v30.len v30.cap) ∧ (R (((v30.len : Nat) : Int) == 0) w5))) ∧
  ((v26 == 0) = false → (R false w5))))) ∧
  ((e != 0) = false → (∃ (v35 : T_api_Txn), CellsAt w5 b_1 0 [Value.int .i64 v35.Number, Value.slice v35.Writes.ptr v35.Writes.len v35.Writes.cap] ∧ (C_record_Encode v35 w5 (fun (c : Slc) (f : Int) w6 => ∃ (v40 : T_api_Txn), CellsAt w6 b_1 0 [Value.int .i64 v40.Number, Value.slice v40.Writes.ptr v40.Writes.len v40.Writes.cap] ∧ (C_record_Size v40 w6 (fun (n_ : Int) (g : Int) w7 => ((((f == 0) && (g == 0)) && (n_ == ((b_.len : Nat) : Int))) = true → (∃ (v57 : T_api_Txn), CellsAt w7 b_1 0 [Value.int .i64 v57.Number, Value.slice v57.Writes.ptr v57.Writes.len v57.Writes.cap] ∧ (C_record_Check v57 w7 (fun (v58 : Int) w8 => ((v58 == 0) = true → (C_towpathlaw01_SameBytes b_ c w8 (fun (v64 : Bool) w9 => R v64 w9))) ∧
  ((v58 == 0) = false → (R false w8)))))) ∧
  ((((f == 0) && (g == 0)) && (n_ == ((b_.len : Nat) : Int))) = false → (R false w7))))))))))))))

def F_towpathlaw05_RecordOne (b_ : Slc) (R : Bool → World → Prop) (w : World) : Prop :=
  C_towpathlaw05_alive w (fun (v9 : Bool) w10 => ((!v9) = true → (F_towpathlaw05_RecordOne_k0 b_ R true w10)) ∧
  ((!v9) = false → (∀ b_2 w11, b_2 = w10.heap.size → w11 = w10.alloc (Obj.cells ([Value.int .i64 ((b_.len : Nat) : Int)]).toArray ty_int (0, 0)) → (C_towpathlaw01_Beyond (Slc.mk (some ⟨b_2, 0, none⟩) 1 1) w11 (fun (v15 : Bool) w12 => F_towpathlaw05_RecordOne_k0 b_ R v15 w12)))))

def F_towpathlaw01_Beyond_L0 (l_ : Slc) (R : Bool → World → Prop) (again_ : Int → Int → World → Prop) (n_ : Int) (i : Int) (w1 : World) : Prop :=
  ((decide (i < ((l_.len : Nat) : Int))) = true → (IsAt l_.ptr ∧ (0 ≤ i ∧ i < ((l_.len : Nat) : Int) ∧ (∃ (v15 : Int), w1.cell? ⟨(pblk l_.ptr), (poff l_.ptr) + i.toNat, none⟩ = some (Value.int .i64 v15) ∧ (((decide ((IntKind.i64.wrap (n_ + v15)) > 1048576)) = true → (R true w1)) ∧
  ((decide ((IntKind.i64.wrap (n_ + v15)) > 1048576)) = false → (again_ (IntKind.i64.wrap (n_ + v15)) (IntKind.i64.wrap (i + 1)) w1))))))) ∧
  ((decide (i < ((l_.len : Nat) : Int))) = false → (R false w1))

def F_towpathlaw01_Beyond (l_ : Slc) (R : Bool → World → Prop) (w : World) : Prop :=
  ∃ (I : Int → Int → World → Prop) (μ : Int → Int → World → Nat), I 0 0 w ∧
  ∀ (n_ : Int) (i : Int) w, I n_ i w → F_towpathlaw01_Beyond_L0 l_ R (fun (n_' : Int) (i' : Int) w' => I n_' i' w' ∧ μ n_' i' w' < μ n_ i w) n_ i w

def F_towpathlaw01_TwinBytes_L0 (l_ : Slc) (R : Slc → World → Prop) (again_ : Slc → Int → World → Prop) (t_ : Slc) (i : Int) (w2 : World) : Prop :=
  ((decide (i < ((l_.len : Nat) : Int))) = true → (IsAt l_.ptr ∧ (0 ≤ i ∧ i < ((l_.len : Nat) : Int) ∧ (∃ (v19 : Int), w2.cell? ⟨(pblk l_.ptr), (poff l_.ptr) + i.toNat, none⟩ = some (Value.int .u8 v19) ∧ (∀ b_1 w3, b_1 = w2.heap.size → w3 = w2.alloc (Obj.cells ([Value.int .u8 v19]).toArray ty_uint8 (0, 0)) → (∃ src, SrcAt w3 (Slc.mk (some ⟨b_1, 0, none⟩) 1 1) 1 src ∧ AppendW 1 1 ty_uint8 [Value.int .u8 0] t_ src 1 w3 (fun t_1 w4 => again_ t_1 (IntKind.i64.wrap (i + 1)) w4))))))) ∧
  ((decide (i < ((l_.len : Nat) : Int))) = false → (∀ b_2 w5, b_2 = w2.heap.size → w5 = w2.alloc (Obj.cells ([Value.int .u8 77]).toArray ty_uint8 (0, 0)) → (∃ src, SrcAt w5 (Slc.mk (some ⟨b_2, 0, none⟩) 1 1) 1 src ∧ AppendW 1 1 ty_uint8 [Value.int .u8 0] t_ src 1 w5 (fun v24 w6 => 0 ≤ ((l_.len : Nat) : Int) ∧ ((l_.len : Nat) : Int) ≤ ((v24.cap : Nat) : Int) ∧ (R (Slc.mk v24.ptr (((l_.len : Nat) : Int).toNat) v24.cap) w6)))))

def F_towpathlaw01_TwinBytes (l_ : Slc) (R : Slc → World → Prop) (w : World) : Prop :=
  0 ≤ (0 : Int) ∧ (0 : Int) ≤ IntKind.i64.wrap (((l_.len : Nat) : Int) + 1) ∧ (1 : Int) * (IntKind.i64.wrap (((l_.len : Nat) : Int) + 1)) ≤ 281474976710656 ∧ (∀ b_ w1, b_ = w.heap.size → w1 = w.alloc (Obj.cells (repCells ((IntKind.i64.wrap (((l_.len : Nat) : Int) + 1)).toNat) [Value.int .u8 0]) ty_uint8 (0, 0)) → (∃ (I : Slc → Int → World → Prop) (μ : Slc → Int → World → Nat), I (Slc.mk (some ⟨b_, 0, none⟩) 0 ((IntKind.i64.wrap (((l_.len : Nat) : Int) + 1)).toNat)) 0 w1 ∧
  ∀ (t_ : Slc) (i : Int) w, I t_ i w → F_towpathlaw01_TwinBytes_L0 l_ R (fun (t_' : Slc) (i' : Int) w' => I t_' i' w' ∧ μ t_' i' w' < μ t_ i w) t_ i w))

def F_record_Decode_k1 (b_4 : Nat) (t51 : Int) (again_ : Int → World → Prop) (b_5 : Nat) (w24 : World) : Prop :=
  ∃ (v91 : Slc), w24.cell? ⟨b_4, 1, none⟩ = some (Value.slice v91.ptr v91.len v91.cap) ∧ (∃ (v92 : T_api_Write), CellsAt w24 b_5 0 [Value.string v92.Key, Value.string v92.Val, Value.bool v92.Drop] ∧ (∀ b_6 w25, b_6 = w24.heap.size → w25 = w24.alloc (Obj.cells ([Value.string v92.Key, Value.string v92.Val, Value.bool v92.Drop]).toArray ty_api_Write (0, 0)) → (∃ src, SrcAt w25 (Slc.mk (some ⟨b_6, 0, none⟩) 1 1) 3 src ∧ AppendW 3 40 ty_api_Write [Value.string ByteArray.empty, Value.string ByteArray.empty, Value.bool false] v91 src 1 w25 (fun v94 w26 => Writable w26 b_4 1 1 ∧ (∀ w27, w27 = World.puts b_4 1 [Value.slice v94.ptr v94.len v94.cap] w26 → (again_ (IntKind.u64.wrap (t51 + 1)) w27))))))

def F_record_Decode_L0 (R : T_api_Txn → Int → World → Prop) (b_1 : Nat) (b_2 : Nat) (b_3 : Nat) (v38 : Int) (b_4 : Nat) (again_ : Int → World → Prop) (t51 : Int) (w15 : World) : Prop :=
  ((decide (t51 < v38)) = true → (∀ b_5 w16, b_5 = w15.heap.size → w16 = w15.alloc (Obj.cells ([Value.string ByteArray.empty, Value.string ByteArray.empty, Value.bool false]).toArray ty_api_Write (0, 0)) → (∃ (v53 : Option Addr), w16.cell? ⟨b_2, 0, none⟩ = some (Value.pointer v53) ∧ (C_codec_Reader_Text v53 64 w16 (fun (v54 : ByteArray) w17 => Writable w17 b_5 0 1 ∧ (∀ w18, w18 = World.puts b_5 0 [Value.string v54] w17 → (∃ (v58 : ByteArray), w18.cell? ⟨b_5, 0, none⟩ = some (Value.string v58) ∧ (C_record_Decode_1 (v58.toList == ByteArray.empty.toList) 1 (some ⟨b_2, 0, none⟩) (some ⟨b_3, 0, none⟩) w18 (fun (v60 : Int) w19 => ((v60 != 0) = true → (Writable w19 b_1 0 2 ∧ (∀ w20, w20 = World.puts b_1 0 [Value.int .i64 0, Value.slice none 0 0] w19 → (∃ (res2 : T_api_Txn), CellsAt w20 b_1 0 [Value.int .i64 res2.Number, Value.slice res2.Writes.ptr res2.Writes.len res2.Writes.cap] ∧ (R res2 v60 w20))))) ∧
  ((v60 != 0) = false → (∃ (v65 : Option Addr), w19.cell? ⟨b_2, 0, none⟩ = some (Value.pointer v65) ∧ (C_codec_Reader_Fixed v65 1 w19 (fun (v66 : Int) w21 => C_record_Decode_1 (decide (v66 > 1)) 4 (some ⟨b_2, 0, none⟩) (some ⟨b_3, 0, none⟩) w21 (fun (v70 : Int) w22 => ((v70 != 0) = true → (Writable w22 b_1 0 2 ∧ (∀ w23, w23 = World.puts b_1 0 [Value.int .i64 0, Value.slice none 0 0] w22 → (∃ (res3 : T_api_Txn), CellsAt w23 b_1 0 [Value.int .i64 res3.Number, Value.slice res3.Writes.ptr res3.Writes.len res3.Writes.cap] ∧ (R res3 v70 w23))))) ∧
  ((v70 != 0) = false → (Writable w22 b_5 2 1 ∧ (∀ w28, w28 = World.puts b_5 2 [Value.bool (v66 == 1)] w22 → (∃ (v79 : Bool), w28.cell? ⟨b_5, 2, none⟩ = some (Value.bool v79) ∧ (((!v79) = true → (∃ (v81 : Option Addr), w28.cell? ⟨b_2, 0, none⟩ = some (Value.pointer v81) ∧ (C_codec_Reader_Text v81 1024 w28 (fun (v82 : ByteArray) w29 => Writable w29 b_5 1 1 ∧ (∀ w30, w30 = World.puts b_5 1 [Value.string v82] w29 → (C_record_Decode_1 false 0 (some ⟨b_2, 0, none⟩) (some ⟨b_3, 0, none⟩) w30 (fun (v85 : Int) w31 => ((v85 != 0) = true → (Writable w31 b_1 0 2 ∧ (∀ w32, w32 = World.puts b_1 0 [Value.int .i64 0, Value.slice none 0 0] w31 → (∃ (res4 : T_api_Txn), CellsAt w32 b_1 0 [Value.int .i64 res4.Number, Value.slice res4.Writes.ptr res4.Writes.len res4.Writes.cap] ∧ (R res4 v85 w32))))) ∧
  ((v85 != 0) = false → (F_record_Decode_k1 b_4 t51 again_ b_5 w31))))))))) ∧
  ((!v79) = false → (F_record_Decode_k1 b_4 t51 again_ b_5 w28))))))))))))))))))))) ∧
  ((decide (t51 < v38)) = false → (∃ (v97 : Option Addr), w15.cell? ⟨b_2, 0, none⟩ = some (Value.pointer v97) ∧ (C_codec_Reader_End v97 w15 (fun (v98 : Int) w33 => ((v98 != 0) = true → (Writable w33 b_1 0 2 ∧ (∀ w34, w34 = World.puts b_1 0 [Value.int .i64 0, Value.slice none 0 0] w33 → (∃ (res5 : T_api_Txn), CellsAt w34 b_1 0 [Value.int .i64 res5.Number, Value.slice res5.Writes.ptr res5.Writes.len res5.Writes.cap] ∧ (R res5 v98 w34))))) ∧
  ((v98 != 0) = false → (∃ (v103 : T_api_Txn), CellsAt w33 b_4 0 [Value.int .i64 v103.Number, Value.slice v103.Writes.ptr v103.Writes.len v103.Writes.cap] ∧ (Writable w33 b_1 0 2 ∧ (∀ w35, w35 = World.puts b_1 0 [Value.int .i64 v103.Number, Value.slice v103.Writes.ptr v103.Writes.len v103.Writes.cap] w33 → (∃ (res6 : T_api_Txn), CellsAt w35 b_1 0 [Value.int .i64 res6.Number, Value.slice res6.Writes.ptr res6.Writes.len res6.Writes.cap] ∧ (R res6 0 w35))))))))))

def F_record_Decode (b_ : Slc) (R : T_api_Txn → Int → World → Prop) (w : World) : Prop :=
  ∀ b_1 w1, b_1 = w.heap.size → w1 = w.alloc (Obj.cells ([Value.int .i64 0, Value.slice none 0 0]).toArray ty_api_Txn (0, 0)) → (C_codec_NewReader b_ w1 (fun (v19 : Option Addr) w2 => ∀ b_2 w3, b_2 = w2.heap.size → w3 = w2.alloc (Obj.cells ([Value.pointer none]).toArray ty_ptr_codec_Reader (0, 0)) → (Writable w3 b_2 0 1 ∧ (∀ w4, w4 = World.puts b_2 0 [Value.pointer v19] w3 → (∀ b_3 w5, b_3 = w4.heap.size → w5 = w4.alloc (Obj.cells ([Value.int .i64 0]).toArray ty_int (0, 0)) → (Writable w5 b_3 0 1 ∧ (∀ w6, w6 = World.puts b_3 0 [Value.int .i64 ((b_.len : Nat) : Int)] w5 → (∃ (v23 : Option Addr), w6.cell? ⟨b_2, 0, none⟩ = some (Value.pointer v23) ∧ (C_codec_Reader_Var v23 w6 (fun (v24 : Int) w7 => C_record_Decode_1 ((decide (v24 < 1)) || (decide (v24 > 65536))) 1 (some ⟨b_2, 0, none⟩) (some ⟨b_3, 0, none⟩) w7 (fun (v32 : Int) w8 => ((v32 != 0) = true → (Writable w8 b_1 0 2 ∧ (∀ w9, w9 = World.puts b_1 0 [Value.int .i64 0, Value.slice none 0 0] w8 → (∃ (res : T_api_Txn), CellsAt w9 b_1 0 [Value.int .i64 res.Number, Value.slice res.Writes.ptr res.Writes.len res.Writes.cap] ∧ (R res v32 w9))))) ∧
  ((v32 != 0) = false → (∃ (v37 : Option Addr), w8.cell? ⟨b_2, 0, none⟩ = some (Value.pointer v37) ∧ (C_codec_Reader_Var v37 w8 (fun (v38 : Int) w10 => C_record_Decode_1 (decide (v38 > 32)) 3 (some ⟨b_2, 0, none⟩) (some ⟨b_3, 0, none⟩) w10 (fun (v42 : Int) w11 => ((v42 != 0) = true → (Writable w11 b_1 0 2 ∧ (∀ w12, w12 = World.puts b_1 0 [Value.int .i64 0, Value.slice none 0 0] w11 → (∃ (res1 : T_api_Txn), CellsAt w12 b_1 0 [Value.int .i64 res1.Number, Value.slice res1.Writes.ptr res1.Writes.len res1.Writes.cap] ∧ (R res1 v42 w12))))) ∧
  ((v42 != 0) = false → (∀ b_4 w13, b_4 = w11.heap.size → w13 = w11.alloc (Obj.cells ([Value.int .i64 0, Value.slice none 0 0]).toArray ty_api_Txn (0, 0)) → (Writable w13 b_4 0 2 ∧ (∀ w14, w14 = World.puts b_4 0 [Value.int .i64 (IntKind.i64.wrap v24), Value.slice none 0 0] w13 → (∃ (I : Int → World → Prop) (μ : Int → World → Nat), I 0 w14 ∧
  ∀ (t51 : Int) w, I t51 w → F_record_Decode_L0 R b_1 b_2 b_3 v38 b_4 (fun (t51' : Int) w' => I t51' w' ∧ μ t51' w' < μ t51 w) t51 w)))))))))))))))))))))

def F_towpathref05_Decode_L0 (R : T_api_Txn → Int → World → Prop) (b_1 : Nat) (b_2 : Nat) (many : Int) (b_3 : Nat) (again_ : Int → World → Prop) (i : Int) (w16 : World) : Prop :=
  ((decide (i < (IntKind.i64.wrap many))) = true → (∃ (v56 : T_towpathref02_Reader), CellsAt w16 b_2 0 [Value.bool v56.Gone, Value.slice v56.B.ptr v56.B.len v56.B.cap, Value.int .i64 v56.At, Value.int .i64 v56.Code] ∧ (C_towpathref05_one v56 w16 (fun (v57 : T_towpathref02_Reader) (v57_1 : T_api_Write) (e : Int) w17 => ∀ b_4 w18, b_4 = w17.heap.size → w18 = w17.alloc (Obj.cells ([Value.bool false, Value.slice none 0 0, Value.int .i64 0, Value.int .i64 0]).toArray ty_towpathref02_Reader (0, 0)) → (∀ b_5 w19, b_5 = w18.heap.size → w19 = w18.alloc (Obj.cells ([Value.string ByteArray.empty, Value.string ByteArray.empty, Value.bool false]).toArray ty_api_Write (0, 0)) → (Writable w19 b_4 0 4 ∧ (∀ w20, w20 = World.puts b_4 0 [Value.bool v57.Gone, Value.slice v57.B.ptr v57.B.len v57.B.cap, Value.int .i64 v57.At, Value.int .i64 v57.Code] w19 → (Writable w20 b_5 0 3 ∧ (∀ w21, w21 = World.puts b_5 0 [Value.string v57_1.Key, Value.string v57_1.Val, Value.bool v57_1.Drop] w20 → (((e != 0) = true → (Writable w21 b_1 0 2 ∧ (∀ w22, w22 = World.puts b_1 0 [Value.int .i64 0, Value.slice none 0 0] w21 → (∃ (res4 : T_api_Txn), CellsAt w22 b_1 0 [Value.int .i64 res4.Number, Value.slice res4.Writes.ptr res4.Writes.len res4.Writes.cap] ∧ (R res4 e w22))))) ∧
  ((e != 0) = false → (∃ (v65 : T_towpathref02_Reader), CellsAt w21 b_4 0 [Value.bool v65.Gone, Value.slice v65.B.ptr v65.B.len v65.B.cap, Value.int .i64 v65.At, Value.int .i64 v65.Code] ∧ (Writable w21 b_2 0 4 ∧ (∀ w23, w23 = World.puts b_2 0 [Value.bool v65.Gone, Value.slice v65.B.ptr v65.B.len v65.B.cap, Value.int .i64 v65.At, Value.int .i64 v65.Code] w21 → (∃ (v67 : Slc), w23.cell? ⟨b_3, 1, none⟩ = some (Value.slice v67.ptr v67.len v67.cap) ∧ (∃ (v68 : T_api_Write), CellsAt w23 b_5 0 [Value.string v68.Key, Value.string v68.Val, Value.bool v68.Drop] ∧ (∀ b_6 w24, b_6 = w23.heap.size → w24 = w23.alloc (Obj.cells ([Value.string v68.Key, Value.string v68.Val, Value.bool v68.Drop]).toArray ty_api_Write (0, 0)) → (∃ src, SrcAt w24 (Slc.mk (some ⟨b_6, 0, none⟩) 1 1) 3 src ∧ AppendW 3 40 ty_api_Write [Value.string ByteArray.empty, Value.string ByteArray.empty, Value.bool false] v67 src 1 w24 (fun v70 w25 => Writable w25 b_3 1 1 ∧ (∀ w26, w26 = World.puts b_3 1 [Value.slice v70.ptr v70.len v70.cap] w25 → (again_ (IntKind.i64.wrap (i + 1)) w26))))))))))))))))))))) ∧
  ((decide (i < (IntKind.i64.wrap many))) = false → (∃ (v72 : T_towpathref02_Reader), CellsAt w16 b_2 0 [Value.bool v72.Gone, Value.slice v72.B.ptr v72.B.len v72.B.cap, Value.int .i64 v72.At, Value.int .i64 v72.Code] ∧ (C_towpathref02_Reader_End v72 w16 (fun (v73 : Int) w27 => ((v73 != 0) = true → (Writable w27 b_1 0 2 ∧ (∀ w28, w28 = World.puts b_1 0 [Value.int .i64 0, Value.slice none 0 0] w27 → (∃ (res5 : T_api_Txn), CellsAt w28 b_1 0 [Value.int .i64 res5.Number, Value.slice res5.Writes.ptr res5.Writes.len res5.Writes.cap] ∧ (R res5 4 w28))))) ∧
  ((v73 != 0) = false → (∃ (v76 : T_api_Txn), CellsAt w27 b_3 0 [Value.int .i64 v76.Number, Value.slice v76.Writes.ptr v76.Writes.len v76.Writes.cap] ∧ (Writable w27 b_1 0 2 ∧ (∀ w29, w29 = World.puts b_1 0 [Value.int .i64 v76.Number, Value.slice v76.Writes.ptr v76.Writes.len v76.Writes.cap] w27 → (∃ (res6 : T_api_Txn), CellsAt w29 b_1 0 [Value.int .i64 res6.Number, Value.slice res6.Writes.ptr res6.Writes.len res6.Writes.cap] ∧ (R res6 0 w29))))))))))

def F_towpathref05_Decode (b_ : Slc) (R : T_api_Txn → Int → World → Prop) (w : World) : Prop :=
  ∀ b_1 w1, b_1 = w.heap.size → w1 = w.alloc (Obj.cells ([Value.int .i64 0, Value.slice none 0 0]).toArray ty_api_Txn (0, 0)) → (∀ b_2 w2, b_2 = w1.heap.size → w2 = w1.alloc (Obj.cells ([Value.bool false, Value.slice none 0 0, Value.int .i64 0, Value.int .i64 0]).toArray ty_towpathref02_Reader (0, 0)) → (Writable w2 b_2 0 4 ∧ (∀ w3, w3 = World.puts b_2 0 [Value.bool false, Value.slice b_.ptr b_.len b_.cap, Value.int .i64 0, Value.int .i64 0] w2 → (∃ (v15 : T_towpathref02_Reader), CellsAt w3 b_2 0 [Value.bool v15.Gone, Value.slice v15.B.ptr v15.B.len v15.B.cap, Value.int .i64 v15.At, Value.int .i64 v15.Code] ∧ (C_towpathref02_Reader_Var v15 w3 (fun (v16 : T_towpathref02_Reader) (n_ : Int) w4 => Writable w4 b_2 0 4 ∧ (∀ w5, w5 = World.puts b_2 0 [Value.bool v16.Gone, Value.slice v16.B.ptr v16.B.len v16.B.cap, Value.int .i64 v16.At, Value.int .i64 v16.Code] w4 → (∃ (v20 : Int), w5.cell? ⟨b_2, 3, none⟩ = some (Value.int .i64 v20) ∧ (((v20 != 0) = true → (∀ w6, (∃ k, w6 = w5.drewN k) → (∃ (v24 : Int), w6.cell? ⟨b_2, 3, none⟩ = some (Value.int .i64 v24) ∧ (Writable w6 b_1 0 2 ∧ (∀ w7, w7 = World.puts b_1 0 [Value.int .i64 0, Value.slice none 0 0] w6 → (w7.cell? ⟨b_2, 3, none⟩ = some (Value.int .i64 v24) ∧ (∃ (res : T_api_Txn), CellsAt w7 b_1 0 [Value.int .i64 res.Number, Value.slice res.Writes.ptr res.Writes.len res.Writes.cap] ∧ (R res v24 w7)))))))) ∧
  ((v20 != 0) = false → ((((decide (n_ < 1)) || (decide (n_ > 65536))) = true → (Writable w5 b_1 0 2 ∧ (∀ w8, w8 = World.puts b_1 0 [Value.int .i64 0, Value.slice none 0 0] w5 → (∃ (res1 : T_api_Txn), CellsAt w8 b_1 0 [Value.int .i64 res1.Number, Value.slice res1.Writes.ptr res1.Writes.len res1.Writes.cap] ∧ (R res1 1 w8))))) ∧
  (((decide (n_ < 1)) || (decide (n_ > 65536))) = false → (∃ (v33 : T_towpathref02_Reader), CellsAt w5 b_2 0 [Value.bool v33.Gone, Value.slice v33.B.ptr v33.B.len v33.B.cap, Value.int .i64 v33.At, Value.int .i64 v33.Code] ∧ (C_towpathref02_Reader_Var v33 w5 (fun (v34 : T_towpathref02_Reader) (many : Int) w9 => Writable w9 b_2 0 4 ∧ (∀ w10, w10 = World.puts b_2 0 [Value.bool v34.Gone, Value.slice v34.B.ptr v34.B.len v34.B.cap, Value.int .i64 v34.At, Value.int .i64 v34.Code] w9 → (∃ (v38 : Int), w10.cell? ⟨b_2, 3, none⟩ = some (Value.int .i64 v38) ∧ (((v38 != 0) = true → (∀ w11, (∃ k, w11 = w10.drewN k) → (∃ (v42 : Int), w11.cell? ⟨b_2, 3, none⟩ = some (Value.int .i64 v42) ∧ (Writable w11 b_1 0 2 ∧ (∀ w12, w12 = World.puts b_1 0 [Value.int .i64 0, Value.slice none 0 0] w11 → (w12.cell? ⟨b_2, 3, none⟩ = some (Value.int .i64 v42) ∧ (∃ (res2 : T_api_Txn), CellsAt w12 b_1 0 [Value.int .i64 res2.Number, Value.slice res2.Writes.ptr res2.Writes.len res2.Writes.cap] ∧ (R res2 v42 w12)))))))) ∧
  ((v38 != 0) = false → (((decide (many > 32)) = true → (Writable w10 b_1 0 2 ∧ (∀ w13, w13 = World.puts b_1 0 [Value.int .i64 0, Value.slice none 0 0] w10 → (∃ (res3 : T_api_Txn), CellsAt w13 b_1 0 [Value.int .i64 res3.Number, Value.slice res3.Writes.ptr res3.Writes.len res3.Writes.cap] ∧ (R res3 3 w13))))) ∧
  ((decide (many > 32)) = false → (∀ b_3 w14, b_3 = w10.heap.size → w14 = w10.alloc (Obj.cells ([Value.int .i64 0, Value.slice none 0 0]).toArray ty_api_Txn (0, 0)) → (Writable w14 b_3 0 2 ∧ (∀ w15, w15 = World.puts b_3 0 [Value.int .i64 (IntKind.i64.wrap n_), Value.slice none 0 0] w14 → (∃ (I : Int → World → Prop) (μ : Int → World → Nat), I 0 w15 ∧
  ∀ (i : Int) w, I i w → F_towpathref05_Decode_L0 R b_1 b_2 many b_3 (fun (i' : Int) w' => I i' w' ∧ μ i' w' < μ i w) i w)))))))))))))))))))))))))

def F_towpathlaw01_SameTxn (a_ : T_api_Txn) (b_ : T_api_Txn) (R : Bool → World → Prop) (w : World) : Prop :=
  ∀ b_1 w1, b_1 = w.heap.size → w1 = w.alloc (Obj.cells ([Value.int .i64 a_.Number, Value.slice a_.Writes.ptr a_.Writes.len a_.Writes.cap]).toArray ty_api_Txn (0, 0)) → (∀ b_2 w2, b_2 = w1.heap.size → w2 = w1.alloc (Obj.cells ([Value.int .i64 b_.Number, Value.slice b_.Writes.ptr b_.Writes.len b_.Writes.cap]).toArray ty_api_Txn (0, 0)) → (∃ (v6 : Int), w2.cell? ⟨b_1, 0, none⟩ = some (Value.int .i64 v6) ∧ (∃ (v8 : Int), w2.cell? ⟨b_2, 0, none⟩ = some (Value.int .i64 v8) ∧ (((v6 == v8) = true → (∃ (v12 : Slc), w2.cell? ⟨b_1, 1, none⟩ = some (Value.slice v12.ptr v12.len v12.cap) ∧ (∃ (v14 : Slc), w2.cell? ⟨b_2, 1, none⟩ = some (Value.slice v14.ptr v14.len v14.cap) ∧ (C_towpathlaw01_SameWrites v12 v14 w2 (fun (v15 : Bool) w3 => R v15 w3))))) ∧
  ((v6 == v8) = false → (R false w2))))))

def F_towpathlaw01_LeftBytes_L0 (t_ : Slc) (l_ : Slc) (R : Bool → World → Prop) (again_ : Int → World → Prop) (i : Int) (w1 : World) : Prop :=
  ((decide (i < ((l_.len : Nat) : Int))) = true → (IsAt t_.ptr ∧ (0 ≤ i ∧ i < ((t_.len : Nat) : Int) ∧ (∃ (v28 : Int), w1.cell? ⟨(pblk t_.ptr), (poff t_.ptr) + i.toNat, none⟩ = some (Value.int .u8 v28) ∧ (IsAt l_.ptr ∧ (0 ≤ i ∧ i < ((l_.len : Nat) : Int) ∧ (∃ (v32 : Int), w1.cell? ⟨(pblk l_.ptr), (poff l_.ptr) + i.toNat, none⟩ = some (Value.int .u8 v32) ∧ (∀ w2, Ext w1 w2 → (((v28 != v32) = true → (R false w2)) ∧
  ((v28 != v32) = false → (again_ (IntKind.i64.wrap (i + 1)) w2))))))))))) ∧
  ((decide (i < ((l_.len : Nat) : Int))) = false → (0 ≤ IntKind.i64.wrap (((l_.len : Nat) : Int) + 1) ∧ IntKind.i64.wrap (((l_.len : Nat) : Int) + 1) ≤ ((t_.cap : Nat) : Int) ∧ (IsAt t_.ptr ∧ (0 ≤ ((l_.len : Nat) : Int) ∧ ((l_.len : Nat) : Int) < (((IntKind.i64.wrap (((l_.len : Nat) : Int) + 1)).toNat : Nat) : Int) ∧ (∃ (x : Int), w1.cell? ⟨(pblk t_.ptr), (poff t_.ptr) + ((l_.len : Nat) : Int).toNat, none⟩ = some (Value.int .u8 x) ∧ (R (x == 77) w1))))))

def F_towpathlaw01_LeftBytes (t_ : Slc) (l_ : Slc) (R : Bool → World → Prop) (w : World) : Prop :=
  (((((t_.len : Nat) : Int) != ((l_.len : Nat) : Int)) || (decide (((t_.cap : Nat) : Int) ≤ ((l_.len : Nat) : Int)))) = true → (R false w)) ∧
  (((((t_.len : Nat) : Int) != ((l_.len : Nat) : Int)) || (decide (((t_.cap : Nat) : Int) ≤ ((l_.len : Nat) : Int)))) = false → (∃ (I : Int → World → Prop) (μ : Int → World → Nat), I 0 w ∧
  ∀ (i : Int) w, I i w → F_towpathlaw01_LeftBytes_L0 t_ l_ R (fun (i' : Int) w' => I i' w' ∧ μ i' w' < μ i w) i w))

def F_record_Check_k0 (R : Int → World → Prop) (t23 : Bool) (w2 : World) : Prop :=
  (t23 = true → (R 1 w2)) ∧
  (t23 = false → (R 0 w2))

def F_record_Check (t_ : T_api_Txn) (R : Int → World → Prop) (w : World) : Prop :=
  ∀ b_ w1, b_ = w.heap.size → w1 = w.alloc (Obj.cells ([Value.int .i64 t_.Number, Value.slice t_.Writes.ptr t_.Writes.len t_.Writes.cap]).toArray ty_api_Txn (0, 0)) → (∃ (v5 : Int), w1.cell? ⟨b_, 0, none⟩ = some (Value.int .i64 v5) ∧ (((decide (v5 < 1)) = true → (F_record_Check_k0 R true w1)) ∧
  ((decide (v5 < 1)) = false → (∃ (v9 : Int), w1.cell? ⟨b_, 0, none⟩ = some (Value.int .i64 v9) ∧ (((decide (v9 > 65536)) = true → (F_record_Check_k0 R true w1)) ∧
  ((decide (v9 > 65536)) = false → (∃ (v14 : Slc), w1.cell? ⟨b_, 1, none⟩ = some (Value.slice v14.ptr v14.len v14.cap) ∧ (((decide (((v14.len : Nat) : Int) > 32)) = true → (F_record_Check_k0 R true w1)) ∧
  ((decide (((v14.len : Nat) : Int) > 32)) = false → (∃ (v20 : Slc), w1.cell? ⟨b_, 1, none⟩ = some (Value.slice v20.ptr v20.len v20.cap) ∧ (C_slices_ContainsFunc_api_Write_api_Write v20 (Value.func (.func 62) #[] #[]) w1 (fun (v22 : Bool) w3 => F_record_Check_k0 R v22 w3))))))))))))

def F_towpathlaw01_TxnSize (t_ : T_api_Txn) (R : Int → World → Prop) (w : World) : Prop :=
  ∀ b_ w1, b_ = w.heap.size → w1 = w.alloc (Obj.cells ([Value.int .i64 t_.Number, Value.slice t_.Writes.ptr t_.Writes.len t_.Writes.cap]).toArray ty_api_Txn (0, 0)) → (∃ (v4 : Slc), w1.cell? ⟨b_, 1, none⟩ = some (Value.slice v4.ptr v4.len v4.cap) ∧ (C_towpathlaw01_WritesSize v4 w1 (fun (v5 : Int) w2 => R (IntKind.i64.wrap (1 + v5)) w2)))

def F_towpathlaw05_alive (R : Bool → World → Prop) (w : World) : Prop :=
  ∀ b_ w1, b_ = w.heap.size → w1 = w.alloc (Obj.cells ([Value.string (ByteArray.mk #[97]), Value.string (ByteArray.mk #[120]), Value.bool false, Value.string (ByteArray.mk #[98]), Value.string ByteArray.empty, Value.bool true]).toArray ty_api_Write (0, 0)) → (C_record_Encode (T_api_Txn.mk 1 (Slc.mk (some ⟨b_, 0, none⟩) 2 2)) w1 (fun (b_1 : Slc) (e : Int) w2 => C_record_Encode (T_api_Txn.mk 0 (Slc.mk none 0 0)) w2 (fun (v17 : Slc) (f : Int) w3 => ∀ b_2 w4, b_2 = w3.heap.size → w4 = w3.alloc (Obj.cells ([Value.int .u8 1, Value.int .u8 33]).toArray ty_uint8 (0, 0)) → (C_record_Decode (Slc.mk (some ⟨b_2, 0, none⟩) 2 2) w4 (fun (v22 : T_api_Txn) (g : Int) w5 => ∀ b_3 w6, b_3 = w5.heap.size → w6 = w5.alloc (Obj.cells ([Value.int .i64 0, Value.slice none 0 0]).toArray ty_api_Txn (0, 0)) → (Writable w6 b_3 0 2 ∧ (∀ w7, w7 = World.puts b_3 0 [Value.int .i64 v22.Number, Value.slice v22.Writes.ptr v22.Writes.len v22.Writes.cap] w6 → (((((e == 0) && (f == 1)) && (g == 3)) = true → (∀ b_4 w8, b_4 = w7.heap.size → w8 = w7.alloc (Obj.cells ([Value.int .u8 1, Value.int .u8 2, Value.int .u8 1, Value.int .u8 97, Value.int .u8 0, Value.int .u8 1, Value.int .u8 120, Value.int .u8 1, Value.int .u8 98, Value.int .u8 1]).toArray ty_uint8 (0, 0)) → (C_towpathlaw01_SameBytes b_1 (Slc.mk (some ⟨b_4, 0, none⟩) 10 10) w8 (fun (v38 : Bool) w9 => R v38 w9)))) ∧
  ((((e == 0) && (f == 1)) && (g == 3)) = false → (R false w7))))))))))

def F_record_Encode_k1 (t28 : Int) (again_ : Int → World → Prop) (w7 : World) : Prop :=
  again_ (IntKind.i64.wrap (t28 + 1)) w7

def F_record_Encode_L0 (R : Slc → Int → World → Prop) (b_ : Nat) (v13 : Option Addr) (v26 : Slc) (again_ : Int → World → Prop) (t28 : Int) (w6 : World) : Prop :=
  ((decide (t28 < ((v26.len : Nat) : Int))) = true → (∃ (v32 : Slc), w6.cell? ⟨b_, 1, none⟩ = some (Value.slice v32.ptr v32.len v32.cap) ∧ (IsAt v32.ptr ∧ (0 ≤ t28 ∧ t28 < ((v32.len : Nat) : Int) ∧ (∃ (v35 : T_api_Write), CellsAt w6 (pblk v32.ptr) ((poff v32.ptr) + t28.toNat * 3) [Value.string v35.Key, Value.string v35.Val, Value.bool v35.Drop] ∧ (∀ b_1 w8, b_1 = w6.heap.size → w8 = w6.alloc (Obj.cells ([Value.string ByteArray.empty, Value.string ByteArray.empty, Value.bool false]).toArray ty_api_Write (0, 0)) → (Writable w8 b_1 0 3 ∧ (∀ w9, w9 = World.puts b_1 0 [Value.string v35.Key, Value.string v35.Val, Value.bool v35.Drop] w8 → (∃ (v38 : ByteArray), w9.cell? ⟨b_1, 0, none⟩ = some (Value.string v38) ∧ (C_codec_Writer_Text v13 v38 w9 (fun w10 => ∃ (v41 : Bool), w10.cell? ⟨b_1, 2, none⟩ = some (Value.bool v41) ∧ ((v41 = true → (C_codec_Writer_Fixed v13 1 1 w10 (fun (v43 : Int) w11 => F_record_Encode_k1 t28 again_ w11))) ∧
  (v41 = false → (C_codec_Writer_Fixed v13 0 1 w10 (fun (v45 : Int) w12 => ∃ (v48 : ByteArray), w12.cell? ⟨b_1, 1, none⟩ = some (Value.string v48) ∧ (C_codec_Writer_Text v13 v48 w12 (fun w13 => F_record_Encode_k1 t28 again_ w13))))))))))))))))) ∧
  ((decide (t28 < ((v26.len : Nat) : Int))) = false → (C_codec_Writer_Done v13 w6 (fun (v52 : Slc) w14 => R v52 0 w14)))

def F_record_Encode (t_ : T_api_Txn) (R : Slc → Int → World → Prop) (w : World) : Prop :=
  ∀ b_ w1, b_ = w.heap.size → w1 = w.alloc (Obj.cells ([Value.int .i64 t_.Number, Value.slice t_.Writes.ptr t_.Writes.len t_.Writes.cap]).toArray ty_api_Txn (0, 0)) → (∃ (v8 : T_api_Txn), CellsAt w1 b_ 0 [Value.int .i64 v8.Number, Value.slice v8.Writes.ptr v8.Writes.len v8.Writes.cap] ∧ (C_record_Check v8 w1 (fun (v9 : Int) w2 => ((v9 != 0) = true → (R (Slc.mk none 0 0) v9 w2)) ∧
  ((v9 != 0) = false → (C_codec_NewWriter w2 (fun (v13 : Option Addr) w3 => ∃ (v16 : Int), w3.cell? ⟨b_, 0, none⟩ = some (Value.int .i64 v16) ∧ (C_codec_Writer_Var v13 (IntKind.u64.wrap v16) w3 (fun w4 => ∃ (v21 : Slc), w4.cell? ⟨b_, 1, none⟩ = some (Value.slice v21.ptr v21.len v21.cap) ∧ (C_codec_Writer_Var v13 (IntKind.u64.wrap ((v21.len : Nat) : Int)) w4 (fun w5 => ∃ (v26 : Slc), w5.cell? ⟨b_, 1, none⟩ = some (Value.slice v26.ptr v26.len v26.cap) ∧ (∃ (I : Int → World → Prop) (μ : Int → World → Nat), I 0 w5 ∧
  ∀ (t28 : Int) w, I t28 w → F_record_Encode_L0 R b_ v13 v26 (fun (t28' : Int) w' => I t28' w' ∧ μ t28' w' < μ t28 w) t28 w)))))))))))

def F_towpathlaw01_SameBytes_L0 (a_ : Slc) (b_ : Slc) (R : Bool → World → Prop) (again_ : Int → World → Prop) (i : Int) (w1 : World) : Prop :=
  ((decide (i < ((a_.len : Nat) : Int))) = true → (IsAt a_.ptr ∧ (0 ≤ i ∧ i < ((a_.len : Nat) : Int) ∧ (∃ (v20 : Int), w1.cell? ⟨(pblk a_.ptr), (poff a_.ptr) + i.toNat, none⟩ = some (Value.int .u8 v20) ∧ (IsAt b_.ptr ∧ (0 ≤ i ∧ i < ((b_.len : Nat) : Int) ∧ (∃ (v24 : Int), w1.cell? ⟨(pblk b_.ptr), (poff b_.ptr) + i.toNat, none⟩ = some (Value.int .u8 v24) ∧ (∀ w2, Ext w1 w2 → (((v20 != v24) = true → (R false w2)) ∧
  ((v20 != v24) = false → (again_ (IntKind.i64.wrap (i + 1)) w2))))))))))) ∧
  ((decide (i < ((a_.len : Nat) : Int))) = false → (R true w1))

def F_towpathlaw01_SameBytes (a_ : Slc) (b_ : Slc) (R : Bool → World → Prop) (w : World) : Prop :=
  ((((a_.len : Nat) : Int) != ((b_.len : Nat) : Int)) = true → (R false w)) ∧
  ((((a_.len : Nat) : Int) != ((b_.len : Nat) : Int)) = false → (∃ (I : Int → World → Prop) (μ : Int → World → Nat), I 0 w ∧
  ∀ (i : Int) w, I i w → F_towpathlaw01_SameBytes_L0 a_ b_ R (fun (i' : Int) w' => I i' w' ∧ μ i' w' < μ i w) i w))

def F_record_Size (t_ : T_api_Txn) (R : Int → Int → World → Prop) (w : World) : Prop :=
  ∀ b_ w1, b_ = w.heap.size → w1 = w.alloc (Obj.cells ([Value.int .i64 t_.Number, Value.slice t_.Writes.ptr t_.Writes.len t_.Writes.cap]).toArray ty_api_Txn (0, 0)) → (∃ (v7 : T_api_Txn), CellsAt w1 b_ 0 [Value.int .i64 v7.Number, Value.slice v7.Writes.ptr v7.Writes.len v7.Writes.cap] ∧ (C_record_Encode v7 w1 (fun (b_1 : Slc) (e : Int) w2 => R ((b_1.len : Nat) : Int) e w2)))

def F_codec_NewReader (b_ : Slc) (R : Option Addr → World → Prop) (w : World) : Prop :=
  C_slices_Clone_byte_byte b_ w (fun (v4 : Slc) w1 => ∀ b_1 w2, b_1 = w1.heap.size → w2 = w1.alloc (Obj.cells ([Value.bool true, Value.slice v4.ptr v4.len v4.cap, Value.int .i64 0]).toArray ty_codec_Reader (0, 0)) → (R (some ⟨b_1, 0, none⟩) w2))

def F_record_Decode_1 (is : Bool) (e : Int) (t2 : Option Addr) (t3 : Option Addr) (R : Int → World → Prop) (w : World) : Prop :=
  ∀ w1, (∃ k, w1 = w.drewN k) → (IsAt t2 ∧ (∃ (v7 : Option Addr), w1.cell? ⟨(pblk t2), (poff t2), none⟩ = some (Value.pointer v7) ∧ (IsAt t3 ∧ (∃ (v9 : Int), w1.cell? ⟨(pblk t3), (poff t3), none⟩ = some (Value.int .i64 v9) ∧ (C_codec_Reader_Left v7 w1 (fun (v8 : Int) w2 => w2.cell? ⟨(pblk t3), (poff t3), none⟩ = some (Value.int .i64 v9) ∧ (((v8 == v9) = true → (IsAt t2 ∧ (∃ (v11 : Option Addr), w2.cell? ⟨(pblk t2), (poff t2), none⟩ = some (Value.pointer v11) ∧ (C_codec_Reader_End v11 w2 (fun (v12 : Int) w3 => R v12 w3))))) ∧
  ((v8 == v9) = false → (IsAt t2 ∧ (∃ (v13 : Option Addr), w2.cell? ⟨(pblk t2), (poff t2), none⟩ = some (Value.pointer v13) ∧ (C_codec_Reader_Left v13 w2 (fun (v14 : Int) w4 => IsAt t3 ∧ (Writable w4 (pblk t3) (poff t3) 1 ∧ (∀ w5, w5 = World.puts (pblk t3) (poff t3) [Value.int .i64 v14] w4 → ((is = true → (R e w5)) ∧
  (is = false → (R 0 w5)))))))))))))))))

def F_codec_Reader_Left (r : Option Addr) (R : Int → World → Prop) (w : World) : Prop :=
  (r.isNone = true → (R 0 w)) ∧
  (r.isNone = false → (IsAt r ∧ (∃ (v8 : Slc), w.cell? ⟨(pblk r), (poff r) + 1, none⟩ = some (Value.slice v8.ptr v8.len v8.cap) ∧ (R ((v8.len : Nat) : Int) w))))

def F_codec_Reader_End_k1 (r : Option Addr) (R : Int → World → Prop) (t13 : Bool) (w2 : World) : Prop :=
  (t13 = true → (R 4 w2)) ∧
  (t13 = false → (IsAt r ∧ (∃ (v30 : Int), w2.cell? ⟨(pblk r), (poff r) + 2, none⟩ = some (Value.int .i64 v30) ∧ (R v30 w2))))

def F_codec_Reader_End_k0 (r : Option Addr) (R : Int → World → Prop) (t3 : Bool) (w1 : World) : Prop :=
  (t3 = true → (R 2 w1)) ∧
  (t3 = false → (IsAt r ∧ (∃ (v17 : Int), w1.cell? ⟨(pblk r), (poff r) + 2, none⟩ = some (Value.int .i64 v17) ∧ (((v17 == 0) = true → (IsAt r ∧ (∃ (v23 : Slc), w1.cell? ⟨(pblk r), (poff r) + 1, none⟩ = some (Value.slice v23.ptr v23.len v23.cap) ∧ (F_codec_Reader_End_k1 r R (decide (((v23.len : Nat) : Int) > 0)) w1)))) ∧
  ((v17 == 0) = false → (F_codec_Reader_End_k1 r R false w1))))))

def F_codec_Reader_End (r : Option Addr) (R : Int → World → Prop) (w : World) : Prop :=
  (r.isNone = true → (F_codec_Reader_End_k0 r R true w)) ∧
  (r.isNone = false → (IsAt r ∧ (∃ (v10 : Bool), w.cell? ⟨(pblk r), (poff r), none⟩ = some (Value.bool v10) ∧ (F_codec_Reader_End_k0 r R (!v10) w))))

def F_codec_Reader_Var (r : Option Addr) (R : Int → World → Prop) (w : World) : Prop :=
  ∀ b_ w1, b_ = w.heap.size → w1 = w.alloc (Obj.cells ([Value.int .u64 0]).toArray ty_uint64 (0, 0)) → (C_codec_Reader_take r (Value.func (.func 74) #[] #[Value.pointer (some ⟨b_, 0, none⟩)]) w1 (fun (v5 : Bool) w2 => ∃ (v6 : Int), w2.cell? ⟨b_, 0, none⟩ = some (Value.int .u64 v6) ∧ (Writable w2 b_ 0 1 ∧ (∀ w3, w3 = World.puts b_ 0 [Value.int .u64 v6] w2 → (∃ (res : Int), CellsAt w3 b_ 0 [Value.int .u64 res] ∧ (R res w3))))))

def F_codec_Reader_Text (r : Option Addr) (most : Int) (R : ByteArray → World → Prop) (w : World) : Prop :=
  ∀ b_ w1, b_ = w.heap.size → w1 = w.alloc (Obj.cells ([Value.int .i64 most]).toArray ty_int (0, 0)) → (∀ b_1 w2, b_1 = w1.heap.size → w2 = w1.alloc (Obj.cells ([Value.string ByteArray.empty]).toArray ty_string (0, 0)) → (C_codec_Reader_take r (Value.func (.func 76) #[] #[Value.pointer (some ⟨b_, 0, none⟩), Value.pointer (some ⟨b_1, 0, none⟩)]) w2 (fun (v7 : Bool) w3 => ∃ (v8 : ByteArray), w3.cell? ⟨b_1, 0, none⟩ = some (Value.string v8) ∧ (Writable w3 b_1 0 1 ∧ (∀ w4, w4 = World.puts b_1 0 [Value.string v8] w3 → (∃ (res : ByteArray), CellsAt w4 b_1 0 [Value.string res] ∧ (R res w4)))))))

def F_codec_Reader_Fixed (r : Option Addr) (width : Int) (R : Int → World → Prop) (w : World) : Prop :=
  ∀ b_ w1, b_ = w.heap.size → w1 = w.alloc (Obj.cells ([Value.int .i64 width]).toArray ty_int (0, 0)) → (∀ b_1 w2, b_1 = w1.heap.size → w2 = w1.alloc (Obj.cells ([Value.int .u64 0]).toArray ty_uint64 (0, 0)) → (C_codec_Reader_take r (Value.func (.func 77) #[] #[Value.pointer (some ⟨b_, 0, none⟩), Value.pointer (some ⟨b_1, 0, none⟩)]) w2 (fun (v7 : Bool) w3 => ∃ (v8 : Int), w3.cell? ⟨b_1, 0, none⟩ = some (Value.int .u64 v8) ∧ (Writable w3 b_1 0 1 ∧ (∀ w4, w4 = World.puts b_1 0 [Value.int .u64 v8] w3 → (∃ (res : Int), CellsAt w4 b_1 0 [Value.int .u64 res] ∧ (R res w4)))))))

def F_towpathref02_Reader_Var_L0 (R : T_towpathref02_Reader → Int → World → Prop) (b_ : Nat) (b_1 : Nat) (again_ : Int → Int → Int → World → Prop) (n_ : Int) (f : Int) (i : Int) (w5 : World) : Prop :=
  ∃ (v14 : Int), w5.cell? ⟨b_, 2, none⟩ = some (Value.int .i64 v14) ∧ (∃ (v18 : Slc), w5.cell? ⟨b_, 1, none⟩ = some (Value.slice v18.ptr v18.len v18.cap) ∧ (((decide ((IntKind.i64.wrap (v14 + i)) ≥ ((v18.len : Nat) : Int))) = true → (∃ (v21 : T_towpathref02_Reader), CellsAt w5 b_ 0 [Value.bool v21.Gone, Value.slice v21.B.ptr v21.B.len v21.B.cap, Value.int .i64 v21.At, Value.int .i64 v21.Code] ∧ (C_towpathref02_Reader_wrong v21 5 w5 (fun (v22 : T_towpathref02_Reader) w6 => Writable w6 b_1 0 4 ∧ (∀ w7, w7 = World.puts b_1 0 [Value.bool v22.Gone, Value.slice v22.B.ptr v22.B.len v22.B.cap, Value.int .i64 v22.At, Value.int .i64 v22.Code] w6 → (∃ (res1 : T_towpathref02_Reader), CellsAt w7 b_1 0 [Value.bool res1.Gone, Value.slice res1.B.ptr res1.B.len res1.B.cap, Value.int .i64 res1.At, Value.int .i64 res1.Code] ∧ (R res1 0 w7))))))) ∧
  ((decide ((IntKind.i64.wrap (v14 + i)) ≥ ((v18.len : Nat) : Int))) = false → (∃ (v24 : Slc), w5.cell? ⟨b_, 1, none⟩ = some (Value.slice v24.ptr v24.len v24.cap) ∧ (∃ (v26 : Int), w5.cell? ⟨b_, 2, none⟩ = some (Value.int .i64 v26) ∧ (IsAt v24.ptr ∧ (0 ≤ IntKind.i64.wrap (v26 + i) ∧ IntKind.i64.wrap (v26 + i) < ((v24.len : Nat) : Int) ∧ (∃ (c : Int), w5.cell? ⟨(pblk v24.ptr), (poff v24.ptr) + (IntKind.i64.wrap (v26 + i)).toNat, none⟩ = some (Value.int .u8 c) ∧ (((((i == 9) && (decide (c > 1))) || ((decide (i > 0)) && (c == 0))) = true → (∃ (v45 : T_towpathref02_Reader), CellsAt w5 b_ 0 [Value.bool v45.Gone, Value.slice v45.B.ptr v45.B.len v45.B.cap, Value.int .i64 v45.At, Value.int .i64 v45.Code] ∧ (C_towpathref02_Reader_wrong v45 4 w5 (fun (v46 : T_towpathref02_Reader) w8 => Writable w8 b_1 0 4 ∧ (∀ w9, w9 = World.puts b_1 0 [Value.bool v46.Gone, Value.slice v46.B.ptr v46.B.len v46.B.cap, Value.int .i64 v46.At, Value.int .i64 v46.Code] w8 → (∃ (res2 : T_towpathref02_Reader), CellsAt w9 b_1 0 [Value.bool res2.Gone, Value.slice res2.B.ptr res2.B.len res2.B.cap, Value.int .i64 res2.At, Value.int .i64 res2.Code] ∧ (R res2 0 w9))))))) ∧
  ((((i == 9) && (decide (c > 1))) || ((decide (i > 0)) && (c == 0))) = false → (((decide (c < 128)) = true → (∃ (v59 : Int), w5.cell? ⟨b_, 2, none⟩ = some (Value.int .i64 v59) ∧ (Writable w5 b_ 2 1 ∧ (∀ w10, w10 = World.puts b_ 2 [Value.int .i64 (IntKind.i64.wrap ((IntKind.i64.wrap (v59 + i)) + 1))] w5 → (∃ (v64 : T_towpathref02_Reader), CellsAt w10 b_ 0 [Value.bool v64.Gone, Value.slice v64.B.ptr v64.B.len v64.B.cap, Value.int .i64 v64.At, Value.int .i64 v64.Code] ∧ (Writable w10 b_1 0 4 ∧ (∀ w11, w11 = World.puts b_1 0 [Value.bool v64.Gone, Value.slice v64.B.ptr v64.B.len v64.B.cap, Value.int .i64 v64.At, Value.int .i64 v64.Code] w10 → (∃ (res3 : T_towpathref02_Reader), CellsAt w11 b_1 0 [Value.bool res3.Gone, Value.slice res3.B.ptr res3.B.len res3.B.cap, Value.int .i64 res3.At, Value.int .i64 res3.Code] ∧ (R res3 (IntKind.u64.wrap (n_ + (IntKind.u64.wrap (f * (IntKind.u64.wrap (Int.tmod c 128)))))) w11))))))))) ∧
  ((decide (c < 128)) = false → (again_ (IntKind.u64.wrap (n_ + (IntKind.u64.wrap (f * (IntKind.u64.wrap (Int.tmod c 128)))))) (IntKind.u64.wrap (128 * f)) (IntKind.i64.wrap (i + 1)) w5)))))))))))))

def F_towpathref02_Reader_Var (r : T_towpathref02_Reader) (R : T_towpathref02_Reader → Int → World → Prop) (w : World) : Prop :=
  ∀ b_ w1, b_ = w.heap.size → w1 = w.alloc (Obj.cells ([Value.bool r.Gone, Value.slice r.B.ptr r.B.len r.B.cap, Value.int .i64 r.At, Value.int .i64 r.Code]).toArray ty_towpathref02_Reader (0, 0)) → (∀ b_1 w2, b_1 = w1.heap.size → w2 = w1.alloc (Obj.cells ([Value.bool false, Value.slice none 0 0, Value.int .i64 0, Value.int .i64 0]).toArray ty_towpathref02_Reader (0, 0)) → (∃ (v8 : T_towpathref02_Reader), CellsAt w2 b_ 0 [Value.bool v8.Gone, Value.slice v8.B.ptr v8.B.len v8.B.cap, Value.int .i64 v8.At, Value.int .i64 v8.Code] ∧ (C_towpathref02_Reader_dead v8 w2 (fun (v9 : Bool) w3 => (v9 = true → (∃ (v10 : T_towpathref02_Reader), CellsAt w3 b_ 0 [Value.bool v10.Gone, Value.slice v10.B.ptr v10.B.len v10.B.cap, Value.int .i64 v10.At, Value.int .i64 v10.Code] ∧ (Writable w3 b_1 0 4 ∧ (∀ w4, w4 = World.puts b_1 0 [Value.bool v10.Gone, Value.slice v10.B.ptr v10.B.len v10.B.cap, Value.int .i64 v10.At, Value.int .i64 v10.Code] w3 → (∃ (res : T_towpathref02_Reader), CellsAt w4 b_1 0 [Value.bool res.Gone, Value.slice res.B.ptr res.B.len res.B.cap, Value.int .i64 res.At, Value.int .i64 res.Code] ∧ (R res 0 w4)))))) ∧
  (v9 = false → (∃ (I : Int → Int → Int → World → Prop) (μ : Int → Int → Int → World → Nat), I 0 1 0 w3 ∧
  ∀ (n_ : Int) (f : Int) (i : Int) w, I n_ f i w → F_towpathref02_Reader_Var_L0 R b_ b_1 (fun (n_' : Int) (f' : Int) (i' : Int) w' => I n_' f' i' w' ∧ μ n_' f' i' w' < μ n_ f i w) n_ f i w))))))

def F_towpathref05_one (r : T_towpathref02_Reader) (R : T_towpathref02_Reader → T_api_Write → Int → World → Prop) (w : World) : Prop :=
  ∀ b_ w1, b_ = w.heap.size → w1 = w.alloc (Obj.cells ([Value.bool r.Gone, Value.slice r.B.ptr r.B.len r.B.cap, Value.int .i64 r.At, Value.int .i64 r.Code]).toArray ty_towpathref02_Reader (0, 0)) → (∀ b_1 w2, b_1 = w1.heap.size → w2 = w1.alloc (Obj.cells ([Value.bool false, Value.slice none 0 0, Value.int .i64 0, Value.int .i64 0]).toArray ty_towpathref02_Reader (0, 0)) → (∀ b_2 w3, b_2 = w2.heap.size → w3 = w2.alloc (Obj.cells ([Value.string ByteArray.empty, Value.string ByteArray.empty, Value.bool false]).toArray ty_api_Write (0, 0)) → (∃ (v9 : T_towpathref02_Reader), CellsAt w3 b_ 0 [Value.bool v9.Gone, Value.slice v9.B.ptr v9.B.len v9.B.cap, Value.int .i64 v9.At, Value.int .i64 v9.Code] ∧ (C_towpathref02_Reader_Text v9 64 w3 (fun (v10 : T_towpathref02_Reader) (key : ByteArray) w4 => Writable w4 b_ 0 4 ∧ (∀ w5, w5 = World.puts b_ 0 [Value.bool v10.Gone, Value.slice v10.B.ptr v10.B.len v10.B.cap, Value.int .i64 v10.At, Value.int .i64 v10.Code] w4 → (∃ (v14 : Int), w5.cell? ⟨b_, 3, none⟩ = some (Value.int .i64 v14) ∧ (((v14 != 0) = true → (∀ w6, (∃ k, w6 = w5.drewN k) → (∃ (v16 : T_towpathref02_Reader), CellsAt w6 b_ 0 [Value.bool v16.Gone, Value.slice v16.B.ptr v16.B.len v16.B.cap, Value.int .i64 v16.At, Value.int .i64 v16.Code] ∧ (∃ (v19 : Int), w6.cell? ⟨b_, 3, none⟩ = some (Value.int .i64 v19) ∧ (Writable w6 b_1 0 4 ∧ (∀ w7, w7 = World.puts b_1 0 [Value.bool v16.Gone, Value.slice v16.B.ptr v16.B.len v16.B.cap, Value.int .i64 v16.At, Value.int .i64 v16.Code] w6 → (w7.cell? ⟨b_, 3, none⟩ = some (Value.int .i64 v19) ∧ (Writable w7 b_2 0 3 ∧ (∀ w8, w8 = World.puts b_2 0 [Value.string ByteArray.empty, Value.string ByteArray.empty, Value.bool false] w7 → (w8.cell? ⟨b_, 3, none⟩ = some (Value.int .i64 v19) ∧ (∃ (res : T_towpathref02_Reader), CellsAt w8 b_1 0 [Value.bool res.Gone, Value.slice res.B.ptr res.B.len res.B.cap, Value.int .i64 res.At, Value.int .i64 res.Code] ∧ (∃ (res1 : T_api_Write), CellsAt w8 b_2 0 [Value.string res1.Key, Value.string res1.Val, Value.bool res1.Drop] ∧ (R res res1 v19 w8))))))))))))) ∧
  ((v14 != 0) = false → (((((key.size : Nat) : Int) == 0) = true → (∃ (v23 : T_towpathref02_Reader), CellsAt w5 b_ 0 [Value.bool v23.Gone, Value.slice v23.B.ptr v23.B.len v23.B.cap, Value.int .i64 v23.At, Value.int .i64 v23.Code] ∧ (Writable w5 b_1 0 4 ∧ (∀ w9, w9 = World.puts b_1 0 [Value.bool v23.Gone, Value.slice v23.B.ptr v23.B.len v23.B.cap, Value.int .i64 v23.At, Value.int .i64 v23.Code] w5 → (Writable w9 b_2 0 3 ∧ (∀ w10, w10 = World.puts b_2 0 [Value.string ByteArray.empty, Value.string ByteArray.empty, Value.bool false] w9 → (∃ (res2 : T_towpathref02_Reader), CellsAt w10 b_1 0 [Value.bool res2.Gone, Value.slice res2.B.ptr res2.B.len res2.B.cap, Value.int .i64 res2.At, Value.int .i64 res2.Code] ∧ (∃ (res3 : T_api_Write), CellsAt w10 b_2 0 [Value.string res3.Key, Value.string res3.Val, Value.bool res3.Drop] ∧ (R res2 res3 1 w10))))))))) ∧
  ((((key.size : Nat) : Int) == 0) = false → (∃ (v26 : T_towpathref02_Reader), CellsAt w5 b_ 0 [Value.bool v26.Gone, Value.slice v26.B.ptr v26.B.len v26.B.cap, Value.int .i64 v26.At, Value.int .i64 v26.Code] ∧ (C_towpathref02_Reader_Fixed v26 1 w5 (fun (v27 : T_towpathref02_Reader) (drop : Int) w11 => Writable w11 b_ 0 4 ∧ (∀ w12, w12 = World.puts b_ 0 [Value.bool v27.Gone, Value.slice v27.B.ptr v27.B.len v27.B.cap, Value.int .i64 v27.At, Value.int .i64 v27.Code] w11 → (∃ (v31 : Int), w12.cell? ⟨b_, 3, none⟩ = some (Value.int .i64 v31) ∧ (((v31 != 0) = true → (∀ w13, (∃ k, w13 = w12.drewN k) → (∃ (v33 : T_towpathref02_Reader), CellsAt w13 b_ 0 [Value.bool v33.Gone, Value.slice v33.B.ptr v33.B.len v33.B.cap, Value.int .i64 v33.At, Value.int .i64 v33.Code] ∧ (∃ (v36 : Int), w13.cell? ⟨b_, 3, none⟩ = some (Value.int .i64 v36) ∧ (Writable w13 b_1 0 4 ∧ (∀ w14, w14 = World.puts b_1 0 [Value.bool v33.Gone, Value.slice v33.B.ptr v33.B.len v33.B.cap, Value.int .i64 v33.At, Value.int .i64 v33.Code] w13 → (w14.cell? ⟨b_, 3, none⟩ = some (Value.int .i64 v36) ∧ (Writable w14 b_2 0 3 ∧ (∀ w15, w15 = World.puts b_2 0 [Value.string ByteArray.empty, Value.string ByteArray.empty, Value.bool false] w14 → (w15.cell? ⟨b_, 3, none⟩ = some (Value.int .i64 v36) ∧ (∃ (res4 : T_towpathref02_Reader), CellsAt w15 b_1 0 [Value.bool res4.Gone, Value.slice res4.B.ptr res4.B.len res4.B.cap, Value.int .i64 res4.At, Value.int .i64 res4.Code] ∧ (∃ (res5 : T_api_Write), CellsAt w15 b_2 0 [Value.string res5.Key, Value.string res5.Val, Value.bool res5.Drop] ∧ (R res4 res5 v36 w15))))))))))))) ∧
  ((v31 != 0) = false → (((decide (drop > 1)) = true → (∃ (v39 : T_towpathref02_Reader), CellsAt w12 b_ 0 [Value.bool v39.Gone, Value.slice v39.B.ptr v39.B.len v39.B.cap, Value.int .i64 v39.At, Value.int .i64 v39.Code] ∧ (Writable w12 b_1 0 4 ∧ (∀ w16, w16 = World.puts b_1 0 [Value.bool v39.Gone, Value.slice v39.B.ptr v39.B.len v39.B.cap, Value.int .i64 v39.At, Value.int .i64 v39.Code] w12 → (Writable w16 b_2 0 3 ∧ (∀ w17, w17 = World.puts b_2 0 [Value.string ByteArray.empty, Value.string ByteArray.empty, Value.bool false] w16 → (∃ (res6 : T_towpathref02_Reader), CellsAt w17 b_1 0 [Value.bool res6.Gone, Value.slice res6.B.ptr res6.B.len res6.B.cap, Value.int .i64 res6.At, Value.int .i64 res6.Code] ∧ (∃ (res7 : T_api_Write), CellsAt w17 b_2 0 [Value.string res7.Key, Value.string res7.Val, Value.bool res7.Drop] ∧ (R res6 res7 4 w17))))))))) ∧
  ((decide (drop > 1)) = false → (((drop == 1) = true → (∃ (v43 : T_towpathref02_Reader), CellsAt w12 b_ 0 [Value.bool v43.Gone, Value.slice v43.B.ptr v43.B.len v43.B.cap, Value.int .i64 v43.At, Value.int .i64 v43.Code] ∧ (Writable w12 b_1 0 4 ∧ (∀ w18, w18 = World.puts b_1 0 [Value.bool v43.Gone, Value.slice v43.B.ptr v43.B.len v43.B.cap, Value.int .i64 v43.At, Value.int .i64 v43.Code] w12 → (Writable w18 b_2 0 3 ∧ (∀ w19, w19 = World.puts b_2 0 [Value.string key, Value.string ByteArray.empty, Value.bool true] w18 → (∃ (res8 : T_towpathref02_Reader), CellsAt w19 b_1 0 [Value.bool res8.Gone, Value.slice res8.B.ptr res8.B.len res8.B.cap, Value.int .i64 res8.At, Value.int .i64 res8.Code] ∧ (∃ (res9 : T_api_Write), CellsAt w19 b_2 0 [Value.string res9.Key, Value.string res9.Val, Value.bool res9.Drop] ∧ (R res8 res9 0 w19))))))))) ∧
  ((drop == 1) = false → (∃ (v47 : T_towpathref02_Reader), CellsAt w12 b_ 0 [Value.bool v47.Gone, Value.slice v47.B.ptr v47.B.len v47.B.cap, Value.int .i64 v47.At, Value.int .i64 v47.Code] ∧ (C_towpathref02_Reader_Text v47 1024 w12 (fun (v48 : T_towpathref02_Reader) (val : ByteArray) w20 => Writable w20 b_ 0 4 ∧ (∀ w21, w21 = World.puts b_ 0 [Value.bool v48.Gone, Value.slice v48.B.ptr v48.B.len v48.B.cap, Value.int .i64 v48.At, Value.int .i64 v48.Code] w20 → (∀ w22, (∃ k, w22 = w21.drewN k) → (∃ (v51 : T_towpathref02_Reader), CellsAt w22 b_ 0 [Value.bool v51.Gone, Value.slice v51.B.ptr v51.B.len v51.B.cap, Value.int .i64 v51.At, Value.int .i64 v51.Code] ∧ (∃ (v56 : Int), w22.cell? ⟨b_, 3, none⟩ = some (Value.int .i64 v56) ∧ (Writable w22 b_1 0 4 ∧ (∀ w23, w23 = World.puts b_1 0 [Value.bool v51.Gone, Value.slice v51.B.ptr v51.B.len v51.B.cap, Value.int .i64 v51.At, Value.int .i64 v51.Code] w22 → (w23.cell? ⟨b_, 3, none⟩ = some (Value.int .i64 v56) ∧ (Writable w23 b_2 0 3 ∧ (∀ w24, w24 = World.puts b_2 0 [Value.string key, Value.string val, Value.bool false] w23 → (w24.cell? ⟨b_, 3, none⟩ = some (Value.int .i64 v56) ∧ (∃ (res10 : T_towpathref02_Reader), CellsAt w24 b_1 0 [Value.bool res10.Gone, Value.slice res10.B.ptr res10.B.len res10.B.cap, Value.int .i64 res10.At, Value.int .i64 res10.Code] ∧ (∃ (res11 : T_api_Write), CellsAt w24 b_2 0 [Value.string res11.Key, Value.string res11.Val, Value.bool res11.Drop] ∧ (R res10 res11 v56 w24))))))))))))))))))))))))))))))))))))))

def F_towpathref02_Reader_End (r : T_towpathref02_Reader) (R : Int → World → Prop) (w : World) : Prop :=
  ∀ b_ w1, b_ = w.heap.size → w1 = w.alloc (Obj.cells ([Value.bool r.Gone, Value.slice r.B.ptr r.B.len r.B.cap, Value.int .i64 r.At, Value.int .i64 r.Code]).toArray ty_towpathref02_Reader (0, 0)) → (∃ (v4 : Bool), w1.cell? ⟨b_, 0, none⟩ = some (Value.bool v4) ∧ ((v4 = true → (R 2 w1)) ∧
  (v4 = false → (∃ (v6 : Int), w1.cell? ⟨b_, 3, none⟩ = some (Value.int .i64 v6) ∧ (((v6 != 0) = true → (∃ (v9 : Int), w1.cell? ⟨b_, 3, none⟩ = some (Value.int .i64 v9) ∧ (R v9 w1))) ∧
  ((v6 != 0) = false → (∃ (v11 : Int), w1.cell? ⟨b_, 2, none⟩ = some (Value.int .i64 v11) ∧ (∃ (v13 : Slc), w1.cell? ⟨b_, 1, none⟩ = some (Value.slice v13.ptr v13.len v13.cap) ∧ (((decide (v11 < ((v13.len : Nat) : Int))) = true → (R 4 w1)) ∧
  ((decide (v11 < ((v13.len : Nat) : Int))) = false → (R 0 w1)))))))))))

def F_towpathlaw01_SameWrites_L0 (a_ : Slc) (b_ : Slc) (R : Bool → World → Prop) (again_ : Int → World → Prop) (i : Int) (w1 : World) : Prop :=
  ((decide (i < ((a_.len : Nat) : Int))) = true → (IsAt a_.ptr ∧ (0 ≤ i ∧ i < ((a_.len : Nat) : Int) ∧ (∃ (v20 : T_api_Write), CellsAt w1 (pblk a_.ptr) ((poff a_.ptr) + i.toNat * 3) [Value.string v20.Key, Value.string v20.Val, Value.bool v20.Drop] ∧ (IsAt b_.ptr ∧ (0 ≤ i ∧ i < ((b_.len : Nat) : Int) ∧ (∃ (v24 : T_api_Write), CellsAt w1 (pblk b_.ptr) ((poff b_.ptr) + i.toNat * 3) [Value.string v24.Key, Value.string v24.Val, Value.bool v24.Drop] ∧ (∀ w2, Ext w1 w2 → (((!(((v20.Key == v24.Key) && (v20.Val == v24.Val)) && (v20.Drop == v24.Drop))) = true → (R false w2)) ∧
  ((!(((v20.Key == v24.Key) && (v20.Val == v24.Val)) && (v20.Drop == v24.Drop))) = false → (again_ (IntKind.i64.wrap (i + 1)) w2))))))))))) ∧
  ((decide (i < ((a_.len : Nat) : Int))) = false → (R true w1))

def F_towpathlaw01_SameWrites (a_ : Slc) (b_ : Slc) (R : Bool → World → Prop) (w : World) : Prop :=
  ((((a_.len : Nat) : Int) != ((b_.len : Nat) : Int)) = true → (R false w)) ∧
  ((((a_.len : Nat) : Int) != ((b_.len : Nat) : Int)) = false → (∃ (I : Int → World → Prop) (μ : Int → World → Nat), I 0 w ∧
  ∀ (i : Int) w, I i w → F_towpathlaw01_SameWrites_L0 a_ b_ R (fun (i' : Int) w' => I i' w' ∧ μ i' w' < μ i w) i w))

def F_record_Check_1 (w_ : T_api_Write) (R : Bool → World → Prop) (w : World) : Prop :=
  ∀ b_ w1, b_ = w.heap.size → w1 = w.alloc (Obj.cells ([Value.string w_.Key, Value.string w_.Val, Value.bool w_.Drop]).toArray ty_api_Write (0, 0)) → (∃ (v4 : ByteArray), w1.cell? ⟨b_, 0, none⟩ = some (Value.string v4) ∧ (((v4.toList == ByteArray.empty.toList) = true → (R true w1)) ∧
  ((v4.toList == ByteArray.empty.toList) = false → (∃ (v8 : ByteArray), w1.cell? ⟨b_, 0, none⟩ = some (Value.string v8) ∧ (((decide (((v8.size : Nat) : Int) > 64)) = true → (R true w1)) ∧
  ((decide (((v8.size : Nat) : Int) > 64)) = false → (∃ (v14 : ByteArray), w1.cell? ⟨b_, 1, none⟩ = some (Value.string v14) ∧ (((decide (((v14.size : Nat) : Int) > 1024)) = true → (R true w1)) ∧
  ((decide (((v14.size : Nat) : Int) > 1024)) = false → (∃ (v20 : Bool), w1.cell? ⟨b_, 2, none⟩ = some (Value.bool v20) ∧ ((v20 = true → (∃ (v23 : ByteArray), w1.cell? ⟨b_, 1, none⟩ = some (Value.string v23) ∧ (R (!(v23.toList == ByteArray.empty.toList)) w1))) ∧
  (v20 = false → (R false w1)))))))))))))

def F_slices_ContainsFunc_api_Write_api_Write (s : Slc) (f : Value) (R : Bool → World → Prop) (w : World) : Prop :=
  C_slices_IndexFunc_api_Write_api_Write s f w (fun (v7 : Int) w1 => R (decide (v7 ≥ 0)) w1)

def F_towpathlaw01_WritesSize_L0 (l_ : Slc) (R : Int → World → Prop) (again_ : Int → Int → World → Prop) (n_ : Int) (i : Int) (w1 : World) : Prop :=
  (((decide (i < ((l_.len : Nat) : Int))) && (decide (n_ ≤ 1048576))) = true → (IsAt l_.ptr ∧ (0 ≤ i ∧ i < ((l_.len : Nat) : Int) ∧ (∃ (v22 : ByteArray), w1.cell? ⟨(pblk l_.ptr), (poff l_.ptr) + i.toNat * 3, none⟩ = some (Value.string v22) ∧ (IsAt l_.ptr ∧ (0 ≤ i ∧ i < ((l_.len : Nat) : Int) ∧ (∃ (v29 : ByteArray), w1.cell? ⟨(pblk l_.ptr), ((poff l_.ptr) + i.toNat * 3) + 1, none⟩ = some (Value.string v29) ∧ (∀ w2, Ext w1 w2 → (again_ (IntKind.i64.wrap ((IntKind.i64.wrap (n_ + ((v22.size : Nat) : Int))) + ((v29.size : Nat) : Int))) (IntKind.i64.wrap (i + 1)) w2))))))))) ∧
  (((decide (i < ((l_.len : Nat) : Int))) && (decide (n_ ≤ 1048576))) = false → (R n_ w1))

def F_towpathlaw01_WritesSize (l_ : Slc) (R : Int → World → Prop) (w : World) : Prop :=
  ∃ (I : Int → Int → World → Prop) (μ : Int → Int → World → Nat), I ((l_.len : Nat) : Int) 0 w ∧
  ∀ (n_ : Int) (i : Int) w, I n_ i w → F_towpathlaw01_WritesSize_L0 l_ R (fun (n_' : Int) (i' : Int) w' => I n_' i' w' ∧ μ n_' i' w' < μ n_ i w) n_ i w

def F_codec_NewWriter (R : Option Addr → World → Prop) (w : World) : Prop :=
  ∀ b_ w1, b_ = w.heap.size → w1 = w.alloc (Obj.cells ([Value.bool true, Value.slice none 0 0]).toArray ty_codec_Writer (0, 0)) → (R (some ⟨b_, 0, none⟩) w1)

def F_codec_Writer_Var_L0 (w_ : Option Addr) (R : World → Prop) (again_ : Int → World → Prop) (n_1 : Int) (w2 : World) : Prop :=
  ((decide (n_1 ≥ 128)) = true → (IsAt w_ ∧ (∃ (v14 : Slc), w2.cell? ⟨(pblk w_), (poff w_) + 1, none⟩ = some (Value.slice v14.ptr v14.len v14.cap) ∧ (∀ b_ w3, b_ = w2.heap.size → w3 = w2.alloc (Obj.cells ([Value.int .u8 (bor .u8 (IntKind.u8.wrap n_1) 128)]).toArray ty_uint8 (0, 0)) → (∃ src, SrcAt w3 (Slc.mk (some ⟨b_, 0, none⟩) 1 1) 1 src ∧ AppendW 1 1 ty_uint8 [Value.int .u8 0] v14 src 1 w3 (fun v19 w4 => IsAt w_ ∧ (Writable w4 (pblk w_) ((poff w_) + 1) 1 ∧ (∀ w5, w5 = World.puts (pblk w_) ((poff w_) + 1) [Value.slice v19.ptr v19.len v19.cap] w4 → (again_ (Int.fdiv n_1 (2 ^ 7)) w5))))))))) ∧
  ((decide (n_1 ≥ 128)) = false → (IsAt w_ ∧ (∃ (v26 : Slc), w2.cell? ⟨(pblk w_), (poff w_) + 1, none⟩ = some (Value.slice v26.ptr v26.len v26.cap) ∧ (∀ b_1 w6, b_1 = w2.heap.size → w6 = w2.alloc (Obj.cells ([Value.int .u8 (IntKind.u8.wrap n_1)]).toArray ty_uint8 (0, 0)) → (∃ src, SrcAt w6 (Slc.mk (some ⟨b_1, 0, none⟩) 1 1) 1 src ∧ AppendW 1 1 ty_uint8 [Value.int .u8 0] v26 src 1 w6 (fun v30 w7 => IsAt w_ ∧ (Writable w7 (pblk w_) ((poff w_) + 1) 1 ∧ (∀ w8, w8 = World.puts (pblk w_) ((poff w_) + 1) [Value.slice v30.ptr v30.len v30.cap] w7 → (R w8)))))))))

def F_codec_Writer_Var (w_ : Option Addr) (n_ : Int) (R : World → Prop) (w : World) : Prop :=
  C_codec_Writer_gone w_ w (fun (v5 : Bool) w1 => (v5 = true → (R w1)) ∧
  (v5 = false → (∃ (I : Int → World → Prop) (μ : Int → World → Nat), I n_ w1 ∧
  ∀ (n_1 : Int) w, I n_1 w → F_codec_Writer_Var_L0 w_ R (fun (n_1' : Int) w' => I n_1' w' ∧ μ n_1' w' < μ n_1 w) n_1 w)))

def F_codec_Writer_Text (w_ : Option Addr) (s : ByteArray) (R : World → Prop) (w : World) : Prop :=
  C_codec_Writer_gone w_ w (fun (v5 : Bool) w1 => (v5 = true → (R w1)) ∧
  (v5 = false → (C_codec_Writer_Var w_ (IntKind.u64.wrap ((s.size : Nat) : Int)) w1 (fun w2 => IsAt w_ ∧ (∃ (v15 : Slc), w2.cell? ⟨(pblk w_), (poff w_) + 1, none⟩ = some (Value.slice v15.ptr v15.len v15.cap) ∧ (AppendW 1 1 ty_uint8 [Value.int .u8 0] v15 (strCells s) s.size w2 (fun v17 w3 => IsAt w_ ∧ (Writable w3 (pblk w_) ((poff w_) + 1) 1 ∧ (∀ w4, w4 = World.puts (pblk w_) ((poff w_) + 1) [Value.slice v17.ptr v17.len v17.cap] w3 → (R w4))))))))))

def F_codec_Writer_Fixed_L0 (w_ : Option Addr) (width : Int) (R : Int → World → Prop) (again_ : Int → Int → World → Prop) (n_1 : Int) (t24 : Int) (w2 : World) : Prop :=
  ((decide (t24 < width)) = true → (IsAt w_ ∧ (∃ (v30 : Slc), w2.cell? ⟨(pblk w_), (poff w_) + 1, none⟩ = some (Value.slice v30.ptr v30.len v30.cap) ∧ (∀ b_ w3, b_ = w2.heap.size → w3 = w2.alloc (Obj.cells ([Value.int .u8 (IntKind.u8.wrap n_1)]).toArray ty_uint8 (0, 0)) → (∃ src, SrcAt w3 (Slc.mk (some ⟨b_, 0, none⟩) 1 1) 1 src ∧ AppendW 1 1 ty_uint8 [Value.int .u8 0] v30 src 1 w3 (fun v34 w4 => IsAt w_ ∧ (Writable w4 (pblk w_) ((poff w_) + 1) 1 ∧ (∀ w5, w5 = World.puts (pblk w_) ((poff w_) + 1) [Value.slice v34.ptr v34.len v34.cap] w4 → (again_ (Int.fdiv n_1 (2 ^ 8)) (IntKind.i64.wrap (t24 + 1)) w5))))))))) ∧
  ((decide (t24 < width)) = false → (R 0 w2))

def F_codec_Writer_Fixed (w_ : Option Addr) (n_ : Int) (width : Int) (R : Int → World → Prop) (w : World) : Prop :=
  C_codec_Writer_gone w_ w (fun (v9 : Bool) w1 => (v9 = true → (R 2 w1)) ∧
  (v9 = false → ((((decide (width < 1)) || (decide (width > 8))) = true → (R 1 w1)) ∧
  (((decide (width < 1)) || (decide (width > 8))) = false → (0 ≤ IntKind.i64.wrap (8 * width) ∧ ((((Int.fdiv n_ (2 ^ (min (IntKind.i64.wrap (8 * width)).toNat 64))) != 0) = true → (R 3 w1)) ∧
  (((Int.fdiv n_ (2 ^ (min (IntKind.i64.wrap (8 * width)).toNat 64))) != 0) = false → (∃ (I : Int → Int → World → Prop) (μ : Int → Int → World → Nat), I n_ 0 w1 ∧
  ∀ (n_1 : Int) (t24 : Int) w, I n_1 t24 w → F_codec_Writer_Fixed_L0 w_ width R (fun (n_1' : Int) (t24' : Int) w' => I n_1' t24' w' ∧ μ n_1' t24' w' < μ n_1 t24 w) n_1 t24 w))))))))

def F_codec_Writer_Done (w_ : Option Addr) (R : Slc → World → Prop) (w : World) : Prop :=
  C_codec_Writer_gone w_ w (fun (v4 : Bool) w1 => (v4 = true → (R (Slc.mk none 0 0) w1)) ∧
  (v4 = false → (IsAt w_ ∧ (∃ (v8 : Slc), w1.cell? ⟨(pblk w_), (poff w_) + 1, none⟩ = some (Value.slice v8.ptr v8.len v8.cap) ∧ (C_slices_Clone_byte_byte v8 w1 (fun (v9 : Slc) w2 => R v9 w2))))))

def F_slices_Clone_byte_byte (s : Slc) (R : Slc → World → Prop) (w : World) : Prop :=
  (s.ptr.isNone = true → (R (Slc.mk none 0 0) w)) ∧
  (s.ptr.isNone = false → (∀ b_ w1, b_ = w.heap.size → w1 = w.alloc (Obj.cells ([]).toArray ty_uint8 (0, 0)) → (∃ src, SrcAt w1 s 1 src ∧ AppendW 1 1 ty_uint8 [Value.int .u8 0] (Slc.mk (some ⟨b_, 0, none⟩) 0 0) src s.len w1 (fun v7 w2 => R v7 w2))))

def F_codec_Reader_take_k0 (r : Option Addr) (next : Value) (R : Bool → World → Prop) (t22 : Bool) (w1 : World) : Prop :=
  (t22 = true → (R false w1)) ∧
  (t22 = false → (IsAt r ∧ (∃ (v28 : Slc), w1.cell? ⟨(pblk r), (poff r) + 1, none⟩ = some (Value.slice v28.ptr v28.len v28.cap) ∧ (CallsV (P := Try.prog) next #[Value.slice v28.ptr v28.len v28.cap] w1 (fun e' w2 => ∃ (n_ : Int) (e : Int), e' = Ending.returned (Value.tuple #[Value.int .i64 n_, Value.int .i64 e]) ∧ (((e != 0) = true → (IsAt r ∧ (Writable w2 (pblk r) ((poff r) + 2) 1 ∧ (∀ w3, w3 = World.puts (pblk r) ((poff r) + 2) [Value.int .i64 e] w2 → (R false w3))))) ∧
  ((e != 0) = false → (∀ w4, (∃ k, w4 = w2.drewN k) → (IsAt r ∧ (∃ (v42 : Slc), w4.cell? ⟨(pblk r), (poff r) + 1, none⟩ = some (Value.slice v42.ptr v42.len v42.cap) ∧ (IsAt r ∧ (∃ (v47 : Slc), w4.cell? ⟨(pblk r), (poff r) + 1, none⟩ = some (Value.slice v47.ptr v47.len v47.cap) ∧ (IsAt r ∧ (∃ (v52 : Slc), w4.cell? ⟨(pblk r), (poff r) + 1, none⟩ = some (Value.slice v52.ptr v52.len v52.cap) ∧ ((0 ≤ n_ ∧ n_ ≤ ((v47.len : Nat) : Int) ∧ ((v47.len : Nat) : Int) ≤ ((v52.len : Nat) : Int) ∧ ((v52.len : Nat) : Int) ≤ ((v42.cap : Nat) : Int)) ∧ (∀ s, s = Slc.cut 1 v42 n_ ((v47.len : Nat) : Int) ((v52.len : Nat) : Int) → (IsAt r ∧ (Writable w4 (pblk r) ((poff r) + 1) 1 ∧ (∀ w5, w5 = World.puts (pblk r) ((poff r) + 1) [Value.slice s.ptr s.len s.cap] w4 → (R true w5))))))))))))))))))))

def F_codec_Reader_take (r : Option Addr) (next : Value) (R : Bool → World → Prop) (w : World) : Prop :=
  (r.isNone = true → (F_codec_Reader_take_k0 r next R true w)) ∧
  (r.isNone = false → (IsAt r ∧ (∃ (v13 : Bool), w.cell? ⟨(pblk r), (poff r), none⟩ = some (Value.bool v13) ∧ (((!v13) = true → (F_codec_Reader_take_k0 r next R true w)) ∧
  ((!v13) = false → (IsAt r ∧ (∃ (v20 : Int), w.cell? ⟨(pblk r), (poff r) + 2, none⟩ = some (Value.int .i64 v20) ∧ (F_codec_Reader_take_k0 r next R (v20 != 0) w))))))))

def F_codec_Reader_Var_1 (b_ : Slc) (t1 : Option Addr) (R : Int → Int → World → Prop) (w : World) : Prop :=
  C_codec_short b_ w (fun (v : Int) (size : Int) (e : Int) w1 => IsAt t1 ∧ (Writable w1 (pblk t1) (poff t1) 1 ∧ (∀ w2, w2 = World.puts (pblk t1) (poff t1) [Value.int .u64 v] w1 → (R size e w2))))

def F_codec_short_L0 (b_ : Slc) (R : Int → Int → Int → World → Prop) (again_ : Int → Int → World → Prop) (n_ : Int) (t9 : Int) (w1 : World) : Prop :=
  ((decide (t9 < ((b_.len : Nat) : Int))) = true → (IsAt b_.ptr ∧ (0 ≤ t9 ∧ t9 < ((b_.len : Nat) : Int) ∧ (∃ (c : Int), w1.cell? ⟨(pblk b_.ptr), (poff b_.ptr) + t9.toNat, none⟩ = some (Value.int .u8 c) ∧ (((((t9 == 9) && (decide (c > 1))) || ((decide (t9 > 0)) && (c == 0))) = true → (R 0 0 4 w1)) ∧
  ((((t9 == 9) && (decide (c > 1))) || ((decide (t9 > 0)) && (c == 0))) = false → (0 ≤ IntKind.i64.wrap (7 * t9) ∧ (((decide (c < 128)) = true → (R (bor .u64 n_ (IntKind.u64.wrap ((IntKind.u64.wrap (band .u8 c 127)) * 2 ^ (min (IntKind.i64.wrap (7 * t9)).toNat 64)))) (IntKind.i64.wrap (t9 + 1)) 0 w1)) ∧
  ((decide (c < 128)) = false → (again_ (bor .u64 n_ (IntKind.u64.wrap ((IntKind.u64.wrap (band .u8 c 127)) * 2 ^ (min (IntKind.i64.wrap (7 * t9)).toNat 64)))) (IntKind.i64.wrap (t9 + 1)) w1)))))))))) ∧
  ((decide (t9 < ((b_.len : Nat) : Int))) = false → (R 0 0 5 w1))

def F_codec_short (b_ : Slc) (R : Int → Int → Int → World → Prop) (w : World) : Prop :=
  ∃ (I : Int → Int → World → Prop) (μ : Int → Int → World → Nat), I 0 0 w ∧
  ∀ (n_ : Int) (t9 : Int) w, I n_ t9 w → F_codec_short_L0 b_ R (fun (n_' : Int) (t9' : Int) w' => I n_' t9' w' ∧ μ n_' t9' w' < μ n_ t9 w) n_ t9 w

def F_codec_Reader_Text_1 (b_ : Slc) (t1 : Option Addr) (t2 : Option Addr) (R : Int → Int → World → Prop) (w : World) : Prop :=
  IsAt t1 ∧ (∃ (v9 : Int), w.cell? ⟨(pblk t1), (poff t1), none⟩ = some (Value.int .i64 v9) ∧ (((decide (v9 < 0)) = true → (R 0 1 w)) ∧
  ((decide (v9 < 0)) = false → (C_codec_short b_ w (fun (n_ : Int) (size : Int) (e : Int) w1 => ((e != 0) = true → (R 0 e w1)) ∧
  ((e != 0) = false → (IsAt t1 ∧ (∃ (v23 : Int), w1.cell? ⟨(pblk t1), (poff t1), none⟩ = some (Value.int .i64 v23) ∧ (((decide (n_ > (IntKind.u64.wrap v23))) = true → (R 0 3 w1)) ∧
  ((decide (n_ > (IntKind.u64.wrap v23))) = false → (((decide (n_ > (IntKind.u64.wrap (IntKind.i64.wrap (((b_.len : Nat) : Int) - size))))) = true → (R 0 5 w1)) ∧
  ((decide (n_ > (IntKind.u64.wrap (IntKind.i64.wrap (((b_.len : Nat) : Int) - size))))) = false → ((0 ≤ size ∧ size ≤ IntKind.i64.wrap (size + (IntKind.i64.wrap n_)) ∧ IntKind.i64.wrap (size + (IntKind.i64.wrap n_)) ≤ ((b_.cap : Nat) : Int) ∧ ((b_.cap : Nat) : Int) ≤ ((b_.cap : Nat) : Int)) ∧ (∀ s, s = Slc.cut 1 b_ size (IntKind.i64.wrap (size + (IntKind.i64.wrap n_))) ((b_.cap : Nat) : Int) → (∃ str : ByteArray, SrcAt w1 s 1 (strCells str) ∧ (IsAt t2 ∧ (Writable w1 (pblk t2) (poff t2) 1 ∧ (∀ w2, w2 = World.puts (pblk t2) (poff t2) [Value.string str] w1 → (R (IntKind.i64.wrap (size + (IntKind.i64.wrap n_))) 0 w2)))))))))))))))))))

def F_codec_Reader_Fixed_1_L1 (b_ : Slc) (t1 : Option Addr) (t2 : Option Addr) (R : Int → Int → World → Prop) (again_ : Int → World → Prop) (i : Int) (w2 : World) : Prop :=
  ((decide (i ≥ 0)) = true → (∀ w3, (∃ k, w3 = w2.drewN k) → (IsAt t2 ∧ (∃ (v25 : Int), w3.cell? ⟨(pblk t2), (poff t2), none⟩ = some (Value.int .u64 v25) ∧ (IsAt b_.ptr ∧ (0 ≤ i ∧ i < ((b_.len : Nat) : Int) ∧ (∃ (v30 : Int), w3.cell? ⟨(pblk b_.ptr), (poff b_.ptr) + i.toNat, none⟩ = some (Value.int .u8 v30) ∧ (Writable w3 (pblk t2) (poff t2) 1 ∧ (∀ w4, w4 = World.puts (pblk t2) (poff t2) [Value.int .u64 (bor .u64 (IntKind.u64.wrap (v25 * 2 ^ 8)) (IntKind.u64.wrap v30))] w3 → (again_ (IntKind.i64.wrap (i - 1)) w4)))))))))) ∧
  ((decide (i ≥ 0)) = false → (IsAt t1 ∧ (∃ (v33 : Int), w2.cell? ⟨(pblk t1), (poff t1), none⟩ = some (Value.int .i64 v33) ∧ (R v33 0 w2))))

def F_codec_Reader_Fixed_1_k0 (b_ : Slc) (t1 : Option Addr) (t2 : Option Addr) (R : Int → Int → World → Prop) (t7 : Bool) (w1 : World) : Prop :=
  (t7 = true → (R 0 1 w1)) ∧
  (t7 = false → (IsAt t1 ∧ (∃ (v15 : Int), w1.cell? ⟨(pblk t1), (poff t1), none⟩ = some (Value.int .i64 v15) ∧ (((decide (v15 > ((b_.len : Nat) : Int))) = true → (R 0 5 w1)) ∧
  ((decide (v15 > ((b_.len : Nat) : Int))) = false → (IsAt t1 ∧ (∃ (v19 : Int), w1.cell? ⟨(pblk t1), (poff t1), none⟩ = some (Value.int .i64 v19) ∧ (∃ (I : Int → World → Prop) (μ : Int → World → Nat), I (IntKind.i64.wrap (v19 - 1)) w1 ∧
  ∀ (i : Int) w, I i w → F_codec_Reader_Fixed_1_L1 b_ t1 t2 R (fun (i' : Int) w' => I i' w' ∧ μ i' w' < μ i w) i w))))))))

def F_codec_Reader_Fixed_1 (b_ : Slc) (t1 : Option Addr) (t2 : Option Addr) (R : Int → Int → World → Prop) (w : World) : Prop :=
  IsAt t1 ∧ (∃ (v8 : Int), w.cell? ⟨(pblk t1), (poff t1), none⟩ = some (Value.int .i64 v8) ∧ (((decide (v8 < 1)) = true → (F_codec_Reader_Fixed_1_k0 b_ t1 t2 R true w)) ∧
  ((decide (v8 < 1)) = false → (∃ (v11 : Int), w.cell? ⟨(pblk t1), (poff t1), none⟩ = some (Value.int .i64 v11) ∧ (F_codec_Reader_Fixed_1_k0 b_ t1 t2 R (decide (v11 > 8)) w)))))

def F_towpathref02_Reader_dead (r : T_towpathref02_Reader) (R : Bool → World → Prop) (w : World) : Prop :=
  ∀ b_ w1, b_ = w.heap.size → w1 = w.alloc (Obj.cells ([Value.bool r.Gone, Value.slice r.B.ptr r.B.len r.B.cap, Value.int .i64 r.At, Value.int .i64 r.Code]).toArray ty_towpathref02_Reader (0, 0)) → (∃ (v4 : Bool), w1.cell? ⟨b_, 0, none⟩ = some (Value.bool v4) ∧ ((v4 = true → (R true w1)) ∧
  (v4 = false → (∃ (v7 : Int), w1.cell? ⟨b_, 3, none⟩ = some (Value.int .i64 v7) ∧ (R (v7 != 0) w1)))))

def F_towpathref02_Reader_wrong (r : T_towpathref02_Reader) (e : Int) (R : T_towpathref02_Reader → World → Prop) (w : World) : Prop :=
  ∀ b_ w1, b_ = w.heap.size → w1 = w.alloc (Obj.cells ([Value.bool r.Gone, Value.slice r.B.ptr r.B.len r.B.cap, Value.int .i64 r.At, Value.int .i64 r.Code]).toArray ty_towpathref02_Reader (0, 0)) → (∀ b_1 w2, b_1 = w1.heap.size → w2 = w1.alloc (Obj.cells ([Value.bool false, Value.slice none 0 0, Value.int .i64 0, Value.int .i64 0]).toArray ty_towpathref02_Reader (0, 0)) → (Writable w2 b_ 3 1 ∧ (∀ w3, w3 = World.puts b_ 3 [Value.int .i64 e] w2 → (∃ (v7 : T_towpathref02_Reader), CellsAt w3 b_ 0 [Value.bool v7.Gone, Value.slice v7.B.ptr v7.B.len v7.B.cap, Value.int .i64 v7.At, Value.int .i64 v7.Code] ∧ (Writable w3 b_1 0 4 ∧ (∀ w4, w4 = World.puts b_1 0 [Value.bool v7.Gone, Value.slice v7.B.ptr v7.B.len v7.B.cap, Value.int .i64 v7.At, Value.int .i64 v7.Code] w3 → (∃ (res : T_towpathref02_Reader), CellsAt w4 b_1 0 [Value.bool res.Gone, Value.slice res.B.ptr res.B.len res.B.cap, Value.int .i64 res.At, Value.int .i64 res.Code] ∧ (R res w4))))))))

def F_towpathref02_Reader_Text (r : T_towpathref02_Reader) (most : Int) (R : T_towpathref02_Reader → ByteArray → World → Prop) (w : World) : Prop :=
  ∀ b_ w1, b_ = w.heap.size → w1 = w.alloc (Obj.cells ([Value.bool r.Gone, Value.slice r.B.ptr r.B.len r.B.cap, Value.int .i64 r.At, Value.int .i64 r.Code]).toArray ty_towpathref02_Reader (0, 0)) → (∀ b_1 w2, b_1 = w1.heap.size → w2 = w1.alloc (Obj.cells ([Value.bool false, Value.slice none 0 0, Value.int .i64 0, Value.int .i64 0]).toArray ty_towpathref02_Reader (0, 0)) → (∃ (v9 : T_towpathref02_Reader), CellsAt w2 b_ 0 [Value.bool v9.Gone, Value.slice v9.B.ptr v9.B.len v9.B.cap, Value.int .i64 v9.At, Value.int .i64 v9.Code] ∧ (C_towpathref02_Reader_dead v9 w2 (fun (v10 : Bool) w3 => (v10 = true → (∃ (v11 : T_towpathref02_Reader), CellsAt w3 b_ 0 [Value.bool v11.Gone, Value.slice v11.B.ptr v11.B.len v11.B.cap, Value.int .i64 v11.At, Value.int .i64 v11.Code] ∧ (Writable w3 b_1 0 4 ∧ (∀ w4, w4 = World.puts b_1 0 [Value.bool v11.Gone, Value.slice v11.B.ptr v11.B.len v11.B.cap, Value.int .i64 v11.At, Value.int .i64 v11.Code] w3 → (∃ (res : T_towpathref02_Reader), CellsAt w4 b_1 0 [Value.bool res.Gone, Value.slice res.B.ptr res.B.len res.B.cap, Value.int .i64 res.At, Value.int .i64 res.Code] ∧ (R res ByteArray.empty w4)))))) ∧
  (v10 = false → (((decide (most < 0)) = true → (∃ (v14 : T_towpathref02_Reader), CellsAt w3 b_ 0 [Value.bool v14.Gone, Value.slice v14.B.ptr v14.B.len v14.B.cap, Value.int .i64 v14.At, Value.int .i64 v14.Code] ∧ (C_towpathref02_Reader_wrong v14 1 w3 (fun (v15 : T_towpathref02_Reader) w5 => Writable w5 b_1 0 4 ∧ (∀ w6, w6 = World.puts b_1 0 [Value.bool v15.Gone, Value.slice v15.B.ptr v15.B.len v15.B.cap, Value.int .i64 v15.At, Value.int .i64 v15.Code] w5 → (∃ (res1 : T_towpathref02_Reader), CellsAt w6 b_1 0 [Value.bool res1.Gone, Value.slice res1.B.ptr res1.B.len res1.B.cap, Value.int .i64 res1.At, Value.int .i64 res1.Code] ∧ (R res1 ByteArray.empty w6))))))) ∧
  ((decide (most < 0)) = false → (∃ (v17 : T_towpathref02_Reader), CellsAt w3 b_ 0 [Value.bool v17.Gone, Value.slice v17.B.ptr v17.B.len v17.B.cap, Value.int .i64 v17.At, Value.int .i64 v17.Code] ∧ (C_towpathref02_Reader_Var v17 w3 (fun (v18 : T_towpathref02_Reader) (n_ : Int) w7 => ∀ b_2 w8, b_2 = w7.heap.size → w8 = w7.alloc (Obj.cells ([Value.bool false, Value.slice none 0 0, Value.int .i64 0, Value.int .i64 0]).toArray ty_towpathref02_Reader (0, 0)) → (Writable w8 b_2 0 4 ∧ (∀ w9, w9 = World.puts b_2 0 [Value.bool v18.Gone, Value.slice v18.B.ptr v18.B.len v18.B.cap, Value.int .i64 v18.At, Value.int .i64 v18.Code] w8 → (∃ (v21 : T_towpathref02_Reader), CellsAt w9 b_2 0 [Value.bool v21.Gone, Value.slice v21.B.ptr v21.B.len v21.B.cap, Value.int .i64 v21.At, Value.int .i64 v21.Code] ∧ (C_towpathref02_Reader_dead v21 w9 (fun (v22 : Bool) w10 => (v22 = true → (∃ (v23 : T_towpathref02_Reader), CellsAt w10 b_ 0 [Value.bool v23.Gone, Value.slice v23.B.ptr v23.B.len v23.B.cap, Value.int .i64 v23.At, Value.int .i64 v23.Code] ∧ (∃ (v25 : Int), w10.cell? ⟨b_2, 3, none⟩ = some (Value.int .i64 v25) ∧ (C_towpathref02_Reader_wrong v23 v25 w10 (fun (v26 : T_towpathref02_Reader) w11 => Writable w11 b_1 0 4 ∧ (∀ w12, w12 = World.puts b_1 0 [Value.bool v26.Gone, Value.slice v26.B.ptr v26.B.len v26.B.cap, Value.int .i64 v26.At, Value.int .i64 v26.Code] w11 → (∃ (res2 : T_towpathref02_Reader), CellsAt w12 b_1 0 [Value.bool res2.Gone, Value.slice res2.B.ptr res2.B.len res2.B.cap, Value.int .i64 res2.At, Value.int .i64 res2.Code] ∧ (R res2 ByteArray.empty w12)))))))) ∧
  (v22 = false → (((decide (n_ > (IntKind.u64.wrap most))) = true → (∃ (v31 : T_towpathref02_Reader), CellsAt w10 b_ 0 [Value.bool v31.Gone, Value.slice v31.B.ptr v31.B.len v31.B.cap, Value.int .i64 v31.At, Value.int .i64 v31.Code] ∧ (C_towpathref02_Reader_wrong v31 3 w10 (fun (v32 : T_towpathref02_Reader) w13 => Writable w13 b_1 0 4 ∧ (∀ w14, w14 = World.puts b_1 0 [Value.bool v32.Gone, Value.slice v32.B.ptr v32.B.len v32.B.cap, Value.int .i64 v32.At, Value.int .i64 v32.Code] w13 → (∃ (res3 : T_towpathref02_Reader), CellsAt w14 b_1 0 [Value.bool res3.Gone, Value.slice res3.B.ptr res3.B.len res3.B.cap, Value.int .i64 res3.At, Value.int .i64 res3.Code] ∧ (R res3 ByteArray.empty w14))))))) ∧
  ((decide (n_ > (IntKind.u64.wrap most))) = false → (∃ (v35 : Slc), w10.cell? ⟨b_, 1, none⟩ = some (Value.slice v35.ptr v35.len v35.cap) ∧ (∃ (v38 : Int), w10.cell? ⟨b_2, 2, none⟩ = some (Value.int .i64 v38) ∧ (((decide (n_ > (IntKind.u64.wrap (IntKind.i64.wrap (((v35.len : Nat) : Int) - v38))))) = true → (∃ (v42 : T_towpathref02_Reader), CellsAt w10 b_ 0 [Value.bool v42.Gone, Value.slice v42.B.ptr v42.B.len v42.B.cap, Value.int .i64 v42.At, Value.int .i64 v42.Code] ∧ (C_towpathref02_Reader_wrong v42 5 w10 (fun (v43 : T_towpathref02_Reader) w15 => Writable w15 b_1 0 4 ∧ (∀ w16, w16 = World.puts b_1 0 [Value.bool v43.Gone, Value.slice v43.B.ptr v43.B.len v43.B.cap, Value.int .i64 v43.At, Value.int .i64 v43.Code] w15 → (∃ (res4 : T_towpathref02_Reader), CellsAt w16 b_1 0 [Value.bool res4.Gone, Value.slice res4.B.ptr res4.B.len res4.B.cap, Value.int .i64 res4.At, Value.int .i64 res4.Code] ∧ (R res4 ByteArray.empty w16))))))) ∧
  ((decide (n_ > (IntKind.u64.wrap (IntKind.i64.wrap (((v35.len : Nat) : Int) - v38))))) = false → (∃ (v45 : Slc), w10.cell? ⟨b_, 1, none⟩ = some (Value.slice v45.ptr v45.len v45.cap) ∧ (∃ (v47 : Int), w10.cell? ⟨b_2, 2, none⟩ = some (Value.int .i64 v47) ∧ (∃ (v49 : Int), w10.cell? ⟨b_2, 2, none⟩ = some (Value.int .i64 v49) ∧ ((0 ≤ v47 ∧ v47 ≤ IntKind.i64.wrap (v49 + (IntKind.i64.wrap n_)) ∧ IntKind.i64.wrap (v49 + (IntKind.i64.wrap n_)) ≤ ((v45.cap : Nat) : Int) ∧ ((v45.cap : Nat) : Int) ≤ ((v45.cap : Nat) : Int)) ∧ (∀ s, s = Slc.cut 1 v45 v47 (IntKind.i64.wrap (v49 + (IntKind.i64.wrap n_))) ((v45.cap : Nat) : Int) → (∃ str : ByteArray, SrcAt w10 s 1 (strCells str) ∧ (∃ (v56 : Int), w10.cell? ⟨b_2, 2, none⟩ = some (Value.int .i64 v56) ∧ (Writable w10 b_2 2 1 ∧ (∀ w17, w17 = World.puts b_2 2 [Value.int .i64 (IntKind.i64.wrap (v56 + (IntKind.i64.wrap n_)))] w10 → (∃ (v61 : T_towpathref02_Reader), CellsAt w17 b_2 0 [Value.bool v61.Gone, Value.slice v61.B.ptr v61.B.len v61.B.cap, Value.int .i64 v61.At, Value.int .i64 v61.Code] ∧ (Writable w17 b_1 0 4 ∧ (∀ w18, w18 = World.puts b_1 0 [Value.bool v61.Gone, Value.slice v61.B.ptr v61.B.len v61.B.cap, Value.int .i64 v61.At, Value.int .i64 v61.Code] w17 → (∃ (res5 : T_towpathref02_Reader), CellsAt w18 b_1 0 [Value.bool res5.Gone, Value.slice res5.B.ptr res5.B.len res5.B.cap, Value.int .i64 res5.At, Value.int .i64 res5.Code] ∧ (R res5 str w18))))))))))))))))))))))))))))))))))))

def F_towpathref02_Reader_Fixed_L0 (width : Int) (R : T_towpathref02_Reader → Int → World → Prop) (b_ : Nat) (b_1 : Nat) (again_ : Int → Int → World → Prop) (n_ : Int) (i : Int) (w9 : World) : Prop :=
  ((decide (i ≥ 0)) = true → (∃ (v38 : Slc), w9.cell? ⟨b_, 1, none⟩ = some (Value.slice v38.ptr v38.len v38.cap) ∧ (∃ (v40 : Int), w9.cell? ⟨b_, 2, none⟩ = some (Value.int .i64 v40) ∧ (IsAt v38.ptr ∧ (0 ≤ IntKind.i64.wrap (v40 + i) ∧ IntKind.i64.wrap (v40 + i) < ((v38.len : Nat) : Int) ∧ (∃ (v44 : Int), w9.cell? ⟨(pblk v38.ptr), (poff v38.ptr) + (IntKind.i64.wrap (v40 + i)).toNat, none⟩ = some (Value.int .u8 v44) ∧ (again_ (IntKind.u64.wrap ((IntKind.u64.wrap (256 * n_)) + (IntKind.u64.wrap v44))) (IntKind.i64.wrap (i - 1)) w9))))))) ∧
  ((decide (i ≥ 0)) = false → (∃ (v48 : Int), w9.cell? ⟨b_, 2, none⟩ = some (Value.int .i64 v48) ∧ (Writable w9 b_ 2 1 ∧ (∀ w10, w10 = World.puts b_ 2 [Value.int .i64 (IntKind.i64.wrap (v48 + width))] w9 → (∃ (v52 : T_towpathref02_Reader), CellsAt w10 b_ 0 [Value.bool v52.Gone, Value.slice v52.B.ptr v52.B.len v52.B.cap, Value.int .i64 v52.At, Value.int .i64 v52.Code] ∧ (Writable w10 b_1 0 4 ∧ (∀ w11, w11 = World.puts b_1 0 [Value.bool v52.Gone, Value.slice v52.B.ptr v52.B.len v52.B.cap, Value.int .i64 v52.At, Value.int .i64 v52.Code] w10 → (∃ (res3 : T_towpathref02_Reader), CellsAt w11 b_1 0 [Value.bool res3.Gone, Value.slice res3.B.ptr res3.B.len res3.B.cap, Value.int .i64 res3.At, Value.int .i64 res3.Code] ∧ (R res3 n_ w11)))))))))

def F_towpathref02_Reader_Fixed (r : T_towpathref02_Reader) (width : Int) (R : T_towpathref02_Reader → Int → World → Prop) (w : World) : Prop :=
  ∀ b_ w1, b_ = w.heap.size → w1 = w.alloc (Obj.cells ([Value.bool r.Gone, Value.slice r.B.ptr r.B.len r.B.cap, Value.int .i64 r.At, Value.int .i64 r.Code]).toArray ty_towpathref02_Reader (0, 0)) → (∀ b_1 w2, b_1 = w1.heap.size → w2 = w1.alloc (Obj.cells ([Value.bool false, Value.slice none 0 0, Value.int .i64 0, Value.int .i64 0]).toArray ty_towpathref02_Reader (0, 0)) → (∃ (v8 : T_towpathref02_Reader), CellsAt w2 b_ 0 [Value.bool v8.Gone, Value.slice v8.B.ptr v8.B.len v8.B.cap, Value.int .i64 v8.At, Value.int .i64 v8.Code] ∧ (C_towpathref02_Reader_dead v8 w2 (fun (v9 : Bool) w3 => (v9 = true → (∃ (v10 : T_towpathref02_Reader), CellsAt w3 b_ 0 [Value.bool v10.Gone, Value.slice v10.B.ptr v10.B.len v10.B.cap, Value.int .i64 v10.At, Value.int .i64 v10.Code] ∧ (Writable w3 b_1 0 4 ∧ (∀ w4, w4 = World.puts b_1 0 [Value.bool v10.Gone, Value.slice v10.B.ptr v10.B.len v10.B.cap, Value.int .i64 v10.At, Value.int .i64 v10.Code] w3 → (∃ (res : T_towpathref02_Reader), CellsAt w4 b_1 0 [Value.bool res.Gone, Value.slice res.B.ptr res.B.len res.B.cap, Value.int .i64 res.At, Value.int .i64 res.Code] ∧ (R res 0 w4)))))) ∧
  (v9 = false → ((((decide (width < 1)) || (decide (width > 8))) = true → (∃ (v17 : T_towpathref02_Reader), CellsAt w3 b_ 0 [Value.bool v17.Gone, Value.slice v17.B.ptr v17.B.len v17.B.cap, Value.int .i64 v17.At, Value.int .i64 v17.Code] ∧ (C_towpathref02_Reader_wrong v17 1 w3 (fun (v18 : T_towpathref02_Reader) w5 => Writable w5 b_1 0 4 ∧ (∀ w6, w6 = World.puts b_1 0 [Value.bool v18.Gone, Value.slice v18.B.ptr v18.B.len v18.B.cap, Value.int .i64 v18.At, Value.int .i64 v18.Code] w5 → (∃ (res1 : T_towpathref02_Reader), CellsAt w6 b_1 0 [Value.bool res1.Gone, Value.slice res1.B.ptr res1.B.len res1.B.cap, Value.int .i64 res1.At, Value.int .i64 res1.Code] ∧ (R res1 0 w6))))))) ∧
  (((decide (width < 1)) || (decide (width > 8))) = false → (∃ (v21 : Slc), w3.cell? ⟨b_, 1, none⟩ = some (Value.slice v21.ptr v21.len v21.cap) ∧ (∃ (v24 : Int), w3.cell? ⟨b_, 2, none⟩ = some (Value.int .i64 v24) ∧ (((decide (width > (IntKind.i64.wrap (((v21.len : Nat) : Int) - v24)))) = true → (∃ (v27 : T_towpathref02_Reader), CellsAt w3 b_ 0 [Value.bool v27.Gone, Value.slice v27.B.ptr v27.B.len v27.B.cap, Value.int .i64 v27.At, Value.int .i64 v27.Code] ∧ (C_towpathref02_Reader_wrong v27 5 w3 (fun (v28 : T_towpathref02_Reader) w7 => Writable w7 b_1 0 4 ∧ (∀ w8, w8 = World.puts b_1 0 [Value.bool v28.Gone, Value.slice v28.B.ptr v28.B.len v28.B.cap, Value.int .i64 v28.At, Value.int .i64 v28.Code] w7 → (∃ (res2 : T_towpathref02_Reader), CellsAt w8 b_1 0 [Value.bool res2.Gone, Value.slice res2.B.ptr res2.B.len res2.B.cap, Value.int .i64 res2.At, Value.int .i64 res2.Code] ∧ (R res2 0 w8))))))) ∧
  ((decide (width > (IntKind.i64.wrap (((v21.len : Nat) : Int) - v24)))) = false → (∃ (I : Int → Int → World → Prop) (μ : Int → Int → World → Nat), I 0 (IntKind.i64.wrap (width - 1)) w3 ∧
  ∀ (n_ : Int) (i : Int) w, I n_ i w → F_towpathref02_Reader_Fixed_L0 width R b_ b_1 (fun (n_' : Int) (i' : Int) w' => I n_' i' w' ∧ μ n_' i' w' < μ n_ i w) n_ i w))))))))))))

def F_slices_IndexFunc_api_Write_api_Write_L0 (s : Slc) (f : Value) (R : Int → World → Prop) (again_ : Int → World → Prop) (t8 : Int) (w1 : World) : Prop :=
  ((decide (t8 < ((s.len : Nat) : Int))) = true → (IsAt s.ptr ∧ (0 ≤ t8 ∧ t8 < ((s.len : Nat) : Int) ∧ (∃ (v15 : T_api_Write), CellsAt w1 (pblk s.ptr) ((poff s.ptr) + t8.toNat * 3) [Value.string v15.Key, Value.string v15.Val, Value.bool v15.Drop] ∧ (CallsV (P := Try.prog) f #[Value.agg #[Value.string v15.Key, Value.string v15.Val, Value.bool v15.Drop]] w1 (fun e' w2 => ∃ (v16 : Bool), e' = Ending.returned (Value.bool v16) ∧ ((v16 = true → (R t8 w2)) ∧
  (v16 = false → (again_ (IntKind.i64.wrap (t8 + 1)) w2))))))))) ∧
  ((decide (t8 < ((s.len : Nat) : Int))) = false → (R (-1) w1))

def F_slices_IndexFunc_api_Write_api_Write (s : Slc) (f : Value) (R : Int → World → Prop) (w : World) : Prop :=
  ∃ (I : Int → World → Prop) (μ : Int → World → Nat), I 0 w ∧
  ∀ (t8 : Int) w, I t8 w → F_slices_IndexFunc_api_Write_api_Write_L0 s f R (fun (t8' : Int) w' => I t8' w' ∧ μ t8' w' < μ t8 w) t8 w

def F_codec_Writer_gone (w_ : Option Addr) (R : Bool → World → Prop) (w : World) : Prop :=
  (w_.isNone = true → (R true w)) ∧
  (w_.isNone = false → (IsAt w_ ∧ (∃ (v9 : Bool), w.cell? ⟨(pblk w_), (poff w_), none⟩ = some (Value.bool v9) ∧ (R (!v9) w))))

def Ok_T_api_Write (w : World) (x : T_api_Write) : Prop := (x.Key.size ≤ 140737488351232) ∧ (x.Val.size ≤ 140737488351232) ∧ True

def Ok_T_api_Txn (w : World) (x : T_api_Txn) : Prop := ((-9223372036854775808) ≤ x.Number ∧ x.Number ≤ 9223372036854775807) ∧ (OkSl w x.Writes 3 40 (fun es => ∃ e_ : T_api_Write, es = [Value.string e_.Key, Value.string e_.Val, Value.bool e_.Drop] ∧ (Ok_T_api_Write w e_)))

end Go.Proofs.Ytfmkemmgakdddaa
