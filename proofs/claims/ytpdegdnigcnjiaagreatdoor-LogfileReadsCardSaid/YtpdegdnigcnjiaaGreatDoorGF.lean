/- WRITTEN BY PROGRAM (dec.py): for each Go function the clean formula F, the call's contract C, and the proof S that F gives C. -/
import Derived.Test.YtpdegdnigcnjiaaGreatDoorRows
import Derived.Test.YtpdegdnigcnjiaaGreatDoorCore
namespace Go.Proofs.YtpdegdnigcnjiaaGreatDoor
open Go
set_option linter.unusedVariables false


abbrev ty_int : TypeId := 3

abbrev ty_uint8 : TypeId := 5

abbrev ty_string : TypeId := 9

abbrev ty_sl_api_Txn : TypeId := 22

abbrev ty_api_Errno : TypeId := 28

abbrev ty_towpathlaw01_Book : TypeId := 47

abbrev ty_api_Txn : TypeId := 52

abbrev ty_sl_uint8 : TypeId := 79

abbrev ty_uint64 : TypeId := 117

abbrev ty_ptr_api_Errno : TypeId := 128

abbrev ty_towpathref02_Reader : TypeId := 130

abbrev ty_api_Write : TypeId := 139

abbrev ty_towpathlaw01_heldTxn : TypeId := 141

abbrev ty_towpathlaw01_heldByte : TypeId := 143

abbrev ty_towpathlaw01_heldWrite : TypeId := 153

abbrev ty_ptr_codec_Reader : TypeId := 219

abbrev ty_256_uint32 : TypeId := 237

abbrev ty_codec_Reader : TypeId := 240

abbrev ty_24_uint8 : TypeId := 250

structure T_api_Txn where
  Number : Int
  Writes : Slc

structure T_towpathref02_Reader where
  Gone : Bool
  B : Slc
  At : Int
  Code : Int

structure T_towpathlaw01_heldWrite where
  l : Slc
  long : Slc
  n : Int

structure T_api_Write where
  Key : ByteArray
  Val : ByteArray
  Drop : Bool

structure T_towpathlaw01_heldTxn where
  l : Slc
  long : Slc
  n : Int

structure T_towpathlaw01_heldByte where
  l : Slc
  long : Slc
  n : Int

def C_towpathlaw06_LogfileReads (b_ : Slc) (w : World) (R : Bool → World → Prop) : Prop :=
  Calls Tryz.prog 6 #[Value.slice b_.ptr b_.len b_.cap] w (fun e w' => ∃ (r0 : Bool), e = .returned (Value.bool r0) ∧ R r0 w')

def C_towpathlaw01_Beyond (l_ : Slc) (w : World) (R : Bool → World → Prop) : Prop :=
  Calls Tryz.prog 7 #[Value.slice l_.ptr l_.len l_.cap] w (fun e w' => ∃ (r0 : Bool), e = .returned (Value.bool r0) ∧ R r0 w')

def C_towpathlaw01_Book_Txns (b_ : Option Addr) (l_ : Slc) (w : World) (R : World → Prop) : Prop :=
  Calls Tryz.prog 13 #[Value.pointer b_, Value.slice l_.ptr l_.len l_.cap] w (fun e w' => e = .returned (Value.tuple #[]) ∧ R w')

def C_towpathlaw01_Book_Apart (b_ : Option Addr) (w : World) (R : Bool → World → Prop) : Prop :=
  Calls Tryz.prog 14 #[Value.pointer b_] w (fun e w' => ∃ (r0 : Bool), e = .returned (Value.bool r0) ∧ R r0 w')

def C_towpathlaw01_SameTxn (a_ : T_api_Txn) (b_ : T_api_Txn) (w : World) (R : Bool → World → Prop) : Prop :=
  Calls Tryz.prog 17 #[Value.agg #[Value.int .i64 a_.Number, Value.slice a_.Writes.ptr a_.Writes.len a_.Writes.cap], Value.agg #[Value.int .i64 b_.Number, Value.slice b_.Writes.ptr b_.Writes.len b_.Writes.cap]] w (fun e w' => ∃ (r0 : Bool), e = .returned (Value.bool r0) ∧ R r0 w')

def C_towpathlaw01_Book_Txn (b_ : Option Addr) (t_ : T_api_Txn) (w : World) (R : World → Prop) : Prop :=
  Calls Tryz.prog 20 #[Value.pointer b_, Value.agg #[Value.int .i64 t_.Number, Value.slice t_.Writes.ptr t_.Writes.len t_.Writes.cap]] w (fun e w' => e = .returned (Value.tuple #[]) ∧ R w')

def C_towpathlaw01_Book_Bytes (b_ : Option Addr) (l_ : Slc) (w : World) (R : World → Prop) : Prop :=
  Calls Tryz.prog 37 #[Value.pointer b_, Value.slice l_.ptr l_.len l_.cap] w (fun e w' => e = .returned (Value.tuple #[]) ∧ R w')

def C_towpathlaw01_TwinBytes (l_ : Slc) (w : World) (R : Slc → World → Prop) : Prop :=
  Calls Tryz.prog 38 #[Value.slice l_.ptr l_.len l_.cap] w (fun e w' => ∃ (r0 : Slc), e = .returned (Value.slice r0.ptr r0.len r0.cap) ∧ R r0 w')

def C_logfile_Read (b_ : Slc) (w : World) (R : Slc → Int → Int → World → Prop) : Prop :=
  Calls Tryz.prog 39 #[Value.slice b_.ptr b_.len b_.cap] w (fun e w' => ∃ (r0 : Slc) (r1 : Int) (r2 : Int), e = .returned (Value.tuple #[Value.slice r0.ptr r0.len r0.cap, Value.int .i64 r1, Value.int .i64 r2]) ∧ R r0 r1 r2 w')

def C_towpathref06_Read (b_ : Slc) (w : World) (R : Slc → Int → Int → World → Prop) : Prop :=
  Calls Tryz.prog 40 #[Value.slice b_.ptr b_.len b_.cap] w (fun e w' => ∃ (r0 : Slc) (r1 : Int) (r2 : Int), e = .returned (Value.tuple #[Value.slice r0.ptr r0.len r0.cap, Value.int .i64 r1, Value.int .i64 r2]) ∧ R r0 r1 r2 w')

def C_towpathlaw01_SameTxns (a_ : Slc) (b_ : Slc) (w : World) (R : Bool → World → Prop) : Prop :=
  Calls Tryz.prog 41 #[Value.slice a_.ptr a_.len a_.cap, Value.slice b_.ptr b_.len b_.cap] w (fun e w' => ∃ (r0 : Bool), e = .returned (Value.bool r0) ∧ R r0 w')

def C_towpathlaw01_LeftBytes (t_ : Slc) (l_ : Slc) (w : World) (R : Bool → World → Prop) : Prop :=
  Calls Tryz.prog 42 #[Value.slice t_.ptr t_.len t_.cap, Value.slice l_.ptr l_.len l_.cap] w (fun e w' => ∃ (r0 : Bool), e = .returned (Value.bool r0) ∧ R r0 w')

def C_towpathlaw01_Book_keepTxn (b_ : Option Addr) (l_ : Slc) (w : World) (R : World → Prop) : Prop :=
  Calls Tryz.prog 49 #[Value.pointer b_, Value.slice l_.ptr l_.len l_.cap] w (fun e w' => e = .returned (Value.tuple #[]) ∧ R w')

def C_towpathlaw01_Book_fillByte (b_ : Option Addr) (w : World) (R : World → Prop) : Prop :=
  Calls Tryz.prog 50 #[Value.pointer b_] w (fun e w' => e = .returned (Value.tuple #[]) ∧ R w')

def C_towpathlaw01_Book_fillInt (b_ : Option Addr) (w : World) (R : World → Prop) : Prop :=
  Calls Tryz.prog 51 #[Value.pointer b_] w (fun e w' => e = .returned (Value.tuple #[]) ∧ R w')

def C_towpathlaw01_Book_fillText (b_ : Option Addr) (w : World) (R : World → Prop) : Prop :=
  Calls Tryz.prog 52 #[Value.pointer b_] w (fun e w' => e = .returned (Value.tuple #[]) ∧ R w')

def C_towpathlaw01_Book_fillWrite (b_ : Option Addr) (w : World) (R : World → Prop) : Prop :=
  Calls Tryz.prog 53 #[Value.pointer b_] w (fun e w' => e = .returned (Value.tuple #[]) ∧ R w')

def C_towpathlaw01_Book_fillEntry (b_ : Option Addr) (w : World) (R : World → Prop) : Prop :=
  Calls Tryz.prog 54 #[Value.pointer b_] w (fun e w' => e = .returned (Value.tuple #[]) ∧ R w')

def C_towpathlaw01_Book_fillVersion (b_ : Option Addr) (w : World) (R : World → Prop) : Prop :=
  Calls Tryz.prog 55 #[Value.pointer b_] w (fun e w' => e = .returned (Value.tuple #[]) ∧ R w')

def C_towpathlaw01_Book_fillTxn (b_ : Option Addr) (w : World) (R : World → Prop) : Prop :=
  Calls Tryz.prog 56 #[Value.pointer b_] w (fun e w' => e = .returned (Value.tuple #[]) ∧ R w')

def C_towpathlaw01_Book_fillHeld (b_ : Option Addr) (w : World) (R : World → Prop) : Prop :=
  Calls Tryz.prog 57 #[Value.pointer b_] w (fun e w' => e = .returned (Value.tuple #[]) ∧ R w')

def C_towpathlaw01_Book_fillHeldList (b_ : Option Addr) (w : World) (R : World → Prop) : Prop :=
  Calls Tryz.prog 58 #[Value.pointer b_] w (fun e w' => e = .returned (Value.tuple #[]) ∧ R w')

def C_towpathlaw01_Book_fillEvent (b_ : Option Addr) (w : World) (R : World → Prop) : Prop :=
  Calls Tryz.prog 59 #[Value.pointer b_] w (fun e w' => e = .returned (Value.tuple #[]) ∧ R w')

def C_towpathlaw01_Book_fillAnswer (b_ : Option Addr) (w : World) (R : World → Prop) : Prop :=
  Calls Tryz.prog 60 #[Value.pointer b_] w (fun e w' => e = .returned (Value.tuple #[]) ∧ R w')

def C_towpathlaw01_Book_growByte (b_ : Option Addr) (w : World) (R : World → Prop) : Prop :=
  Calls Tryz.prog 61 #[Value.pointer b_] w (fun e w' => e = .returned (Value.tuple #[]) ∧ R w')

def C_towpathlaw01_Book_growInt (b_ : Option Addr) (w : World) (R : World → Prop) : Prop :=
  Calls Tryz.prog 62 #[Value.pointer b_] w (fun e w' => e = .returned (Value.tuple #[]) ∧ R w')

def C_towpathlaw01_Book_growText (b_ : Option Addr) (w : World) (R : World → Prop) : Prop :=
  Calls Tryz.prog 63 #[Value.pointer b_] w (fun e w' => e = .returned (Value.tuple #[]) ∧ R w')

def C_towpathlaw01_Book_growWrite (b_ : Option Addr) (w : World) (R : World → Prop) : Prop :=
  Calls Tryz.prog 64 #[Value.pointer b_] w (fun e w' => e = .returned (Value.tuple #[]) ∧ R w')

def C_towpathlaw01_Book_growEntry (b_ : Option Addr) (w : World) (R : World → Prop) : Prop :=
  Calls Tryz.prog 65 #[Value.pointer b_] w (fun e w' => e = .returned (Value.tuple #[]) ∧ R w')

def C_towpathlaw01_Book_growVersion (b_ : Option Addr) (w : World) (R : World → Prop) : Prop :=
  Calls Tryz.prog 66 #[Value.pointer b_] w (fun e w' => e = .returned (Value.tuple #[]) ∧ R w')

def C_towpathlaw01_Book_growTxn (b_ : Option Addr) (w : World) (R : World → Prop) : Prop :=
  Calls Tryz.prog 67 #[Value.pointer b_] w (fun e w' => e = .returned (Value.tuple #[]) ∧ R w')

def C_towpathlaw01_Book_growHeld (b_ : Option Addr) (w : World) (R : World → Prop) : Prop :=
  Calls Tryz.prog 68 #[Value.pointer b_] w (fun e w' => e = .returned (Value.tuple #[]) ∧ R w')

def C_towpathlaw01_Book_growHeldList (b_ : Option Addr) (w : World) (R : World → Prop) : Prop :=
  Calls Tryz.prog 69 #[Value.pointer b_] w (fun e w' => e = .returned (Value.tuple #[]) ∧ R w')

def C_towpathlaw01_Book_growEvent (b_ : Option Addr) (w : World) (R : World → Prop) : Prop :=
  Calls Tryz.prog 70 #[Value.pointer b_] w (fun e w' => e = .returned (Value.tuple #[]) ∧ R w')

def C_towpathlaw01_Book_growAnswer (b_ : Option Addr) (w : World) (R : World → Prop) : Prop :=
  Calls Tryz.prog 71 #[Value.pointer b_] w (fun e w' => e = .returned (Value.tuple #[]) ∧ R w')

def C_towpathlaw01_Book_lookByte (b_ : Option Addr) (w : World) (R : Bool → World → Prop) : Prop :=
  Calls Tryz.prog 72 #[Value.pointer b_] w (fun e w' => ∃ (r0 : Bool), e = .returned (Value.bool r0) ∧ R r0 w')

def C_towpathlaw01_Book_lookInt (b_ : Option Addr) (w : World) (R : Bool → World → Prop) : Prop :=
  Calls Tryz.prog 73 #[Value.pointer b_] w (fun e w' => ∃ (r0 : Bool), e = .returned (Value.bool r0) ∧ R r0 w')

def C_towpathlaw01_Book_lookText (b_ : Option Addr) (w : World) (R : Bool → World → Prop) : Prop :=
  Calls Tryz.prog 74 #[Value.pointer b_] w (fun e w' => ∃ (r0 : Bool), e = .returned (Value.bool r0) ∧ R r0 w')

def C_towpathlaw01_Book_lookWrite (b_ : Option Addr) (w : World) (R : Bool → World → Prop) : Prop :=
  Calls Tryz.prog 75 #[Value.pointer b_] w (fun e w' => ∃ (r0 : Bool), e = .returned (Value.bool r0) ∧ R r0 w')

def C_towpathlaw01_Book_lookEntry (b_ : Option Addr) (w : World) (R : Bool → World → Prop) : Prop :=
  Calls Tryz.prog 76 #[Value.pointer b_] w (fun e w' => ∃ (r0 : Bool), e = .returned (Value.bool r0) ∧ R r0 w')

def C_towpathlaw01_Book_lookVersion (b_ : Option Addr) (w : World) (R : Bool → World → Prop) : Prop :=
  Calls Tryz.prog 77 #[Value.pointer b_] w (fun e w' => ∃ (r0 : Bool), e = .returned (Value.bool r0) ∧ R r0 w')

def C_towpathlaw01_Book_lookTxn (b_ : Option Addr) (w : World) (R : Bool → World → Prop) : Prop :=
  Calls Tryz.prog 78 #[Value.pointer b_] w (fun e w' => ∃ (r0 : Bool), e = .returned (Value.bool r0) ∧ R r0 w')

def C_towpathlaw01_Book_lookHeld (b_ : Option Addr) (w : World) (R : Bool → World → Prop) : Prop :=
  Calls Tryz.prog 79 #[Value.pointer b_] w (fun e w' => ∃ (r0 : Bool), e = .returned (Value.bool r0) ∧ R r0 w')

def C_towpathlaw01_Book_lookHeldList (b_ : Option Addr) (w : World) (R : Bool → World → Prop) : Prop :=
  Calls Tryz.prog 80 #[Value.pointer b_] w (fun e w' => ∃ (r0 : Bool), e = .returned (Value.bool r0) ∧ R r0 w')

def C_towpathlaw01_Book_lookEvent (b_ : Option Addr) (w : World) (R : Bool → World → Prop) : Prop :=
  Calls Tryz.prog 81 #[Value.pointer b_] w (fun e w' => ∃ (r0 : Bool), e = .returned (Value.bool r0) ∧ R r0 w')

def C_towpathlaw01_Book_lookAnswer (b_ : Option Addr) (w : World) (R : Bool → World → Prop) : Prop :=
  Calls Tryz.prog 82 #[Value.pointer b_] w (fun e w' => ∃ (r0 : Bool), e = .returned (Value.bool r0) ∧ R r0 w')

def C_towpathlaw01_SameWrites (a_ : Slc) (b_ : Slc) (w : World) (R : Bool → World → Prop) : Prop :=
  Calls Tryz.prog 83 #[Value.slice a_.ptr a_.len a_.cap, Value.slice b_.ptr b_.len b_.cap] w (fun e w' => ∃ (r0 : Bool), e = .returned (Value.bool r0) ∧ R r0 w')

def C_towpathlaw01_Book_Writes (b_ : Option Addr) (l_ : Slc) (w : World) (R : World → Prop) : Prop :=
  Calls Tryz.prog 84 #[Value.pointer b_, Value.slice l_.ptr l_.len l_.cap] w (fun e w' => e = .returned (Value.tuple #[]) ∧ R w')

def C_sum_CRC (b_ : Slc) (w : World) (R : Int → World → Prop) : Prop :=
  Calls Tryz.prog 107 #[Value.slice b_.ptr b_.len b_.cap] w (fun e w' => ∃ (r0 : Int), e = .returned (Value.int .u32 r0) ∧ R r0 w')

def C_towpathref03_CRC (b_ : Slc) (w : World) (R : Int → World → Prop) : Prop :=
  Calls Tryz.prog 112 #[Value.slice b_.ptr b_.len b_.cap] w (fun e w' => ∃ (r0 : Int), e = .returned (Value.int .u32 r0) ∧ R r0 w')

def C_towpathlaw01_Book_keepByte (b_ : Option Addr) (l_ : Slc) (w : World) (R : World → Prop) : Prop :=
  Calls Tryz.prog 114 #[Value.pointer b_, Value.slice l_.ptr l_.len l_.cap] w (fun e w' => e = .returned (Value.tuple #[]) ∧ R w')

def C_logfile_records (b_ : Slc) (e : Option Addr) (w : World) (R : Value → World → Prop) : Prop :=
  Calls Tryz.prog 115 #[Value.slice b_.ptr b_.len b_.cap, Value.pointer e] w (fun e w' => ∃ (r0 : Value), e = .returned (r0) ∧ R r0 w')

def C_towpathref02_Reader_Left (r : T_towpathref02_Reader) (w : World) (R : Int → World → Prop) : Prop :=
  Calls Tryz.prog 116 #[Value.agg #[Value.bool r.Gone, Value.slice r.B.ptr r.B.len r.B.cap, Value.int .i64 r.At, Value.int .i64 r.Code]] w (fun e w' => ∃ (r0 : Int), e = .returned (Value.int .i64 r0) ∧ R r0 w')

def C_towpathref02_Reader_Text (r : T_towpathref02_Reader) (most : Int) (w : World) (R : T_towpathref02_Reader → ByteArray → World → Prop) : Prop :=
  Calls Tryz.prog 117 #[Value.agg #[Value.bool r.Gone, Value.slice r.B.ptr r.B.len r.B.cap, Value.int .i64 r.At, Value.int .i64 r.Code], Value.int .i64 most] w (fun e w' => ∃ (r0 : T_towpathref02_Reader) (r1 : ByteArray), e = .returned (Value.tuple #[Value.agg #[Value.bool r0.Gone, Value.slice r0.B.ptr r0.B.len r0.B.cap, Value.int .i64 r0.At, Value.int .i64 r0.Code], Value.string r1]) ∧ R r0 r1 w')

def C_towpathref02_Reader_Fixed (r : T_towpathref02_Reader) (width : Int) (w : World) (R : T_towpathref02_Reader → Int → World → Prop) : Prop :=
  Calls Tryz.prog 118 #[Value.agg #[Value.bool r.Gone, Value.slice r.B.ptr r.B.len r.B.cap, Value.int .i64 r.At, Value.int .i64 r.Code], Value.int .i64 width] w (fun e w' => ∃ (r0 : T_towpathref02_Reader) (r1 : Int), e = .returned (Value.tuple #[Value.agg #[Value.bool r0.Gone, Value.slice r0.B.ptr r0.B.len r0.B.cap, Value.int .i64 r0.At, Value.int .i64 r0.Code], Value.int .u64 r1]) ∧ R r0 r1 w')

def C_towpathref05_Decode (b_ : Slc) (w : World) (R : T_api_Txn → Int → World → Prop) : Prop :=
  Calls Tryz.prog 119 #[Value.slice b_.ptr b_.len b_.cap] w (fun e w' => ∃ (r0 : T_api_Txn) (r1 : Int), e = .returned (Value.tuple #[Value.agg #[Value.int .i64 r0.Number, Value.slice r0.Writes.ptr r0.Writes.len r0.Writes.cap], Value.int .i64 r1]) ∧ R r0 r1 w')

def C_towpathlaw01_markByte (n_ : Int) (w : World) (R : Int → World → Prop) : Prop :=
  Calls Tryz.prog 125 #[Value.int .i64 n_] w (fun e w' => ∃ (r0 : Int), e = .returned (Value.int .u8 r0) ∧ R r0 w')

def C_towpathlaw01_markWrite (n_ : Int) (w : World) (R : T_api_Write → World → Prop) : Prop :=
  Calls Tryz.prog 128 #[Value.int .i64 n_] w (fun e w' => ∃ (r0 : T_api_Write), e = .returned (Value.agg #[Value.string r0.Key, Value.string r0.Val, Value.bool r0.Drop]) ∧ R r0 w')

def C_towpathlaw01_markTxn (n_ : Int) (w : World) (R : T_api_Txn → World → Prop) : Prop :=
  Calls Tryz.prog 131 #[Value.int .i64 n_] w (fun e w' => ∃ (r0 : T_api_Txn), e = .returned (Value.agg #[Value.int .i64 r0.Number, Value.slice r0.Writes.ptr r0.Writes.len r0.Writes.cap]) ∧ R r0 w')

def C_towpathlaw01_isByte (x : Int) (n_ : Int) (w : World) (R : Bool → World → Prop) : Prop :=
  Calls Tryz.prog 136 #[Value.int .u8 x, Value.int .i64 n_] w (fun e w' => ∃ (r0 : Bool), e = .returned (Value.bool r0) ∧ R r0 w')

def C_towpathlaw01_isWrite (x : T_api_Write) (n_ : Int) (w : World) (R : Bool → World → Prop) : Prop :=
  Calls Tryz.prog 139 #[Value.agg #[Value.string x.Key, Value.string x.Val, Value.bool x.Drop], Value.int .i64 n_] w (fun e w' => ∃ (r0 : Bool), e = .returned (Value.bool r0) ∧ R r0 w')

def C_towpathlaw01_isTxn (x : T_api_Txn) (n_ : Int) (w : World) (R : Bool → World → Prop) : Prop :=
  Calls Tryz.prog 142 #[Value.agg #[Value.int .i64 x.Number, Value.slice x.Writes.ptr x.Writes.len x.Writes.cap], Value.int .i64 n_] w (fun e w' => ∃ (r0 : Bool), e = .returned (Value.bool r0) ∧ R r0 w')

def C_towpathlaw01_Book_keepWrite (b_ : Option Addr) (l_ : Slc) (w : World) (R : World → Prop) : Prop :=
  Calls Tryz.prog 147 #[Value.pointer b_, Value.slice l_.ptr l_.len l_.cap] w (fun e w' => e = .returned (Value.tuple #[]) ∧ R w')

def C_sum_More (sum : Int) (b_ : Slc) (w : World) (R : Int → World → Prop) : Prop :=
  Calls Tryz.prog 166 #[Value.int .u32 sum, Value.slice b_.ptr b_.len b_.cap] w (fun e w' => ∃ (r0 : Int), e = .returned (Value.int .u32 r0) ∧ R r0 w')

def C_slices_Clone_byte_byte (s : Slc) (w : World) (R : Slc → World → Prop) : Prop :=
  Calls Tryz.prog 167 #[Value.slice s.ptr s.len s.cap] w (fun e w' => ∃ (r0 : Slc), e = .returned (Value.slice r0.ptr r0.len r0.cap) ∧ R r0 w')

def C_towpathref03_More (sum : Int) (b_ : Slc) (w : World) (R : Int → World → Prop) : Prop :=
  Calls Tryz.prog 170 #[Value.int .u32 sum, Value.slice b_.ptr b_.len b_.cap] w (fun e w' => ∃ (r0 : Int), e = .returned (Value.int .u32 r0) ∧ R r0 w')

def C_logfile_records_1 (yield : Value) (t1 : Option Addr) (t2 : Option Addr) (w : World) (R : World → Prop) : Prop :=
  Calls Tryz.prog 172 #[yield, Value.pointer t1, Value.pointer t2] w (fun e w' => e = .returned (Value.tuple #[]) ∧ R w')

def C_codec_NewReader (b_ : Slc) (w : World) (R : Option Addr → World → Prop) : Prop :=
  Calls Tryz.prog 173 #[Value.slice b_.ptr b_.len b_.cap] w (fun e w' => ∃ (r0 : Option Addr), e = .returned (Value.pointer r0) ∧ R r0 w')

def C_codec_Reader_Left (r : Option Addr) (w : World) (R : Int → World → Prop) : Prop :=
  Calls Tryz.prog 174 #[Value.pointer r] w (fun e w' => ∃ (r0 : Int), e = .returned (Value.int .i64 r0) ∧ R r0 w')

def C_codec_Reader_Text (r : Option Addr) (most : Int) (w : World) (R : ByteArray → World → Prop) : Prop :=
  Calls Tryz.prog 175 #[Value.pointer r, Value.int .i64 most] w (fun e w' => ∃ (r0 : ByteArray), e = .returned (Value.string r0) ∧ R r0 w')

def C_codec_Reader_Fixed (r : Option Addr) (width : Int) (w : World) (R : Int → World → Prop) : Prop :=
  Calls Tryz.prog 176 #[Value.pointer r, Value.int .i64 width] w (fun e w' => ∃ (r0 : Int), e = .returned (Value.int .u64 r0) ∧ R r0 w')

def C_codec_Reader_End (r : Option Addr) (w : World) (R : Int → World → Prop) : Prop :=
  Calls Tryz.prog 177 #[Value.pointer r] w (fun e w' => ∃ (r0 : Int), e = .returned (Value.int .i64 r0) ∧ R r0 w')

def C_record_Decode (b_ : Slc) (w : World) (R : T_api_Txn → Int → World → Prop) : Prop :=
  Calls Tryz.prog 178 #[Value.slice b_.ptr b_.len b_.cap] w (fun e w' => ∃ (r0 : T_api_Txn) (r1 : Int), e = .returned (Value.tuple #[Value.agg #[Value.int .i64 r0.Number, Value.slice r0.Writes.ptr r0.Writes.len r0.Writes.cap], Value.int .i64 r1]) ∧ R r0 r1 w')

def C_towpathref02_Reader_dead (r : T_towpathref02_Reader) (w : World) (R : Bool → World → Prop) : Prop :=
  Calls Tryz.prog 179 #[Value.agg #[Value.bool r.Gone, Value.slice r.B.ptr r.B.len r.B.cap, Value.int .i64 r.At, Value.int .i64 r.Code]] w (fun e w' => ∃ (r0 : Bool), e = .returned (Value.bool r0) ∧ R r0 w')

def C_towpathref02_Reader_wrong (r : T_towpathref02_Reader) (e : Int) (w : World) (R : T_towpathref02_Reader → World → Prop) : Prop :=
  Calls Tryz.prog 180 #[Value.agg #[Value.bool r.Gone, Value.slice r.B.ptr r.B.len r.B.cap, Value.int .i64 r.At, Value.int .i64 r.Code], Value.int .i64 e] w (fun e w' => ∃ (r0 : T_towpathref02_Reader), e = .returned (Value.agg #[Value.bool r0.Gone, Value.slice r0.B.ptr r0.B.len r0.B.cap, Value.int .i64 r0.At, Value.int .i64 r0.Code]) ∧ R r0 w')

def C_towpathref02_Reader_Var (r : T_towpathref02_Reader) (w : World) (R : T_towpathref02_Reader → Int → World → Prop) : Prop :=
  Calls Tryz.prog 181 #[Value.agg #[Value.bool r.Gone, Value.slice r.B.ptr r.B.len r.B.cap, Value.int .i64 r.At, Value.int .i64 r.Code]] w (fun e w' => ∃ (r0 : T_towpathref02_Reader) (r1 : Int), e = .returned (Value.tuple #[Value.agg #[Value.bool r0.Gone, Value.slice r0.B.ptr r0.B.len r0.B.cap, Value.int .i64 r0.At, Value.int .i64 r0.Code], Value.int .u64 r1]) ∧ R r0 r1 w')

def C_towpathref05_one (r : T_towpathref02_Reader) (w : World) (R : T_towpathref02_Reader → T_api_Write → Int → World → Prop) : Prop :=
  Calls Tryz.prog 182 #[Value.agg #[Value.bool r.Gone, Value.slice r.B.ptr r.B.len r.B.cap, Value.int .i64 r.At, Value.int .i64 r.Code]] w (fun e w' => ∃ (r0 : T_towpathref02_Reader) (r1 : T_api_Write) (r2 : Int), e = .returned (Value.tuple #[Value.agg #[Value.bool r0.Gone, Value.slice r0.B.ptr r0.B.len r0.B.cap, Value.int .i64 r0.At, Value.int .i64 r0.Code], Value.agg #[Value.string r1.Key, Value.string r1.Val, Value.bool r1.Drop], Value.int .i64 r2]) ∧ R r0 r1 r2 w')

def C_towpathref02_Reader_End (r : T_towpathref02_Reader) (w : World) (R : Int → World → Prop) : Prop :=
  Calls Tryz.prog 183 #[Value.agg #[Value.bool r.Gone, Value.slice r.B.ptr r.B.len r.B.cap, Value.int .i64 r.At, Value.int .i64 r.Code]] w (fun e w' => ∃ (r0 : Int), e = .returned (Value.int .i64 r0) ∧ R r0 w')

def C_towpathlaw01_word (n_ : Int) (w : World) (R : ByteArray → World → Prop) : Prop :=
  Calls Tryz.prog 186 #[Value.int .i64 n_] w (fun e w' => ∃ (r0 : ByteArray), e = .returned (Value.string r0) ∧ R r0 w')

def C_sum_table (w : World) (R : List Int → World → Prop) : Prop :=
  Calls Tryz.prog 199 #[] w (fun e w' => ∃ (r0 : List Int), r0.length = 256 ∧ e = .returned (Value.agg (List.map (Value.int .u32) r0).toArray) ∧ R r0 w')

def C_codec_Reader_take (r : Option Addr) (next : Value) (w : World) (R : Bool → World → Prop) : Prop :=
  Calls Tryz.prog 200 #[Value.pointer r, next] w (fun e w' => ∃ (r0 : Bool), e = .returned (Value.bool r0) ∧ R r0 w')

def C_codec_Reader_Text_1 (b_ : Slc) (t1 : Option Addr) (t2 : Option Addr) (w : World) (R : Int → Int → World → Prop) : Prop :=
  Calls Tryz.prog 201 #[Value.slice b_.ptr b_.len b_.cap, Value.pointer t1, Value.pointer t2] w (fun e w' => ∃ (r0 : Int) (r1 : Int), e = .returned (Value.tuple #[Value.int .i64 r0, Value.int .i64 r1]) ∧ R r0 r1 w')

def C_codec_short (b_ : Slc) (w : World) (R : Int → Int → Int → World → Prop) : Prop :=
  Calls Tryz.prog 202 #[Value.slice b_.ptr b_.len b_.cap] w (fun e w' => ∃ (r0 : Int) (r1 : Int) (r2 : Int), e = .returned (Value.tuple #[Value.int .u64 r0, Value.int .i64 r1, Value.int .i64 r2]) ∧ R r0 r1 r2 w')

def C_codec_Reader_Fixed_1 (b_ : Slc) (t1 : Option Addr) (t2 : Option Addr) (w : World) (R : Int → Int → World → Prop) : Prop :=
  Calls Tryz.prog 203 #[Value.slice b_.ptr b_.len b_.cap, Value.pointer t1, Value.pointer t2] w (fun e w' => ∃ (r0 : Int) (r1 : Int), e = .returned (Value.tuple #[Value.int .i64 r0, Value.int .i64 r1]) ∧ R r0 r1 w')

def C_record_Decode_1 (is : Bool) (e : Int) (t2 : Option Addr) (t3 : Option Addr) (w : World) (R : Int → World → Prop) : Prop :=
  Calls Tryz.prog 204 #[Value.bool is, Value.int .i64 e, Value.pointer t2, Value.pointer t3] w (fun e w' => ∃ (r0 : Int), e = .returned (Value.int .i64 r0) ∧ R r0 w')

def C_codec_Reader_Var (r : Option Addr) (w : World) (R : Int → World → Prop) : Prop :=
  Calls Tryz.prog 205 #[Value.pointer r] w (fun e w' => ∃ (r0 : Int), e = .returned (Value.int .u64 r0) ∧ R r0 w')

def C_strconv_Itoa (i : Int) (w : World) (R : ByteArray → World → Prop) : Prop :=
  Calls Tryz.prog 207 #[Value.int .i64 i] w (fun e w' => ∃ (r0 : ByteArray), e = .returned (Value.string r0) ∧ R r0 w')

def C_codec_Reader_Var_1 (b_ : Slc) (t1 : Option Addr) (w : World) (R : Int → Int → World → Prop) : Prop :=
  Calls Tryz.prog 211 #[Value.slice b_.ptr b_.len b_.cap, Value.pointer t1] w (fun e w' => ∃ (r0 : Int) (r1 : Int), e = .returned (Value.tuple #[Value.int .i64 r0, Value.int .i64 r1]) ∧ R r0 r1 w')

def C_internal_strconv_Itoa (i : Int) (w : World) (R : ByteArray → World → Prop) : Prop :=
  Calls Tryz.prog 212 #[Value.int .i64 i] w (fun e w' => ∃ (r0 : ByteArray), e = .returned (Value.string r0) ∧ R r0 w')

def C_internal_strconv_FormatInt (i : Int) (base : Int) (w : World) (R : ByteArray → World → Prop) : Prop :=
  Calls Tryz.prog 213 #[Value.int .i64 i, Value.int .i64 base] w (fun e w' => ∃ (r0 : ByteArray), e = .returned (Value.string r0) ∧ R r0 w')

def F_towpathlaw06_LogfileReads_k0 (R : Bool → World → Prop) (v16 : Slc) (l_ : Slc) (t48 : Bool) (w6 : World) : Prop :=
  (t48 = true → (R false w6)) ∧
  (t48 = false → (∀ b_2 w7, b_2 = w6.heap.size → w7 = w6.alloc (Obj.cells ([Value.int .i64 0, Value.slice none 0 0, Value.slice none 0 0, Value.slice none 0 0, Value.slice none 0 0, Value.slice none 0 0, Value.slice none 0 0, Value.slice none 0 0, Value.slice none 0 0, Value.slice none 0 0, Value.slice none 0 0, Value.slice none 0 0]).toArray ty_towpathlaw01_Book (0, 0)) → (Writable w7 b_2 0 12 ∧ (∀ w8, w8 = World.puts b_2 0 [Value.int .i64 0, Value.slice none 0 0, Value.slice none 0 0, Value.slice none 0 0, Value.slice none 0 0, Value.slice none 0 0, Value.slice none 0 0, Value.slice none 0 0, Value.slice none 0 0, Value.slice none 0 0, Value.slice none 0 0, Value.slice none 0 0] w7 → (C_towpathlaw01_Book_Bytes (some ⟨b_2, 0, none⟩) v16 w8 (fun w9 => C_towpathlaw01_Book_Txns (some ⟨b_2, 0, none⟩) l_ w9 (fun w10 => C_towpathlaw01_Book_Apart (some ⟨b_2, 0, none⟩) w10 (fun (v54 : Bool) w11 => R v54 w11))))))))

def F_towpathlaw06_LogfileReads (b_ : Slc) (R : Bool → World → Prop) (w : World) : Prop :=
  ∀ b_1 w1, b_1 = w.heap.size → w1 = w.alloc (Obj.cells ([Value.int .i64 ((b_.len : Nat) : Int)]).toArray ty_int (0, 0)) → (C_towpathlaw01_Beyond (Slc.mk (some ⟨b_1, 0, none⟩) 1 1) w1 (fun (v14 : Bool) w2 => (v14 = true → (R true w2)) ∧
  (v14 = false → (C_towpathlaw01_TwinBytes b_ w2 (fun (v16 : Slc) w3 => C_logfile_Read v16 w3 (fun (l_ : Slc) (good : Int) (e : Int) w4 => C_towpathref06_Read b_ w4 (fun (want : Slc) (must : Int) (f : Int) w5 => (((e != f) || (good != must)) = true → (F_towpathlaw06_LogfileReads_k0 R v16 l_ true w5)) ∧
  (((e != f) || (good != must)) = false → (C_towpathlaw01_SameTxns l_ want w5 (fun (v40 : Bool) w12 => ((!v40) = true → (F_towpathlaw06_LogfileReads_k0 R v16 l_ true w12)) ∧
  ((!v40) = false → (C_towpathlaw01_LeftBytes v16 b_ w12 (fun (v46 : Bool) w13 => F_towpathlaw06_LogfileReads_k0 R v16 l_ (!v46) w13)))))))))))))

def F_towpathlaw01_Beyond_L0 (l_ : Slc) (R : Bool → World → Prop) (again_ : Int → Int → World → Prop) (n_ : Int) (i : Int) (w1 : World) : Prop :=
  ((decide (i < ((l_.len : Nat) : Int))) = true → (IsAt l_.ptr ∧ (0 ≤ i ∧ i < ((l_.len : Nat) : Int) ∧ (∃ (v15 : Int), w1.cell? ⟨(pblk l_.ptr), (poff l_.ptr) + i.toNat, none⟩ = some (Value.int .i64 v15) ∧ (((decide ((IntKind.i64.wrap (n_ + v15)) > 1048576)) = true → (R true w1)) ∧
  ((decide ((IntKind.i64.wrap (n_ + v15)) > 1048576)) = false → (again_ (IntKind.i64.wrap (n_ + v15)) (IntKind.i64.wrap (i + 1)) w1))))))) ∧
  ((decide (i < ((l_.len : Nat) : Int))) = false → (R false w1))

def F_towpathlaw01_Beyond (l_ : Slc) (R : Bool → World → Prop) (w : World) : Prop :=
  ∃ (I : Int → Int → World → Prop) (μ : Int → Int → World → Nat), I 0 0 w ∧
  ∀ (n_ : Int) (i : Int) w, I n_ i w → F_towpathlaw01_Beyond_L0 l_ R (fun (n_' : Int) (i' : Int) w' => I n_' i' w' ∧ μ n_' i' w' < μ n_ i w) n_ i w

def F_towpathlaw01_Book_Txns_L0 (b_ : Option Addr) (l_ : Slc) (R : World → Prop) (again_ : Int → World → Prop) (i : Int) (w1 : World) : Prop :=
  ((decide (i < ((l_.len : Nat) : Int))) = true → (IsAt l_.ptr ∧ (0 ≤ i ∧ i < ((l_.len : Nat) : Int) ∧ (∃ (v15 : T_api_Txn), CellsAt w1 (pblk l_.ptr) ((poff l_.ptr) + i.toNat * 2) [Value.int .i64 v15.Number, Value.slice v15.Writes.ptr v15.Writes.len v15.Writes.cap] ∧ (C_towpathlaw01_Book_Txn b_ v15 w1 (fun w2 => again_ (IntKind.i64.wrap (i + 1)) w2)))))) ∧
  ((decide (i < ((l_.len : Nat) : Int))) = false → (C_towpathlaw01_Book_keepTxn b_ l_ w1 (fun w3 => R w3)))

def F_towpathlaw01_Book_Txns (b_ : Option Addr) (l_ : Slc) (R : World → Prop) (w : World) : Prop :=
  ∃ (I : Int → World → Prop) (μ : Int → World → Nat), I 0 w ∧
  ∀ (i : Int) w, I i w → F_towpathlaw01_Book_Txns_L0 b_ l_ R (fun (i' : Int) w' => I i' w' ∧ μ i' w' < μ i w) i w

def F_towpathlaw01_Book_Apart (b_ : Option Addr) (R : Bool → World → Prop) (w : World) : Prop :=
  C_towpathlaw01_Book_fillByte b_ w (fun w1 => C_towpathlaw01_Book_fillInt b_ w1 (fun w2 => C_towpathlaw01_Book_fillText b_ w2 (fun w3 => C_towpathlaw01_Book_fillWrite b_ w3 (fun w4 => C_towpathlaw01_Book_fillEntry b_ w4 (fun w5 => C_towpathlaw01_Book_fillVersion b_ w5 (fun w6 => C_towpathlaw01_Book_fillTxn b_ w6 (fun w7 => C_towpathlaw01_Book_fillHeld b_ w7 (fun w8 => C_towpathlaw01_Book_fillHeldList b_ w8 (fun w9 => C_towpathlaw01_Book_fillEvent b_ w9 (fun w10 => C_towpathlaw01_Book_fillAnswer b_ w10 (fun w11 => C_towpathlaw01_Book_growByte b_ w11 (fun w12 => C_towpathlaw01_Book_growInt b_ w12 (fun w13 => C_towpathlaw01_Book_growText b_ w13 (fun w14 => C_towpathlaw01_Book_growWrite b_ w14 (fun w15 => C_towpathlaw01_Book_growEntry b_ w15 (fun w16 => C_towpathlaw01_Book_growVersion b_ w16 (fun w17 => C_towpathlaw01_Book_growTxn b_ w17 (fun w18 => C_towpathlaw01_Book_growHeld b_ w18 (fun w19 => C_towpathlaw01_Book_growHeldList b_ w19 (fun w20 => C_towpathlaw01_Book_growEvent b_ w20 (fun w21 => C_towpathlaw01_Book_growAnswer b_ w21 (fun w22 => C_towpathlaw01_Book_lookByte b_ w22 (fun (v48 : Bool) w23 => (v48 = true → (C_towpathlaw01_Book_lookInt b_ w23 (fun (v51 : Bool) w24 => (v51 = true → (C_towpathlaw01_Book_lookText b_ w24 (fun (v55 : Bool) w25 => (v55 = true → (C_towpathlaw01_Book_lookWrite b_ w25 (fun (v59 : Bool) w26 => (v59 = true → (C_towpathlaw01_Book_lookEntry b_ w26 (fun (v63 : Bool) w27 => (v63 = true → (C_towpathlaw01_Book_lookVersion b_ w27 (fun (v67 : Bool) w28 => (v67 = true → (C_towpathlaw01_Book_lookTxn b_ w28 (fun (v71 : Bool) w29 => (v71 = true → (C_towpathlaw01_Book_lookHeld b_ w29 (fun (v75 : Bool) w30 => (v75 = true → (C_towpathlaw01_Book_lookHeldList b_ w30 (fun (v79 : Bool) w31 => (v79 = true → (C_towpathlaw01_Book_lookEvent b_ w31 (fun (v83 : Bool) w32 => (v83 = true → (C_towpathlaw01_Book_lookAnswer b_ w32 (fun (v87 : Bool) w33 => R v87 w33))) ∧
  (v83 = false → (R false w32))))) ∧
  (v79 = false → (R false w31))))) ∧
  (v75 = false → (R false w30))))) ∧
  (v71 = false → (R false w29))))) ∧
  (v67 = false → (R false w28))))) ∧
  (v63 = false → (R false w27))))) ∧
  (v59 = false → (R false w26))))) ∧
  (v55 = false → (R false w25))))) ∧
  (v51 = false → (R false w24))))) ∧
  (v48 = false → (R false w23)))))))))))))))))))))))))

def F_towpathlaw01_SameTxn (a_ : T_api_Txn) (b_ : T_api_Txn) (R : Bool → World → Prop) (w : World) : Prop :=
  ∀ b_1 w1, b_1 = w.heap.size → w1 = w.alloc (Obj.cells ([Value.int .i64 a_.Number, Value.slice a_.Writes.ptr a_.Writes.len a_.Writes.cap]).toArray ty_api_Txn (0, 0)) → (∀ b_2 w2, b_2 = w1.heap.size → w2 = w1.alloc (Obj.cells ([Value.int .i64 b_.Number, Value.slice b_.Writes.ptr b_.Writes.len b_.Writes.cap]).toArray ty_api_Txn (0, 0)) → (∃ (v6 : Int), w2.cell? ⟨b_1, 0, none⟩ = some (Value.int .i64 v6) ∧ (∃ (v8 : Int), w2.cell? ⟨b_2, 0, none⟩ = some (Value.int .i64 v8) ∧ (((v6 == v8) = true → (∃ (v12 : Slc), w2.cell? ⟨b_1, 1, none⟩ = some (Value.slice v12.ptr v12.len v12.cap) ∧ (∃ (v14 : Slc), w2.cell? ⟨b_2, 1, none⟩ = some (Value.slice v14.ptr v14.len v14.cap) ∧ (C_towpathlaw01_SameWrites v12 v14 w2 (fun (v15 : Bool) w3 => R v15 w3))))) ∧
  ((v6 == v8) = false → (R false w2))))))

def F_towpathlaw01_Book_Txn (b_ : Option Addr) (t_ : T_api_Txn) (R : World → Prop) (w : World) : Prop :=
  ∀ b_1 w1, b_1 = w.heap.size → w1 = w.alloc (Obj.cells ([Value.int .i64 t_.Number, Value.slice t_.Writes.ptr t_.Writes.len t_.Writes.cap]).toArray ty_api_Txn (0, 0)) → (∃ (v6 : Slc), w1.cell? ⟨b_1, 1, none⟩ = some (Value.slice v6.ptr v6.len v6.cap) ∧ (C_towpathlaw01_Book_Writes b_ v6 w1 (fun w2 => R w2)))

def F_towpathlaw01_Book_Bytes (b_ : Option Addr) (l_ : Slc) (R : World → Prop) (w : World) : Prop :=
  C_towpathlaw01_Book_keepByte b_ l_ w (fun w1 => R w1)

def F_towpathlaw01_TwinBytes_L0 (l_ : Slc) (R : Slc → World → Prop) (again_ : Slc → Int → World → Prop) (t_ : Slc) (i : Int) (w2 : World) : Prop :=
  ((decide (i < ((l_.len : Nat) : Int))) = true → (IsAt l_.ptr ∧ (0 ≤ i ∧ i < ((l_.len : Nat) : Int) ∧ (∃ (v19 : Int), w2.cell? ⟨(pblk l_.ptr), (poff l_.ptr) + i.toNat, none⟩ = some (Value.int .u8 v19) ∧ (∀ b_1 w3, b_1 = w2.heap.size → w3 = w2.alloc (Obj.cells ([Value.int .u8 v19]).toArray ty_uint8 (0, 0)) → (∃ src, SrcAt w3 (Slc.mk (some ⟨b_1, 0, none⟩) 1 1) 1 src ∧ AppendW 1 1 ty_uint8 [Value.int .u8 0] t_ src 1 w3 (fun t_1 w4 => again_ t_1 (IntKind.i64.wrap (i + 1)) w4))))))) ∧
  ((decide (i < ((l_.len : Nat) : Int))) = false → (∀ b_2 w5, b_2 = w2.heap.size → w5 = w2.alloc (Obj.cells ([Value.int .u8 77]).toArray ty_uint8 (0, 0)) → (∃ src, SrcAt w5 (Slc.mk (some ⟨b_2, 0, none⟩) 1 1) 1 src ∧ AppendW 1 1 ty_uint8 [Value.int .u8 0] t_ src 1 w5 (fun v24 w6 => 0 ≤ ((l_.len : Nat) : Int) ∧ ((l_.len : Nat) : Int) ≤ ((v24.cap : Nat) : Int) ∧ (R (Slc.mk v24.ptr (((l_.len : Nat) : Int).toNat) v24.cap) w6)))))

def F_towpathlaw01_TwinBytes (l_ : Slc) (R : Slc → World → Prop) (w : World) : Prop :=
  0 ≤ (0 : Int) ∧ (0 : Int) ≤ IntKind.i64.wrap (((l_.len : Nat) : Int) + 1) ∧ (1 : Int) * (IntKind.i64.wrap (((l_.len : Nat) : Int) + 1)) ≤ 281474976710656 ∧ (∀ b_ w1, b_ = w.heap.size → w1 = w.alloc (Obj.cells (repCells ((IntKind.i64.wrap (((l_.len : Nat) : Int) + 1)).toNat) [Value.int .u8 0]) ty_uint8 (0, 0)) → (∃ (I : Slc → Int → World → Prop) (μ : Slc → Int → World → Nat), I (Slc.mk (some ⟨b_, 0, none⟩) 0 ((IntKind.i64.wrap (((l_.len : Nat) : Int) + 1)).toNat)) 0 w1 ∧
  ∀ (t_ : Slc) (i : Int) w, I t_ i w → F_towpathlaw01_TwinBytes_L0 l_ R (fun (t_' : Slc) (i' : Int) w' => I t_' i' w' ∧ μ t_' i' w' < μ t_ i w) t_ i w))

def F_logfile_Read_B0 (b_1 : Nat) (b_2 : Nat) (b_3 : Nat) (b_4 : Nat) (rec_ : Recs) (D : Nat) (Kb : Bool → World → Prop) (t9 : Int) (t10 : T_api_Txn) (w7 : World) : Prop :=
  ∃ (v12 : Int), w7.cell? ⟨b_4, 0, none⟩ = some (Value.int .i64 v12) ∧ (∃ (v13 : Slc), w7.cell? ⟨b_1, 0, none⟩ = some (Value.slice v13.ptr v13.len v13.cap) ∧ (((v12 != (IntKind.i64.wrap (((v13.len : Nat) : Int) + 1))) = true → (∀ w10, (∃ k, w10 = w7.drewN k) → (∃ (v17 : Slc), w10.cell? ⟨b_1, 0, none⟩ = some (Value.slice v17.ptr v17.len v17.cap) ∧ (∃ (v18 : Int), w10.cell? ⟨b_2, 0, none⟩ = some (Value.int .i64 v18) ∧ (Writable w10 b_1 0 1 ∧ (∀ w11, w11 = World.puts b_1 0 [Value.slice v17.ptr v17.len v17.cap] w10 → (w11.cell? ⟨b_2, 0, none⟩ = some (Value.int .i64 v18) ∧ (Writable w11 b_2 0 1 ∧ (∀ w12, w12 = World.puts b_2 0 [Value.int .i64 v18] w11 → ((Writable w12 b_3 0 1 ∧ (∀ w13, w13 = World.puts b_3 0 [Value.int .i64 6] w12 → ((w13.heap[D + 1]? = some (.loop (rec_ .busy none)) ∧ (∀ w14, w14 = w13.putObj (D + 1) (.loop (rec_ .done (some .ret))) → Kb false w14))))))))))))))) ∧
  ((v12 != (IntKind.i64.wrap (((v13.len : Nat) : Int) + 1))) = false → (∃ (v19 : Slc), w7.cell? ⟨b_1, 0, none⟩ = some (Value.slice v19.ptr v19.len v19.cap) ∧ (∃ (v20 : T_api_Txn), CellsAt w7 b_4 0 [Value.int .i64 v20.Number, Value.slice v20.Writes.ptr v20.Writes.len v20.Writes.cap] ∧ (∀ b_5 w15, b_5 = w7.heap.size → w15 = w7.alloc (Obj.cells ([Value.int .i64 v20.Number, Value.slice v20.Writes.ptr v20.Writes.len v20.Writes.cap]).toArray ty_api_Txn (0, 0)) → (∃ src, SrcAt w15 (Slc.mk (some ⟨b_5, 0, none⟩) 1 1) 2 src ∧ AppendW 2 32 ty_api_Txn [Value.int .i64 0, Value.slice none 0 0] v19 src 1 w15 (fun v22 w16 => Writable w16 b_1 0 1 ∧ (∀ w17, w17 = World.puts b_1 0 [Value.slice v22.ptr v22.len v22.cap] w16 → (Writable w17 b_2 0 1 ∧ (∀ w18, w18 = World.puts b_2 0 [Value.int .i64 t9] w17 → (w18.heap[D + 1]? = some (.loop (rec_ .busy none)) ∧ (∀ w19, w19 = w18.putObj (D + 1) (.loop (rec_ .ready none)) → Kb true w19)))))))))))))

def F_logfile_Read_S1 (b_1 : Nat) (b_2 : Nat) (b_3 : Nat) (rec_ : Recs) (D : Nat) (Kb : Bool → World → Prop) (t9 : Int) (t10 : T_api_Txn) (w6 : World) : Prop :=
  ∀ b_4 w8, b_4 = w6.heap.size → w8 = w6.alloc (Obj.cells ([Value.int .i64 0, Value.slice none 0 0]).toArray ty_api_Txn (0, 0)) → (Writable w8 b_4 0 2 ∧ (∀ w9, w9 = World.puts b_4 0 [Value.int .i64 t10.Number, Value.slice t10.Writes.ptr t10.Writes.len t10.Writes.cap] w8 → (w9.heap[D + 1]? = some (.loop (rec_ .ready none)) ∧ (∀ w7, w7 = w9.putObj (D + 1) (.loop (rec_ .busy none)) → F_logfile_Read_B0 b_1 b_2 b_3 b_4 rec_ D Kb t9 t10 w7))))

def F_logfile_Read_A2 (R : Slc → Int → Int → World → Prop) (b_1 : Nat) (b_2 : Nat) (b_3 : Nat) (D : Nat) (w21 : World) : Prop :=
  ∀ w24, (∃ k, w24 = w21.drewN k) → (∃ (v24 : Slc), w24.cell? ⟨b_1, 0, none⟩ = some (Value.slice v24.ptr v24.len v24.cap) ∧ (∃ (v25 : Int), w24.cell? ⟨b_2, 0, none⟩ = some (Value.int .i64 v25) ∧ (∃ (v26 : Int), w24.cell? ⟨b_3, 0, none⟩ = some (Value.int .i64 v26) ∧ (Writable w24 b_1 0 1 ∧ (∀ w25, w25 = World.puts b_1 0 [Value.slice v24.ptr v24.len v24.cap] w24 → (w25.cell? ⟨b_3, 0, none⟩ = some (Value.int .i64 v26) ∧ w25.cell? ⟨b_2, 0, none⟩ = some (Value.int .i64 v25) ∧ (Writable w25 b_2 0 1 ∧ (∀ w26, w26 = World.puts b_2 0 [Value.int .i64 v25] w25 → (w26.cell? ⟨b_3, 0, none⟩ = some (Value.int .i64 v26) ∧ (Writable w26 b_3 0 1 ∧ (∀ w27, w27 = World.puts b_3 0 [Value.int .i64 v26] w26 → ((w27.heap[D]? = some (.deferred (some [])) ∧ (∀ w28, w28 = w27.putObj D (.deferred none) → (∃ (res : Slc), CellsAt w28 b_1 0 [Value.slice res.ptr res.len res.cap] ∧ (∃ (res1 : Int), CellsAt w28 b_2 0 [Value.int .i64 res1] ∧ (∃ (res2 : Int), CellsAt w28 b_3 0 [Value.int .i64 res2] ∧ (R res res1 res2 w28))))))))))))))))))

def F_logfile_Read (b_ : Slc) (R : Slc → Int → Int → World → Prop) (w : World) : Prop :=
  ∀ b_1 w1, b_1 = w.heap.size → w1 = w.alloc (Obj.cells ([Value.slice none 0 0]).toArray ty_sl_api_Txn (0, 0)) → (∀ b_2 w2, b_2 = w1.heap.size → w2 = w1.alloc (Obj.cells ([Value.int .i64 0]).toArray ty_int (0, 0)) → (∀ b_3 w3, b_3 = w2.heap.size → w3 = w2.alloc (Obj.cells ([Value.int .i64 0]).toArray ty_api_Errno (0, 0)) → (C_logfile_records b_ (some ⟨b_3, 0, none⟩) w3 (fun (v8 : Value) w4 => ∀ (rec_ : Recs) (D : Nat) w5, D = w4.heap.size → w5 = (w4.alloc (.deferred (some []))).alloc (.loop (rec_ .ready none)) → (∀ (t9 : Int) (t10 : T_api_Txn) (w6 : World) (Kb : Bool → World → Prop), w6.heap[D + 1]? = some (.loop (rec_ .ready none)) → (F_logfile_Read_S1 b_1 b_2 b_3 rec_ D Kb t9 t10 w6) → CallsY (P := Tryz.prog) (yieldV (D + 1)) #[Value.int .i64 t9, Value.agg #[Value.int .i64 t10.Number, Value.slice t10.Writes.ptr t10.Writes.len t10.Writes.cap]] w6 (fun e_ W_ => ∃ b_, e_ = Ending.returned (.bool b_) ∧ Kb b_ W_)) → CallsV (P := Tryz.prog) v8 #[yieldV (D + 1)] w5 (fun e_ w22 => (∃ v_, e_ = Ending.returned v_) ∧ ∃ st_ pe_, w22.heap[D + 1]? = some (.loop (rec_ st_ pe_)) ∧ st_ ≠ .busy ∧ ∀ w23, w23 = w22.putObj (D + 1) (.loop (rec_ .exhausted pe_)) → (((pe_ = none) ∧ (F_logfile_Read_A2 R b_1 b_2 b_3 D w23)) ∨ (pe_ = some .ret ∧ (w23.heap[D]? = some (.deferred (some [])) ∧ (∀ w29, w29 = w23.putObj D (.deferred none) → (∃ (res3 : Slc), CellsAt w29 b_1 0 [Value.slice res3.ptr res3.len res3.cap] ∧ (∃ (res4 : Int), CellsAt w29 b_2 0 [Value.int .i64 res4] ∧ (∃ (res5 : Int), CellsAt w29 b_3 0 [Value.int .i64 res5] ∧ (R res3 res4 res5 w29)))))))))))))

def F_towpathref06_Read_L0 (R : Slc → Int → Int → World → Prop) (b_1 : Nat) (again_ : Slc → Int → World → Prop) (l_ : Slc) (good : Int) (w3 : World) : Prop :=
  ∃ (v16 : T_towpathref02_Reader), CellsAt w3 b_1 0 [Value.bool v16.Gone, Value.slice v16.B.ptr v16.B.len v16.B.cap, Value.int .i64 v16.At, Value.int .i64 v16.Code] ∧ (C_towpathref02_Reader_Left v16 w3 (fun (v17 : Int) w4 => ((decide (v17 > 0)) = true → (∃ (v20 : T_towpathref02_Reader), CellsAt w4 b_1 0 [Value.bool v20.Gone, Value.slice v20.B.ptr v20.B.len v20.B.cap, Value.int .i64 v20.At, Value.int .i64 v20.Code] ∧ (C_towpathref02_Reader_Text v20 65536 w4 (fun (v21 : T_towpathref02_Reader) (s : ByteArray) w5 => ∀ b_2 w6, b_2 = w5.heap.size → w6 = w5.alloc (Obj.cells ([Value.bool false, Value.slice none 0 0, Value.int .i64 0, Value.int .i64 0]).toArray ty_towpathref02_Reader (0, 0)) → (Writable w6 b_2 0 4 ∧ (∀ w7, w7 = World.puts b_2 0 [Value.bool v21.Gone, Value.slice v21.B.ptr v21.B.len v21.B.cap, Value.int .i64 v21.At, Value.int .i64 v21.Code] w6 → (∃ (v25 : Int), w7.cell? ⟨b_2, 3, none⟩ = some (Value.int .i64 v25) ∧ (((v25 != 0) = true → (∃ (v30 : Int), w7.cell? ⟨b_2, 3, none⟩ = some (Value.int .i64 v30) ∧ (∀ w8, Ext w7 w8 → (R l_ good v30 w8)))) ∧
  ((v25 != 0) = false → (∃ (v32 : T_towpathref02_Reader), CellsAt w7 b_2 0 [Value.bool v32.Gone, Value.slice v32.B.ptr v32.B.len v32.B.cap, Value.int .i64 v32.At, Value.int .i64 v32.Code] ∧ (C_towpathref02_Reader_Fixed v32 4 w7 (fun (v33 : T_towpathref02_Reader) (sum : Int) w9 => Writable w9 b_2 0 4 ∧ (∀ w10, w10 = World.puts b_2 0 [Value.bool v33.Gone, Value.slice v33.B.ptr v33.B.len v33.B.cap, Value.int .i64 v33.At, Value.int .i64 v33.Code] w9 → (∃ (v37 : Int), w10.cell? ⟨b_2, 3, none⟩ = some (Value.int .i64 v37) ∧ (((v37 != 0) = true → (∃ (v42 : Int), w10.cell? ⟨b_2, 3, none⟩ = some (Value.int .i64 v42) ∧ (∀ w11, Ext w10 w11 → (R l_ good v42 w11)))) ∧
  ((v37 != 0) = false → (∀ s1 w12, OfString ty_uint8 s w10 s1 w12 → (C_towpathref03_CRC s1 w12 (fun (v47 : Int) w13 => ((sum != (IntKind.u64.wrap v47)) = true → (R l_ good 4 w13)) ∧
  ((sum != (IntKind.u64.wrap v47)) = false → (C_towpathref05_Decode s1 w13 (fun (v54 : T_api_Txn) (e : Int) w14 => ∀ b_3 w15, b_3 = w14.heap.size → w15 = w14.alloc (Obj.cells ([Value.int .i64 0, Value.slice none 0 0]).toArray ty_api_Txn (0, 0)) → (Writable w15 b_3 0 2 ∧ (∀ w16, w16 = World.puts b_3 0 [Value.int .i64 v54.Number, Value.slice v54.Writes.ptr v54.Writes.len v54.Writes.cap] w15 → (((e != 0) = true → (R l_ good e w16)) ∧
  ((e != 0) = false → (∃ (v63 : Int), w16.cell? ⟨b_3, 0, none⟩ = some (Value.int .i64 v63) ∧ (((v63 != (IntKind.i64.wrap (((l_.len : Nat) : Int) + 1))) = true → (R l_ good 6 w16)) ∧
  ((v63 != (IntKind.i64.wrap (((l_.len : Nat) : Int) + 1))) = false → (∃ (v71 : T_api_Txn), CellsAt w16 b_3 0 [Value.int .i64 v71.Number, Value.slice v71.Writes.ptr v71.Writes.len v71.Writes.cap] ∧ (∀ b_4 w17, b_4 = w16.heap.size → w17 = w16.alloc (Obj.cells ([Value.int .i64 v71.Number, Value.slice v71.Writes.ptr v71.Writes.len v71.Writes.cap]).toArray ty_api_Txn (0, 0)) → (∃ src, SrcAt w17 (Slc.mk (some ⟨b_4, 0, none⟩) 1 1) 2 src ∧ AppendW 2 32 ty_api_Txn [Value.int .i64 0, Value.slice none 0 0] l_ src 1 w17 (fun l_1 w18 => ∃ (v74 : T_towpathref02_Reader), CellsAt w18 b_2 0 [Value.bool v74.Gone, Value.slice v74.B.ptr v74.B.len v74.B.cap, Value.int .i64 v74.At, Value.int .i64 v74.Code] ∧ (Writable w18 b_1 0 4 ∧ (∀ w19, w19 = World.puts b_1 0 [Value.bool v74.Gone, Value.slice v74.B.ptr v74.B.len v74.B.cap, Value.int .i64 v74.At, Value.int .i64 v74.Code] w18 → (∃ (good1 : Int), w19.cell? ⟨b_1, 2, none⟩ = some (Value.int .i64 good1) ∧ (again_ l_1 good1 w19))))))))))))))))))))))))))))))))))))) ∧
  ((decide (v17 > 0)) = false → (R l_ good 0 w4))))

def F_towpathref06_Read (b_ : Slc) (R : Slc → Int → Int → World → Prop) (w : World) : Prop :=
  ∀ b_1 w1, b_1 = w.heap.size → w1 = w.alloc (Obj.cells ([Value.bool false, Value.slice none 0 0, Value.int .i64 0, Value.int .i64 0]).toArray ty_towpathref02_Reader (0, 0)) → (Writable w1 b_1 0 4 ∧ (∀ w2, w2 = World.puts b_1 0 [Value.bool false, Value.slice b_.ptr b_.len b_.cap, Value.int .i64 0, Value.int .i64 0] w1 → (∃ (I : Slc → Int → World → Prop) (μ : Slc → Int → World → Nat), I (Slc.mk none 0 0) 0 w2 ∧
  ∀ (l_ : Slc) (good : Int) w, I l_ good w → F_towpathref06_Read_L0 R b_1 (fun (l_' : Slc) (good' : Int) w' => I l_' good' w' ∧ μ l_' good' w' < μ l_ good w) l_ good w)))

def F_towpathlaw01_SameTxns_L0 (a_ : Slc) (b_ : Slc) (R : Bool → World → Prop) (again_ : Int → World → Prop) (i : Int) (w1 : World) : Prop :=
  ((decide (i < ((a_.len : Nat) : Int))) = true → (IsAt a_.ptr ∧ (0 ≤ i ∧ i < ((a_.len : Nat) : Int) ∧ (∃ (v20 : T_api_Txn), CellsAt w1 (pblk a_.ptr) ((poff a_.ptr) + i.toNat * 2) [Value.int .i64 v20.Number, Value.slice v20.Writes.ptr v20.Writes.len v20.Writes.cap] ∧ (IsAt b_.ptr ∧ (0 ≤ i ∧ i < ((b_.len : Nat) : Int) ∧ (∃ (v24 : T_api_Txn), CellsAt w1 (pblk b_.ptr) ((poff b_.ptr) + i.toNat * 2) [Value.int .i64 v24.Number, Value.slice v24.Writes.ptr v24.Writes.len v24.Writes.cap] ∧ (∃ (v25 : Bool), (∀ w', Ext w1 w' → C_towpathlaw01_SameTxn v20 v24 w' (fun (v25' : Bool) w'' => v25' = v25 ∧ Ext w' w'')) ∧ (∀ w3, Ext w1 w3 → (((!v25) = true → (R false w3)) ∧
  ((!v25) = false → (again_ (IntKind.i64.wrap (i + 1)) w3)))))))))))) ∧
  ((decide (i < ((a_.len : Nat) : Int))) = false → (R true w1))

def F_towpathlaw01_SameTxns (a_ : Slc) (b_ : Slc) (R : Bool → World → Prop) (w : World) : Prop :=
  ((((a_.len : Nat) : Int) != ((b_.len : Nat) : Int)) = true → (R false w)) ∧
  ((((a_.len : Nat) : Int) != ((b_.len : Nat) : Int)) = false → (∃ (I : Int → World → Prop) (μ : Int → World → Nat), I 0 w ∧
  ∀ (i : Int) w, I i w → F_towpathlaw01_SameTxns_L0 a_ b_ R (fun (i' : Int) w' => I i' w' ∧ μ i' w' < μ i w) i w))

def F_towpathlaw01_LeftBytes_L0 (t_ : Slc) (l_ : Slc) (R : Bool → World → Prop) (again_ : Int → World → Prop) (i : Int) (w1 : World) : Prop :=
  ((decide (i < ((l_.len : Nat) : Int))) = true → (IsAt t_.ptr ∧ (0 ≤ i ∧ i < ((t_.len : Nat) : Int) ∧ (∃ (v28 : Int), w1.cell? ⟨(pblk t_.ptr), (poff t_.ptr) + i.toNat, none⟩ = some (Value.int .u8 v28) ∧ (IsAt l_.ptr ∧ (0 ≤ i ∧ i < ((l_.len : Nat) : Int) ∧ (∃ (v32 : Int), w1.cell? ⟨(pblk l_.ptr), (poff l_.ptr) + i.toNat, none⟩ = some (Value.int .u8 v32) ∧ (∀ w2, Ext w1 w2 → (((v28 != v32) = true → (R false w2)) ∧
  ((v28 != v32) = false → (again_ (IntKind.i64.wrap (i + 1)) w2))))))))))) ∧
  ((decide (i < ((l_.len : Nat) : Int))) = false → (0 ≤ IntKind.i64.wrap (((l_.len : Nat) : Int) + 1) ∧ IntKind.i64.wrap (((l_.len : Nat) : Int) + 1) ≤ ((t_.cap : Nat) : Int) ∧ (IsAt t_.ptr ∧ (0 ≤ ((l_.len : Nat) : Int) ∧ ((l_.len : Nat) : Int) < (((IntKind.i64.wrap (((l_.len : Nat) : Int) + 1)).toNat : Nat) : Int) ∧ (∃ (x : Int), w1.cell? ⟨(pblk t_.ptr), (poff t_.ptr) + ((l_.len : Nat) : Int).toNat, none⟩ = some (Value.int .u8 x) ∧ (R (x == 77) w1))))))

def F_towpathlaw01_LeftBytes (t_ : Slc) (l_ : Slc) (R : Bool → World → Prop) (w : World) : Prop :=
  (((((t_.len : Nat) : Int) != ((l_.len : Nat) : Int)) || (decide (((t_.cap : Nat) : Int) ≤ ((l_.len : Nat) : Int)))) = true → (R false w)) ∧
  (((((t_.len : Nat) : Int) != ((l_.len : Nat) : Int)) || (decide (((t_.cap : Nat) : Int) ≤ ((l_.len : Nat) : Int)))) = false → (∃ (I : Int → World → Prop) (μ : Int → World → Nat), I 0 w ∧
  ∀ (i : Int) w, I i w → F_towpathlaw01_LeftBytes_L0 t_ l_ R (fun (i' : Int) w' => I i' w' ∧ μ i' w' < μ i w) i w))

def F_towpathlaw01_Book_keepTxn (b_ : Option Addr) (l_ : Slc) (R : World → Prop) (w : World) : Prop :=
  IsAt b_ ∧ (∃ (v7 : Int), w.cell? ⟨(pblk b_), (poff b_), none⟩ = some (Value.int .i64 v7) ∧ (Writable w (pblk b_) (poff b_) 1 ∧ (∀ w1, w1 = World.puts (pblk b_) (poff b_) [Value.int .i64 (IntKind.i64.wrap (v7 + 1))] w → (∀ w2, (∃ k, w2 = w1.drewN k) → (IsAt b_ ∧ (∃ (v15 : Slc), w2.cell? ⟨(pblk b_), (poff b_) + 7, none⟩ = some (Value.slice v15.ptr v15.len v15.cap) ∧ (IsAt b_ ∧ (∃ (v20 : Int), w2.cell? ⟨(pblk b_), (poff b_), none⟩ = some (Value.int .i64 v20) ∧ (∀ b_1 w3, b_1 = w2.heap.size → w3 = w2.alloc (Obj.cells ([Value.slice l_.ptr l_.len l_.cap, Value.slice none 0 0, Value.int .i64 v20]).toArray ty_towpathlaw01_heldTxn (0, 0)) → (w3.cell? ⟨(pblk b_), (poff b_) + 7, none⟩ = some (Value.slice v15.ptr v15.len v15.cap) ∧ (∃ src, SrcAt w3 (Slc.mk (some ⟨b_1, 0, none⟩) 1 1) 3 src ∧ AppendW 3 56 ty_towpathlaw01_heldTxn [Value.slice none 0 0, Value.slice none 0 0, Value.int .i64 0] v15 src 1 w3 (fun v23 w4 => (IsAt b_ ∧ (Writable w4 (pblk b_) ((poff b_) + 7) 1 ∧ (∀ w5, w5 = World.puts (pblk b_) ((poff b_) + 7) [Value.slice v23.ptr v23.len v23.cap] w4 → ((R w5)))))))))))))))))

def F_towpathlaw01_Book_fillByte_L1 (i : Int) (again_ : Int → World → Prop) (b_1 : Nat) (again_1 : Int → World → Prop) (k : Int) (w4 : World) : Prop :=
  ∃ (v23 : Slc), w4.cell? ⟨b_1, 0, none⟩ = some (Value.slice v23.ptr v23.len v23.cap) ∧ (((decide (k < ((v23.len : Nat) : Int))) = true → (∀ w5, (∃ k, w5 = w4.drewN k) → (∃ (v29 : Slc), w5.cell? ⟨b_1, 0, none⟩ = some (Value.slice v29.ptr v29.len v29.cap) ∧ (∃ (v32 : Int), w5.cell? ⟨b_1, 2, none⟩ = some (Value.int .i64 v32) ∧ (C_towpathlaw01_markByte v32 w5 (fun (v33 : Int) w6 => w6.cell? ⟨b_1, 0, none⟩ = some (Value.slice v29.ptr v29.len v29.cap) ∧ (IsAt v29.ptr ∧ (0 ≤ k ∧ k < ((v29.len : Nat) : Int) ∧ (Writable w6 (pblk v29.ptr) ((poff v29.ptr) + k.toNat) 1 ∧ (∀ w7, w7 = World.puts (pblk v29.ptr) ((poff v29.ptr) + k.toNat) [Value.int .u8 v33] w6 → ((again_1 (IntKind.i64.wrap (k + 1)) w7)))))))))))) ∧
  ((decide (k < ((v23.len : Nat) : Int))) = false → (again_ (IntKind.i64.wrap (i + 1)) w4)))

def F_towpathlaw01_Book_fillByte_L0 (b_ : Option Addr) (R : World → Prop) (again_ : Int → World → Prop) (i : Int) (w1 : World) : Prop :=
  IsAt b_ ∧ (∃ (v9 : Slc), w1.cell? ⟨(pblk b_), (poff b_) + 1, none⟩ = some (Value.slice v9.ptr v9.len v9.cap) ∧ (((decide (i < ((v9.len : Nat) : Int))) = true → (IsAt b_ ∧ (∃ (v17 : Slc), w1.cell? ⟨(pblk b_), (poff b_) + 1, none⟩ = some (Value.slice v17.ptr v17.len v17.cap) ∧ (IsAt v17.ptr ∧ (0 ≤ i ∧ i < ((v17.len : Nat) : Int) ∧ (∃ (v20 : T_towpathlaw01_heldByte), CellsAt w1 (pblk v17.ptr) ((poff v17.ptr) + i.toNat * 3) [Value.slice v20.l.ptr v20.l.len v20.l.cap, Value.slice v20.long.ptr v20.long.len v20.long.cap, Value.int .i64 v20.n] ∧ (∀ b_1 w2, b_1 = w1.heap.size → w2 = w1.alloc (Obj.cells ([Value.slice none 0 0, Value.slice none 0 0, Value.int .i64 0]).toArray ty_towpathlaw01_heldByte (0, 0)) → (Writable w2 b_1 0 3 ∧ (∀ w3, w3 = World.puts b_1 0 [Value.slice v20.l.ptr v20.l.len v20.l.cap, Value.slice v20.long.ptr v20.long.len v20.long.cap, Value.int .i64 v20.n] w2 → (∃ (I : Int → World → Prop) (μ : Int → World → Nat), I 0 w3 ∧
  ∀ (k : Int) w, I k w → F_towpathlaw01_Book_fillByte_L1 i again_ b_1 (fun (k' : Int) w' => I k' w' ∧ μ k' w' < μ k w) k w)))))))))) ∧
  ((decide (i < ((v9.len : Nat) : Int))) = false → (R w1))))

def F_towpathlaw01_Book_fillByte (b_ : Option Addr) (R : World → Prop) (w : World) : Prop :=
  ∃ (I : Int → World → Prop) (μ : Int → World → Nat), I 0 w ∧
  ∀ (i : Int) w, I i w → F_towpathlaw01_Book_fillByte_L0 b_ R (fun (i' : Int) w' => I i' w' ∧ μ i' w' < μ i w) i w

def F_towpathlaw01_Book_fillInt_L0 (b_ : Option Addr) (R : World → Prop) (again_ : Int → World → Prop) (i : Int) (w1 : World) : Prop :=
  IsAt b_ ∧ (∃ (v9 : Slc), w1.cell? ⟨(pblk b_), (poff b_) + 2, none⟩ = some (Value.slice v9.ptr v9.len v9.cap) ∧ (((decide (i < ((v9.len : Nat) : Int))) = true → (False)) ∧
  ((decide (i < ((v9.len : Nat) : Int))) = false → (R w1))))

def F_towpathlaw01_Book_fillInt (b_ : Option Addr) (R : World → Prop) (w : World) : Prop :=
  ∃ (I : Int → World → Prop) (μ : Int → World → Nat), I 0 w ∧
  ∀ (i : Int) w, I i w → F_towpathlaw01_Book_fillInt_L0 b_ R (fun (i' : Int) w' => I i' w' ∧ μ i' w' < μ i w) i w

def F_towpathlaw01_Book_fillText_L0 (b_ : Option Addr) (R : World → Prop) (again_ : Int → World → Prop) (i : Int) (w1 : World) : Prop :=
  IsAt b_ ∧ (∃ (v9 : Slc), w1.cell? ⟨(pblk b_), (poff b_) + 3, none⟩ = some (Value.slice v9.ptr v9.len v9.cap) ∧ (((decide (i < ((v9.len : Nat) : Int))) = true → (False)) ∧
  ((decide (i < ((v9.len : Nat) : Int))) = false → (R w1))))

def F_towpathlaw01_Book_fillText (b_ : Option Addr) (R : World → Prop) (w : World) : Prop :=
  ∃ (I : Int → World → Prop) (μ : Int → World → Nat), I 0 w ∧
  ∀ (i : Int) w, I i w → F_towpathlaw01_Book_fillText_L0 b_ R (fun (i' : Int) w' => I i' w' ∧ μ i' w' < μ i w) i w

def F_towpathlaw01_Book_fillWrite_L1 (i : Int) (again_ : Int → World → Prop) (b_1 : Nat) (again_1 : Int → World → Prop) (k : Int) (w4 : World) : Prop :=
  ∃ (v23 : Slc), w4.cell? ⟨b_1, 0, none⟩ = some (Value.slice v23.ptr v23.len v23.cap) ∧ (((decide (k < ((v23.len : Nat) : Int))) = true → (∀ w5, (∃ k, w5 = w4.drewN k) → (∃ (v29 : Slc), w5.cell? ⟨b_1, 0, none⟩ = some (Value.slice v29.ptr v29.len v29.cap) ∧ (∃ (v32 : Int), w5.cell? ⟨b_1, 2, none⟩ = some (Value.int .i64 v32) ∧ (C_towpathlaw01_markWrite v32 w5 (fun (v33 : T_api_Write) w6 => w6.cell? ⟨b_1, 0, none⟩ = some (Value.slice v29.ptr v29.len v29.cap) ∧ (IsAt v29.ptr ∧ (0 ≤ k ∧ k < ((v29.len : Nat) : Int) ∧ (Writable w6 (pblk v29.ptr) ((poff v29.ptr) + k.toNat * 3) 3 ∧ (∀ w7, w7 = World.puts (pblk v29.ptr) ((poff v29.ptr) + k.toNat * 3) [Value.string v33.Key, Value.string v33.Val, Value.bool v33.Drop] w6 → ((again_1 (IntKind.i64.wrap (k + 1)) w7)))))))))))) ∧
  ((decide (k < ((v23.len : Nat) : Int))) = false → (again_ (IntKind.i64.wrap (i + 1)) w4)))

def F_towpathlaw01_Book_fillWrite_L0 (b_ : Option Addr) (R : World → Prop) (again_ : Int → World → Prop) (i : Int) (w1 : World) : Prop :=
  IsAt b_ ∧ (∃ (v9 : Slc), w1.cell? ⟨(pblk b_), (poff b_) + 4, none⟩ = some (Value.slice v9.ptr v9.len v9.cap) ∧ (((decide (i < ((v9.len : Nat) : Int))) = true → (IsAt b_ ∧ (∃ (v17 : Slc), w1.cell? ⟨(pblk b_), (poff b_) + 4, none⟩ = some (Value.slice v17.ptr v17.len v17.cap) ∧ (IsAt v17.ptr ∧ (0 ≤ i ∧ i < ((v17.len : Nat) : Int) ∧ (∃ (v20 : T_towpathlaw01_heldWrite), CellsAt w1 (pblk v17.ptr) ((poff v17.ptr) + i.toNat * 3) [Value.slice v20.l.ptr v20.l.len v20.l.cap, Value.slice v20.long.ptr v20.long.len v20.long.cap, Value.int .i64 v20.n] ∧ (∀ b_1 w2, b_1 = w1.heap.size → w2 = w1.alloc (Obj.cells ([Value.slice none 0 0, Value.slice none 0 0, Value.int .i64 0]).toArray ty_towpathlaw01_heldWrite (0, 0)) → (Writable w2 b_1 0 3 ∧ (∀ w3, w3 = World.puts b_1 0 [Value.slice v20.l.ptr v20.l.len v20.l.cap, Value.slice v20.long.ptr v20.long.len v20.long.cap, Value.int .i64 v20.n] w2 → (∃ (I : Int → World → Prop) (μ : Int → World → Nat), I 0 w3 ∧
  ∀ (k : Int) w, I k w → F_towpathlaw01_Book_fillWrite_L1 i again_ b_1 (fun (k' : Int) w' => I k' w' ∧ μ k' w' < μ k w) k w)))))))))) ∧
  ((decide (i < ((v9.len : Nat) : Int))) = false → (R w1))))

def F_towpathlaw01_Book_fillWrite (b_ : Option Addr) (R : World → Prop) (w : World) : Prop :=
  ∃ (I : Int → World → Prop) (μ : Int → World → Nat), I 0 w ∧
  ∀ (i : Int) w, I i w → F_towpathlaw01_Book_fillWrite_L0 b_ R (fun (i' : Int) w' => I i' w' ∧ μ i' w' < μ i w) i w

def F_towpathlaw01_Book_fillEntry_L0 (b_ : Option Addr) (R : World → Prop) (again_ : Int → World → Prop) (i : Int) (w1 : World) : Prop :=
  IsAt b_ ∧ (∃ (v9 : Slc), w1.cell? ⟨(pblk b_), (poff b_) + 5, none⟩ = some (Value.slice v9.ptr v9.len v9.cap) ∧ (((decide (i < ((v9.len : Nat) : Int))) = true → (False)) ∧
  ((decide (i < ((v9.len : Nat) : Int))) = false → (R w1))))

def F_towpathlaw01_Book_fillEntry (b_ : Option Addr) (R : World → Prop) (w : World) : Prop :=
  ∃ (I : Int → World → Prop) (μ : Int → World → Nat), I 0 w ∧
  ∀ (i : Int) w, I i w → F_towpathlaw01_Book_fillEntry_L0 b_ R (fun (i' : Int) w' => I i' w' ∧ μ i' w' < μ i w) i w

def F_towpathlaw01_Book_fillVersion_L0 (b_ : Option Addr) (R : World → Prop) (again_ : Int → World → Prop) (i : Int) (w1 : World) : Prop :=
  IsAt b_ ∧ (∃ (v9 : Slc), w1.cell? ⟨(pblk b_), (poff b_) + 6, none⟩ = some (Value.slice v9.ptr v9.len v9.cap) ∧ (((decide (i < ((v9.len : Nat) : Int))) = true → (False)) ∧
  ((decide (i < ((v9.len : Nat) : Int))) = false → (R w1))))

def F_towpathlaw01_Book_fillVersion (b_ : Option Addr) (R : World → Prop) (w : World) : Prop :=
  ∃ (I : Int → World → Prop) (μ : Int → World → Nat), I 0 w ∧
  ∀ (i : Int) w, I i w → F_towpathlaw01_Book_fillVersion_L0 b_ R (fun (i' : Int) w' => I i' w' ∧ μ i' w' < μ i w) i w

def F_towpathlaw01_Book_fillTxn_L1 (i : Int) (again_ : Int → World → Prop) (b_1 : Nat) (again_1 : Int → World → Prop) (k : Int) (w4 : World) : Prop :=
  ∃ (v23 : Slc), w4.cell? ⟨b_1, 0, none⟩ = some (Value.slice v23.ptr v23.len v23.cap) ∧ (((decide (k < ((v23.len : Nat) : Int))) = true → (∀ w5, (∃ k, w5 = w4.drewN k) → (∃ (v29 : Slc), w5.cell? ⟨b_1, 0, none⟩ = some (Value.slice v29.ptr v29.len v29.cap) ∧ (∃ (v32 : Int), w5.cell? ⟨b_1, 2, none⟩ = some (Value.int .i64 v32) ∧ (C_towpathlaw01_markTxn v32 w5 (fun (v33 : T_api_Txn) w6 => w6.cell? ⟨b_1, 0, none⟩ = some (Value.slice v29.ptr v29.len v29.cap) ∧ (IsAt v29.ptr ∧ (0 ≤ k ∧ k < ((v29.len : Nat) : Int) ∧ (Writable w6 (pblk v29.ptr) ((poff v29.ptr) + k.toNat * 2) 2 ∧ (∀ w7, w7 = World.puts (pblk v29.ptr) ((poff v29.ptr) + k.toNat * 2) [Value.int .i64 v33.Number, Value.slice v33.Writes.ptr v33.Writes.len v33.Writes.cap] w6 → ((again_1 (IntKind.i64.wrap (k + 1)) w7)))))))))))) ∧
  ((decide (k < ((v23.len : Nat) : Int))) = false → (again_ (IntKind.i64.wrap (i + 1)) w4)))

def F_towpathlaw01_Book_fillTxn_L0 (b_ : Option Addr) (R : World → Prop) (again_ : Int → World → Prop) (i : Int) (w1 : World) : Prop :=
  IsAt b_ ∧ (∃ (v9 : Slc), w1.cell? ⟨(pblk b_), (poff b_) + 7, none⟩ = some (Value.slice v9.ptr v9.len v9.cap) ∧ (((decide (i < ((v9.len : Nat) : Int))) = true → (IsAt b_ ∧ (∃ (v17 : Slc), w1.cell? ⟨(pblk b_), (poff b_) + 7, none⟩ = some (Value.slice v17.ptr v17.len v17.cap) ∧ (IsAt v17.ptr ∧ (0 ≤ i ∧ i < ((v17.len : Nat) : Int) ∧ (∃ (v20 : T_towpathlaw01_heldTxn), CellsAt w1 (pblk v17.ptr) ((poff v17.ptr) + i.toNat * 3) [Value.slice v20.l.ptr v20.l.len v20.l.cap, Value.slice v20.long.ptr v20.long.len v20.long.cap, Value.int .i64 v20.n] ∧ (∀ b_1 w2, b_1 = w1.heap.size → w2 = w1.alloc (Obj.cells ([Value.slice none 0 0, Value.slice none 0 0, Value.int .i64 0]).toArray ty_towpathlaw01_heldTxn (0, 0)) → (Writable w2 b_1 0 3 ∧ (∀ w3, w3 = World.puts b_1 0 [Value.slice v20.l.ptr v20.l.len v20.l.cap, Value.slice v20.long.ptr v20.long.len v20.long.cap, Value.int .i64 v20.n] w2 → (∃ (I : Int → World → Prop) (μ : Int → World → Nat), I 0 w3 ∧
  ∀ (k : Int) w, I k w → F_towpathlaw01_Book_fillTxn_L1 i again_ b_1 (fun (k' : Int) w' => I k' w' ∧ μ k' w' < μ k w) k w)))))))))) ∧
  ((decide (i < ((v9.len : Nat) : Int))) = false → (R w1))))

def F_towpathlaw01_Book_fillTxn (b_ : Option Addr) (R : World → Prop) (w : World) : Prop :=
  ∃ (I : Int → World → Prop) (μ : Int → World → Nat), I 0 w ∧
  ∀ (i : Int) w, I i w → F_towpathlaw01_Book_fillTxn_L0 b_ R (fun (i' : Int) w' => I i' w' ∧ μ i' w' < μ i w) i w

def F_towpathlaw01_Book_fillHeld_L0 (b_ : Option Addr) (R : World → Prop) (again_ : Int → World → Prop) (i : Int) (w1 : World) : Prop :=
  IsAt b_ ∧ (∃ (v9 : Slc), w1.cell? ⟨(pblk b_), (poff b_) + 8, none⟩ = some (Value.slice v9.ptr v9.len v9.cap) ∧ (((decide (i < ((v9.len : Nat) : Int))) = true → (False)) ∧
  ((decide (i < ((v9.len : Nat) : Int))) = false → (R w1))))

def F_towpathlaw01_Book_fillHeld (b_ : Option Addr) (R : World → Prop) (w : World) : Prop :=
  ∃ (I : Int → World → Prop) (μ : Int → World → Nat), I 0 w ∧
  ∀ (i : Int) w, I i w → F_towpathlaw01_Book_fillHeld_L0 b_ R (fun (i' : Int) w' => I i' w' ∧ μ i' w' < μ i w) i w

def F_towpathlaw01_Book_fillHeldList_L0 (b_ : Option Addr) (R : World → Prop) (again_ : Int → World → Prop) (i : Int) (w1 : World) : Prop :=
  IsAt b_ ∧ (∃ (v9 : Slc), w1.cell? ⟨(pblk b_), (poff b_) + 9, none⟩ = some (Value.slice v9.ptr v9.len v9.cap) ∧ (((decide (i < ((v9.len : Nat) : Int))) = true → (False)) ∧
  ((decide (i < ((v9.len : Nat) : Int))) = false → (R w1))))

def F_towpathlaw01_Book_fillHeldList (b_ : Option Addr) (R : World → Prop) (w : World) : Prop :=
  ∃ (I : Int → World → Prop) (μ : Int → World → Nat), I 0 w ∧
  ∀ (i : Int) w, I i w → F_towpathlaw01_Book_fillHeldList_L0 b_ R (fun (i' : Int) w' => I i' w' ∧ μ i' w' < μ i w) i w

def F_towpathlaw01_Book_fillEvent_L0 (b_ : Option Addr) (R : World → Prop) (again_ : Int → World → Prop) (i : Int) (w1 : World) : Prop :=
  IsAt b_ ∧ (∃ (v9 : Slc), w1.cell? ⟨(pblk b_), (poff b_) + 10, none⟩ = some (Value.slice v9.ptr v9.len v9.cap) ∧ (((decide (i < ((v9.len : Nat) : Int))) = true → (False)) ∧
  ((decide (i < ((v9.len : Nat) : Int))) = false → (R w1))))

def F_towpathlaw01_Book_fillEvent (b_ : Option Addr) (R : World → Prop) (w : World) : Prop :=
  ∃ (I : Int → World → Prop) (μ : Int → World → Nat), I 0 w ∧
  ∀ (i : Int) w, I i w → F_towpathlaw01_Book_fillEvent_L0 b_ R (fun (i' : Int) w' => I i' w' ∧ μ i' w' < μ i w) i w

def F_towpathlaw01_Book_fillAnswer_L0 (b_ : Option Addr) (R : World → Prop) (again_ : Int → World → Prop) (i : Int) (w1 : World) : Prop :=
  IsAt b_ ∧ (∃ (v9 : Slc), w1.cell? ⟨(pblk b_), (poff b_) + 11, none⟩ = some (Value.slice v9.ptr v9.len v9.cap) ∧ (((decide (i < ((v9.len : Nat) : Int))) = true → (False)) ∧
  ((decide (i < ((v9.len : Nat) : Int))) = false → (R w1))))

def F_towpathlaw01_Book_fillAnswer (b_ : Option Addr) (R : World → Prop) (w : World) : Prop :=
  ∃ (I : Int → World → Prop) (μ : Int → World → Nat), I 0 w ∧
  ∀ (i : Int) w, I i w → F_towpathlaw01_Book_fillAnswer_L0 b_ R (fun (i' : Int) w' => I i' w' ∧ μ i' w' < μ i w) i w

def F_towpathlaw01_Book_growByte_L1 (b_ : Option Addr) (i : Int) (again_ : Int → World → Prop) (b_1 : Nat) (again_1 : Slc → Int → World → Prop) (long1 : Slc) (k : Int) (w4 : World) : Prop :=
  ((decide (k < 70)) = true → (∃ (v30 : Int), w4.cell? ⟨b_1, 2, none⟩ = some (Value.int .i64 v30) ∧ (C_towpathlaw01_markByte v30 w4 (fun (v31 : Int) w5 => ∀ b_2 w6, b_2 = w5.heap.size → w6 = w5.alloc (Obj.cells ([Value.int .u8 v31]).toArray ty_uint8 (0, 0)) → (∃ src, SrcAt w6 (Slc.mk (some ⟨b_2, 0, none⟩) 1 1) 1 src ∧ AppendW 1 1 ty_uint8 [Value.int .u8 0] long1 src 1 w6 (fun long2 w7 => again_1 long2 (IntKind.i64.wrap (k + 1)) w7)))))) ∧
  ((decide (k < 70)) = false → (IsAt b_ ∧ (∃ (v37 : Slc), w4.cell? ⟨(pblk b_), (poff b_) + 1, none⟩ = some (Value.slice v37.ptr v37.len v37.cap) ∧ (IsAt v37.ptr ∧ (0 ≤ i ∧ i < ((v37.len : Nat) : Int) ∧ (Writable w4 (pblk v37.ptr) (((poff v37.ptr) + i.toNat * 3) + 1) 1 ∧ (∀ w8, w8 = World.puts (pblk v37.ptr) (((poff v37.ptr) + i.toNat * 3) + 1) [Value.slice long1.ptr long1.len long1.cap] w4 → (again_ (IntKind.i64.wrap (i + 1)) w8))))))))

def F_towpathlaw01_Book_growByte_L0 (b_ : Option Addr) (R : World → Prop) (again_ : Int → World → Prop) (i : Int) (w1 : World) : Prop :=
  IsAt b_ ∧ (∃ (v10 : Slc), w1.cell? ⟨(pblk b_), (poff b_) + 1, none⟩ = some (Value.slice v10.ptr v10.len v10.cap) ∧ (((decide (i < ((v10.len : Nat) : Int))) = true → (IsAt b_ ∧ (∃ (v18 : Slc), w1.cell? ⟨(pblk b_), (poff b_) + 1, none⟩ = some (Value.slice v18.ptr v18.len v18.cap) ∧ (IsAt v18.ptr ∧ (0 ≤ i ∧ i < ((v18.len : Nat) : Int) ∧ (∃ (v21 : T_towpathlaw01_heldByte), CellsAt w1 (pblk v18.ptr) ((poff v18.ptr) + i.toNat * 3) [Value.slice v21.l.ptr v21.l.len v21.l.cap, Value.slice v21.long.ptr v21.long.len v21.long.cap, Value.int .i64 v21.n] ∧ (∀ b_1 w2, b_1 = w1.heap.size → w2 = w1.alloc (Obj.cells ([Value.slice none 0 0, Value.slice none 0 0, Value.int .i64 0]).toArray ty_towpathlaw01_heldByte (0, 0)) → (Writable w2 b_1 0 3 ∧ (∀ w3, w3 = World.puts b_1 0 [Value.slice v21.l.ptr v21.l.len v21.l.cap, Value.slice v21.long.ptr v21.long.len v21.long.cap, Value.int .i64 v21.n] w2 → (∃ (long : Slc), w3.cell? ⟨b_1, 0, none⟩ = some (Value.slice long.ptr long.len long.cap) ∧ (∃ (I : Slc → Int → World → Prop) (μ : Slc → Int → World → Nat), I long 0 w3 ∧
  ∀ (long1 : Slc) (k : Int) w, I long1 k w → F_towpathlaw01_Book_growByte_L1 b_ i again_ b_1 (fun (long1' : Slc) (k' : Int) w' => I long1' k' w' ∧ μ long1' k' w' < μ long1 k w) long1 k w))))))))))) ∧
  ((decide (i < ((v10.len : Nat) : Int))) = false → (R w1))))

def F_towpathlaw01_Book_growByte (b_ : Option Addr) (R : World → Prop) (w : World) : Prop :=
  ∃ (I : Int → World → Prop) (μ : Int → World → Nat), I 0 w ∧
  ∀ (i : Int) w, I i w → F_towpathlaw01_Book_growByte_L0 b_ R (fun (i' : Int) w' => I i' w' ∧ μ i' w' < μ i w) i w

def F_towpathlaw01_Book_growInt_L0 (b_ : Option Addr) (R : World → Prop) (again_ : Int → World → Prop) (i : Int) (w1 : World) : Prop :=
  IsAt b_ ∧ (∃ (v10 : Slc), w1.cell? ⟨(pblk b_), (poff b_) + 2, none⟩ = some (Value.slice v10.ptr v10.len v10.cap) ∧ (((decide (i < ((v10.len : Nat) : Int))) = true → (False)) ∧
  ((decide (i < ((v10.len : Nat) : Int))) = false → (R w1))))

def F_towpathlaw01_Book_growInt (b_ : Option Addr) (R : World → Prop) (w : World) : Prop :=
  ∃ (I : Int → World → Prop) (μ : Int → World → Nat), I 0 w ∧
  ∀ (i : Int) w, I i w → F_towpathlaw01_Book_growInt_L0 b_ R (fun (i' : Int) w' => I i' w' ∧ μ i' w' < μ i w) i w

def F_towpathlaw01_Book_growText_L0 (b_ : Option Addr) (R : World → Prop) (again_ : Int → World → Prop) (i : Int) (w1 : World) : Prop :=
  IsAt b_ ∧ (∃ (v10 : Slc), w1.cell? ⟨(pblk b_), (poff b_) + 3, none⟩ = some (Value.slice v10.ptr v10.len v10.cap) ∧ (((decide (i < ((v10.len : Nat) : Int))) = true → (False)) ∧
  ((decide (i < ((v10.len : Nat) : Int))) = false → (R w1))))

def F_towpathlaw01_Book_growText (b_ : Option Addr) (R : World → Prop) (w : World) : Prop :=
  ∃ (I : Int → World → Prop) (μ : Int → World → Nat), I 0 w ∧
  ∀ (i : Int) w, I i w → F_towpathlaw01_Book_growText_L0 b_ R (fun (i' : Int) w' => I i' w' ∧ μ i' w' < μ i w) i w

def F_towpathlaw01_Book_growWrite_L1 (b_ : Option Addr) (i : Int) (again_ : Int → World → Prop) (b_1 : Nat) (again_1 : Slc → Int → World → Prop) (long1 : Slc) (k : Int) (w4 : World) : Prop :=
  ((decide (k < 70)) = true → (∃ (v30 : Int), w4.cell? ⟨b_1, 2, none⟩ = some (Value.int .i64 v30) ∧ (C_towpathlaw01_markWrite v30 w4 (fun (v31 : T_api_Write) w5 => ∀ b_2 w6, b_2 = w5.heap.size → w6 = w5.alloc (Obj.cells ([Value.string v31.Key, Value.string v31.Val, Value.bool v31.Drop]).toArray ty_api_Write (0, 0)) → (∃ src, SrcAt w6 (Slc.mk (some ⟨b_2, 0, none⟩) 1 1) 3 src ∧ AppendW 3 40 ty_api_Write [Value.string ByteArray.empty, Value.string ByteArray.empty, Value.bool false] long1 src 1 w6 (fun long2 w7 => again_1 long2 (IntKind.i64.wrap (k + 1)) w7)))))) ∧
  ((decide (k < 70)) = false → (IsAt b_ ∧ (∃ (v37 : Slc), w4.cell? ⟨(pblk b_), (poff b_) + 4, none⟩ = some (Value.slice v37.ptr v37.len v37.cap) ∧ (IsAt v37.ptr ∧ (0 ≤ i ∧ i < ((v37.len : Nat) : Int) ∧ (Writable w4 (pblk v37.ptr) (((poff v37.ptr) + i.toNat * 3) + 1) 1 ∧ (∀ w8, w8 = World.puts (pblk v37.ptr) (((poff v37.ptr) + i.toNat * 3) + 1) [Value.slice long1.ptr long1.len long1.cap] w4 → (again_ (IntKind.i64.wrap (i + 1)) w8))))))))

def F_towpathlaw01_Book_growWrite_L0 (b_ : Option Addr) (R : World → Prop) (again_ : Int → World → Prop) (i : Int) (w1 : World) : Prop :=
  IsAt b_ ∧ (∃ (v10 : Slc), w1.cell? ⟨(pblk b_), (poff b_) + 4, none⟩ = some (Value.slice v10.ptr v10.len v10.cap) ∧ (((decide (i < ((v10.len : Nat) : Int))) = true → (IsAt b_ ∧ (∃ (v18 : Slc), w1.cell? ⟨(pblk b_), (poff b_) + 4, none⟩ = some (Value.slice v18.ptr v18.len v18.cap) ∧ (IsAt v18.ptr ∧ (0 ≤ i ∧ i < ((v18.len : Nat) : Int) ∧ (∃ (v21 : T_towpathlaw01_heldWrite), CellsAt w1 (pblk v18.ptr) ((poff v18.ptr) + i.toNat * 3) [Value.slice v21.l.ptr v21.l.len v21.l.cap, Value.slice v21.long.ptr v21.long.len v21.long.cap, Value.int .i64 v21.n] ∧ (∀ b_1 w2, b_1 = w1.heap.size → w2 = w1.alloc (Obj.cells ([Value.slice none 0 0, Value.slice none 0 0, Value.int .i64 0]).toArray ty_towpathlaw01_heldWrite (0, 0)) → (Writable w2 b_1 0 3 ∧ (∀ w3, w3 = World.puts b_1 0 [Value.slice v21.l.ptr v21.l.len v21.l.cap, Value.slice v21.long.ptr v21.long.len v21.long.cap, Value.int .i64 v21.n] w2 → (∃ (long : Slc), w3.cell? ⟨b_1, 0, none⟩ = some (Value.slice long.ptr long.len long.cap) ∧ (∃ (I : Slc → Int → World → Prop) (μ : Slc → Int → World → Nat), I long 0 w3 ∧
  ∀ (long1 : Slc) (k : Int) w, I long1 k w → F_towpathlaw01_Book_growWrite_L1 b_ i again_ b_1 (fun (long1' : Slc) (k' : Int) w' => I long1' k' w' ∧ μ long1' k' w' < μ long1 k w) long1 k w))))))))))) ∧
  ((decide (i < ((v10.len : Nat) : Int))) = false → (R w1))))

def F_towpathlaw01_Book_growWrite (b_ : Option Addr) (R : World → Prop) (w : World) : Prop :=
  ∃ (I : Int → World → Prop) (μ : Int → World → Nat), I 0 w ∧
  ∀ (i : Int) w, I i w → F_towpathlaw01_Book_growWrite_L0 b_ R (fun (i' : Int) w' => I i' w' ∧ μ i' w' < μ i w) i w

def F_towpathlaw01_Book_growEntry_L0 (b_ : Option Addr) (R : World → Prop) (again_ : Int → World → Prop) (i : Int) (w1 : World) : Prop :=
  IsAt b_ ∧ (∃ (v10 : Slc), w1.cell? ⟨(pblk b_), (poff b_) + 5, none⟩ = some (Value.slice v10.ptr v10.len v10.cap) ∧ (((decide (i < ((v10.len : Nat) : Int))) = true → (False)) ∧
  ((decide (i < ((v10.len : Nat) : Int))) = false → (R w1))))

def F_towpathlaw01_Book_growEntry (b_ : Option Addr) (R : World → Prop) (w : World) : Prop :=
  ∃ (I : Int → World → Prop) (μ : Int → World → Nat), I 0 w ∧
  ∀ (i : Int) w, I i w → F_towpathlaw01_Book_growEntry_L0 b_ R (fun (i' : Int) w' => I i' w' ∧ μ i' w' < μ i w) i w

def F_towpathlaw01_Book_growVersion_L0 (b_ : Option Addr) (R : World → Prop) (again_ : Int → World → Prop) (i : Int) (w1 : World) : Prop :=
  IsAt b_ ∧ (∃ (v10 : Slc), w1.cell? ⟨(pblk b_), (poff b_) + 6, none⟩ = some (Value.slice v10.ptr v10.len v10.cap) ∧ (((decide (i < ((v10.len : Nat) : Int))) = true → (False)) ∧
  ((decide (i < ((v10.len : Nat) : Int))) = false → (R w1))))

def F_towpathlaw01_Book_growVersion (b_ : Option Addr) (R : World → Prop) (w : World) : Prop :=
  ∃ (I : Int → World → Prop) (μ : Int → World → Nat), I 0 w ∧
  ∀ (i : Int) w, I i w → F_towpathlaw01_Book_growVersion_L0 b_ R (fun (i' : Int) w' => I i' w' ∧ μ i' w' < μ i w) i w

def F_towpathlaw01_Book_growTxn_L1 (b_ : Option Addr) (i : Int) (again_ : Int → World → Prop) (b_1 : Nat) (again_1 : Slc → Int → World → Prop) (long1 : Slc) (k : Int) (w4 : World) : Prop :=
  ((decide (k < 70)) = true → (∃ (v30 : Int), w4.cell? ⟨b_1, 2, none⟩ = some (Value.int .i64 v30) ∧ (C_towpathlaw01_markTxn v30 w4 (fun (v31 : T_api_Txn) w5 => ∀ b_2 w6, b_2 = w5.heap.size → w6 = w5.alloc (Obj.cells ([Value.int .i64 v31.Number, Value.slice v31.Writes.ptr v31.Writes.len v31.Writes.cap]).toArray ty_api_Txn (0, 0)) → (∃ src, SrcAt w6 (Slc.mk (some ⟨b_2, 0, none⟩) 1 1) 2 src ∧ AppendW 2 32 ty_api_Txn [Value.int .i64 0, Value.slice none 0 0] long1 src 1 w6 (fun long2 w7 => again_1 long2 (IntKind.i64.wrap (k + 1)) w7)))))) ∧
  ((decide (k < 70)) = false → (IsAt b_ ∧ (∃ (v37 : Slc), w4.cell? ⟨(pblk b_), (poff b_) + 7, none⟩ = some (Value.slice v37.ptr v37.len v37.cap) ∧ (IsAt v37.ptr ∧ (0 ≤ i ∧ i < ((v37.len : Nat) : Int) ∧ (Writable w4 (pblk v37.ptr) (((poff v37.ptr) + i.toNat * 3) + 1) 1 ∧ (∀ w8, w8 = World.puts (pblk v37.ptr) (((poff v37.ptr) + i.toNat * 3) + 1) [Value.slice long1.ptr long1.len long1.cap] w4 → (again_ (IntKind.i64.wrap (i + 1)) w8))))))))

def F_towpathlaw01_Book_growTxn_L0 (b_ : Option Addr) (R : World → Prop) (again_ : Int → World → Prop) (i : Int) (w1 : World) : Prop :=
  IsAt b_ ∧ (∃ (v10 : Slc), w1.cell? ⟨(pblk b_), (poff b_) + 7, none⟩ = some (Value.slice v10.ptr v10.len v10.cap) ∧ (((decide (i < ((v10.len : Nat) : Int))) = true → (IsAt b_ ∧ (∃ (v18 : Slc), w1.cell? ⟨(pblk b_), (poff b_) + 7, none⟩ = some (Value.slice v18.ptr v18.len v18.cap) ∧ (IsAt v18.ptr ∧ (0 ≤ i ∧ i < ((v18.len : Nat) : Int) ∧ (∃ (v21 : T_towpathlaw01_heldTxn), CellsAt w1 (pblk v18.ptr) ((poff v18.ptr) + i.toNat * 3) [Value.slice v21.l.ptr v21.l.len v21.l.cap, Value.slice v21.long.ptr v21.long.len v21.long.cap, Value.int .i64 v21.n] ∧ (∀ b_1 w2, b_1 = w1.heap.size → w2 = w1.alloc (Obj.cells ([Value.slice none 0 0, Value.slice none 0 0, Value.int .i64 0]).toArray ty_towpathlaw01_heldTxn (0, 0)) → (Writable w2 b_1 0 3 ∧ (∀ w3, w3 = World.puts b_1 0 [Value.slice v21.l.ptr v21.l.len v21.l.cap, Value.slice v21.long.ptr v21.long.len v21.long.cap, Value.int .i64 v21.n] w2 → (∃ (long : Slc), w3.cell? ⟨b_1, 0, none⟩ = some (Value.slice long.ptr long.len long.cap) ∧ (∃ (I : Slc → Int → World → Prop) (μ : Slc → Int → World → Nat), I long 0 w3 ∧
  ∀ (long1 : Slc) (k : Int) w, I long1 k w → F_towpathlaw01_Book_growTxn_L1 b_ i again_ b_1 (fun (long1' : Slc) (k' : Int) w' => I long1' k' w' ∧ μ long1' k' w' < μ long1 k w) long1 k w))))))))))) ∧
  ((decide (i < ((v10.len : Nat) : Int))) = false → (R w1))))

def F_towpathlaw01_Book_growTxn (b_ : Option Addr) (R : World → Prop) (w : World) : Prop :=
  ∃ (I : Int → World → Prop) (μ : Int → World → Nat), I 0 w ∧
  ∀ (i : Int) w, I i w → F_towpathlaw01_Book_growTxn_L0 b_ R (fun (i' : Int) w' => I i' w' ∧ μ i' w' < μ i w) i w

def F_towpathlaw01_Book_growHeld_L0 (b_ : Option Addr) (R : World → Prop) (again_ : Int → World → Prop) (i : Int) (w1 : World) : Prop :=
  IsAt b_ ∧ (∃ (v10 : Slc), w1.cell? ⟨(pblk b_), (poff b_) + 8, none⟩ = some (Value.slice v10.ptr v10.len v10.cap) ∧ (((decide (i < ((v10.len : Nat) : Int))) = true → (False)) ∧
  ((decide (i < ((v10.len : Nat) : Int))) = false → (R w1))))

def F_towpathlaw01_Book_growHeld (b_ : Option Addr) (R : World → Prop) (w : World) : Prop :=
  ∃ (I : Int → World → Prop) (μ : Int → World → Nat), I 0 w ∧
  ∀ (i : Int) w, I i w → F_towpathlaw01_Book_growHeld_L0 b_ R (fun (i' : Int) w' => I i' w' ∧ μ i' w' < μ i w) i w

def F_towpathlaw01_Book_growHeldList_L0 (b_ : Option Addr) (R : World → Prop) (again_ : Int → World → Prop) (i : Int) (w1 : World) : Prop :=
  IsAt b_ ∧ (∃ (v10 : Slc), w1.cell? ⟨(pblk b_), (poff b_) + 9, none⟩ = some (Value.slice v10.ptr v10.len v10.cap) ∧ (((decide (i < ((v10.len : Nat) : Int))) = true → (False)) ∧
  ((decide (i < ((v10.len : Nat) : Int))) = false → (R w1))))

def F_towpathlaw01_Book_growHeldList (b_ : Option Addr) (R : World → Prop) (w : World) : Prop :=
  ∃ (I : Int → World → Prop) (μ : Int → World → Nat), I 0 w ∧
  ∀ (i : Int) w, I i w → F_towpathlaw01_Book_growHeldList_L0 b_ R (fun (i' : Int) w' => I i' w' ∧ μ i' w' < μ i w) i w

def F_towpathlaw01_Book_growEvent_L0 (b_ : Option Addr) (R : World → Prop) (again_ : Int → World → Prop) (i : Int) (w1 : World) : Prop :=
  IsAt b_ ∧ (∃ (v10 : Slc), w1.cell? ⟨(pblk b_), (poff b_) + 10, none⟩ = some (Value.slice v10.ptr v10.len v10.cap) ∧ (((decide (i < ((v10.len : Nat) : Int))) = true → (False)) ∧
  ((decide (i < ((v10.len : Nat) : Int))) = false → (R w1))))

def F_towpathlaw01_Book_growEvent (b_ : Option Addr) (R : World → Prop) (w : World) : Prop :=
  ∃ (I : Int → World → Prop) (μ : Int → World → Nat), I 0 w ∧
  ∀ (i : Int) w, I i w → F_towpathlaw01_Book_growEvent_L0 b_ R (fun (i' : Int) w' => I i' w' ∧ μ i' w' < μ i w) i w

def F_towpathlaw01_Book_growAnswer_L0 (b_ : Option Addr) (R : World → Prop) (again_ : Int → World → Prop) (i : Int) (w1 : World) : Prop :=
  IsAt b_ ∧ (∃ (v10 : Slc), w1.cell? ⟨(pblk b_), (poff b_) + 11, none⟩ = some (Value.slice v10.ptr v10.len v10.cap) ∧ (((decide (i < ((v10.len : Nat) : Int))) = true → (False)) ∧
  ((decide (i < ((v10.len : Nat) : Int))) = false → (R w1))))

def F_towpathlaw01_Book_growAnswer (b_ : Option Addr) (R : World → Prop) (w : World) : Prop :=
  ∃ (I : Int → World → Prop) (μ : Int → World → Nat), I 0 w ∧
  ∀ (i : Int) w, I i w → F_towpathlaw01_Book_growAnswer_L0 b_ R (fun (i' : Int) w' => I i' w' ∧ μ i' w' < μ i w) i w

def F_towpathlaw01_Book_lookByte_k2 (R : Bool → World → Prop) (k : Int) (again_1 : Int → World → Prop) (t63 : Bool) (w5 : World) : Prop :=
  (t63 = true → (R false w5)) ∧
  (t63 = false → (again_1 (IntKind.i64.wrap (k + 1)) w5))

def F_towpathlaw01_Book_lookByte_L1 (R : Bool → World → Prop) (i : Int) (again_ : Int → World → Prop) (b_1 : Nat) (again_1 : Int → World → Prop) (k : Int) (w4 : World) : Prop :=
  ∃ (v32 : Slc), w4.cell? ⟨b_1, 1, none⟩ = some (Value.slice v32.ptr v32.len v32.cap) ∧ (((decide (k < ((v32.len : Nat) : Int))) = true → (∃ (v38 : Slc), w4.cell? ⟨b_1, 1, none⟩ = some (Value.slice v38.ptr v38.len v38.cap) ∧ (IsAt v38.ptr ∧ (0 ≤ k ∧ k < ((v38.len : Nat) : Int) ∧ (∃ (v41 : Int), w4.cell? ⟨(pblk v38.ptr), (poff v38.ptr) + k.toNat, none⟩ = some (Value.int .u8 v41) ∧ (∃ (v43 : Int), w4.cell? ⟨b_1, 2, none⟩ = some (Value.int .i64 v43) ∧ (∃ (v44 : Bool), (∀ w', Ext w4 w' → C_towpathlaw01_isByte v41 v43 w' (fun (v44' : Bool) w'' => v44' = v44 ∧ Ext w' w'')) ∧ (((!v44) = true → (∀ w7, Ext w4 w7 → (F_towpathlaw01_Book_lookByte_k2 R k again_1 true w7))) ∧
  ((!v44) = false → (∃ (v49 : Slc), w4.cell? ⟨b_1, 0, none⟩ = some (Value.slice v49.ptr v49.len v49.cap) ∧ (((decide (k < ((v49.len : Nat) : Int))) = true → (∃ (v54 : Slc), w4.cell? ⟨b_1, 0, none⟩ = some (Value.slice v54.ptr v54.len v54.cap) ∧ (IsAt v54.ptr ∧ (0 ≤ k ∧ k < ((v54.len : Nat) : Int) ∧ (∃ (v57 : Int), w4.cell? ⟨(pblk v54.ptr), (poff v54.ptr) + k.toNat, none⟩ = some (Value.int .u8 v57) ∧ (∃ (v59 : Int), w4.cell? ⟨b_1, 2, none⟩ = some (Value.int .i64 v59) ∧ (∃ (v60 : Bool), (∀ w', Ext w4 w' → C_towpathlaw01_isByte v57 v59 w' (fun (v60' : Bool) w'' => v60' = v60 ∧ Ext w' w'')) ∧ (∀ w9, Ext w4 w9 → (F_towpathlaw01_Book_lookByte_k2 R k again_1 (!v60) w9))))))))) ∧
  ((decide (k < ((v49.len : Nat) : Int))) = false → (∀ w10, Ext w4 w10 → (F_towpathlaw01_Book_lookByte_k2 R k again_1 false w10)))))))))))))) ∧
  ((decide (k < ((v32.len : Nat) : Int))) = false → (again_ (IntKind.i64.wrap (i + 1)) w4)))

def F_towpathlaw01_Book_lookByte_L0 (b_ : Option Addr) (R : Bool → World → Prop) (again_ : Int → World → Prop) (i : Int) (w1 : World) : Prop :=
  IsAt b_ ∧ (∃ (v10 : Slc), w1.cell? ⟨(pblk b_), (poff b_) + 1, none⟩ = some (Value.slice v10.ptr v10.len v10.cap) ∧ (((decide (i < ((v10.len : Nat) : Int))) = true → (IsAt b_ ∧ (∃ (v18 : Slc), w1.cell? ⟨(pblk b_), (poff b_) + 1, none⟩ = some (Value.slice v18.ptr v18.len v18.cap) ∧ (IsAt v18.ptr ∧ (0 ≤ i ∧ i < ((v18.len : Nat) : Int) ∧ (∃ (v21 : T_towpathlaw01_heldByte), CellsAt w1 (pblk v18.ptr) ((poff v18.ptr) + i.toNat * 3) [Value.slice v21.l.ptr v21.l.len v21.l.cap, Value.slice v21.long.ptr v21.long.len v21.long.cap, Value.int .i64 v21.n] ∧ (∀ b_1 w2, b_1 = w1.heap.size → w2 = w1.alloc (Obj.cells ([Value.slice none 0 0, Value.slice none 0 0, Value.int .i64 0]).toArray ty_towpathlaw01_heldByte (0, 0)) → (Writable w2 b_1 0 3 ∧ (∀ w3, w3 = World.puts b_1 0 [Value.slice v21.l.ptr v21.l.len v21.l.cap, Value.slice v21.long.ptr v21.long.len v21.long.cap, Value.int .i64 v21.n] w2 → (∃ (v23 : Slc), w3.cell? ⟨b_1, 1, none⟩ = some (Value.slice v23.ptr v23.len v23.cap) ∧ (∃ (v26 : Slc), w3.cell? ⟨b_1, 0, none⟩ = some (Value.slice v26.ptr v26.len v26.cap) ∧ (((((v23.len : Nat) : Int) != (IntKind.i64.wrap (((v26.len : Nat) : Int) + 70))) = true → (R false w3)) ∧
  ((((v23.len : Nat) : Int) != (IntKind.i64.wrap (((v26.len : Nat) : Int) + 70))) = false → (∃ (I : Int → World → Prop) (μ : Int → World → Nat), I 0 w3 ∧
  ∀ (k : Int) w, I k w → F_towpathlaw01_Book_lookByte_L1 R i again_ b_1 (fun (k' : Int) w' => I k' w' ∧ μ k' w' < μ k w) k w)))))))))))))) ∧
  ((decide (i < ((v10.len : Nat) : Int))) = false → (R true w1))))

def F_towpathlaw01_Book_lookByte (b_ : Option Addr) (R : Bool → World → Prop) (w : World) : Prop :=
  ∃ (I : Int → World → Prop) (μ : Int → World → Nat), I 0 w ∧
  ∀ (i : Int) w, I i w → F_towpathlaw01_Book_lookByte_L0 b_ R (fun (i' : Int) w' => I i' w' ∧ μ i' w' < μ i w) i w

def F_towpathlaw01_Book_lookInt_L0 (b_ : Option Addr) (R : Bool → World → Prop) (again_ : Int → World → Prop) (i : Int) (w1 : World) : Prop :=
  IsAt b_ ∧ (∃ (v10 : Slc), w1.cell? ⟨(pblk b_), (poff b_) + 2, none⟩ = some (Value.slice v10.ptr v10.len v10.cap) ∧ (((decide (i < ((v10.len : Nat) : Int))) = true → (False)) ∧
  ((decide (i < ((v10.len : Nat) : Int))) = false → (R true w1))))

def F_towpathlaw01_Book_lookInt (b_ : Option Addr) (R : Bool → World → Prop) (w : World) : Prop :=
  ∃ (I : Int → World → Prop) (μ : Int → World → Nat), I 0 w ∧
  ∀ (i : Int) w, I i w → F_towpathlaw01_Book_lookInt_L0 b_ R (fun (i' : Int) w' => I i' w' ∧ μ i' w' < μ i w) i w

def F_towpathlaw01_Book_lookText_L0 (b_ : Option Addr) (R : Bool → World → Prop) (again_ : Int → World → Prop) (i : Int) (w1 : World) : Prop :=
  IsAt b_ ∧ (∃ (v10 : Slc), w1.cell? ⟨(pblk b_), (poff b_) + 3, none⟩ = some (Value.slice v10.ptr v10.len v10.cap) ∧ (((decide (i < ((v10.len : Nat) : Int))) = true → (False)) ∧
  ((decide (i < ((v10.len : Nat) : Int))) = false → (R true w1))))

def F_towpathlaw01_Book_lookText (b_ : Option Addr) (R : Bool → World → Prop) (w : World) : Prop :=
  ∃ (I : Int → World → Prop) (μ : Int → World → Nat), I 0 w ∧
  ∀ (i : Int) w, I i w → F_towpathlaw01_Book_lookText_L0 b_ R (fun (i' : Int) w' => I i' w' ∧ μ i' w' < μ i w) i w

def F_towpathlaw01_Book_lookWrite_k2 (R : Bool → World → Prop) (k : Int) (again_1 : Int → World → Prop) (t63 : Bool) (w5 : World) : Prop :=
  (t63 = true → (R false w5)) ∧
  (t63 = false → (again_1 (IntKind.i64.wrap (k + 1)) w5))

def F_towpathlaw01_Book_lookWrite_L1 (R : Bool → World → Prop) (i : Int) (again_ : Int → World → Prop) (b_1 : Nat) (again_1 : Int → World → Prop) (k : Int) (w4 : World) : Prop :=
  ∃ (v32 : Slc), w4.cell? ⟨b_1, 1, none⟩ = some (Value.slice v32.ptr v32.len v32.cap) ∧ (((decide (k < ((v32.len : Nat) : Int))) = true → (∀ w6, (∃ k, w6 = w4.drewN k) → (∃ (v38 : Slc), w6.cell? ⟨b_1, 1, none⟩ = some (Value.slice v38.ptr v38.len v38.cap) ∧ (IsAt v38.ptr ∧ (0 ≤ k ∧ k < ((v38.len : Nat) : Int) ∧ (∃ (v41 : T_api_Write), CellsAt w6 (pblk v38.ptr) ((poff v38.ptr) + k.toNat * 3) [Value.string v41.Key, Value.string v41.Val, Value.bool v41.Drop] ∧ (∃ (v43 : Int), w6.cell? ⟨b_1, 2, none⟩ = some (Value.int .i64 v43) ∧ (C_towpathlaw01_isWrite v41 v43 w6 (fun (v44 : Bool) w7 => (((!v44) = true → (F_towpathlaw01_Book_lookWrite_k2 R k again_1 true w7)) ∧
  ((!v44) = false → (∃ (v49 : Slc), w7.cell? ⟨b_1, 0, none⟩ = some (Value.slice v49.ptr v49.len v49.cap) ∧ (((decide (k < ((v49.len : Nat) : Int))) = true → (∃ (v54 : Slc), w7.cell? ⟨b_1, 0, none⟩ = some (Value.slice v54.ptr v54.len v54.cap) ∧ (IsAt v54.ptr ∧ (0 ≤ k ∧ k < ((v54.len : Nat) : Int) ∧ (∃ (v57 : T_api_Write), CellsAt w7 (pblk v54.ptr) ((poff v54.ptr) + k.toNat * 3) [Value.string v57.Key, Value.string v57.Val, Value.bool v57.Drop] ∧ (∃ (v59 : Int), w7.cell? ⟨b_1, 2, none⟩ = some (Value.int .i64 v59) ∧ (C_towpathlaw01_isWrite v57 v59 w7 (fun (v60 : Bool) w8 => (F_towpathlaw01_Book_lookWrite_k2 R k again_1 (!v60) w8))))))))) ∧
  ((decide (k < ((v49.len : Nat) : Int))) = false → (F_towpathlaw01_Book_lookWrite_k2 R k again_1 false w7))))))))))))))) ∧
  ((decide (k < ((v32.len : Nat) : Int))) = false → (again_ (IntKind.i64.wrap (i + 1)) w4)))

def F_towpathlaw01_Book_lookWrite_L0 (b_ : Option Addr) (R : Bool → World → Prop) (again_ : Int → World → Prop) (i : Int) (w1 : World) : Prop :=
  IsAt b_ ∧ (∃ (v10 : Slc), w1.cell? ⟨(pblk b_), (poff b_) + 4, none⟩ = some (Value.slice v10.ptr v10.len v10.cap) ∧ (((decide (i < ((v10.len : Nat) : Int))) = true → (IsAt b_ ∧ (∃ (v18 : Slc), w1.cell? ⟨(pblk b_), (poff b_) + 4, none⟩ = some (Value.slice v18.ptr v18.len v18.cap) ∧ (IsAt v18.ptr ∧ (0 ≤ i ∧ i < ((v18.len : Nat) : Int) ∧ (∃ (v21 : T_towpathlaw01_heldWrite), CellsAt w1 (pblk v18.ptr) ((poff v18.ptr) + i.toNat * 3) [Value.slice v21.l.ptr v21.l.len v21.l.cap, Value.slice v21.long.ptr v21.long.len v21.long.cap, Value.int .i64 v21.n] ∧ (∀ b_1 w2, b_1 = w1.heap.size → w2 = w1.alloc (Obj.cells ([Value.slice none 0 0, Value.slice none 0 0, Value.int .i64 0]).toArray ty_towpathlaw01_heldWrite (0, 0)) → (Writable w2 b_1 0 3 ∧ (∀ w3, w3 = World.puts b_1 0 [Value.slice v21.l.ptr v21.l.len v21.l.cap, Value.slice v21.long.ptr v21.long.len v21.long.cap, Value.int .i64 v21.n] w2 → (∃ (v23 : Slc), w3.cell? ⟨b_1, 1, none⟩ = some (Value.slice v23.ptr v23.len v23.cap) ∧ (∃ (v26 : Slc), w3.cell? ⟨b_1, 0, none⟩ = some (Value.slice v26.ptr v26.len v26.cap) ∧ (((((v23.len : Nat) : Int) != (IntKind.i64.wrap (((v26.len : Nat) : Int) + 70))) = true → (R false w3)) ∧
  ((((v23.len : Nat) : Int) != (IntKind.i64.wrap (((v26.len : Nat) : Int) + 70))) = false → (∃ (I : Int → World → Prop) (μ : Int → World → Nat), I 0 w3 ∧
  ∀ (k : Int) w, I k w → F_towpathlaw01_Book_lookWrite_L1 R i again_ b_1 (fun (k' : Int) w' => I k' w' ∧ μ k' w' < μ k w) k w)))))))))))))) ∧
  ((decide (i < ((v10.len : Nat) : Int))) = false → (R true w1))))

def F_towpathlaw01_Book_lookWrite (b_ : Option Addr) (R : Bool → World → Prop) (w : World) : Prop :=
  ∃ (I : Int → World → Prop) (μ : Int → World → Nat), I 0 w ∧
  ∀ (i : Int) w, I i w → F_towpathlaw01_Book_lookWrite_L0 b_ R (fun (i' : Int) w' => I i' w' ∧ μ i' w' < μ i w) i w

def F_towpathlaw01_Book_lookEntry_L0 (b_ : Option Addr) (R : Bool → World → Prop) (again_ : Int → World → Prop) (i : Int) (w1 : World) : Prop :=
  IsAt b_ ∧ (∃ (v10 : Slc), w1.cell? ⟨(pblk b_), (poff b_) + 5, none⟩ = some (Value.slice v10.ptr v10.len v10.cap) ∧ (((decide (i < ((v10.len : Nat) : Int))) = true → (False)) ∧
  ((decide (i < ((v10.len : Nat) : Int))) = false → (R true w1))))

def F_towpathlaw01_Book_lookEntry (b_ : Option Addr) (R : Bool → World → Prop) (w : World) : Prop :=
  ∃ (I : Int → World → Prop) (μ : Int → World → Nat), I 0 w ∧
  ∀ (i : Int) w, I i w → F_towpathlaw01_Book_lookEntry_L0 b_ R (fun (i' : Int) w' => I i' w' ∧ μ i' w' < μ i w) i w

def F_towpathlaw01_Book_lookVersion_L0 (b_ : Option Addr) (R : Bool → World → Prop) (again_ : Int → World → Prop) (i : Int) (w1 : World) : Prop :=
  IsAt b_ ∧ (∃ (v10 : Slc), w1.cell? ⟨(pblk b_), (poff b_) + 6, none⟩ = some (Value.slice v10.ptr v10.len v10.cap) ∧ (((decide (i < ((v10.len : Nat) : Int))) = true → (False)) ∧
  ((decide (i < ((v10.len : Nat) : Int))) = false → (R true w1))))

def F_towpathlaw01_Book_lookVersion (b_ : Option Addr) (R : Bool → World → Prop) (w : World) : Prop :=
  ∃ (I : Int → World → Prop) (μ : Int → World → Nat), I 0 w ∧
  ∀ (i : Int) w, I i w → F_towpathlaw01_Book_lookVersion_L0 b_ R (fun (i' : Int) w' => I i' w' ∧ μ i' w' < μ i w) i w

def F_towpathlaw01_Book_lookTxn_k2 (R : Bool → World → Prop) (k : Int) (again_1 : Int → World → Prop) (t63 : Bool) (w5 : World) : Prop :=
  (t63 = true → (R false w5)) ∧
  (t63 = false → (again_1 (IntKind.i64.wrap (k + 1)) w5))

def F_towpathlaw01_Book_lookTxn_L1 (R : Bool → World → Prop) (i : Int) (again_ : Int → World → Prop) (b_1 : Nat) (again_1 : Int → World → Prop) (k : Int) (w4 : World) : Prop :=
  ∃ (v32 : Slc), w4.cell? ⟨b_1, 1, none⟩ = some (Value.slice v32.ptr v32.len v32.cap) ∧ (((decide (k < ((v32.len : Nat) : Int))) = true → (∃ (v38 : Slc), w4.cell? ⟨b_1, 1, none⟩ = some (Value.slice v38.ptr v38.len v38.cap) ∧ (IsAt v38.ptr ∧ (0 ≤ k ∧ k < ((v38.len : Nat) : Int) ∧ (∃ (v41 : T_api_Txn), CellsAt w4 (pblk v38.ptr) ((poff v38.ptr) + k.toNat * 2) [Value.int .i64 v41.Number, Value.slice v41.Writes.ptr v41.Writes.len v41.Writes.cap] ∧ (∃ (v43 : Int), w4.cell? ⟨b_1, 2, none⟩ = some (Value.int .i64 v43) ∧ (∃ (v44 : Bool), (∀ w', Ext w4 w' → C_towpathlaw01_isTxn v41 v43 w' (fun (v44' : Bool) w'' => v44' = v44 ∧ Ext w' w'')) ∧ (((!v44) = true → (∀ w7, Ext w4 w7 → (F_towpathlaw01_Book_lookTxn_k2 R k again_1 true w7))) ∧
  ((!v44) = false → (∃ (v49 : Slc), w4.cell? ⟨b_1, 0, none⟩ = some (Value.slice v49.ptr v49.len v49.cap) ∧ (((decide (k < ((v49.len : Nat) : Int))) = true → (∃ (v54 : Slc), w4.cell? ⟨b_1, 0, none⟩ = some (Value.slice v54.ptr v54.len v54.cap) ∧ (IsAt v54.ptr ∧ (0 ≤ k ∧ k < ((v54.len : Nat) : Int) ∧ (∃ (v57 : T_api_Txn), CellsAt w4 (pblk v54.ptr) ((poff v54.ptr) + k.toNat * 2) [Value.int .i64 v57.Number, Value.slice v57.Writes.ptr v57.Writes.len v57.Writes.cap] ∧ (∃ (v59 : Int), w4.cell? ⟨b_1, 2, none⟩ = some (Value.int .i64 v59) ∧ (∃ (v60 : Bool), (∀ w', Ext w4 w' → C_towpathlaw01_isTxn v57 v59 w' (fun (v60' : Bool) w'' => v60' = v60 ∧ Ext w' w'')) ∧ (∀ w9, Ext w4 w9 → (F_towpathlaw01_Book_lookTxn_k2 R k again_1 (!v60) w9))))))))) ∧
  ((decide (k < ((v49.len : Nat) : Int))) = false → (∀ w10, Ext w4 w10 → (F_towpathlaw01_Book_lookTxn_k2 R k again_1 false w10)))))))))))))) ∧
  ((decide (k < ((v32.len : Nat) : Int))) = false → (again_ (IntKind.i64.wrap (i + 1)) w4)))

def F_towpathlaw01_Book_lookTxn_L0 (b_ : Option Addr) (R : Bool → World → Prop) (again_ : Int → World → Prop) (i : Int) (w1 : World) : Prop :=
  IsAt b_ ∧ (∃ (v10 : Slc), w1.cell? ⟨(pblk b_), (poff b_) + 7, none⟩ = some (Value.slice v10.ptr v10.len v10.cap) ∧ (((decide (i < ((v10.len : Nat) : Int))) = true → (IsAt b_ ∧ (∃ (v18 : Slc), w1.cell? ⟨(pblk b_), (poff b_) + 7, none⟩ = some (Value.slice v18.ptr v18.len v18.cap) ∧ (IsAt v18.ptr ∧ (0 ≤ i ∧ i < ((v18.len : Nat) : Int) ∧ (∃ (v21 : T_towpathlaw01_heldTxn), CellsAt w1 (pblk v18.ptr) ((poff v18.ptr) + i.toNat * 3) [Value.slice v21.l.ptr v21.l.len v21.l.cap, Value.slice v21.long.ptr v21.long.len v21.long.cap, Value.int .i64 v21.n] ∧ (∀ b_1 w2, b_1 = w1.heap.size → w2 = w1.alloc (Obj.cells ([Value.slice none 0 0, Value.slice none 0 0, Value.int .i64 0]).toArray ty_towpathlaw01_heldTxn (0, 0)) → (Writable w2 b_1 0 3 ∧ (∀ w3, w3 = World.puts b_1 0 [Value.slice v21.l.ptr v21.l.len v21.l.cap, Value.slice v21.long.ptr v21.long.len v21.long.cap, Value.int .i64 v21.n] w2 → (∃ (v23 : Slc), w3.cell? ⟨b_1, 1, none⟩ = some (Value.slice v23.ptr v23.len v23.cap) ∧ (∃ (v26 : Slc), w3.cell? ⟨b_1, 0, none⟩ = some (Value.slice v26.ptr v26.len v26.cap) ∧ (((((v23.len : Nat) : Int) != (IntKind.i64.wrap (((v26.len : Nat) : Int) + 70))) = true → (R false w3)) ∧
  ((((v23.len : Nat) : Int) != (IntKind.i64.wrap (((v26.len : Nat) : Int) + 70))) = false → (∃ (I : Int → World → Prop) (μ : Int → World → Nat), I 0 w3 ∧
  ∀ (k : Int) w, I k w → F_towpathlaw01_Book_lookTxn_L1 R i again_ b_1 (fun (k' : Int) w' => I k' w' ∧ μ k' w' < μ k w) k w)))))))))))))) ∧
  ((decide (i < ((v10.len : Nat) : Int))) = false → (R true w1))))

def F_towpathlaw01_Book_lookTxn (b_ : Option Addr) (R : Bool → World → Prop) (w : World) : Prop :=
  ∃ (I : Int → World → Prop) (μ : Int → World → Nat), I 0 w ∧
  ∀ (i : Int) w, I i w → F_towpathlaw01_Book_lookTxn_L0 b_ R (fun (i' : Int) w' => I i' w' ∧ μ i' w' < μ i w) i w

def F_towpathlaw01_Book_lookHeld_L0 (b_ : Option Addr) (R : Bool → World → Prop) (again_ : Int → World → Prop) (i : Int) (w1 : World) : Prop :=
  IsAt b_ ∧ (∃ (v10 : Slc), w1.cell? ⟨(pblk b_), (poff b_) + 8, none⟩ = some (Value.slice v10.ptr v10.len v10.cap) ∧ (((decide (i < ((v10.len : Nat) : Int))) = true → (False)) ∧
  ((decide (i < ((v10.len : Nat) : Int))) = false → (R true w1))))

def F_towpathlaw01_Book_lookHeld (b_ : Option Addr) (R : Bool → World → Prop) (w : World) : Prop :=
  ∃ (I : Int → World → Prop) (μ : Int → World → Nat), I 0 w ∧
  ∀ (i : Int) w, I i w → F_towpathlaw01_Book_lookHeld_L0 b_ R (fun (i' : Int) w' => I i' w' ∧ μ i' w' < μ i w) i w

def F_towpathlaw01_Book_lookHeldList_L0 (b_ : Option Addr) (R : Bool → World → Prop) (again_ : Int → World → Prop) (i : Int) (w1 : World) : Prop :=
  IsAt b_ ∧ (∃ (v10 : Slc), w1.cell? ⟨(pblk b_), (poff b_) + 9, none⟩ = some (Value.slice v10.ptr v10.len v10.cap) ∧ (((decide (i < ((v10.len : Nat) : Int))) = true → (False)) ∧
  ((decide (i < ((v10.len : Nat) : Int))) = false → (R true w1))))

def F_towpathlaw01_Book_lookHeldList (b_ : Option Addr) (R : Bool → World → Prop) (w : World) : Prop :=
  ∃ (I : Int → World → Prop) (μ : Int → World → Nat), I 0 w ∧
  ∀ (i : Int) w, I i w → F_towpathlaw01_Book_lookHeldList_L0 b_ R (fun (i' : Int) w' => I i' w' ∧ μ i' w' < μ i w) i w

def F_towpathlaw01_Book_lookEvent_L0 (b_ : Option Addr) (R : Bool → World → Prop) (again_ : Int → World → Prop) (i : Int) (w1 : World) : Prop :=
  IsAt b_ ∧ (∃ (v10 : Slc), w1.cell? ⟨(pblk b_), (poff b_) + 10, none⟩ = some (Value.slice v10.ptr v10.len v10.cap) ∧ (((decide (i < ((v10.len : Nat) : Int))) = true → (False)) ∧
  ((decide (i < ((v10.len : Nat) : Int))) = false → (R true w1))))

def F_towpathlaw01_Book_lookEvent (b_ : Option Addr) (R : Bool → World → Prop) (w : World) : Prop :=
  ∃ (I : Int → World → Prop) (μ : Int → World → Nat), I 0 w ∧
  ∀ (i : Int) w, I i w → F_towpathlaw01_Book_lookEvent_L0 b_ R (fun (i' : Int) w' => I i' w' ∧ μ i' w' < μ i w) i w

def F_towpathlaw01_Book_lookAnswer_L0 (b_ : Option Addr) (R : Bool → World → Prop) (again_ : Int → World → Prop) (i : Int) (w1 : World) : Prop :=
  IsAt b_ ∧ (∃ (v10 : Slc), w1.cell? ⟨(pblk b_), (poff b_) + 11, none⟩ = some (Value.slice v10.ptr v10.len v10.cap) ∧ (((decide (i < ((v10.len : Nat) : Int))) = true → (False)) ∧
  ((decide (i < ((v10.len : Nat) : Int))) = false → (R true w1))))

def F_towpathlaw01_Book_lookAnswer (b_ : Option Addr) (R : Bool → World → Prop) (w : World) : Prop :=
  ∃ (I : Int → World → Prop) (μ : Int → World → Nat), I 0 w ∧
  ∀ (i : Int) w, I i w → F_towpathlaw01_Book_lookAnswer_L0 b_ R (fun (i' : Int) w' => I i' w' ∧ μ i' w' < μ i w) i w

def F_towpathlaw01_SameWrites_L0 (a_ : Slc) (b_ : Slc) (R : Bool → World → Prop) (again_ : Int → World → Prop) (i : Int) (w1 : World) : Prop :=
  ((decide (i < ((a_.len : Nat) : Int))) = true → (IsAt a_.ptr ∧ (0 ≤ i ∧ i < ((a_.len : Nat) : Int) ∧ (∃ (v20 : T_api_Write), CellsAt w1 (pblk a_.ptr) ((poff a_.ptr) + i.toNat * 3) [Value.string v20.Key, Value.string v20.Val, Value.bool v20.Drop] ∧ (IsAt b_.ptr ∧ (0 ≤ i ∧ i < ((b_.len : Nat) : Int) ∧ (∃ (v24 : T_api_Write), CellsAt w1 (pblk b_.ptr) ((poff b_.ptr) + i.toNat * 3) [Value.string v24.Key, Value.string v24.Val, Value.bool v24.Drop] ∧ (∀ w2, Ext w1 w2 → (((!(((v20.Key == v24.Key) && (v20.Val == v24.Val)) && (v20.Drop == v24.Drop))) = true → (R false w2)) ∧
  ((!(((v20.Key == v24.Key) && (v20.Val == v24.Val)) && (v20.Drop == v24.Drop))) = false → (again_ (IntKind.i64.wrap (i + 1)) w2))))))))))) ∧
  ((decide (i < ((a_.len : Nat) : Int))) = false → (R true w1))

def F_towpathlaw01_SameWrites (a_ : Slc) (b_ : Slc) (R : Bool → World → Prop) (w : World) : Prop :=
  ((((a_.len : Nat) : Int) != ((b_.len : Nat) : Int)) = true → (R false w)) ∧
  ((((a_.len : Nat) : Int) != ((b_.len : Nat) : Int)) = false → (∃ (I : Int → World → Prop) (μ : Int → World → Nat), I 0 w ∧
  ∀ (i : Int) w, I i w → F_towpathlaw01_SameWrites_L0 a_ b_ R (fun (i' : Int) w' => I i' w' ∧ μ i' w' < μ i w) i w))

def F_towpathlaw01_Book_Writes (b_ : Option Addr) (l_ : Slc) (R : World → Prop) (w : World) : Prop :=
  C_towpathlaw01_Book_keepWrite b_ l_ w (fun w1 => R w1)

def F_sum_CRC (b_ : Slc) (R : Int → World → Prop) (w : World) : Prop :=
  C_sum_More 0 b_ w (fun (v4 : Int) w1 => R v4 w1)

def F_towpathref03_CRC (b_ : Slc) (R : Int → World → Prop) (w : World) : Prop :=
  C_towpathref03_More 0 b_ w (fun (v4 : Int) w1 => R v4 w1)

def F_towpathlaw01_Book_keepByte (b_ : Option Addr) (l_ : Slc) (R : World → Prop) (w : World) : Prop :=
  IsAt b_ ∧ (∃ (v7 : Int), w.cell? ⟨(pblk b_), (poff b_), none⟩ = some (Value.int .i64 v7) ∧ (Writable w (pblk b_) (poff b_) 1 ∧ (∀ w1, w1 = World.puts (pblk b_) (poff b_) [Value.int .i64 (IntKind.i64.wrap (v7 + 1))] w → (∀ w2, (∃ k, w2 = w1.drewN k) → (IsAt b_ ∧ (∃ (v15 : Slc), w2.cell? ⟨(pblk b_), (poff b_) + 1, none⟩ = some (Value.slice v15.ptr v15.len v15.cap) ∧ (IsAt b_ ∧ (∃ (v20 : Int), w2.cell? ⟨(pblk b_), (poff b_), none⟩ = some (Value.int .i64 v20) ∧ (∀ b_1 w3, b_1 = w2.heap.size → w3 = w2.alloc (Obj.cells ([Value.slice l_.ptr l_.len l_.cap, Value.slice none 0 0, Value.int .i64 v20]).toArray ty_towpathlaw01_heldByte (0, 0)) → (w3.cell? ⟨(pblk b_), (poff b_) + 1, none⟩ = some (Value.slice v15.ptr v15.len v15.cap) ∧ (∃ src, SrcAt w3 (Slc.mk (some ⟨b_1, 0, none⟩) 1 1) 3 src ∧ AppendW 3 56 ty_towpathlaw01_heldByte [Value.slice none 0 0, Value.slice none 0 0, Value.int .i64 0] v15 src 1 w3 (fun v23 w4 => (IsAt b_ ∧ (Writable w4 (pblk b_) ((poff b_) + 1) 1 ∧ (∀ w5, w5 = World.puts (pblk b_) ((poff b_) + 1) [Value.slice v23.ptr v23.len v23.cap] w4 → ((R w5)))))))))))))))))

def F_logfile_records (b_ : Slc) (e : Option Addr) (R : Value → World → Prop) (w : World) : Prop :=
  ∀ b_1 w1, b_1 = w.heap.size → w1 = w.alloc (Obj.cells ([Value.slice b_.ptr b_.len b_.cap]).toArray ty_sl_uint8 (0, 0)) → (∀ b_2 w2, b_2 = w1.heap.size → w2 = w1.alloc (Obj.cells ([Value.pointer e]).toArray ty_ptr_api_Errno (0, 0)) → (R (Value.func (.func 172) #[] #[Value.pointer (some ⟨b_1, 0, none⟩), Value.pointer (some ⟨b_2, 0, none⟩)]) w2))

def F_towpathref02_Reader_Left (r : T_towpathref02_Reader) (R : Int → World → Prop) (w : World) : Prop :=
  ∀ b_ w1, b_ = w.heap.size → w1 = w.alloc (Obj.cells ([Value.bool r.Gone, Value.slice r.B.ptr r.B.len r.B.cap, Value.int .i64 r.At, Value.int .i64 r.Code]).toArray ty_towpathref02_Reader (0, 0)) → (∃ (v4 : Bool), w1.cell? ⟨b_, 0, none⟩ = some (Value.bool v4) ∧ ((v4 = true → (R 0 w1)) ∧
  (v4 = false → (∃ (v6 : Slc), w1.cell? ⟨b_, 1, none⟩ = some (Value.slice v6.ptr v6.len v6.cap) ∧ (∃ (v9 : Int), w1.cell? ⟨b_, 2, none⟩ = some (Value.int .i64 v9) ∧ (R (IntKind.i64.wrap (((v6.len : Nat) : Int) - v9)) w1))))))

def F_towpathref02_Reader_Text (r : T_towpathref02_Reader) (most : Int) (R : T_towpathref02_Reader → ByteArray → World → Prop) (w : World) : Prop :=
  ∀ b_ w1, b_ = w.heap.size → w1 = w.alloc (Obj.cells ([Value.bool r.Gone, Value.slice r.B.ptr r.B.len r.B.cap, Value.int .i64 r.At, Value.int .i64 r.Code]).toArray ty_towpathref02_Reader (0, 0)) → (∀ b_1 w2, b_1 = w1.heap.size → w2 = w1.alloc (Obj.cells ([Value.bool false, Value.slice none 0 0, Value.int .i64 0, Value.int .i64 0]).toArray ty_towpathref02_Reader (0, 0)) → (∃ (v9 : T_towpathref02_Reader), CellsAt w2 b_ 0 [Value.bool v9.Gone, Value.slice v9.B.ptr v9.B.len v9.B.cap, Value.int .i64 v9.At, Value.int .i64 v9.Code] ∧ (C_towpathref02_Reader_dead v9 w2 (fun (v10 : Bool) w3 => (v10 = true → (∃ (v11 : T_towpathref02_Reader), CellsAt w3 b_ 0 [Value.bool v11.Gone, Value.slice v11.B.ptr v11.B.len v11.B.cap, Value.int .i64 v11.At, Value.int .i64 v11.Code] ∧ (Writable w3 b_1 0 4 ∧ (∀ w4, w4 = World.puts b_1 0 [Value.bool v11.Gone, Value.slice v11.B.ptr v11.B.len v11.B.cap, Value.int .i64 v11.At, Value.int .i64 v11.Code] w3 → (∃ (res : T_towpathref02_Reader), CellsAt w4 b_1 0 [Value.bool res.Gone, Value.slice res.B.ptr res.B.len res.B.cap, Value.int .i64 res.At, Value.int .i64 res.Code] ∧ (R res ByteArray.empty w4)))))) ∧
  (v10 = false → (((decide (most < 0)) = true → (∃ (v14 : T_towpathref02_Reader), CellsAt w3 b_ 0 [Value.bool v14.Gone, Value.slice v14.B.ptr v14.B.len v14.B.cap, Value.int .i64 v14.At, Value.int .i64 v14.Code] ∧ (C_towpathref02_Reader_wrong v14 1 w3 (fun (v15 : T_towpathref02_Reader) w5 => Writable w5 b_1 0 4 ∧ (∀ w6, w6 = World.puts b_1 0 [Value.bool v15.Gone, Value.slice v15.B.ptr v15.B.len v15.B.cap, Value.int .i64 v15.At, Value.int .i64 v15.Code] w5 → (∃ (res1 : T_towpathref02_Reader), CellsAt w6 b_1 0 [Value.bool res1.Gone, Value.slice res1.B.ptr res1.B.len res1.B.cap, Value.int .i64 res1.At, Value.int .i64 res1.Code] ∧ (R res1 ByteArray.empty w6))))))) ∧
  ((decide (most < 0)) = false → (∃ (v17 : T_towpathref02_Reader), CellsAt w3 b_ 0 [Value.bool v17.Gone, Value.slice v17.B.ptr v17.B.len v17.B.cap, Value.int .i64 v17.At, Value.int .i64 v17.Code] ∧ (C_towpathref02_Reader_Var v17 w3 (fun (v18 : T_towpathref02_Reader) (n_ : Int) w7 => ∀ b_2 w8, b_2 = w7.heap.size → w8 = w7.alloc (Obj.cells ([Value.bool false, Value.slice none 0 0, Value.int .i64 0, Value.int .i64 0]).toArray ty_towpathref02_Reader (0, 0)) → (Writable w8 b_2 0 4 ∧ (∀ w9, w9 = World.puts b_2 0 [Value.bool v18.Gone, Value.slice v18.B.ptr v18.B.len v18.B.cap, Value.int .i64 v18.At, Value.int .i64 v18.Code] w8 → (∃ (v21 : T_towpathref02_Reader), CellsAt w9 b_2 0 [Value.bool v21.Gone, Value.slice v21.B.ptr v21.B.len v21.B.cap, Value.int .i64 v21.At, Value.int .i64 v21.Code] ∧ (C_towpathref02_Reader_dead v21 w9 (fun (v22 : Bool) w10 => (v22 = true → (∃ (v23 : T_towpathref02_Reader), CellsAt w10 b_ 0 [Value.bool v23.Gone, Value.slice v23.B.ptr v23.B.len v23.B.cap, Value.int .i64 v23.At, Value.int .i64 v23.Code] ∧ (∃ (v25 : Int), w10.cell? ⟨b_2, 3, none⟩ = some (Value.int .i64 v25) ∧ (C_towpathref02_Reader_wrong v23 v25 w10 (fun (v26 : T_towpathref02_Reader) w11 => Writable w11 b_1 0 4 ∧ (∀ w12, w12 = World.puts b_1 0 [Value.bool v26.Gone, Value.slice v26.B.ptr v26.B.len v26.B.cap, Value.int .i64 v26.At, Value.int .i64 v26.Code] w11 → (∃ (res2 : T_towpathref02_Reader), CellsAt w12 b_1 0 [Value.bool res2.Gone, Value.slice res2.B.ptr res2.B.len res2.B.cap, Value.int .i64 res2.At, Value.int .i64 res2.Code] ∧ (R res2 ByteArray.empty w12)))))))) ∧
  (v22 = false → (((decide (n_ > (IntKind.u64.wrap most))) = true → (∃ (v31 : T_towpathref02_Reader), CellsAt w10 b_ 0 [Value.bool v31.Gone, Value.slice v31.B.ptr v31.B.len v31.B.cap, Value.int .i64 v31.At, Value.int .i64 v31.Code] ∧ (C_towpathref02_Reader_wrong v31 3 w10 (fun (v32 : T_towpathref02_Reader) w13 => Writable w13 b_1 0 4 ∧ (∀ w14, w14 = World.puts b_1 0 [Value.bool v32.Gone, Value.slice v32.B.ptr v32.B.len v32.B.cap, Value.int .i64 v32.At, Value.int .i64 v32.Code] w13 → (∃ (res3 : T_towpathref02_Reader), CellsAt w14 b_1 0 [Value.bool res3.Gone, Value.slice res3.B.ptr res3.B.len res3.B.cap, Value.int .i64 res3.At, Value.int .i64 res3.Code] ∧ (R res3 ByteArray.empty w14))))))) ∧
  ((decide (n_ > (IntKind.u64.wrap most))) = false → (∃ (v35 : Slc), w10.cell? ⟨b_, 1, none⟩ = some (Value.slice v35.ptr v35.len v35.cap) ∧ (∃ (v38 : Int), w10.cell? ⟨b_2, 2, none⟩ = some (Value.int .i64 v38) ∧ (((decide (n_ > (IntKind.u64.wrap (IntKind.i64.wrap (((v35.len : Nat) : Int) - v38))))) = true → (∃ (v42 : T_towpathref02_Reader), CellsAt w10 b_ 0 [Value.bool v42.Gone, Value.slice v42.B.ptr v42.B.len v42.B.cap, Value.int .i64 v42.At, Value.int .i64 v42.Code] ∧ (C_towpathref02_Reader_wrong v42 5 w10 (fun (v43 : T_towpathref02_Reader) w15 => Writable w15 b_1 0 4 ∧ (∀ w16, w16 = World.puts b_1 0 [Value.bool v43.Gone, Value.slice v43.B.ptr v43.B.len v43.B.cap, Value.int .i64 v43.At, Value.int .i64 v43.Code] w15 → (∃ (res4 : T_towpathref02_Reader), CellsAt w16 b_1 0 [Value.bool res4.Gone, Value.slice res4.B.ptr res4.B.len res4.B.cap, Value.int .i64 res4.At, Value.int .i64 res4.Code] ∧ (R res4 ByteArray.empty w16))))))) ∧
  ((decide (n_ > (IntKind.u64.wrap (IntKind.i64.wrap (((v35.len : Nat) : Int) - v38))))) = false → (∃ (v45 : Slc), w10.cell? ⟨b_, 1, none⟩ = some (Value.slice v45.ptr v45.len v45.cap) ∧ (∃ (v47 : Int), w10.cell? ⟨b_2, 2, none⟩ = some (Value.int .i64 v47) ∧ (∃ (v49 : Int), w10.cell? ⟨b_2, 2, none⟩ = some (Value.int .i64 v49) ∧ ((0 ≤ v47 ∧ v47 ≤ IntKind.i64.wrap (v49 + (IntKind.i64.wrap n_)) ∧ IntKind.i64.wrap (v49 + (IntKind.i64.wrap n_)) ≤ ((v45.cap : Nat) : Int) ∧ ((v45.cap : Nat) : Int) ≤ ((v45.cap : Nat) : Int)) ∧ (∀ s, s = Slc.cut 1 v45 v47 (IntKind.i64.wrap (v49 + (IntKind.i64.wrap n_))) ((v45.cap : Nat) : Int) → (∃ str : ByteArray, SrcAt w10 s 1 (strCells str) ∧ (∃ (v56 : Int), w10.cell? ⟨b_2, 2, none⟩ = some (Value.int .i64 v56) ∧ (Writable w10 b_2 2 1 ∧ (∀ w17, w17 = World.puts b_2 2 [Value.int .i64 (IntKind.i64.wrap (v56 + (IntKind.i64.wrap n_)))] w10 → (∃ (v61 : T_towpathref02_Reader), CellsAt w17 b_2 0 [Value.bool v61.Gone, Value.slice v61.B.ptr v61.B.len v61.B.cap, Value.int .i64 v61.At, Value.int .i64 v61.Code] ∧ (Writable w17 b_1 0 4 ∧ (∀ w18, w18 = World.puts b_1 0 [Value.bool v61.Gone, Value.slice v61.B.ptr v61.B.len v61.B.cap, Value.int .i64 v61.At, Value.int .i64 v61.Code] w17 → (∃ (res5 : T_towpathref02_Reader), CellsAt w18 b_1 0 [Value.bool res5.Gone, Value.slice res5.B.ptr res5.B.len res5.B.cap, Value.int .i64 res5.At, Value.int .i64 res5.Code] ∧ (R res5 str w18))))))))))))))))))))))))))))))))))))

def F_towpathref02_Reader_Fixed_L0 (width : Int) (R : T_towpathref02_Reader → Int → World → Prop) (b_ : Nat) (b_1 : Nat) (again_ : Int → Int → World → Prop) (n_ : Int) (i : Int) (w9 : World) : Prop :=
  ((decide (i ≥ 0)) = true → (∃ (v38 : Slc), w9.cell? ⟨b_, 1, none⟩ = some (Value.slice v38.ptr v38.len v38.cap) ∧ (∃ (v40 : Int), w9.cell? ⟨b_, 2, none⟩ = some (Value.int .i64 v40) ∧ (IsAt v38.ptr ∧ (0 ≤ IntKind.i64.wrap (v40 + i) ∧ IntKind.i64.wrap (v40 + i) < ((v38.len : Nat) : Int) ∧ (∃ (v44 : Int), w9.cell? ⟨(pblk v38.ptr), (poff v38.ptr) + (IntKind.i64.wrap (v40 + i)).toNat, none⟩ = some (Value.int .u8 v44) ∧ (again_ (IntKind.u64.wrap ((IntKind.u64.wrap (256 * n_)) + (IntKind.u64.wrap v44))) (IntKind.i64.wrap (i - 1)) w9))))))) ∧
  ((decide (i ≥ 0)) = false → (∃ (v48 : Int), w9.cell? ⟨b_, 2, none⟩ = some (Value.int .i64 v48) ∧ (Writable w9 b_ 2 1 ∧ (∀ w10, w10 = World.puts b_ 2 [Value.int .i64 (IntKind.i64.wrap (v48 + width))] w9 → (∃ (v52 : T_towpathref02_Reader), CellsAt w10 b_ 0 [Value.bool v52.Gone, Value.slice v52.B.ptr v52.B.len v52.B.cap, Value.int .i64 v52.At, Value.int .i64 v52.Code] ∧ (Writable w10 b_1 0 4 ∧ (∀ w11, w11 = World.puts b_1 0 [Value.bool v52.Gone, Value.slice v52.B.ptr v52.B.len v52.B.cap, Value.int .i64 v52.At, Value.int .i64 v52.Code] w10 → (∃ (res3 : T_towpathref02_Reader), CellsAt w11 b_1 0 [Value.bool res3.Gone, Value.slice res3.B.ptr res3.B.len res3.B.cap, Value.int .i64 res3.At, Value.int .i64 res3.Code] ∧ (R res3 n_ w11)))))))))

def F_towpathref02_Reader_Fixed (r : T_towpathref02_Reader) (width : Int) (R : T_towpathref02_Reader → Int → World → Prop) (w : World) : Prop :=
  ∀ b_ w1, b_ = w.heap.size → w1 = w.alloc (Obj.cells ([Value.bool r.Gone, Value.slice r.B.ptr r.B.len r.B.cap, Value.int .i64 r.At, Value.int .i64 r.Code]).toArray ty_towpathref02_Reader (0, 0)) → (∀ b_1 w2, b_1 = w1.heap.size → w2 = w1.alloc (Obj.cells ([Value.bool false, Value.slice none 0 0, Value.int .i64 0, Value.int .i64 0]).toArray ty_towpathref02_Reader (0, 0)) → (∃ (v8 : T_towpathref02_Reader), CellsAt w2 b_ 0 [Value.bool v8.Gone, Value.slice v8.B.ptr v8.B.len v8.B.cap, Value.int .i64 v8.At, Value.int .i64 v8.Code] ∧ (C_towpathref02_Reader_dead v8 w2 (fun (v9 : Bool) w3 => (v9 = true → (∃ (v10 : T_towpathref02_Reader), CellsAt w3 b_ 0 [Value.bool v10.Gone, Value.slice v10.B.ptr v10.B.len v10.B.cap, Value.int .i64 v10.At, Value.int .i64 v10.Code] ∧ (Writable w3 b_1 0 4 ∧ (∀ w4, w4 = World.puts b_1 0 [Value.bool v10.Gone, Value.slice v10.B.ptr v10.B.len v10.B.cap, Value.int .i64 v10.At, Value.int .i64 v10.Code] w3 → (∃ (res : T_towpathref02_Reader), CellsAt w4 b_1 0 [Value.bool res.Gone, Value.slice res.B.ptr res.B.len res.B.cap, Value.int .i64 res.At, Value.int .i64 res.Code] ∧ (R res 0 w4)))))) ∧
  (v9 = false → ((((decide (width < 1)) || (decide (width > 8))) = true → (∃ (v17 : T_towpathref02_Reader), CellsAt w3 b_ 0 [Value.bool v17.Gone, Value.slice v17.B.ptr v17.B.len v17.B.cap, Value.int .i64 v17.At, Value.int .i64 v17.Code] ∧ (C_towpathref02_Reader_wrong v17 1 w3 (fun (v18 : T_towpathref02_Reader) w5 => Writable w5 b_1 0 4 ∧ (∀ w6, w6 = World.puts b_1 0 [Value.bool v18.Gone, Value.slice v18.B.ptr v18.B.len v18.B.cap, Value.int .i64 v18.At, Value.int .i64 v18.Code] w5 → (∃ (res1 : T_towpathref02_Reader), CellsAt w6 b_1 0 [Value.bool res1.Gone, Value.slice res1.B.ptr res1.B.len res1.B.cap, Value.int .i64 res1.At, Value.int .i64 res1.Code] ∧ (R res1 0 w6))))))) ∧
  (((decide (width < 1)) || (decide (width > 8))) = false → (∃ (v21 : Slc), w3.cell? ⟨b_, 1, none⟩ = some (Value.slice v21.ptr v21.len v21.cap) ∧ (∃ (v24 : Int), w3.cell? ⟨b_, 2, none⟩ = some (Value.int .i64 v24) ∧ (((decide (width > (IntKind.i64.wrap (((v21.len : Nat) : Int) - v24)))) = true → (∃ (v27 : T_towpathref02_Reader), CellsAt w3 b_ 0 [Value.bool v27.Gone, Value.slice v27.B.ptr v27.B.len v27.B.cap, Value.int .i64 v27.At, Value.int .i64 v27.Code] ∧ (C_towpathref02_Reader_wrong v27 5 w3 (fun (v28 : T_towpathref02_Reader) w7 => Writable w7 b_1 0 4 ∧ (∀ w8, w8 = World.puts b_1 0 [Value.bool v28.Gone, Value.slice v28.B.ptr v28.B.len v28.B.cap, Value.int .i64 v28.At, Value.int .i64 v28.Code] w7 → (∃ (res2 : T_towpathref02_Reader), CellsAt w8 b_1 0 [Value.bool res2.Gone, Value.slice res2.B.ptr res2.B.len res2.B.cap, Value.int .i64 res2.At, Value.int .i64 res2.Code] ∧ (R res2 0 w8))))))) ∧
  ((decide (width > (IntKind.i64.wrap (((v21.len : Nat) : Int) - v24)))) = false → (∃ (I : Int → Int → World → Prop) (μ : Int → Int → World → Nat), I 0 (IntKind.i64.wrap (width - 1)) w3 ∧
  ∀ (n_ : Int) (i : Int) w, I n_ i w → F_towpathref02_Reader_Fixed_L0 width R b_ b_1 (fun (n_' : Int) (i' : Int) w' => I n_' i' w' ∧ μ n_' i' w' < μ n_ i w) n_ i w))))))))))))

def F_towpathref05_Decode_L0 (R : T_api_Txn → Int → World → Prop) (b_1 : Nat) (b_2 : Nat) (many : Int) (b_3 : Nat) (again_ : Int → World → Prop) (i : Int) (w16 : World) : Prop :=
  ((decide (i < (IntKind.i64.wrap many))) = true → (∃ (v56 : T_towpathref02_Reader), CellsAt w16 b_2 0 [Value.bool v56.Gone, Value.slice v56.B.ptr v56.B.len v56.B.cap, Value.int .i64 v56.At, Value.int .i64 v56.Code] ∧ (C_towpathref05_one v56 w16 (fun (v57 : T_towpathref02_Reader) (v57_1 : T_api_Write) (e : Int) w17 => ∀ b_4 w18, b_4 = w17.heap.size → w18 = w17.alloc (Obj.cells ([Value.bool false, Value.slice none 0 0, Value.int .i64 0, Value.int .i64 0]).toArray ty_towpathref02_Reader (0, 0)) → (∀ b_5 w19, b_5 = w18.heap.size → w19 = w18.alloc (Obj.cells ([Value.string ByteArray.empty, Value.string ByteArray.empty, Value.bool false]).toArray ty_api_Write (0, 0)) → (Writable w19 b_4 0 4 ∧ (∀ w20, w20 = World.puts b_4 0 [Value.bool v57.Gone, Value.slice v57.B.ptr v57.B.len v57.B.cap, Value.int .i64 v57.At, Value.int .i64 v57.Code] w19 → (Writable w20 b_5 0 3 ∧ (∀ w21, w21 = World.puts b_5 0 [Value.string v57_1.Key, Value.string v57_1.Val, Value.bool v57_1.Drop] w20 → (((e != 0) = true → (Writable w21 b_1 0 2 ∧ (∀ w22, w22 = World.puts b_1 0 [Value.int .i64 0, Value.slice none 0 0] w21 → (∃ (res4 : T_api_Txn), CellsAt w22 b_1 0 [Value.int .i64 res4.Number, Value.slice res4.Writes.ptr res4.Writes.len res4.Writes.cap] ∧ (R res4 e w22))))) ∧
  ((e != 0) = false → (∃ (v65 : T_towpathref02_Reader), CellsAt w21 b_4 0 [Value.bool v65.Gone, Value.slice v65.B.ptr v65.B.len v65.B.cap, Value.int .i64 v65.At, Value.int .i64 v65.Code] ∧ (Writable w21 b_2 0 4 ∧ (∀ w23, w23 = World.puts b_2 0 [Value.bool v65.Gone, Value.slice v65.B.ptr v65.B.len v65.B.cap, Value.int .i64 v65.At, Value.int .i64 v65.Code] w21 → (∃ (v67 : Slc), w23.cell? ⟨b_3, 1, none⟩ = some (Value.slice v67.ptr v67.len v67.cap) ∧ (∃ (v68 : T_api_Write), CellsAt w23 b_5 0 [Value.string v68.Key, Value.string v68.Val, Value.bool v68.Drop] ∧ (∀ b_6 w24, b_6 = w23.heap.size → w24 = w23.alloc (Obj.cells ([Value.string v68.Key, Value.string v68.Val, Value.bool v68.Drop]).toArray ty_api_Write (0, 0)) → (∃ src, SrcAt w24 (Slc.mk (some ⟨b_6, 0, none⟩) 1 1) 3 src ∧ AppendW 3 40 ty_api_Write [Value.string ByteArray.empty, Value.string ByteArray.empty, Value.bool false] v67 src 1 w24 (fun v70 w25 => Writable w25 b_3 1 1 ∧ (∀ w26, w26 = World.puts b_3 1 [Value.slice v70.ptr v70.len v70.cap] w25 → (again_ (IntKind.i64.wrap (i + 1)) w26))))))))))))))))))))) ∧
  ((decide (i < (IntKind.i64.wrap many))) = false → (∃ (v72 : T_towpathref02_Reader), CellsAt w16 b_2 0 [Value.bool v72.Gone, Value.slice v72.B.ptr v72.B.len v72.B.cap, Value.int .i64 v72.At, Value.int .i64 v72.Code] ∧ (C_towpathref02_Reader_End v72 w16 (fun (v73 : Int) w27 => ((v73 != 0) = true → (Writable w27 b_1 0 2 ∧ (∀ w28, w28 = World.puts b_1 0 [Value.int .i64 0, Value.slice none 0 0] w27 → (∃ (res5 : T_api_Txn), CellsAt w28 b_1 0 [Value.int .i64 res5.Number, Value.slice res5.Writes.ptr res5.Writes.len res5.Writes.cap] ∧ (R res5 4 w28))))) ∧
  ((v73 != 0) = false → (∃ (v76 : T_api_Txn), CellsAt w27 b_3 0 [Value.int .i64 v76.Number, Value.slice v76.Writes.ptr v76.Writes.len v76.Writes.cap] ∧ (Writable w27 b_1 0 2 ∧ (∀ w29, w29 = World.puts b_1 0 [Value.int .i64 v76.Number, Value.slice v76.Writes.ptr v76.Writes.len v76.Writes.cap] w27 → (∃ (res6 : T_api_Txn), CellsAt w29 b_1 0 [Value.int .i64 res6.Number, Value.slice res6.Writes.ptr res6.Writes.len res6.Writes.cap] ∧ (R res6 0 w29))))))))))

def F_towpathref05_Decode (b_ : Slc) (R : T_api_Txn → Int → World → Prop) (w : World) : Prop :=
  ∀ b_1 w1, b_1 = w.heap.size → w1 = w.alloc (Obj.cells ([Value.int .i64 0, Value.slice none 0 0]).toArray ty_api_Txn (0, 0)) → (∀ b_2 w2, b_2 = w1.heap.size → w2 = w1.alloc (Obj.cells ([Value.bool false, Value.slice none 0 0, Value.int .i64 0, Value.int .i64 0]).toArray ty_towpathref02_Reader (0, 0)) → (Writable w2 b_2 0 4 ∧ (∀ w3, w3 = World.puts b_2 0 [Value.bool false, Value.slice b_.ptr b_.len b_.cap, Value.int .i64 0, Value.int .i64 0] w2 → (∃ (v15 : T_towpathref02_Reader), CellsAt w3 b_2 0 [Value.bool v15.Gone, Value.slice v15.B.ptr v15.B.len v15.B.cap, Value.int .i64 v15.At, Value.int .i64 v15.Code] ∧ (C_towpathref02_Reader_Var v15 w3 (fun (v16 : T_towpathref02_Reader) (n_ : Int) w4 => Writable w4 b_2 0 4 ∧ (∀ w5, w5 = World.puts b_2 0 [Value.bool v16.Gone, Value.slice v16.B.ptr v16.B.len v16.B.cap, Value.int .i64 v16.At, Value.int .i64 v16.Code] w4 → (∃ (v20 : Int), w5.cell? ⟨b_2, 3, none⟩ = some (Value.int .i64 v20) ∧ (((v20 != 0) = true → (∀ w6, (∃ k, w6 = w5.drewN k) → (∃ (v24 : Int), w6.cell? ⟨b_2, 3, none⟩ = some (Value.int .i64 v24) ∧ (Writable w6 b_1 0 2 ∧ (∀ w7, w7 = World.puts b_1 0 [Value.int .i64 0, Value.slice none 0 0] w6 → (w7.cell? ⟨b_2, 3, none⟩ = some (Value.int .i64 v24) ∧ (∃ (res : T_api_Txn), CellsAt w7 b_1 0 [Value.int .i64 res.Number, Value.slice res.Writes.ptr res.Writes.len res.Writes.cap] ∧ (R res v24 w7)))))))) ∧
  ((v20 != 0) = false → ((((decide (n_ < 1)) || (decide (n_ > 65536))) = true → (Writable w5 b_1 0 2 ∧ (∀ w8, w8 = World.puts b_1 0 [Value.int .i64 0, Value.slice none 0 0] w5 → (∃ (res1 : T_api_Txn), CellsAt w8 b_1 0 [Value.int .i64 res1.Number, Value.slice res1.Writes.ptr res1.Writes.len res1.Writes.cap] ∧ (R res1 1 w8))))) ∧
  (((decide (n_ < 1)) || (decide (n_ > 65536))) = false → (∃ (v33 : T_towpathref02_Reader), CellsAt w5 b_2 0 [Value.bool v33.Gone, Value.slice v33.B.ptr v33.B.len v33.B.cap, Value.int .i64 v33.At, Value.int .i64 v33.Code] ∧ (C_towpathref02_Reader_Var v33 w5 (fun (v34 : T_towpathref02_Reader) (many : Int) w9 => Writable w9 b_2 0 4 ∧ (∀ w10, w10 = World.puts b_2 0 [Value.bool v34.Gone, Value.slice v34.B.ptr v34.B.len v34.B.cap, Value.int .i64 v34.At, Value.int .i64 v34.Code] w9 → (∃ (v38 : Int), w10.cell? ⟨b_2, 3, none⟩ = some (Value.int .i64 v38) ∧ (((v38 != 0) = true → (∀ w11, (∃ k, w11 = w10.drewN k) → (∃ (v42 : Int), w11.cell? ⟨b_2, 3, none⟩ = some (Value.int .i64 v42) ∧ (Writable w11 b_1 0 2 ∧ (∀ w12, w12 = World.puts b_1 0 [Value.int .i64 0, Value.slice none 0 0] w11 → (w12.cell? ⟨b_2, 3, none⟩ = some (Value.int .i64 v42) ∧ (∃ (res2 : T_api_Txn), CellsAt w12 b_1 0 [Value.int .i64 res2.Number, Value.slice res2.Writes.ptr res2.Writes.len res2.Writes.cap] ∧ (R res2 v42 w12)))))))) ∧
  ((v38 != 0) = false → (((decide (many > 32)) = true → (Writable w10 b_1 0 2 ∧ (∀ w13, w13 = World.puts b_1 0 [Value.int .i64 0, Value.slice none 0 0] w10 → (∃ (res3 : T_api_Txn), CellsAt w13 b_1 0 [Value.int .i64 res3.Number, Value.slice res3.Writes.ptr res3.Writes.len res3.Writes.cap] ∧ (R res3 3 w13))))) ∧
  ((decide (many > 32)) = false → (∀ b_3 w14, b_3 = w10.heap.size → w14 = w10.alloc (Obj.cells ([Value.int .i64 0, Value.slice none 0 0]).toArray ty_api_Txn (0, 0)) → (Writable w14 b_3 0 2 ∧ (∀ w15, w15 = World.puts b_3 0 [Value.int .i64 (IntKind.i64.wrap n_), Value.slice none 0 0] w14 → (∃ (I : Int → World → Prop) (μ : Int → World → Nat), I 0 w15 ∧
  ∀ (i : Int) w, I i w → F_towpathref05_Decode_L0 R b_1 b_2 many b_3 (fun (i' : Int) w' => I i' w' ∧ μ i' w' < μ i w) i w)))))))))))))))))))))))))

def F_towpathlaw01_markByte (n_ : Int) (R : Int → World → Prop) (w : World) : Prop :=
  R (IntKind.u8.wrap (IntKind.i64.wrap (1 + (Int.tmod n_ 255)))) w

def F_towpathlaw01_markWrite (n_ : Int) (R : T_api_Write → World → Prop) (w : World) : Prop :=
  ∀ b_ w1, b_ = w.heap.size → w1 = w.alloc (Obj.cells ([Value.string ByteArray.empty, Value.string ByteArray.empty, Value.bool false]).toArray ty_api_Write (0, 0)) → (C_towpathlaw01_word n_ w1 (fun (v4 : ByteArray) w2 => Writable w2 b_ 0 3 ∧ (∀ w3, w3 = World.puts b_ 0 [Value.string v4, Value.string ByteArray.empty, Value.bool false] w2 → (∃ (res : T_api_Write), CellsAt w3 b_ 0 [Value.string res.Key, Value.string res.Val, Value.bool res.Drop] ∧ (R res w3)))))

def F_towpathlaw01_markTxn (n_ : Int) (R : T_api_Txn → World → Prop) (w : World) : Prop :=
  ∀ b_ w1, b_ = w.heap.size → w1 = w.alloc (Obj.cells ([Value.int .i64 0, Value.slice none 0 0]).toArray ty_api_Txn (0, 0)) → (Writable w1 b_ 0 2 ∧ (∀ w2, w2 = World.puts b_ 0 [Value.int .i64 (IntKind.i64.wrap ((-1000) - n_)), Value.slice none 0 0] w1 → (∃ (res : T_api_Txn), CellsAt w2 b_ 0 [Value.int .i64 res.Number, Value.slice res.Writes.ptr res.Writes.len res.Writes.cap] ∧ (R res w2))))

def F_towpathlaw01_isByte (x : Int) (n_ : Int) (R : Bool → World → Prop) (w : World) : Prop :=
  R (x == (IntKind.u8.wrap (IntKind.i64.wrap (1 + (Int.tmod n_ 255))))) w

def F_towpathlaw01_isWrite (x : T_api_Write) (n_ : Int) (R : Bool → World → Prop) (w : World) : Prop :=
  ∀ b_ w1, b_ = w.heap.size → w1 = w.alloc (Obj.cells ([Value.string x.Key, Value.string x.Val, Value.bool x.Drop]).toArray ty_api_Write (0, 0)) → (∀ w2, (∃ k, w2 = w1.drewN k) → (∃ (v5 : T_api_Write), CellsAt w2 b_ 0 [Value.string v5.Key, Value.string v5.Val, Value.bool v5.Drop] ∧ (C_towpathlaw01_word n_ w2 (fun (v7 : ByteArray) w3 => CellsAt w3 b_ 0 [Value.string v5.Key, Value.string v5.Val, Value.bool v5.Drop] ∧ (R (((v5.Key == v7) && (v5.Val == ByteArray.empty)) && (v5.Drop == false)) w3)))))

def F_towpathlaw01_isTxn (x : T_api_Txn) (n_ : Int) (R : Bool → World → Prop) (w : World) : Prop :=
  ∀ b_ w1, b_ = w.heap.size → w1 = w.alloc (Obj.cells ([Value.int .i64 x.Number, Value.slice x.Writes.ptr x.Writes.len x.Writes.cap]).toArray ty_api_Txn (0, 0)) → (∃ (v6 : Int), w1.cell? ⟨b_, 0, none⟩ = some (Value.int .i64 v6) ∧ (((v6 == (IntKind.i64.wrap ((-1000) - n_))) = true → (∃ (v12 : Slc), w1.cell? ⟨b_, 1, none⟩ = some (Value.slice v12.ptr v12.len v12.cap) ∧ (R (((v12.len : Nat) : Int) == 0) w1))) ∧
  ((v6 == (IntKind.i64.wrap ((-1000) - n_))) = false → (R false w1))))

def F_towpathlaw01_Book_keepWrite (b_ : Option Addr) (l_ : Slc) (R : World → Prop) (w : World) : Prop :=
  IsAt b_ ∧ (∃ (v7 : Int), w.cell? ⟨(pblk b_), (poff b_), none⟩ = some (Value.int .i64 v7) ∧ (Writable w (pblk b_) (poff b_) 1 ∧ (∀ w1, w1 = World.puts (pblk b_) (poff b_) [Value.int .i64 (IntKind.i64.wrap (v7 + 1))] w → (∀ w2, (∃ k, w2 = w1.drewN k) → (IsAt b_ ∧ (∃ (v15 : Slc), w2.cell? ⟨(pblk b_), (poff b_) + 4, none⟩ = some (Value.slice v15.ptr v15.len v15.cap) ∧ (IsAt b_ ∧ (∃ (v20 : Int), w2.cell? ⟨(pblk b_), (poff b_), none⟩ = some (Value.int .i64 v20) ∧ (∀ b_1 w3, b_1 = w2.heap.size → w3 = w2.alloc (Obj.cells ([Value.slice l_.ptr l_.len l_.cap, Value.slice none 0 0, Value.int .i64 v20]).toArray ty_towpathlaw01_heldWrite (0, 0)) → (w3.cell? ⟨(pblk b_), (poff b_) + 4, none⟩ = some (Value.slice v15.ptr v15.len v15.cap) ∧ (∃ src, SrcAt w3 (Slc.mk (some ⟨b_1, 0, none⟩) 1 1) 3 src ∧ AppendW 3 56 ty_towpathlaw01_heldWrite [Value.slice none 0 0, Value.slice none 0 0, Value.int .i64 0] v15 src 1 w3 (fun v23 w4 => (IsAt b_ ∧ (Writable w4 (pblk b_) ((poff b_) + 4) 1 ∧ (∀ w5, w5 = World.puts (pblk b_) ((poff b_) + 4) [Value.slice v23.ptr v23.len v23.cap] w4 → ((R w5)))))))))))))))))

def F_sum_More_L0 (b_ : Slc) (R : Int → World → Prop) (b_1 : Nat) (again_ : Int → Int → World → Prop) (c : Int) (t14 : Int) (w4 : World) : Prop :=
  ((decide (t14 < ((b_.len : Nat) : Int))) = true → (IsAt b_.ptr ∧ (0 ≤ t14 ∧ t14 < ((b_.len : Nat) : Int) ∧ (∃ (x : Int), w4.cell? ⟨(pblk b_.ptr), (poff b_.ptr) + t14.toNat, none⟩ = some (Value.int .u8 x) ∧ (0 ≤ bxor .u8 (IntKind.u8.wrap c) x ∧ bxor .u8 (IntKind.u8.wrap c) x < (256 : Int) ∧ (∃ (v23 : Int), w4.cell? ⟨b_1, 0 + (bxor .u8 (IntKind.u8.wrap c) x).toNat, none⟩ = some (Value.int .u32 v23) ∧ (again_ (bxor .u32 v23 (Int.fdiv c (2 ^ 8))) (IntKind.i64.wrap (t14 + 1)) w4))))))) ∧
  ((decide (t14 < ((b_.len : Nat) : Int))) = false → (R (bxor .u32 (IntKind.max .u32) c) w4))

def F_sum_More (sum : Int) (b_ : Slc) (R : Int → World → Prop) (w : World) : Prop :=
  C_sum_table w (fun (v9 : List Int) w1 => (v9.length = 256) → ∀ b_1 w2, b_1 = w1.heap.size → w2 = w1.alloc (Obj.cells ((List.map (Value.int .u32) (List.replicate 256 0))).toArray ty_256_uint32 (0, 0)) → (Writable w2 b_1 0 256 ∧ (∀ w3, w3 = World.puts b_1 0 (List.map (Value.int .u32) v9) w2 → (∃ (I : Int → Int → World → Prop) (μ : Int → Int → World → Nat), I (bxor .u32 (IntKind.max .u32) sum) 0 w3 ∧
  ∀ (c : Int) (t14 : Int) w, I c t14 w → F_sum_More_L0 b_ R b_1 (fun (c' : Int) (t14' : Int) w' => I c' t14' w' ∧ μ c' t14' w' < μ c t14 w) c t14 w))))

def F_slices_Clone_byte_byte (s : Slc) (R : Slc → World → Prop) (w : World) : Prop :=
  (s.ptr.isNone = true → (R (Slc.mk none 0 0) w)) ∧
  (s.ptr.isNone = false → (∀ b_ w1, b_ = w.heap.size → w1 = w.alloc (Obj.cells ([]).toArray ty_uint8 (0, 0)) → (∃ src, SrcAt w1 s 1 src ∧ AppendW 1 1 ty_uint8 [Value.int .u8 0] (Slc.mk (some ⟨b_, 0, none⟩) 0 0) src s.len w1 (fun v7 w2 => R v7 w2))))

def F_towpathref03_More_k2 (k : Int) (again_1 : Int → Int → World → Prop) (c2 : Int) (w3 : World) : Prop :=
  again_1 c2 (IntKind.i64.wrap (k + 1)) w3

def F_towpathref03_More_L1 (i : Int) (again_ : Int → Int → World → Prop) (again_1 : Int → Int → World → Prop) (c1 : Int) (k : Int) (w2 : World) : Prop :=
  ((decide (k < 8)) = true → ((((Int.tmod c1 2) == 1) = true → (F_towpathref03_More_k2 k again_1 (bxor .u32 (IntKind.u32.wrap (Int.tdiv c1 2)) 2197175160) w2)) ∧
  (((Int.tmod c1 2) == 1) = false → (F_towpathref03_More_k2 k again_1 (IntKind.u32.wrap (Int.tdiv c1 2)) w2)))) ∧
  ((decide (k < 8)) = false → (again_ c1 (IntKind.i64.wrap (i + 1)) w2))

def F_towpathref03_More_L0 (b_ : Slc) (R : Int → World → Prop) (again_ : Int → Int → World → Prop) (c : Int) (i : Int) (w1 : World) : Prop :=
  ((decide (i < ((b_.len : Nat) : Int))) = true → (IsAt b_.ptr ∧ (0 ≤ i ∧ i < ((b_.len : Nat) : Int) ∧ (∃ (v21 : Int), w1.cell? ⟨(pblk b_.ptr), (poff b_.ptr) + i.toNat, none⟩ = some (Value.int .u8 v21) ∧ (∃ (I : Int → Int → World → Prop) (μ : Int → Int → World → Nat), I (bxor .u32 c (IntKind.u32.wrap v21)) 0 w1 ∧
  ∀ (c1 : Int) (k : Int) w, I c1 k w → F_towpathref03_More_L1 i again_ (fun (c1' : Int) (k' : Int) w' => I c1' k' w' ∧ μ c1' k' w' < μ c1 k w) c1 k w))))) ∧
  ((decide (i < ((b_.len : Nat) : Int))) = false → (R (IntKind.u32.wrap (4294967295 - c)) w1))

def F_towpathref03_More (sum : Int) (b_ : Slc) (R : Int → World → Prop) (w : World) : Prop :=
  ∃ (I : Int → Int → World → Prop) (μ : Int → Int → World → Nat), I (IntKind.u32.wrap (4294967295 - sum)) 0 w ∧
  ∀ (c : Int) (i : Int) w, I c i w → F_towpathref03_More_L0 b_ R (fun (c' : Int) (i' : Int) w' => I c' i' w' ∧ μ c' i' w' < μ c i w) c i w

def F_logfile_records_1_k1 (yield : Value) (t1 : Option Addr) (t2 : Option Addr) (R : World → Prop) (v12 : Option Addr) (again_ : Int → World → Prop) (s : Slc) (v25 : Int) (t34 : Bool) (w7 : World) : Prop :=
  (t34 = true → (∀ w8, (∃ k, w8 = w7.drewN k) → (IsAt t2 ∧ (∃ (v35 : Option Addr), w8.cell? ⟨(pblk t2), (poff t2), none⟩ = some (Value.pointer v35) ∧ (∃ (v37 : Int), (C_codec_Reader_End v12 w8 (fun (v37' : Int) w'' => v37' = v37 ∧ w'' = w8)) ∧ (IsAt v35 ∧ (Writable w8 (pblk v35) (poff v35) 1 ∧ (∀ w10, w10 = World.puts (pblk v35) (poff v35) [Value.int .i64 v37] w8 → (R w10))))))))) ∧
  (t34 = false → (C_sum_CRC s w7 (fun (v42 : Int) w11 => (((IntKind.u32.wrap v25) != v42) = true → (IsAt t2 ∧ (∃ (v44 : Option Addr), w11.cell? ⟨(pblk t2), (poff t2), none⟩ = some (Value.pointer v44) ∧ (IsAt v44 ∧ (Writable w11 (pblk v44) (poff v44) 1 ∧ (∀ w12, w12 = World.puts (pblk v44) (poff v44) [Value.int .i64 4] w11 → (R w12))))))) ∧
  (((IntKind.u32.wrap v25) != v42) = false → (C_record_Decode s w11 (fun (v48 : T_api_Txn) (f : Int) w13 => ∀ b_ w14, b_ = w13.heap.size → w14 = w13.alloc (Obj.cells ([Value.int .i64 0, Value.slice none 0 0]).toArray ty_api_Txn (0, 0)) → (Writable w14 b_ 0 2 ∧ (∀ w15, w15 = World.puts b_ 0 [Value.int .i64 v48.Number, Value.slice v48.Writes.ptr v48.Writes.len v48.Writes.cap] w14 → (((f != 0) = true → (IsAt t2 ∧ (∃ (v53 : Option Addr), w15.cell? ⟨(pblk t2), (poff t2), none⟩ = some (Value.pointer v53) ∧ (IsAt v53 ∧ (Writable w15 (pblk v53) (poff v53) 1 ∧ (∀ w16, w16 = World.puts (pblk v53) (poff v53) [Value.int .i64 f] w15 → (R w16))))))) ∧
  ((f != 0) = false → (∀ w17, (∃ k, w17 = w15.drewN k) → (IsAt t1 ∧ (∃ (v57 : Slc), w17.cell? ⟨(pblk t1), (poff t1), none⟩ = some (Value.slice v57.ptr v57.len v57.cap) ∧ (∃ (v60 : Int), (C_codec_Reader_Left v12 w17 (fun (v60' : Int) w'' => v60' = v60 ∧ w'' = w17)) ∧ (∃ (v62 : T_api_Txn), CellsAt w17 b_ 0 [Value.int .i64 v62.Number, Value.slice v62.Writes.ptr v62.Writes.len v62.Writes.cap] ∧ (CallsY (P := Tryz.prog) yield #[Value.int .i64 (IntKind.i64.wrap (((v57.len : Nat) : Int) - v60)), Value.agg #[Value.int .i64 v62.Number, Value.slice v62.Writes.ptr v62.Writes.len v62.Writes.cap]] w17 (fun e' w19 => ∃ (v63 : Bool), e' = Ending.returned (Value.bool v63) ∧ (((!v63) = true → (R w19)) ∧
  ((!v63) = false → (C_codec_Reader_Left v12 w19 (fun (v18 : Int) w20 => again_ v18 w20)))))))))))))))))))))

def F_logfile_records_1_L0 (yield : Value) (t1 : Option Addr) (t2 : Option Addr) (R : World → Prop) (v12 : Option Addr) (again_ : Int → World → Prop) (left : Int) (w2 : World) : Prop :=
  ((decide (left > 0)) = true → (C_codec_Reader_Text v12 65536 w2 (fun (v20 : ByteArray) w3 => ∀ s w4, OfString ty_uint8 v20 w3 s w4 → (C_codec_Reader_Left v12 w4 (fun (v23 : Int) w5 => C_codec_Reader_Fixed v12 4 w5 (fun (v25 : Int) w6 => ((v23 == left) = true → (F_logfile_records_1_k1 yield t1 t2 R v12 again_ s v25 true w6)) ∧
  ((v23 == left) = false → (C_codec_Reader_Left v12 w6 (fun (v31 : Int) w21 => F_logfile_records_1_k1 yield t1 t2 R v12 again_ s v25 (v31 == v23) w21))))))))) ∧
  ((decide (left > 0)) = false → (R w2))

def F_logfile_records_1 (yield : Value) (t1 : Option Addr) (t2 : Option Addr) (R : World → Prop) (w : World) : Prop :=
  IsAt t1 ∧ (∃ (v11 : Slc), w.cell? ⟨(pblk t1), (poff t1), none⟩ = some (Value.slice v11.ptr v11.len v11.cap) ∧ (C_codec_NewReader v11 w (fun (v12 : Option Addr) w1 => IsAt t1 ∧ (∃ (v13 : Slc), w1.cell? ⟨(pblk t1), (poff t1), none⟩ = some (Value.slice v13.ptr v13.len v13.cap) ∧ (∃ (I : Int → World → Prop) (μ : Int → World → Nat), I ((v13.len : Nat) : Int) w1 ∧
  ∀ (left : Int) w, I left w → F_logfile_records_1_L0 yield t1 t2 R v12 (fun (left' : Int) w' => I left' w' ∧ μ left' w' < μ left w) left w)))))

def F_codec_NewReader (b_ : Slc) (R : Option Addr → World → Prop) (w : World) : Prop :=
  C_slices_Clone_byte_byte b_ w (fun (v4 : Slc) w1 => ∀ b_1 w2, b_1 = w1.heap.size → w2 = w1.alloc (Obj.cells ([Value.bool true, Value.slice v4.ptr v4.len v4.cap, Value.int .i64 0]).toArray ty_codec_Reader (0, 0)) → (R (some ⟨b_1, 0, none⟩) w2))

def F_codec_Reader_Left (r : Option Addr) (R : Int → World → Prop) (w : World) : Prop :=
  (r.isNone = true → (R 0 w)) ∧
  (r.isNone = false → (IsAt r ∧ (∃ (v8 : Slc), w.cell? ⟨(pblk r), (poff r) + 1, none⟩ = some (Value.slice v8.ptr v8.len v8.cap) ∧ (R ((v8.len : Nat) : Int) w))))

def F_codec_Reader_Text (r : Option Addr) (most : Int) (R : ByteArray → World → Prop) (w : World) : Prop :=
  ∀ b_ w1, b_ = w.heap.size → w1 = w.alloc (Obj.cells ([Value.int .i64 most]).toArray ty_int (0, 0)) → (∀ b_1 w2, b_1 = w1.heap.size → w2 = w1.alloc (Obj.cells ([Value.string ByteArray.empty]).toArray ty_string (0, 0)) → (C_codec_Reader_take r (Value.func (.func 201) #[] #[Value.pointer (some ⟨b_, 0, none⟩), Value.pointer (some ⟨b_1, 0, none⟩)]) w2 (fun (v7 : Bool) w3 => ∃ (v8 : ByteArray), w3.cell? ⟨b_1, 0, none⟩ = some (Value.string v8) ∧ (Writable w3 b_1 0 1 ∧ (∀ w4, w4 = World.puts b_1 0 [Value.string v8] w3 → (∃ (res : ByteArray), CellsAt w4 b_1 0 [Value.string res] ∧ (R res w4)))))))

def F_codec_Reader_Fixed (r : Option Addr) (width : Int) (R : Int → World → Prop) (w : World) : Prop :=
  ∀ b_ w1, b_ = w.heap.size → w1 = w.alloc (Obj.cells ([Value.int .i64 width]).toArray ty_int (0, 0)) → (∀ b_1 w2, b_1 = w1.heap.size → w2 = w1.alloc (Obj.cells ([Value.int .u64 0]).toArray ty_uint64 (0, 0)) → (C_codec_Reader_take r (Value.func (.func 203) #[] #[Value.pointer (some ⟨b_, 0, none⟩), Value.pointer (some ⟨b_1, 0, none⟩)]) w2 (fun (v7 : Bool) w3 => ∃ (v8 : Int), w3.cell? ⟨b_1, 0, none⟩ = some (Value.int .u64 v8) ∧ (Writable w3 b_1 0 1 ∧ (∀ w4, w4 = World.puts b_1 0 [Value.int .u64 v8] w3 → (∃ (res : Int), CellsAt w4 b_1 0 [Value.int .u64 res] ∧ (R res w4)))))))

def F_codec_Reader_End_k1 (r : Option Addr) (R : Int → World → Prop) (t13 : Bool) (w2 : World) : Prop :=
  (t13 = true → (R 4 w2)) ∧
  (t13 = false → (IsAt r ∧ (∃ (v30 : Int), w2.cell? ⟨(pblk r), (poff r) + 2, none⟩ = some (Value.int .i64 v30) ∧ (R v30 w2))))

def F_codec_Reader_End_k0 (r : Option Addr) (R : Int → World → Prop) (t3 : Bool) (w1 : World) : Prop :=
  (t3 = true → (R 2 w1)) ∧
  (t3 = false → (IsAt r ∧ (∃ (v17 : Int), w1.cell? ⟨(pblk r), (poff r) + 2, none⟩ = some (Value.int .i64 v17) ∧ (((v17 == 0) = true → (IsAt r ∧ (∃ (v23 : Slc), w1.cell? ⟨(pblk r), (poff r) + 1, none⟩ = some (Value.slice v23.ptr v23.len v23.cap) ∧ (F_codec_Reader_End_k1 r R (decide (((v23.len : Nat) : Int) > 0)) w1)))) ∧
  ((v17 == 0) = false → (F_codec_Reader_End_k1 r R false w1))))))

def F_codec_Reader_End (r : Option Addr) (R : Int → World → Prop) (w : World) : Prop :=
  (r.isNone = true → (F_codec_Reader_End_k0 r R true w)) ∧
  (r.isNone = false → (IsAt r ∧ (∃ (v10 : Bool), w.cell? ⟨(pblk r), (poff r), none⟩ = some (Value.bool v10) ∧ (F_codec_Reader_End_k0 r R (!v10) w))))

def F_record_Decode_k1 (b_4 : Nat) (t51 : Int) (again_ : Int → World → Prop) (b_5 : Nat) (w24 : World) : Prop :=
  ∃ (v91 : Slc), w24.cell? ⟨b_4, 1, none⟩ = some (Value.slice v91.ptr v91.len v91.cap) ∧ (∃ (v92 : T_api_Write), CellsAt w24 b_5 0 [Value.string v92.Key, Value.string v92.Val, Value.bool v92.Drop] ∧ (∀ b_6 w25, b_6 = w24.heap.size → w25 = w24.alloc (Obj.cells ([Value.string v92.Key, Value.string v92.Val, Value.bool v92.Drop]).toArray ty_api_Write (0, 0)) → (∃ src, SrcAt w25 (Slc.mk (some ⟨b_6, 0, none⟩) 1 1) 3 src ∧ AppendW 3 40 ty_api_Write [Value.string ByteArray.empty, Value.string ByteArray.empty, Value.bool false] v91 src 1 w25 (fun v94 w26 => Writable w26 b_4 1 1 ∧ (∀ w27, w27 = World.puts b_4 1 [Value.slice v94.ptr v94.len v94.cap] w26 → (again_ (IntKind.u64.wrap (t51 + 1)) w27))))))

def F_record_Decode_L0 (R : T_api_Txn → Int → World → Prop) (b_1 : Nat) (b_2 : Nat) (b_3 : Nat) (v38 : Int) (b_4 : Nat) (again_ : Int → World → Prop) (t51 : Int) (w15 : World) : Prop :=
  ((decide (t51 < v38)) = true → (∀ b_5 w16, b_5 = w15.heap.size → w16 = w15.alloc (Obj.cells ([Value.string ByteArray.empty, Value.string ByteArray.empty, Value.bool false]).toArray ty_api_Write (0, 0)) → (∃ (v53 : Option Addr), w16.cell? ⟨b_2, 0, none⟩ = some (Value.pointer v53) ∧ (C_codec_Reader_Text v53 64 w16 (fun (v54 : ByteArray) w17 => Writable w17 b_5 0 1 ∧ (∀ w18, w18 = World.puts b_5 0 [Value.string v54] w17 → (∃ (v58 : ByteArray), w18.cell? ⟨b_5, 0, none⟩ = some (Value.string v58) ∧ (C_record_Decode_1 (v58.toList == ByteArray.empty.toList) 1 (some ⟨b_2, 0, none⟩) (some ⟨b_3, 0, none⟩) w18 (fun (v60 : Int) w19 => ((v60 != 0) = true → (Writable w19 b_1 0 2 ∧ (∀ w20, w20 = World.puts b_1 0 [Value.int .i64 0, Value.slice none 0 0] w19 → (∃ (res2 : T_api_Txn), CellsAt w20 b_1 0 [Value.int .i64 res2.Number, Value.slice res2.Writes.ptr res2.Writes.len res2.Writes.cap] ∧ (R res2 v60 w20))))) ∧
  ((v60 != 0) = false → (∃ (v65 : Option Addr), w19.cell? ⟨b_2, 0, none⟩ = some (Value.pointer v65) ∧ (C_codec_Reader_Fixed v65 1 w19 (fun (v66 : Int) w21 => C_record_Decode_1 (decide (v66 > 1)) 4 (some ⟨b_2, 0, none⟩) (some ⟨b_3, 0, none⟩) w21 (fun (v70 : Int) w22 => ((v70 != 0) = true → (Writable w22 b_1 0 2 ∧ (∀ w23, w23 = World.puts b_1 0 [Value.int .i64 0, Value.slice none 0 0] w22 → (∃ (res3 : T_api_Txn), CellsAt w23 b_1 0 [Value.int .i64 res3.Number, Value.slice res3.Writes.ptr res3.Writes.len res3.Writes.cap] ∧ (R res3 v70 w23))))) ∧
  ((v70 != 0) = false → (Writable w22 b_5 2 1 ∧ (∀ w28, w28 = World.puts b_5 2 [Value.bool (v66 == 1)] w22 → (∃ (v79 : Bool), w28.cell? ⟨b_5, 2, none⟩ = some (Value.bool v79) ∧ (((!v79) = true → (∃ (v81 : Option Addr), w28.cell? ⟨b_2, 0, none⟩ = some (Value.pointer v81) ∧ (C_codec_Reader_Text v81 1024 w28 (fun (v82 : ByteArray) w29 => Writable w29 b_5 1 1 ∧ (∀ w30, w30 = World.puts b_5 1 [Value.string v82] w29 → (C_record_Decode_1 false 0 (some ⟨b_2, 0, none⟩) (some ⟨b_3, 0, none⟩) w30 (fun (v85 : Int) w31 => ((v85 != 0) = true → (Writable w31 b_1 0 2 ∧ (∀ w32, w32 = World.puts b_1 0 [Value.int .i64 0, Value.slice none 0 0] w31 → (∃ (res4 : T_api_Txn), CellsAt w32 b_1 0 [Value.int .i64 res4.Number, Value.slice res4.Writes.ptr res4.Writes.len res4.Writes.cap] ∧ (R res4 v85 w32))))) ∧
  ((v85 != 0) = false → (F_record_Decode_k1 b_4 t51 again_ b_5 w31))))))))) ∧
  ((!v79) = false → (F_record_Decode_k1 b_4 t51 again_ b_5 w28))))))))))))))))))))) ∧
  ((decide (t51 < v38)) = false → (∃ (v97 : Option Addr), w15.cell? ⟨b_2, 0, none⟩ = some (Value.pointer v97) ∧ (C_codec_Reader_End v97 w15 (fun (v98 : Int) w33 => ((v98 != 0) = true → (Writable w33 b_1 0 2 ∧ (∀ w34, w34 = World.puts b_1 0 [Value.int .i64 0, Value.slice none 0 0] w33 → (∃ (res5 : T_api_Txn), CellsAt w34 b_1 0 [Value.int .i64 res5.Number, Value.slice res5.Writes.ptr res5.Writes.len res5.Writes.cap] ∧ (R res5 v98 w34))))) ∧
  ((v98 != 0) = false → (∃ (v103 : T_api_Txn), CellsAt w33 b_4 0 [Value.int .i64 v103.Number, Value.slice v103.Writes.ptr v103.Writes.len v103.Writes.cap] ∧ (Writable w33 b_1 0 2 ∧ (∀ w35, w35 = World.puts b_1 0 [Value.int .i64 v103.Number, Value.slice v103.Writes.ptr v103.Writes.len v103.Writes.cap] w33 → (∃ (res6 : T_api_Txn), CellsAt w35 b_1 0 [Value.int .i64 res6.Number, Value.slice res6.Writes.ptr res6.Writes.len res6.Writes.cap] ∧ (R res6 0 w35))))))))))

def F_record_Decode (b_ : Slc) (R : T_api_Txn → Int → World → Prop) (w : World) : Prop :=
  ∀ b_1 w1, b_1 = w.heap.size → w1 = w.alloc (Obj.cells ([Value.int .i64 0, Value.slice none 0 0]).toArray ty_api_Txn (0, 0)) → (C_codec_NewReader b_ w1 (fun (v19 : Option Addr) w2 => ∀ b_2 w3, b_2 = w2.heap.size → w3 = w2.alloc (Obj.cells ([Value.pointer none]).toArray ty_ptr_codec_Reader (0, 0)) → (Writable w3 b_2 0 1 ∧ (∀ w4, w4 = World.puts b_2 0 [Value.pointer v19] w3 → (∀ b_3 w5, b_3 = w4.heap.size → w5 = w4.alloc (Obj.cells ([Value.int .i64 0]).toArray ty_int (0, 0)) → (Writable w5 b_3 0 1 ∧ (∀ w6, w6 = World.puts b_3 0 [Value.int .i64 ((b_.len : Nat) : Int)] w5 → (∃ (v23 : Option Addr), w6.cell? ⟨b_2, 0, none⟩ = some (Value.pointer v23) ∧ (C_codec_Reader_Var v23 w6 (fun (v24 : Int) w7 => C_record_Decode_1 ((decide (v24 < 1)) || (decide (v24 > 65536))) 1 (some ⟨b_2, 0, none⟩) (some ⟨b_3, 0, none⟩) w7 (fun (v32 : Int) w8 => ((v32 != 0) = true → (Writable w8 b_1 0 2 ∧ (∀ w9, w9 = World.puts b_1 0 [Value.int .i64 0, Value.slice none 0 0] w8 → (∃ (res : T_api_Txn), CellsAt w9 b_1 0 [Value.int .i64 res.Number, Value.slice res.Writes.ptr res.Writes.len res.Writes.cap] ∧ (R res v32 w9))))) ∧
  ((v32 != 0) = false → (∃ (v37 : Option Addr), w8.cell? ⟨b_2, 0, none⟩ = some (Value.pointer v37) ∧ (C_codec_Reader_Var v37 w8 (fun (v38 : Int) w10 => C_record_Decode_1 (decide (v38 > 32)) 3 (some ⟨b_2, 0, none⟩) (some ⟨b_3, 0, none⟩) w10 (fun (v42 : Int) w11 => ((v42 != 0) = true → (Writable w11 b_1 0 2 ∧ (∀ w12, w12 = World.puts b_1 0 [Value.int .i64 0, Value.slice none 0 0] w11 → (∃ (res1 : T_api_Txn), CellsAt w12 b_1 0 [Value.int .i64 res1.Number, Value.slice res1.Writes.ptr res1.Writes.len res1.Writes.cap] ∧ (R res1 v42 w12))))) ∧
  ((v42 != 0) = false → (∀ b_4 w13, b_4 = w11.heap.size → w13 = w11.alloc (Obj.cells ([Value.int .i64 0, Value.slice none 0 0]).toArray ty_api_Txn (0, 0)) → (Writable w13 b_4 0 2 ∧ (∀ w14, w14 = World.puts b_4 0 [Value.int .i64 (IntKind.i64.wrap v24), Value.slice none 0 0] w13 → (∃ (I : Int → World → Prop) (μ : Int → World → Nat), I 0 w14 ∧
  ∀ (t51 : Int) w, I t51 w → F_record_Decode_L0 R b_1 b_2 b_3 v38 b_4 (fun (t51' : Int) w' => I t51' w' ∧ μ t51' w' < μ t51 w) t51 w)))))))))))))))))))))

def F_towpathref02_Reader_dead (r : T_towpathref02_Reader) (R : Bool → World → Prop) (w : World) : Prop :=
  ∀ b_ w1, b_ = w.heap.size → w1 = w.alloc (Obj.cells ([Value.bool r.Gone, Value.slice r.B.ptr r.B.len r.B.cap, Value.int .i64 r.At, Value.int .i64 r.Code]).toArray ty_towpathref02_Reader (0, 0)) → (∃ (v4 : Bool), w1.cell? ⟨b_, 0, none⟩ = some (Value.bool v4) ∧ ((v4 = true → (R true w1)) ∧
  (v4 = false → (∃ (v7 : Int), w1.cell? ⟨b_, 3, none⟩ = some (Value.int .i64 v7) ∧ (R (v7 != 0) w1)))))

def F_towpathref02_Reader_wrong (r : T_towpathref02_Reader) (e : Int) (R : T_towpathref02_Reader → World → Prop) (w : World) : Prop :=
  ∀ b_ w1, b_ = w.heap.size → w1 = w.alloc (Obj.cells ([Value.bool r.Gone, Value.slice r.B.ptr r.B.len r.B.cap, Value.int .i64 r.At, Value.int .i64 r.Code]).toArray ty_towpathref02_Reader (0, 0)) → (∀ b_1 w2, b_1 = w1.heap.size → w2 = w1.alloc (Obj.cells ([Value.bool false, Value.slice none 0 0, Value.int .i64 0, Value.int .i64 0]).toArray ty_towpathref02_Reader (0, 0)) → (Writable w2 b_ 3 1 ∧ (∀ w3, w3 = World.puts b_ 3 [Value.int .i64 e] w2 → (∃ (v7 : T_towpathref02_Reader), CellsAt w3 b_ 0 [Value.bool v7.Gone, Value.slice v7.B.ptr v7.B.len v7.B.cap, Value.int .i64 v7.At, Value.int .i64 v7.Code] ∧ (Writable w3 b_1 0 4 ∧ (∀ w4, w4 = World.puts b_1 0 [Value.bool v7.Gone, Value.slice v7.B.ptr v7.B.len v7.B.cap, Value.int .i64 v7.At, Value.int .i64 v7.Code] w3 → (∃ (res : T_towpathref02_Reader), CellsAt w4 b_1 0 [Value.bool res.Gone, Value.slice res.B.ptr res.B.len res.B.cap, Value.int .i64 res.At, Value.int .i64 res.Code] ∧ (R res w4))))))))

def F_towpathref02_Reader_Var_L0 (R : T_towpathref02_Reader → Int → World → Prop) (b_ : Nat) (b_1 : Nat) (again_ : Int → Int → Int → World → Prop) (n_ : Int) (f : Int) (i : Int) (w5 : World) : Prop :=
  ∃ (v14 : Int), w5.cell? ⟨b_, 2, none⟩ = some (Value.int .i64 v14) ∧ (∃ (v18 : Slc), w5.cell? ⟨b_, 1, none⟩ = some (Value.slice v18.ptr v18.len v18.cap) ∧ (((decide ((IntKind.i64.wrap (v14 + i)) ≥ ((v18.len : Nat) : Int))) = true → (∃ (v21 : T_towpathref02_Reader), CellsAt w5 b_ 0 [Value.bool v21.Gone, Value.slice v21.B.ptr v21.B.len v21.B.cap, Value.int .i64 v21.At, Value.int .i64 v21.Code] ∧ (C_towpathref02_Reader_wrong v21 5 w5 (fun (v22 : T_towpathref02_Reader) w6 => Writable w6 b_1 0 4 ∧ (∀ w7, w7 = World.puts b_1 0 [Value.bool v22.Gone, Value.slice v22.B.ptr v22.B.len v22.B.cap, Value.int .i64 v22.At, Value.int .i64 v22.Code] w6 → (∃ (res1 : T_towpathref02_Reader), CellsAt w7 b_1 0 [Value.bool res1.Gone, Value.slice res1.B.ptr res1.B.len res1.B.cap, Value.int .i64 res1.At, Value.int .i64 res1.Code] ∧ (R res1 0 w7))))))) ∧
  ((decide ((IntKind.i64.wrap (v14 + i)) ≥ ((v18.len : Nat) : Int))) = false → (∃ (v24 : Slc), w5.cell? ⟨b_, 1, none⟩ = some (Value.slice v24.ptr v24.len v24.cap) ∧ (∃ (v26 : Int), w5.cell? ⟨b_, 2, none⟩ = some (Value.int .i64 v26) ∧ (IsAt v24.ptr ∧ (0 ≤ IntKind.i64.wrap (v26 + i) ∧ IntKind.i64.wrap (v26 + i) < ((v24.len : Nat) : Int) ∧ (∃ (c : Int), w5.cell? ⟨(pblk v24.ptr), (poff v24.ptr) + (IntKind.i64.wrap (v26 + i)).toNat, none⟩ = some (Value.int .u8 c) ∧ (((((i == 9) && (decide (c > 1))) || ((decide (i > 0)) && (c == 0))) = true → (∃ (v45 : T_towpathref02_Reader), CellsAt w5 b_ 0 [Value.bool v45.Gone, Value.slice v45.B.ptr v45.B.len v45.B.cap, Value.int .i64 v45.At, Value.int .i64 v45.Code] ∧ (C_towpathref02_Reader_wrong v45 4 w5 (fun (v46 : T_towpathref02_Reader) w8 => Writable w8 b_1 0 4 ∧ (∀ w9, w9 = World.puts b_1 0 [Value.bool v46.Gone, Value.slice v46.B.ptr v46.B.len v46.B.cap, Value.int .i64 v46.At, Value.int .i64 v46.Code] w8 → (∃ (res2 : T_towpathref02_Reader), CellsAt w9 b_1 0 [Value.bool res2.Gone, Value.slice res2.B.ptr res2.B.len res2.B.cap, Value.int .i64 res2.At, Value.int .i64 res2.Code] ∧ (R res2 0 w9))))))) ∧
  ((((i == 9) && (decide (c > 1))) || ((decide (i > 0)) && (c == 0))) = false → (((decide (c < 128)) = true → (∃ (v59 : Int), w5.cell? ⟨b_, 2, none⟩ = some (Value.int .i64 v59) ∧ (Writable w5 b_ 2 1 ∧ (∀ w10, w10 = World.puts b_ 2 [Value.int .i64 (IntKind.i64.wrap ((IntKind.i64.wrap (v59 + i)) + 1))] w5 → (∃ (v64 : T_towpathref02_Reader), CellsAt w10 b_ 0 [Value.bool v64.Gone, Value.slice v64.B.ptr v64.B.len v64.B.cap, Value.int .i64 v64.At, Value.int .i64 v64.Code] ∧ (Writable w10 b_1 0 4 ∧ (∀ w11, w11 = World.puts b_1 0 [Value.bool v64.Gone, Value.slice v64.B.ptr v64.B.len v64.B.cap, Value.int .i64 v64.At, Value.int .i64 v64.Code] w10 → (∃ (res3 : T_towpathref02_Reader), CellsAt w11 b_1 0 [Value.bool res3.Gone, Value.slice res3.B.ptr res3.B.len res3.B.cap, Value.int .i64 res3.At, Value.int .i64 res3.Code] ∧ (R res3 (IntKind.u64.wrap (n_ + (IntKind.u64.wrap (f * (IntKind.u64.wrap (Int.tmod c 128)))))) w11))))))))) ∧
  ((decide (c < 128)) = false → (again_ (IntKind.u64.wrap (n_ + (IntKind.u64.wrap (f * (IntKind.u64.wrap (Int.tmod c 128)))))) (IntKind.u64.wrap (128 * f)) (IntKind.i64.wrap (i + 1)) w5)))))))))))))

def F_towpathref02_Reader_Var (r : T_towpathref02_Reader) (R : T_towpathref02_Reader → Int → World → Prop) (w : World) : Prop :=
  ∀ b_ w1, b_ = w.heap.size → w1 = w.alloc (Obj.cells ([Value.bool r.Gone, Value.slice r.B.ptr r.B.len r.B.cap, Value.int .i64 r.At, Value.int .i64 r.Code]).toArray ty_towpathref02_Reader (0, 0)) → (∀ b_1 w2, b_1 = w1.heap.size → w2 = w1.alloc (Obj.cells ([Value.bool false, Value.slice none 0 0, Value.int .i64 0, Value.int .i64 0]).toArray ty_towpathref02_Reader (0, 0)) → (∃ (v8 : T_towpathref02_Reader), CellsAt w2 b_ 0 [Value.bool v8.Gone, Value.slice v8.B.ptr v8.B.len v8.B.cap, Value.int .i64 v8.At, Value.int .i64 v8.Code] ∧ (C_towpathref02_Reader_dead v8 w2 (fun (v9 : Bool) w3 => (v9 = true → (∃ (v10 : T_towpathref02_Reader), CellsAt w3 b_ 0 [Value.bool v10.Gone, Value.slice v10.B.ptr v10.B.len v10.B.cap, Value.int .i64 v10.At, Value.int .i64 v10.Code] ∧ (Writable w3 b_1 0 4 ∧ (∀ w4, w4 = World.puts b_1 0 [Value.bool v10.Gone, Value.slice v10.B.ptr v10.B.len v10.B.cap, Value.int .i64 v10.At, Value.int .i64 v10.Code] w3 → (∃ (res : T_towpathref02_Reader), CellsAt w4 b_1 0 [Value.bool res.Gone, Value.slice res.B.ptr res.B.len res.B.cap, Value.int .i64 res.At, Value.int .i64 res.Code] ∧ (R res 0 w4)))))) ∧
  (v9 = false → (∃ (I : Int → Int → Int → World → Prop) (μ : Int → Int → Int → World → Nat), I 0 1 0 w3 ∧
  ∀ (n_ : Int) (f : Int) (i : Int) w, I n_ f i w → F_towpathref02_Reader_Var_L0 R b_ b_1 (fun (n_' : Int) (f' : Int) (i' : Int) w' => I n_' f' i' w' ∧ μ n_' f' i' w' < μ n_ f i w) n_ f i w))))))

def F_towpathref05_one (r : T_towpathref02_Reader) (R : T_towpathref02_Reader → T_api_Write → Int → World → Prop) (w : World) : Prop :=
  ∀ b_ w1, b_ = w.heap.size → w1 = w.alloc (Obj.cells ([Value.bool r.Gone, Value.slice r.B.ptr r.B.len r.B.cap, Value.int .i64 r.At, Value.int .i64 r.Code]).toArray ty_towpathref02_Reader (0, 0)) → (∀ b_1 w2, b_1 = w1.heap.size → w2 = w1.alloc (Obj.cells ([Value.bool false, Value.slice none 0 0, Value.int .i64 0, Value.int .i64 0]).toArray ty_towpathref02_Reader (0, 0)) → (∀ b_2 w3, b_2 = w2.heap.size → w3 = w2.alloc (Obj.cells ([Value.string ByteArray.empty, Value.string ByteArray.empty, Value.bool false]).toArray ty_api_Write (0, 0)) → (∃ (v9 : T_towpathref02_Reader), CellsAt w3 b_ 0 [Value.bool v9.Gone, Value.slice v9.B.ptr v9.B.len v9.B.cap, Value.int .i64 v9.At, Value.int .i64 v9.Code] ∧ (C_towpathref02_Reader_Text v9 64 w3 (fun (v10 : T_towpathref02_Reader) (key : ByteArray) w4 => Writable w4 b_ 0 4 ∧ (∀ w5, w5 = World.puts b_ 0 [Value.bool v10.Gone, Value.slice v10.B.ptr v10.B.len v10.B.cap, Value.int .i64 v10.At, Value.int .i64 v10.Code] w4 → (∃ (v14 : Int), w5.cell? ⟨b_, 3, none⟩ = some (Value.int .i64 v14) ∧ (((v14 != 0) = true → (∀ w6, (∃ k, w6 = w5.drewN k) → (∃ (v16 : T_towpathref02_Reader), CellsAt w6 b_ 0 [Value.bool v16.Gone, Value.slice v16.B.ptr v16.B.len v16.B.cap, Value.int .i64 v16.At, Value.int .i64 v16.Code] ∧ (∃ (v19 : Int), w6.cell? ⟨b_, 3, none⟩ = some (Value.int .i64 v19) ∧ (Writable w6 b_1 0 4 ∧ (∀ w7, w7 = World.puts b_1 0 [Value.bool v16.Gone, Value.slice v16.B.ptr v16.B.len v16.B.cap, Value.int .i64 v16.At, Value.int .i64 v16.Code] w6 → (w7.cell? ⟨b_, 3, none⟩ = some (Value.int .i64 v19) ∧ (Writable w7 b_2 0 3 ∧ (∀ w8, w8 = World.puts b_2 0 [Value.string ByteArray.empty, Value.string ByteArray.empty, Value.bool false] w7 → (w8.cell? ⟨b_, 3, none⟩ = some (Value.int .i64 v19) ∧ (∃ (res : T_towpathref02_Reader), CellsAt w8 b_1 0 [Value.bool res.Gone, Value.slice res.B.ptr res.B.len res.B.cap, Value.int .i64 res.At, Value.int .i64 res.Code] ∧ (∃ (res1 : T_api_Write), CellsAt w8 b_2 0 [Value.string res1.Key, Value.string res1.Val, Value.bool res1.Drop] ∧ (R res res1 v19 w8))))))))))))) ∧
  ((v14 != 0) = false → (((((key.size : Nat) : Int) == 0) = true → (∃ (v23 : T_towpathref02_Reader), CellsAt w5 b_ 0 [Value.bool v23.Gone, Value.slice v23.B.ptr v23.B.len v23.B.cap, Value.int .i64 v23.At, Value.int .i64 v23.Code] ∧ (Writable w5 b_1 0 4 ∧ (∀ w9, w9 = World.puts b_1 0 [Value.bool v23.Gone, Value.slice v23.B.ptr v23.B.len v23.B.cap, Value.int .i64 v23.At, Value.int .i64 v23.Code] w5 → (Writable w9 b_2 0 3 ∧ (∀ w10, w10 = World.puts b_2 0 [Value.string ByteArray.empty, Value.string ByteArray.empty, Value.bool false] w9 → (∃ (res2 : T_towpathref02_Reader), CellsAt w10 b_1 0 [Value.bool res2.Gone, Value.slice res2.B.ptr res2.B.len res2.B.cap, Value.int .i64 res2.At, Value.int .i64 res2.Code] ∧ (∃ (res3 : T_api_Write), CellsAt w10 b_2 0 [Value.string res3.Key, Value.string res3.Val, Value.bool res3.Drop] ∧ (R res2 res3 1 w10))))))))) ∧
  ((((key.size : Nat) : Int) == 0) = false → (∃ (v26 : T_towpathref02_Reader), CellsAt w5 b_ 0 [Value.bool v26.Gone, Value.slice v26.B.ptr v26.B.len v26.B.cap, Value.int .i64 v26.At, Value.int .i64 v26.Code] ∧ (C_towpathref02_Reader_Fixed v26 1 w5 (fun (v27 : T_towpathref02_Reader) (drop : Int) w11 => Writable w11 b_ 0 4 ∧ (∀ w12, w12 = World.puts b_ 0 [Value.bool v27.Gone, Value.slice v27.B.ptr v27.B.len v27.B.cap, Value.int .i64 v27.At, Value.int .i64 v27.Code] w11 → (∃ (v31 : Int), w12.cell? ⟨b_, 3, none⟩ = some (Value.int .i64 v31) ∧ (((v31 != 0) = true → (∀ w13, (∃ k, w13 = w12.drewN k) → (∃ (v33 : T_towpathref02_Reader), CellsAt w13 b_ 0 [Value.bool v33.Gone, Value.slice v33.B.ptr v33.B.len v33.B.cap, Value.int .i64 v33.At, Value.int .i64 v33.Code] ∧ (∃ (v36 : Int), w13.cell? ⟨b_, 3, none⟩ = some (Value.int .i64 v36) ∧ (Writable w13 b_1 0 4 ∧ (∀ w14, w14 = World.puts b_1 0 [Value.bool v33.Gone, Value.slice v33.B.ptr v33.B.len v33.B.cap, Value.int .i64 v33.At, Value.int .i64 v33.Code] w13 → (w14.cell? ⟨b_, 3, none⟩ = some (Value.int .i64 v36) ∧ (Writable w14 b_2 0 3 ∧ (∀ w15, w15 = World.puts b_2 0 [Value.string ByteArray.empty, Value.string ByteArray.empty, Value.bool false] w14 → (w15.cell? ⟨b_, 3, none⟩ = some (Value.int .i64 v36) ∧ (∃ (res4 : T_towpathref02_Reader), CellsAt w15 b_1 0 [Value.bool res4.Gone, Value.slice res4.B.ptr res4.B.len res4.B.cap, Value.int .i64 res4.At, Value.int .i64 res4.Code] ∧ (∃ (res5 : T_api_Write), CellsAt w15 b_2 0 [Value.string res5.Key, Value.string res5.Val, Value.bool res5.Drop] ∧ (R res4 res5 v36 w15))))))))))))) ∧
  ((v31 != 0) = false → (((decide (drop > 1)) = true → (∃ (v39 : T_towpathref02_Reader), CellsAt w12 b_ 0 [Value.bool v39.Gone, Value.slice v39.B.ptr v39.B.len v39.B.cap, Value.int .i64 v39.At, Value.int .i64 v39.Code] ∧ (Writable w12 b_1 0 4 ∧ (∀ w16, w16 = World.puts b_1 0 [Value.bool v39.Gone, Value.slice v39.B.ptr v39.B.len v39.B.cap, Value.int .i64 v39.At, Value.int .i64 v39.Code] w12 → (Writable w16 b_2 0 3 ∧ (∀ w17, w17 = World.puts b_2 0 [Value.string ByteArray.empty, Value.string ByteArray.empty, Value.bool false] w16 → (∃ (res6 : T_towpathref02_Reader), CellsAt w17 b_1 0 [Value.bool res6.Gone, Value.slice res6.B.ptr res6.B.len res6.B.cap, Value.int .i64 res6.At, Value.int .i64 res6.Code] ∧ (∃ (res7 : T_api_Write), CellsAt w17 b_2 0 [Value.string res7.Key, Value.string res7.Val, Value.bool res7.Drop] ∧ (R res6 res7 4 w17))))))))) ∧
  ((decide (drop > 1)) = false → (((drop == 1) = true → (∃ (v43 : T_towpathref02_Reader), CellsAt w12 b_ 0 [Value.bool v43.Gone, Value.slice v43.B.ptr v43.B.len v43.B.cap, Value.int .i64 v43.At, Value.int .i64 v43.Code] ∧ (Writable w12 b_1 0 4 ∧ (∀ w18, w18 = World.puts b_1 0 [Value.bool v43.Gone, Value.slice v43.B.ptr v43.B.len v43.B.cap, Value.int .i64 v43.At, Value.int .i64 v43.Code] w12 → (Writable w18 b_2 0 3 ∧ (∀ w19, w19 = World.puts b_2 0 [Value.string key, Value.string ByteArray.empty, Value.bool true] w18 → (∃ (res8 : T_towpathref02_Reader), CellsAt w19 b_1 0 [Value.bool res8.Gone, Value.slice res8.B.ptr res8.B.len res8.B.cap, Value.int .i64 res8.At, Value.int .i64 res8.Code] ∧ (∃ (res9 : T_api_Write), CellsAt w19 b_2 0 [Value.string res9.Key, Value.string res9.Val, Value.bool res9.Drop] ∧ (R res8 res9 0 w19))))))))) ∧
  ((drop == 1) = false → (∃ (v47 : T_towpathref02_Reader), CellsAt w12 b_ 0 [Value.bool v47.Gone, Value.slice v47.B.ptr v47.B.len v47.B.cap, Value.int .i64 v47.At, Value.int .i64 v47.Code] ∧ (C_towpathref02_Reader_Text v47 1024 w12 (fun (v48 : T_towpathref02_Reader) (val : ByteArray) w20 => Writable w20 b_ 0 4 ∧ (∀ w21, w21 = World.puts b_ 0 [Value.bool v48.Gone, Value.slice v48.B.ptr v48.B.len v48.B.cap, Value.int .i64 v48.At, Value.int .i64 v48.Code] w20 → (∀ w22, (∃ k, w22 = w21.drewN k) → (∃ (v51 : T_towpathref02_Reader), CellsAt w22 b_ 0 [Value.bool v51.Gone, Value.slice v51.B.ptr v51.B.len v51.B.cap, Value.int .i64 v51.At, Value.int .i64 v51.Code] ∧ (∃ (v56 : Int), w22.cell? ⟨b_, 3, none⟩ = some (Value.int .i64 v56) ∧ (Writable w22 b_1 0 4 ∧ (∀ w23, w23 = World.puts b_1 0 [Value.bool v51.Gone, Value.slice v51.B.ptr v51.B.len v51.B.cap, Value.int .i64 v51.At, Value.int .i64 v51.Code] w22 → (w23.cell? ⟨b_, 3, none⟩ = some (Value.int .i64 v56) ∧ (Writable w23 b_2 0 3 ∧ (∀ w24, w24 = World.puts b_2 0 [Value.string key, Value.string val, Value.bool false] w23 → (w24.cell? ⟨b_, 3, none⟩ = some (Value.int .i64 v56) ∧ (∃ (res10 : T_towpathref02_Reader), CellsAt w24 b_1 0 [Value.bool res10.Gone, Value.slice res10.B.ptr res10.B.len res10.B.cap, Value.int .i64 res10.At, Value.int .i64 res10.Code] ∧ (∃ (res11 : T_api_Write), CellsAt w24 b_2 0 [Value.string res11.Key, Value.string res11.Val, Value.bool res11.Drop] ∧ (R res10 res11 v56 w24))))))))))))))))))))))))))))))))))))))

def F_towpathref02_Reader_End (r : T_towpathref02_Reader) (R : Int → World → Prop) (w : World) : Prop :=
  ∀ b_ w1, b_ = w.heap.size → w1 = w.alloc (Obj.cells ([Value.bool r.Gone, Value.slice r.B.ptr r.B.len r.B.cap, Value.int .i64 r.At, Value.int .i64 r.Code]).toArray ty_towpathref02_Reader (0, 0)) → (∃ (v4 : Bool), w1.cell? ⟨b_, 0, none⟩ = some (Value.bool v4) ∧ ((v4 = true → (R 2 w1)) ∧
  (v4 = false → (∃ (v6 : Int), w1.cell? ⟨b_, 3, none⟩ = some (Value.int .i64 v6) ∧ (((v6 != 0) = true → (∃ (v9 : Int), w1.cell? ⟨b_, 3, none⟩ = some (Value.int .i64 v9) ∧ (R v9 w1))) ∧
  ((v6 != 0) = false → (∃ (v11 : Int), w1.cell? ⟨b_, 2, none⟩ = some (Value.int .i64 v11) ∧ (∃ (v13 : Slc), w1.cell? ⟨b_, 1, none⟩ = some (Value.slice v13.ptr v13.len v13.cap) ∧ (((decide (v11 < ((v13.len : Nat) : Int))) = true → (R 4 w1)) ∧
  ((decide (v11 < ((v13.len : Nat) : Int))) = false → (R 0 w1)))))))))))

def F_towpathlaw01_word (n_ : Int) (R : ByteArray → World → Prop) (w : World) : Prop :=
  C_strconv_Itoa n_ w (fun (v4 : ByteArray) w1 => (((ByteArray.mk #[35]).size + v4.size : Nat) : Int) ≤ 9223372036854775807 ∧ (R ((ByteArray.mk #[35]) ++ v4) w1))

def F_sum_table_L1 (b_1 : Nat) (t4 : Int) (again_ : Int → World → Prop) (again_1 : Int → Int → World → Prop) (c : Int) (t9 : Int) (w4 : World) : Prop :=
  ((decide (t9 < 8)) = true → (again_1 (bxor .u32 (Int.fdiv c (2 ^ 1)) (band .u32 2197175160 (IntKind.u32.wrap (0 - (band .u32 c 1))))) (IntKind.i64.wrap (t9 + 1)) w4)) ∧
  ((decide (t9 < 8)) = false → (0 ≤ t4 ∧ t4 < (256 : Int) ∧ (Writable w4 b_1 (0 + t4.toNat) 1 ∧ (∀ w5, w5 = World.puts b_1 (0 + t4.toNat) [Value.int .u32 c] w4 → (again_ (IntKind.i64.wrap (t4 + 1)) w5)))))

def F_sum_table_L0 (R : List Int → World → Prop) (b_ : Nat) (b_1 : Nat) (again_ : Int → World → Prop) (t4 : Int) (w3 : World) : Prop :=
  ((decide (t4 < 256)) = true → (∃ (I : Int → Int → World → Prop) (μ : Int → Int → World → Nat), I (IntKind.u32.wrap t4) 0 w3 ∧
  ∀ (c : Int) (t9 : Int) w, I c t9 w → F_sum_table_L1 b_1 t4 again_ (fun (c' : Int) (t9' : Int) w' => I c' t9' w' ∧ μ c' t9' w' < μ c t9 w) c t9 w)) ∧
  ((decide (t4 < 256)) = false → (∃ (v23 : List Int), (v23.length = 256) ∧ CellsAt w3 b_1 0 (List.map (Value.int .u32) v23) ∧ (Writable w3 b_ 0 256 ∧ (∀ w6, w6 = World.puts b_ 0 (List.map (Value.int .u32) v23) w3 → (∃ (res : List Int), (res.length = 256) ∧ CellsAt w6 b_ 0 (List.map (Value.int .u32) res) ∧ (R res w6))))))

def F_sum_table (R : List Int → World → Prop) (w : World) : Prop :=
  ∀ b_ w1, b_ = w.heap.size → w1 = w.alloc (Obj.cells ((List.map (Value.int .u32) (List.replicate 256 0))).toArray ty_256_uint32 (0, 0)) → (∀ b_1 w2, b_1 = w1.heap.size → w2 = w1.alloc (Obj.cells ((List.map (Value.int .u32) (List.replicate 256 0))).toArray ty_256_uint32 (0, 0)) → (∃ (I : Int → World → Prop) (μ : Int → World → Nat), I 0 w2 ∧
  ∀ (t4 : Int) w, I t4 w → F_sum_table_L0 R b_ b_1 (fun (t4' : Int) w' => I t4' w' ∧ μ t4' w' < μ t4 w) t4 w))

def F_codec_Reader_take_k0 (r : Option Addr) (next : Value) (R : Bool → World → Prop) (t22 : Bool) (w1 : World) : Prop :=
  (t22 = true → (R false w1)) ∧
  (t22 = false → (IsAt r ∧ (∃ (v28 : Slc), w1.cell? ⟨(pblk r), (poff r) + 1, none⟩ = some (Value.slice v28.ptr v28.len v28.cap) ∧ (CallsV (P := Tryz.prog) next #[Value.slice v28.ptr v28.len v28.cap] w1 (fun e' w2 => ∃ (n_ : Int) (e : Int), e' = Ending.returned (Value.tuple #[Value.int .i64 n_, Value.int .i64 e]) ∧ (((e != 0) = true → (IsAt r ∧ (Writable w2 (pblk r) ((poff r) + 2) 1 ∧ (∀ w3, w3 = World.puts (pblk r) ((poff r) + 2) [Value.int .i64 e] w2 → (R false w3))))) ∧
  ((e != 0) = false → (∀ w4, (∃ k, w4 = w2.drewN k) → (IsAt r ∧ (∃ (v42 : Slc), w4.cell? ⟨(pblk r), (poff r) + 1, none⟩ = some (Value.slice v42.ptr v42.len v42.cap) ∧ (IsAt r ∧ (∃ (v47 : Slc), w4.cell? ⟨(pblk r), (poff r) + 1, none⟩ = some (Value.slice v47.ptr v47.len v47.cap) ∧ (IsAt r ∧ (∃ (v52 : Slc), w4.cell? ⟨(pblk r), (poff r) + 1, none⟩ = some (Value.slice v52.ptr v52.len v52.cap) ∧ ((0 ≤ n_ ∧ n_ ≤ ((v47.len : Nat) : Int) ∧ ((v47.len : Nat) : Int) ≤ ((v52.len : Nat) : Int) ∧ ((v52.len : Nat) : Int) ≤ ((v42.cap : Nat) : Int)) ∧ (∀ s, s = Slc.cut 1 v42 n_ ((v47.len : Nat) : Int) ((v52.len : Nat) : Int) → (IsAt r ∧ (Writable w4 (pblk r) ((poff r) + 1) 1 ∧ (∀ w5, w5 = World.puts (pblk r) ((poff r) + 1) [Value.slice s.ptr s.len s.cap] w4 → (R true w5))))))))))))))))))))

def F_codec_Reader_take (r : Option Addr) (next : Value) (R : Bool → World → Prop) (w : World) : Prop :=
  (r.isNone = true → (F_codec_Reader_take_k0 r next R true w)) ∧
  (r.isNone = false → (IsAt r ∧ (∃ (v13 : Bool), w.cell? ⟨(pblk r), (poff r), none⟩ = some (Value.bool v13) ∧ (((!v13) = true → (F_codec_Reader_take_k0 r next R true w)) ∧
  ((!v13) = false → (IsAt r ∧ (∃ (v20 : Int), w.cell? ⟨(pblk r), (poff r) + 2, none⟩ = some (Value.int .i64 v20) ∧ (F_codec_Reader_take_k0 r next R (v20 != 0) w))))))))

def F_codec_Reader_Text_1 (b_ : Slc) (t1 : Option Addr) (t2 : Option Addr) (R : Int → Int → World → Prop) (w : World) : Prop :=
  IsAt t1 ∧ (∃ (v9 : Int), w.cell? ⟨(pblk t1), (poff t1), none⟩ = some (Value.int .i64 v9) ∧ (((decide (v9 < 0)) = true → (R 0 1 w)) ∧
  ((decide (v9 < 0)) = false → (C_codec_short b_ w (fun (n_ : Int) (size : Int) (e : Int) w1 => ((e != 0) = true → (R 0 e w1)) ∧
  ((e != 0) = false → (IsAt t1 ∧ (∃ (v23 : Int), w1.cell? ⟨(pblk t1), (poff t1), none⟩ = some (Value.int .i64 v23) ∧ (((decide (n_ > (IntKind.u64.wrap v23))) = true → (R 0 3 w1)) ∧
  ((decide (n_ > (IntKind.u64.wrap v23))) = false → (((decide (n_ > (IntKind.u64.wrap (IntKind.i64.wrap (((b_.len : Nat) : Int) - size))))) = true → (R 0 5 w1)) ∧
  ((decide (n_ > (IntKind.u64.wrap (IntKind.i64.wrap (((b_.len : Nat) : Int) - size))))) = false → ((0 ≤ size ∧ size ≤ IntKind.i64.wrap (size + (IntKind.i64.wrap n_)) ∧ IntKind.i64.wrap (size + (IntKind.i64.wrap n_)) ≤ ((b_.cap : Nat) : Int) ∧ ((b_.cap : Nat) : Int) ≤ ((b_.cap : Nat) : Int)) ∧ (∀ s, s = Slc.cut 1 b_ size (IntKind.i64.wrap (size + (IntKind.i64.wrap n_))) ((b_.cap : Nat) : Int) → (∃ str : ByteArray, SrcAt w1 s 1 (strCells str) ∧ (IsAt t2 ∧ (Writable w1 (pblk t2) (poff t2) 1 ∧ (∀ w2, w2 = World.puts (pblk t2) (poff t2) [Value.string str] w1 → (R (IntKind.i64.wrap (size + (IntKind.i64.wrap n_))) 0 w2)))))))))))))))))))

def F_codec_short_L0 (b_ : Slc) (R : Int → Int → Int → World → Prop) (again_ : Int → Int → World → Prop) (n_ : Int) (t9 : Int) (w1 : World) : Prop :=
  ((decide (t9 < ((b_.len : Nat) : Int))) = true → (IsAt b_.ptr ∧ (0 ≤ t9 ∧ t9 < ((b_.len : Nat) : Int) ∧ (∃ (c : Int), w1.cell? ⟨(pblk b_.ptr), (poff b_.ptr) + t9.toNat, none⟩ = some (Value.int .u8 c) ∧ (((((t9 == 9) && (decide (c > 1))) || ((decide (t9 > 0)) && (c == 0))) = true → (R 0 0 4 w1)) ∧
  ((((t9 == 9) && (decide (c > 1))) || ((decide (t9 > 0)) && (c == 0))) = false → (0 ≤ IntKind.i64.wrap (7 * t9) ∧ (((decide (c < 128)) = true → (R (bor .u64 n_ (IntKind.u64.wrap ((IntKind.u64.wrap (band .u8 c 127)) * 2 ^ (min (IntKind.i64.wrap (7 * t9)).toNat 64)))) (IntKind.i64.wrap (t9 + 1)) 0 w1)) ∧
  ((decide (c < 128)) = false → (again_ (bor .u64 n_ (IntKind.u64.wrap ((IntKind.u64.wrap (band .u8 c 127)) * 2 ^ (min (IntKind.i64.wrap (7 * t9)).toNat 64)))) (IntKind.i64.wrap (t9 + 1)) w1)))))))))) ∧
  ((decide (t9 < ((b_.len : Nat) : Int))) = false → (R 0 0 5 w1))

def F_codec_short (b_ : Slc) (R : Int → Int → Int → World → Prop) (w : World) : Prop :=
  ∃ (I : Int → Int → World → Prop) (μ : Int → Int → World → Nat), I 0 0 w ∧
  ∀ (n_ : Int) (t9 : Int) w, I n_ t9 w → F_codec_short_L0 b_ R (fun (n_' : Int) (t9' : Int) w' => I n_' t9' w' ∧ μ n_' t9' w' < μ n_ t9 w) n_ t9 w

def F_codec_Reader_Fixed_1_L1 (b_ : Slc) (t1 : Option Addr) (t2 : Option Addr) (R : Int → Int → World → Prop) (again_ : Int → World → Prop) (i : Int) (w2 : World) : Prop :=
  ((decide (i ≥ 0)) = true → (∀ w3, (∃ k, w3 = w2.drewN k) → (IsAt t2 ∧ (∃ (v25 : Int), w3.cell? ⟨(pblk t2), (poff t2), none⟩ = some (Value.int .u64 v25) ∧ (IsAt b_.ptr ∧ (0 ≤ i ∧ i < ((b_.len : Nat) : Int) ∧ (∃ (v30 : Int), w3.cell? ⟨(pblk b_.ptr), (poff b_.ptr) + i.toNat, none⟩ = some (Value.int .u8 v30) ∧ (Writable w3 (pblk t2) (poff t2) 1 ∧ (∀ w4, w4 = World.puts (pblk t2) (poff t2) [Value.int .u64 (bor .u64 (IntKind.u64.wrap (v25 * 2 ^ 8)) (IntKind.u64.wrap v30))] w3 → (again_ (IntKind.i64.wrap (i - 1)) w4)))))))))) ∧
  ((decide (i ≥ 0)) = false → (IsAt t1 ∧ (∃ (v33 : Int), w2.cell? ⟨(pblk t1), (poff t1), none⟩ = some (Value.int .i64 v33) ∧ (R v33 0 w2))))

def F_codec_Reader_Fixed_1_k0 (b_ : Slc) (t1 : Option Addr) (t2 : Option Addr) (R : Int → Int → World → Prop) (t7 : Bool) (w1 : World) : Prop :=
  (t7 = true → (R 0 1 w1)) ∧
  (t7 = false → (IsAt t1 ∧ (∃ (v15 : Int), w1.cell? ⟨(pblk t1), (poff t1), none⟩ = some (Value.int .i64 v15) ∧ (((decide (v15 > ((b_.len : Nat) : Int))) = true → (R 0 5 w1)) ∧
  ((decide (v15 > ((b_.len : Nat) : Int))) = false → (IsAt t1 ∧ (∃ (v19 : Int), w1.cell? ⟨(pblk t1), (poff t1), none⟩ = some (Value.int .i64 v19) ∧ (∃ (I : Int → World → Prop) (μ : Int → World → Nat), I (IntKind.i64.wrap (v19 - 1)) w1 ∧
  ∀ (i : Int) w, I i w → F_codec_Reader_Fixed_1_L1 b_ t1 t2 R (fun (i' : Int) w' => I i' w' ∧ μ i' w' < μ i w) i w))))))))

def F_codec_Reader_Fixed_1 (b_ : Slc) (t1 : Option Addr) (t2 : Option Addr) (R : Int → Int → World → Prop) (w : World) : Prop :=
  IsAt t1 ∧ (∃ (v8 : Int), w.cell? ⟨(pblk t1), (poff t1), none⟩ = some (Value.int .i64 v8) ∧ (((decide (v8 < 1)) = true → (F_codec_Reader_Fixed_1_k0 b_ t1 t2 R true w)) ∧
  ((decide (v8 < 1)) = false → (∃ (v11 : Int), w.cell? ⟨(pblk t1), (poff t1), none⟩ = some (Value.int .i64 v11) ∧ (F_codec_Reader_Fixed_1_k0 b_ t1 t2 R (decide (v11 > 8)) w)))))

def F_record_Decode_1 (is : Bool) (e : Int) (t2 : Option Addr) (t3 : Option Addr) (R : Int → World → Prop) (w : World) : Prop :=
  ∀ w1, (∃ k, w1 = w.drewN k) → (IsAt t2 ∧ (∃ (v7 : Option Addr), w1.cell? ⟨(pblk t2), (poff t2), none⟩ = some (Value.pointer v7) ∧ (IsAt t3 ∧ (∃ (v9 : Int), w1.cell? ⟨(pblk t3), (poff t3), none⟩ = some (Value.int .i64 v9) ∧ (C_codec_Reader_Left v7 w1 (fun (v8 : Int) w2 => w2.cell? ⟨(pblk t3), (poff t3), none⟩ = some (Value.int .i64 v9) ∧ (((v8 == v9) = true → (IsAt t2 ∧ (∃ (v11 : Option Addr), w2.cell? ⟨(pblk t2), (poff t2), none⟩ = some (Value.pointer v11) ∧ (C_codec_Reader_End v11 w2 (fun (v12 : Int) w3 => R v12 w3))))) ∧
  ((v8 == v9) = false → (IsAt t2 ∧ (∃ (v13 : Option Addr), w2.cell? ⟨(pblk t2), (poff t2), none⟩ = some (Value.pointer v13) ∧ (C_codec_Reader_Left v13 w2 (fun (v14 : Int) w4 => IsAt t3 ∧ (Writable w4 (pblk t3) (poff t3) 1 ∧ (∀ w5, w5 = World.puts (pblk t3) (poff t3) [Value.int .i64 v14] w4 → ((is = true → (R e w5)) ∧
  (is = false → (R 0 w5)))))))))))))))))

def F_codec_Reader_Var (r : Option Addr) (R : Int → World → Prop) (w : World) : Prop :=
  ∀ b_ w1, b_ = w.heap.size → w1 = w.alloc (Obj.cells ([Value.int .u64 0]).toArray ty_uint64 (0, 0)) → (C_codec_Reader_take r (Value.func (.func 211) #[] #[Value.pointer (some ⟨b_, 0, none⟩)]) w1 (fun (v5 : Bool) w2 => ∃ (v6 : Int), w2.cell? ⟨b_, 0, none⟩ = some (Value.int .u64 v6) ∧ (Writable w2 b_ 0 1 ∧ (∀ w3, w3 = World.puts b_ 0 [Value.int .u64 v6] w2 → (∃ (res : Int), CellsAt w3 b_ 0 [Value.int .u64 res] ∧ (R res w3))))))

def F_strconv_Itoa (i : Int) (R : ByteArray → World → Prop) (w : World) : Prop :=
  C_internal_strconv_Itoa i w (fun (v4 : ByteArray) w1 => R v4 w1)

def F_codec_Reader_Var_1 (b_ : Slc) (t1 : Option Addr) (R : Int → Int → World → Prop) (w : World) : Prop :=
  C_codec_short b_ w (fun (v : Int) (size : Int) (e : Int) w1 => IsAt t1 ∧ (Writable w1 (pblk t1) (poff t1) 1 ∧ (∀ w2, w2 = World.puts (pblk t1) (poff t1) [Value.int .u64 v] w1 → (R size e w2))))

def F_internal_strconv_Itoa (i : Int) (R : ByteArray → World → Prop) (w : World) : Prop :=
  C_internal_strconv_FormatInt i 10 w (fun (v4 : ByteArray) w1 => R v4 w1)

end Go.Proofs.YtpdegdnigcnjiaaGreatDoor
