/- WRITTEN BY PROGRAM (dec.py): for each Go function the clean formula F, the call's contract C, and the proof S that F gives C. -/
import Derived.Test.YtpdegdnigcnjiaaGreatDoorRows
import Derived.Test.YtpdegdnigcnjiaaGreatDoorCore
namespace Go.Proofs.YtpdegdnigcnjiaaGreatDoor
open Go
set_option linter.unusedVariables false


abbrev ty_int : TypeId := 3

abbrev ty_towpathlaw01_Book : TypeId := 47

abbrev ty_api_Txn : TypeId := 52

abbrev ty_logfile_Source : TypeId := 61

abbrev ty_towpathref06_Source : TypeId := 93

abbrev ty_api_Write : TypeId := 139

abbrev ty_towpathlaw01_heldTxn : TypeId := 141

abbrev ty_towpathlaw01_heldInt : TypeId := 146

abbrev ty_towpathlaw01_heldWrite : TypeId := 153

abbrev ty_24_uint8 : TypeId := 250

structure T_api_Txn where
  Number : Int
  Writes : Slc

structure T_towpathlaw01_heldWrite where
  l : Slc
  long : Slc
  n : Int

structure T_api_Write where
  Key : ByteArray
  Val : ByteArray
  Drop : Bool

structure T_towpathlaw01_heldTxn where
  l : Slc
  long : Slc
  n : Int

structure T_towpathlaw01_heldInt where
  l : Slc
  long : Slc
  n : Int

def C_towpathlaw06_LogfileSources (l_ : Slc) (asks : Slc) (w : World) (R : Bool → World → Prop) : Prop :=
  Calls Tryz.prog 3 #[Value.slice l_.ptr l_.len l_.cap, Value.slice asks.ptr asks.len asks.cap] w (fun e w' => ∃ (r0 : Bool), e = .returned (Value.bool r0) ∧ R r0 w')

def C_towpathlaw01_Beyond (l_ : Slc) (w : World) (R : Bool → World → Prop) : Prop :=
  Calls Tryz.prog 7 #[Value.slice l_.ptr l_.len l_.cap] w (fun e w' => ∃ (r0 : Bool), e = .returned (Value.bool r0) ∧ R r0 w')

def C_towpathlaw01_TxnsSize (l_ : Slc) (w : World) (R : Int → World → Prop) : Prop :=
  Calls Tryz.prog 8 #[Value.slice l_.ptr l_.len l_.cap] w (fun e w' => ∃ (r0 : Int), e = .returned (Value.int .i64 r0) ∧ R r0 w')

def C_towpathlaw01_TwinTxns (l_ : Slc) (w : World) (R : Slc → World → Prop) : Prop :=
  Calls Tryz.prog 9 #[Value.slice l_.ptr l_.len l_.cap] w (fun e w' => ∃ (r0 : Slc), e = .returned (Value.slice r0.ptr r0.len r0.cap) ∧ R r0 w')

def C_logfile_New (l_ : Slc) (w : World) (R : Option Addr → Int → World → Prop) : Prop :=
  Calls Tryz.prog 10 #[Value.slice l_.ptr l_.len l_.cap] w (fun e w' => ∃ (r0 : Option Addr) (r1 : Int), e = .returned (Value.tuple #[Value.pointer r0, Value.int .i64 r1]) ∧ R r0 r1 w')

def C_towpathref06_New (l_ : Slc) (w : World) (R : Option Addr → Int → World → Prop) : Prop :=
  Calls Tryz.prog 11 #[Value.slice l_.ptr l_.len l_.cap] w (fun e w' => ∃ (r0 : Option Addr) (r1 : Int), e = .returned (Value.tuple #[Value.pointer r0, Value.int .i64 r1]) ∧ R r0 r1 w')

def C_towpathlaw01_LeftTxns (t_ : Slc) (l_ : Slc) (w : World) (R : Bool → World → Prop) : Prop :=
  Calls Tryz.prog 12 #[Value.slice t_.ptr t_.len t_.cap, Value.slice l_.ptr l_.len l_.cap] w (fun e w' => ∃ (r0 : Bool), e = .returned (Value.bool r0) ∧ R r0 w')

def C_towpathlaw01_Book_Txns (b_ : Option Addr) (l_ : Slc) (w : World) (R : World → Prop) : Prop :=
  Calls Tryz.prog 13 #[Value.pointer b_, Value.slice l_.ptr l_.len l_.cap] w (fun e w' => e = .returned (Value.tuple #[]) ∧ R w')

def C_towpathlaw01_Book_Apart (b_ : Option Addr) (w : World) (R : Bool → World → Prop) : Prop :=
  Calls Tryz.prog 14 #[Value.pointer b_] w (fun e w' => ∃ (r0 : Bool), e = .returned (Value.bool r0) ∧ R r0 w')

def C_logfile_Source_Get (s : Option Addr) (number : Int) (w : World) (R : T_api_Txn → Int → World → Prop) : Prop :=
  Calls Tryz.prog 15 #[Value.pointer s, Value.int .i64 number] w (fun e w' => ∃ (r0 : T_api_Txn) (r1 : Int), e = .returned (Value.tuple #[Value.agg #[Value.int .i64 r0.Number, Value.slice r0.Writes.ptr r0.Writes.len r0.Writes.cap], Value.int .i64 r1]) ∧ R r0 r1 w')

def C_towpathref06_Source_Get (s : Option Addr) (number : Int) (w : World) (R : T_api_Txn → Int → World → Prop) : Prop :=
  Calls Tryz.prog 16 #[Value.pointer s, Value.int .i64 number] w (fun e w' => ∃ (r0 : T_api_Txn) (r1 : Int), e = .returned (Value.tuple #[Value.agg #[Value.int .i64 r0.Number, Value.slice r0.Writes.ptr r0.Writes.len r0.Writes.cap], Value.int .i64 r1]) ∧ R r0 r1 w')

def C_towpathlaw01_SameTxn (a_ : T_api_Txn) (b_ : T_api_Txn) (w : World) (R : Bool → World → Prop) : Prop :=
  Calls Tryz.prog 17 #[Value.agg #[Value.int .i64 a_.Number, Value.slice a_.Writes.ptr a_.Writes.len a_.Writes.cap], Value.agg #[Value.int .i64 b_.Number, Value.slice b_.Writes.ptr b_.Writes.len b_.Writes.cap]] w (fun e w' => ∃ (r0 : Bool), e = .returned (Value.bool r0) ∧ R r0 w')

def C_logfile_Source_Last (s : Option Addr) (w : World) (R : Int → World → Prop) : Prop :=
  Calls Tryz.prog 18 #[Value.pointer s] w (fun e w' => ∃ (r0 : Int), e = .returned (Value.int .i64 r0) ∧ R r0 w')

def C_towpathref06_Source_Last (s : Option Addr) (w : World) (R : Int → World → Prop) : Prop :=
  Calls Tryz.prog 19 #[Value.pointer s] w (fun e w' => ∃ (r0 : Int), e = .returned (Value.int .i64 r0) ∧ R r0 w')

def C_towpathlaw01_Book_Txn (b_ : Option Addr) (t_ : T_api_Txn) (w : World) (R : World → Prop) : Prop :=
  Calls Tryz.prog 20 #[Value.pointer b_, Value.agg #[Value.int .i64 t_.Number, Value.slice t_.Writes.ptr t_.Writes.len t_.Writes.cap]] w (fun e w' => e = .returned (Value.tuple #[]) ∧ R w')

def C_towpathlaw01_Book_Ints (b_ : Option Addr) (l_ : Slc) (w : World) (R : World → Prop) : Prop :=
  Calls Tryz.prog 21 #[Value.pointer b_, Value.slice l_.ptr l_.len l_.cap] w (fun e w' => e = .returned (Value.tuple #[]) ∧ R w')

def C_logfile_Source_Asked (s : Option Addr) (w : World) (R : Slc → World → Prop) : Prop :=
  Calls Tryz.prog 22 #[Value.pointer s] w (fun e w' => ∃ (r0 : Slc), e = .returned (Value.slice r0.ptr r0.len r0.cap) ∧ R r0 w')

def C_towpathlaw01_SameInts (a_ : Slc) (b_ : Slc) (w : World) (R : Bool → World → Prop) : Prop :=
  Calls Tryz.prog 23 #[Value.slice a_.ptr a_.len a_.cap, Value.slice b_.ptr b_.len b_.cap] w (fun e w' => ∃ (r0 : Bool), e = .returned (Value.bool r0) ∧ R r0 w')

def C_towpathref06_Source_Asked (s : Option Addr) (w : World) (R : Slc → World → Prop) : Prop :=
  Calls Tryz.prog 24 #[Value.pointer s] w (fun e w' => ∃ (r0 : Slc), e = .returned (Value.slice r0.ptr r0.len r0.cap) ∧ R r0 w')

def C_logfile_Check (l_ : Slc) (w : World) (R : Int → World → Prop) : Prop :=
  Calls Tryz.prog 35 #[Value.slice l_.ptr l_.len l_.cap] w (fun e w' => ∃ (r0 : Int), e = .returned (Value.int .i64 r0) ∧ R r0 w')

def C_towpathlaw01_TxnSize (t_ : T_api_Txn) (w : World) (R : Int → World → Prop) : Prop :=
  Calls Tryz.prog 43 #[Value.agg #[Value.int .i64 t_.Number, Value.slice t_.Writes.ptr t_.Writes.len t_.Writes.cap]] w (fun e w' => ∃ (r0 : Int), e = .returned (Value.int .i64 r0) ∧ R r0 w')

def C_towpathlaw01_TwinTxn (x : T_api_Txn) (w : World) (R : T_api_Txn → World → Prop) : Prop :=
  Calls Tryz.prog 44 #[Value.agg #[Value.int .i64 x.Number, Value.slice x.Writes.ptr x.Writes.len x.Writes.cap]] w (fun e w' => ∃ (r0 : T_api_Txn), e = .returned (Value.agg #[Value.int .i64 r0.Number, Value.slice r0.Writes.ptr r0.Writes.len r0.Writes.cap]) ∧ R r0 w')

def C_logfile_copied (t_ : T_api_Txn) (w : World) (R : T_api_Txn → World → Prop) : Prop :=
  Calls Tryz.prog 45 #[Value.agg #[Value.int .i64 t_.Number, Value.slice t_.Writes.ptr t_.Writes.len t_.Writes.cap]] w (fun e w' => ∃ (r0 : T_api_Txn), e = .returned (Value.agg #[Value.int .i64 r0.Number, Value.slice r0.Writes.ptr r0.Writes.len r0.Writes.cap]) ∧ R r0 w')

def C_towpathref06_Check (l_ : Slc) (w : World) (R : Int → World → Prop) : Prop :=
  Calls Tryz.prog 46 #[Value.slice l_.ptr l_.len l_.cap] w (fun e w' => ∃ (r0 : Int), e = .returned (Value.int .i64 r0) ∧ R r0 w')

def C_towpathref06_Own (t_ : T_api_Txn) (w : World) (R : T_api_Txn → World → Prop) : Prop :=
  Calls Tryz.prog 47 #[Value.agg #[Value.int .i64 t_.Number, Value.slice t_.Writes.ptr t_.Writes.len t_.Writes.cap]] w (fun e w' => ∃ (r0 : T_api_Txn), e = .returned (Value.agg #[Value.int .i64 r0.Number, Value.slice r0.Writes.ptr r0.Writes.len r0.Writes.cap]) ∧ R r0 w')

def C_towpathlaw01_LeftTxn (t_ : T_api_Txn) (x : T_api_Txn) (w : World) (R : Bool → World → Prop) : Prop :=
  Calls Tryz.prog 48 #[Value.agg #[Value.int .i64 t_.Number, Value.slice t_.Writes.ptr t_.Writes.len t_.Writes.cap], Value.agg #[Value.int .i64 x.Number, Value.slice x.Writes.ptr x.Writes.len x.Writes.cap]] w (fun e w' => ∃ (r0 : Bool), e = .returned (Value.bool r0) ∧ R r0 w')

def C_towpathlaw01_Book_keepTxn (b_ : Option Addr) (l_ : Slc) (w : World) (R : World → Prop) : Prop :=
  Calls Tryz.prog 49 #[Value.pointer b_, Value.slice l_.ptr l_.len l_.cap] w (fun e w' => e = .returned (Value.tuple #[]) ∧ R w')

def C_towpathlaw01_Book_fillByte (b_ : Option Addr) (w : World) (R : World → Prop) : Prop :=
  Calls Tryz.prog 50 #[Value.pointer b_] w (fun e w' => e = .returned (Value.tuple #[]) ∧ R w')

def C_towpathlaw01_Book_fillInt (b_ : Option Addr) (w : World) (R : World → Prop) : Prop :=
  Calls Tryz.prog 51 #[Value.pointer b_] w (fun e w' => e = .returned (Value.tuple #[]) ∧ R w')

def C_towpathlaw01_Book_fillText (b_ : Option Addr) (w : World) (R : World → Prop) : Prop :=
  Calls Tryz.prog 52 #[Value.pointer b_] w (fun e w' => e = .returned (Value.tuple #[]) ∧ R w')

def C_towpathlaw01_Book_fillWrite (b_ : Option Addr) (w : World) (R : World → Prop) : Prop :=
  Calls Tryz.prog 53 #[Value.pointer b_] w (fun e w' => e = .returned (Value.tuple #[]) ∧ R w')

def C_towpathlaw01_Book_fillEntry (b_ : Option Addr) (w : World) (R : World → Prop) : Prop :=
  Calls Tryz.prog 54 #[Value.pointer b_] w (fun e w' => e = .returned (Value.tuple #[]) ∧ R w')

def C_towpathlaw01_Book_fillVersion (b_ : Option Addr) (w : World) (R : World → Prop) : Prop :=
  Calls Tryz.prog 55 #[Value.pointer b_] w (fun e w' => e = .returned (Value.tuple #[]) ∧ R w')

def C_towpathlaw01_Book_fillTxn (b_ : Option Addr) (w : World) (R : World → Prop) : Prop :=
  Calls Tryz.prog 56 #[Value.pointer b_] w (fun e w' => e = .returned (Value.tuple #[]) ∧ R w')

def C_towpathlaw01_Book_fillHeld (b_ : Option Addr) (w : World) (R : World → Prop) : Prop :=
  Calls Tryz.prog 57 #[Value.pointer b_] w (fun e w' => e = .returned (Value.tuple #[]) ∧ R w')

def C_towpathlaw01_Book_fillHeldList (b_ : Option Addr) (w : World) (R : World → Prop) : Prop :=
  Calls Tryz.prog 58 #[Value.pointer b_] w (fun e w' => e = .returned (Value.tuple #[]) ∧ R w')

def C_towpathlaw01_Book_fillEvent (b_ : Option Addr) (w : World) (R : World → Prop) : Prop :=
  Calls Tryz.prog 59 #[Value.pointer b_] w (fun e w' => e = .returned (Value.tuple #[]) ∧ R w')

def C_towpathlaw01_Book_fillAnswer (b_ : Option Addr) (w : World) (R : World → Prop) : Prop :=
  Calls Tryz.prog 60 #[Value.pointer b_] w (fun e w' => e = .returned (Value.tuple #[]) ∧ R w')

def C_towpathlaw01_Book_growByte (b_ : Option Addr) (w : World) (R : World → Prop) : Prop :=
  Calls Tryz.prog 61 #[Value.pointer b_] w (fun e w' => e = .returned (Value.tuple #[]) ∧ R w')

def C_towpathlaw01_Book_growInt (b_ : Option Addr) (w : World) (R : World → Prop) : Prop :=
  Calls Tryz.prog 62 #[Value.pointer b_] w (fun e w' => e = .returned (Value.tuple #[]) ∧ R w')

def C_towpathlaw01_Book_growText (b_ : Option Addr) (w : World) (R : World → Prop) : Prop :=
  Calls Tryz.prog 63 #[Value.pointer b_] w (fun e w' => e = .returned (Value.tuple #[]) ∧ R w')

def C_towpathlaw01_Book_growWrite (b_ : Option Addr) (w : World) (R : World → Prop) : Prop :=
  Calls Tryz.prog 64 #[Value.pointer b_] w (fun e w' => e = .returned (Value.tuple #[]) ∧ R w')

def C_towpathlaw01_Book_growEntry (b_ : Option Addr) (w : World) (R : World → Prop) : Prop :=
  Calls Tryz.prog 65 #[Value.pointer b_] w (fun e w' => e = .returned (Value.tuple #[]) ∧ R w')

def C_towpathlaw01_Book_growVersion (b_ : Option Addr) (w : World) (R : World → Prop) : Prop :=
  Calls Tryz.prog 66 #[Value.pointer b_] w (fun e w' => e = .returned (Value.tuple #[]) ∧ R w')

def C_towpathlaw01_Book_growTxn (b_ : Option Addr) (w : World) (R : World → Prop) : Prop :=
  Calls Tryz.prog 67 #[Value.pointer b_] w (fun e w' => e = .returned (Value.tuple #[]) ∧ R w')

def C_towpathlaw01_Book_growHeld (b_ : Option Addr) (w : World) (R : World → Prop) : Prop :=
  Calls Tryz.prog 68 #[Value.pointer b_] w (fun e w' => e = .returned (Value.tuple #[]) ∧ R w')

def C_towpathlaw01_Book_growHeldList (b_ : Option Addr) (w : World) (R : World → Prop) : Prop :=
  Calls Tryz.prog 69 #[Value.pointer b_] w (fun e w' => e = .returned (Value.tuple #[]) ∧ R w')

def C_towpathlaw01_Book_growEvent (b_ : Option Addr) (w : World) (R : World → Prop) : Prop :=
  Calls Tryz.prog 70 #[Value.pointer b_] w (fun e w' => e = .returned (Value.tuple #[]) ∧ R w')

def C_towpathlaw01_Book_growAnswer (b_ : Option Addr) (w : World) (R : World → Prop) : Prop :=
  Calls Tryz.prog 71 #[Value.pointer b_] w (fun e w' => e = .returned (Value.tuple #[]) ∧ R w')

def C_towpathlaw01_Book_lookByte (b_ : Option Addr) (w : World) (R : Bool → World → Prop) : Prop :=
  Calls Tryz.prog 72 #[Value.pointer b_] w (fun e w' => ∃ (r0 : Bool), e = .returned (Value.bool r0) ∧ R r0 w')

def C_towpathlaw01_Book_lookInt (b_ : Option Addr) (w : World) (R : Bool → World → Prop) : Prop :=
  Calls Tryz.prog 73 #[Value.pointer b_] w (fun e w' => ∃ (r0 : Bool), e = .returned (Value.bool r0) ∧ R r0 w')

def C_towpathlaw01_Book_lookText (b_ : Option Addr) (w : World) (R : Bool → World → Prop) : Prop :=
  Calls Tryz.prog 74 #[Value.pointer b_] w (fun e w' => ∃ (r0 : Bool), e = .returned (Value.bool r0) ∧ R r0 w')

def C_towpathlaw01_Book_lookWrite (b_ : Option Addr) (w : World) (R : Bool → World → Prop) : Prop :=
  Calls Tryz.prog 75 #[Value.pointer b_] w (fun e w' => ∃ (r0 : Bool), e = .returned (Value.bool r0) ∧ R r0 w')

def C_towpathlaw01_Book_lookEntry (b_ : Option Addr) (w : World) (R : Bool → World → Prop) : Prop :=
  Calls Tryz.prog 76 #[Value.pointer b_] w (fun e w' => ∃ (r0 : Bool), e = .returned (Value.bool r0) ∧ R r0 w')

def C_towpathlaw01_Book_lookVersion (b_ : Option Addr) (w : World) (R : Bool → World → Prop) : Prop :=
  Calls Tryz.prog 77 #[Value.pointer b_] w (fun e w' => ∃ (r0 : Bool), e = .returned (Value.bool r0) ∧ R r0 w')

def C_towpathlaw01_Book_lookTxn (b_ : Option Addr) (w : World) (R : Bool → World → Prop) : Prop :=
  Calls Tryz.prog 78 #[Value.pointer b_] w (fun e w' => ∃ (r0 : Bool), e = .returned (Value.bool r0) ∧ R r0 w')

def C_towpathlaw01_Book_lookHeld (b_ : Option Addr) (w : World) (R : Bool → World → Prop) : Prop :=
  Calls Tryz.prog 79 #[Value.pointer b_] w (fun e w' => ∃ (r0 : Bool), e = .returned (Value.bool r0) ∧ R r0 w')

def C_towpathlaw01_Book_lookHeldList (b_ : Option Addr) (w : World) (R : Bool → World → Prop) : Prop :=
  Calls Tryz.prog 80 #[Value.pointer b_] w (fun e w' => ∃ (r0 : Bool), e = .returned (Value.bool r0) ∧ R r0 w')

def C_towpathlaw01_Book_lookEvent (b_ : Option Addr) (w : World) (R : Bool → World → Prop) : Prop :=
  Calls Tryz.prog 81 #[Value.pointer b_] w (fun e w' => ∃ (r0 : Bool), e = .returned (Value.bool r0) ∧ R r0 w')

def C_towpathlaw01_Book_lookAnswer (b_ : Option Addr) (w : World) (R : Bool → World → Prop) : Prop :=
  Calls Tryz.prog 82 #[Value.pointer b_] w (fun e w' => ∃ (r0 : Bool), e = .returned (Value.bool r0) ∧ R r0 w')

def C_towpathlaw01_SameWrites (a_ : Slc) (b_ : Slc) (w : World) (R : Bool → World → Prop) : Prop :=
  Calls Tryz.prog 83 #[Value.slice a_.ptr a_.len a_.cap, Value.slice b_.ptr b_.len b_.cap] w (fun e w' => ∃ (r0 : Bool), e = .returned (Value.bool r0) ∧ R r0 w')

def C_towpathlaw01_Book_Writes (b_ : Option Addr) (l_ : Slc) (w : World) (R : World → Prop) : Prop :=
  Calls Tryz.prog 84 #[Value.pointer b_, Value.slice l_.ptr l_.len l_.cap] w (fun e w' => e = .returned (Value.tuple #[]) ∧ R w')

def C_towpathlaw01_Book_keepInt (b_ : Option Addr) (l_ : Slc) (w : World) (R : World → Prop) : Prop :=
  Calls Tryz.prog 85 #[Value.pointer b_, Value.slice l_.ptr l_.len l_.cap] w (fun e w' => e = .returned (Value.tuple #[]) ∧ R w')

def C_slices_Clone_int_int (s : Slc) (w : World) (R : Slc → World → Prop) : Prop :=
  Calls Tryz.prog 86 #[Value.slice s.ptr s.len s.cap] w (fun e w' => ∃ (r0 : Slc), e = .returned (Value.slice r0.ptr r0.len r0.cap) ∧ R r0 w')

def C_logfile_turns (w : World) (R : Value → World → Prop) : Prop :=
  Calls Tryz.prog 113 #[] w (fun e w' => ∃ (r0 : Value), e = .returned (r0) ∧ R r0 w')

def C_towpathlaw01_WritesSize (l_ : Slc) (w : World) (R : Int → World → Prop) : Prop :=
  Calls Tryz.prog 120 #[Value.slice l_.ptr l_.len l_.cap] w (fun e w' => ∃ (r0 : Int), e = .returned (Value.int .i64 r0) ∧ R r0 w')

def C_towpathlaw01_TwinWrites (l_ : Slc) (w : World) (R : Slc → World → Prop) : Prop :=
  Calls Tryz.prog 121 #[Value.slice l_.ptr l_.len l_.cap] w (fun e w' => ∃ (r0 : Slc), e = .returned (Value.slice r0.ptr r0.len r0.cap) ∧ R r0 w')

def C_slices_Clone_api_Write_api_Write (s : Slc) (w : World) (R : Slc → World → Prop) : Prop :=
  Calls Tryz.prog 122 #[Value.slice s.ptr s.len s.cap] w (fun e w' => ∃ (r0 : Slc), e = .returned (Value.slice r0.ptr r0.len r0.cap) ∧ R r0 w')

def C_towpathref05_Check (t_ : T_api_Txn) (w : World) (R : Int → World → Prop) : Prop :=
  Calls Tryz.prog 123 #[Value.agg #[Value.int .i64 t_.Number, Value.slice t_.Writes.ptr t_.Writes.len t_.Writes.cap]] w (fun e w' => ∃ (r0 : Int), e = .returned (Value.int .i64 r0) ∧ R r0 w')

def C_towpathlaw01_LeftWrites (t_ : Slc) (l_ : Slc) (w : World) (R : Bool → World → Prop) : Prop :=
  Calls Tryz.prog 124 #[Value.slice t_.ptr t_.len t_.cap, Value.slice l_.ptr l_.len l_.cap] w (fun e w' => ∃ (r0 : Bool), e = .returned (Value.bool r0) ∧ R r0 w')

def C_towpathlaw01_markInt (n_ : Int) (w : World) (R : Int → World → Prop) : Prop :=
  Calls Tryz.prog 126 #[Value.int .i64 n_] w (fun e w' => ∃ (r0 : Int), e = .returned (Value.int .i64 r0) ∧ R r0 w')

def C_towpathlaw01_markWrite (n_ : Int) (w : World) (R : T_api_Write → World → Prop) : Prop :=
  Calls Tryz.prog 128 #[Value.int .i64 n_] w (fun e w' => ∃ (r0 : T_api_Write), e = .returned (Value.agg #[Value.string r0.Key, Value.string r0.Val, Value.bool r0.Drop]) ∧ R r0 w')

def C_towpathlaw01_markTxn (n_ : Int) (w : World) (R : T_api_Txn → World → Prop) : Prop :=
  Calls Tryz.prog 131 #[Value.int .i64 n_] w (fun e w' => ∃ (r0 : T_api_Txn), e = .returned (Value.agg #[Value.int .i64 r0.Number, Value.slice r0.Writes.ptr r0.Writes.len r0.Writes.cap]) ∧ R r0 w')

def C_towpathlaw01_isInt (x : Int) (n_ : Int) (w : World) (R : Bool → World → Prop) : Prop :=
  Calls Tryz.prog 137 #[Value.int .i64 x, Value.int .i64 n_] w (fun e w' => ∃ (r0 : Bool), e = .returned (Value.bool r0) ∧ R r0 w')

def C_towpathlaw01_isWrite (x : T_api_Write) (n_ : Int) (w : World) (R : Bool → World → Prop) : Prop :=
  Calls Tryz.prog 139 #[Value.agg #[Value.string x.Key, Value.string x.Val, Value.bool x.Drop], Value.int .i64 n_] w (fun e w' => ∃ (r0 : Bool), e = .returned (Value.bool r0) ∧ R r0 w')

def C_towpathlaw01_isTxn (x : T_api_Txn) (n_ : Int) (w : World) (R : Bool → World → Prop) : Prop :=
  Calls Tryz.prog 142 #[Value.agg #[Value.int .i64 x.Number, Value.slice x.Writes.ptr x.Writes.len x.Writes.cap], Value.int .i64 n_] w (fun e w' => ∃ (r0 : Bool), e = .returned (Value.bool r0) ∧ R r0 w')

def C_towpathlaw01_Book_keepWrite (b_ : Option Addr) (l_ : Slc) (w : World) (R : World → Prop) : Prop :=
  Calls Tryz.prog 147 #[Value.pointer b_, Value.slice l_.ptr l_.len l_.cap] w (fun e w' => e = .returned (Value.tuple #[]) ∧ R w')

def C_towpathref05_Key (s : ByteArray) (w : World) (R : Bool → World → Prop) : Prop :=
  Calls Tryz.prog 157 #[Value.string s] w (fun e w' => ∃ (r0 : Bool), e = .returned (Value.bool r0) ∧ R r0 w')

def C_record_Check (t_ : T_api_Txn) (w : World) (R : Int → World → Prop) : Prop :=
  Calls Tryz.prog 163 #[Value.agg #[Value.int .i64 t_.Number, Value.slice t_.Writes.ptr t_.Writes.len t_.Writes.cap]] w (fun e w' => ∃ (r0 : Int), e = .returned (Value.int .i64 r0) ∧ R r0 w')

def C_logfile_turns_1 (t_ : T_api_Txn) (t1 : Option Addr) (w : World) (R : Int → World → Prop) : Prop :=
  Calls Tryz.prog 171 #[Value.agg #[Value.int .i64 t_.Number, Value.slice t_.Writes.ptr t_.Writes.len t_.Writes.cap], Value.pointer t1] w (fun e w' => ∃ (r0 : Int), e = .returned (Value.int .i64 r0) ∧ R r0 w')

def C_towpathref05_Number (n_ : Int) (w : World) (R : Bool → World → Prop) : Prop :=
  Calls Tryz.prog 184 #[Value.int .i64 n_] w (fun e w' => ∃ (r0 : Bool), e = .returned (Value.bool r0) ∧ R r0 w')

def C_towpathref05_Write (w_ : T_api_Write) (w : World) (R : Bool → World → Prop) : Prop :=
  Calls Tryz.prog 185 #[Value.agg #[Value.string w_.Key, Value.string w_.Val, Value.bool w_.Drop]] w (fun e w' => ∃ (r0 : Bool), e = .returned (Value.bool r0) ∧ R r0 w')

def C_towpathlaw01_word (n_ : Int) (w : World) (R : ByteArray → World → Prop) : Prop :=
  Calls Tryz.prog 186 #[Value.int .i64 n_] w (fun e w' => ∃ (r0 : ByteArray), e = .returned (Value.string r0) ∧ R r0 w')

def C_record_Check_1 (w_ : T_api_Write) (w : World) (R : Bool → World → Prop) : Prop :=
  Calls Tryz.prog 197 #[Value.agg #[Value.string w_.Key, Value.string w_.Val, Value.bool w_.Drop]] w (fun e w' => ∃ (r0 : Bool), e = .returned (Value.bool r0) ∧ R r0 w')

def C_slices_ContainsFunc_api_Write_api_Write (s : Slc) (f : Value) (w : World) (R : Bool → World → Prop) : Prop :=
  Calls Tryz.prog 198 #[Value.slice s.ptr s.len s.cap, f] w (fun e w' => ∃ (r0 : Bool), e = .returned (Value.bool r0) ∧ R r0 w')

def C_towpathref05_Val (s : ByteArray) (w : World) (R : Bool → World → Prop) : Prop :=
  Calls Tryz.prog 206 #[Value.string s] w (fun e w' => ∃ (r0 : Bool), e = .returned (Value.bool r0) ∧ R r0 w')

def C_strconv_Itoa (i : Int) (w : World) (R : ByteArray → World → Prop) : Prop :=
  Calls Tryz.prog 207 #[Value.int .i64 i] w (fun e w' => ∃ (r0 : ByteArray), e = .returned (Value.string r0) ∧ R r0 w')

def C_slices_IndexFunc_api_Write_api_Write (s : Slc) (f : Value) (w : World) (R : Int → World → Prop) : Prop :=
  Calls Tryz.prog 210 #[Value.slice s.ptr s.len s.cap, f] w (fun e w' => ∃ (r0 : Int), e = .returned (Value.int .i64 r0) ∧ R r0 w')

def C_internal_strconv_Itoa (i : Int) (w : World) (R : ByteArray → World → Prop) : Prop :=
  Calls Tryz.prog 212 #[Value.int .i64 i] w (fun e w' => ∃ (r0 : ByteArray), e = .returned (Value.string r0) ∧ R r0 w')

def C_internal_strconv_FormatInt (i : Int) (base : Int) (w : World) (R : ByteArray → World → Prop) : Prop :=
  Calls Tryz.prog 213 #[Value.int .i64 i, Value.int .i64 base] w (fun e w' => ∃ (r0 : ByteArray), e = .returned (Value.string r0) ∧ R r0 w')

def F_towpathlaw06_LogfileSources_k2 (i : Int) (again_ : Int → World → Prop) (w15 : World) : Prop :=
  again_ (IntKind.i64.wrap (i + 1)) w15

def F_towpathlaw06_LogfileSources_k3 (R : Bool → World → Prop) (s : Option Addr) (b_2 : Nat) (i : Int) (again_ : Int → World → Prop) (b_3 : Nat) (t99 : Bool) (w22 : World) : Prop :=
  (t99 = true → (R false w22)) ∧
  (t99 = false → (((decide (i < 30)) = true → (∃ (v102 : T_api_Txn), CellsAt w22 b_3 0 [Value.int .i64 v102.Number, Value.slice v102.Writes.ptr v102.Writes.len v102.Writes.cap] ∧ (C_towpathlaw01_Book_Txn (some ⟨b_2, 0, none⟩) v102 w22 (fun w23 => C_logfile_Source_Asked s w23 (fun (v105 : Slc) w24 => C_towpathlaw01_Book_Ints (some ⟨b_2, 0, none⟩) v105 w24 (fun w25 => F_towpathlaw06_LogfileSources_k2 i again_ w25)))))) ∧
  ((decide (i < 30)) = false → (F_towpathlaw06_LogfileSources_k2 i again_ w22))))

def F_towpathlaw06_LogfileSources_L1 (asks : Slc) (R : Bool → World → Prop) (s : Option Addr) (r : Option Addr) (b_2 : Nat) (again_ : Int → World → Prop) (i : Int) (w14 : World) : Prop :=
  ((decide (i < ((asks.len : Nat) : Int))) = true → (IsAt asks.ptr ∧ (0 ≤ i ∧ i < ((asks.len : Nat) : Int) ∧ (∃ (v71 : Int), w14.cell? ⟨(pblk asks.ptr), (poff asks.ptr) + i.toNat, none⟩ = some (Value.int .i64 v71) ∧ (C_logfile_Source_Get s v71 w14 (fun (v72 : T_api_Txn) (g : Int) w16 => ∀ b_3 w17, b_3 = w16.heap.size → w17 = w16.alloc (Obj.cells ([Value.int .i64 0, Value.slice none 0 0]).toArray ty_api_Txn (0, 0)) → (Writable w17 b_3 0 2 ∧ (∀ w18, w18 = World.puts b_3 0 [Value.int .i64 v72.Number, Value.slice v72.Writes.ptr v72.Writes.len v72.Writes.cap] w17 → (IsAt asks.ptr ∧ (0 ≤ i ∧ i < ((asks.len : Nat) : Int) ∧ (∃ (v80 : Int), w18.cell? ⟨(pblk asks.ptr), (poff asks.ptr) + i.toNat, none⟩ = some (Value.int .i64 v80) ∧ (C_towpathref06_Source_Get r v80 w18 (fun (v81 : T_api_Txn) (h_ : Int) w19 => ∀ b_4 w20, b_4 = w19.heap.size → w20 = w19.alloc (Obj.cells ([Value.int .i64 0, Value.slice none 0 0]).toArray ty_api_Txn (0, 0)) → (Writable w20 b_4 0 2 ∧ (∀ w21, w21 = World.puts b_4 0 [Value.int .i64 v81.Number, Value.slice v81.Writes.ptr v81.Writes.len v81.Writes.cap] w20 → (((g != h_) = true → (F_towpathlaw06_LogfileSources_k3 R s b_2 i again_ b_3 true w21)) ∧
  ((g != h_) = false → (∃ (v88 : T_api_Txn), CellsAt w21 b_3 0 [Value.int .i64 v88.Number, Value.slice v88.Writes.ptr v88.Writes.len v88.Writes.cap] ∧ (∃ (v89 : T_api_Txn), CellsAt w21 b_4 0 [Value.int .i64 v89.Number, Value.slice v89.Writes.ptr v89.Writes.len v89.Writes.cap] ∧ (C_towpathlaw01_SameTxn v88 v89 w21 (fun (v90 : Bool) w26 => ((!v90) = true → (F_towpathlaw06_LogfileSources_k3 R s b_2 i again_ b_3 true w26)) ∧
  ((!v90) = false → (C_logfile_Source_Last s w26 (fun (v95 : Int) w27 => C_towpathref06_Source_Last r w27 (fun (v97 : Int) w28 => F_towpathlaw06_LogfileSources_k3 R s b_2 i again_ b_3 (v95 != v97) w28))))))))))))))))))))))))) ∧
  ((decide (i < ((asks.len : Nat) : Int))) = false → (∀ b_5 w29, b_5 = w14.heap.size → w29 = w14.alloc (Obj.cells ([Value.bool false, Value.slice none 0 0, Value.slice none 0 0]).toArray ty_logfile_Source (0, 0)) → (C_logfile_Source_Get (some ⟨b_5, 0, none⟩) 1 w29 (fun (v111 : T_api_Txn) (n_ : Int) w30 => ∀ b_6 w31, b_6 = w30.heap.size → w31 = w30.alloc (Obj.cells ([Value.int .i64 0, Value.slice none 0 0]).toArray ty_api_Txn (0, 0)) → (Writable w31 b_6 0 2 ∧ (∀ w32, w32 = World.puts b_6 0 [Value.int .i64 v111.Number, Value.slice v111.Writes.ptr v111.Writes.len v111.Writes.cap] w31 → (C_towpathlaw01_Book_Apart (some ⟨b_2, 0, none⟩) w32 (fun (v114 : Bool) w33 => (v114 = true → (C_logfile_Source_Asked s w33 (fun (v117 : Slc) w34 => C_towpathref06_Source_Asked r w34 (fun (v119 : Slc) w35 => C_towpathlaw01_SameInts v117 v119 w35 (fun (v120 : Bool) w36 => (v120 = true → (C_logfile_Source_Last s w36 (fun (v124 : Int) w37 => C_towpathref06_Source_Last r w37 (fun (v126 : Int) w38 => (((v124 == v126) && (n_ == 2)) = true → (C_logfile_Source_Last (some ⟨b_5, 0, none⟩) w38 (fun (v135 : Int) w39 => ((v135 == 0) = true → (C_logfile_Source_Asked (some ⟨b_5, 0, none⟩) w39 (fun (v140 : Slc) w40 => R (((v140.len : Nat) : Int) == 0) w40))) ∧
  ((v135 == 0) = false → (R false w39))))) ∧
  (((v124 == v126) && (n_ == 2)) = false → (R false w38)))))) ∧
  (v120 = false → (R false w36))))))) ∧
  (v114 = false → (R false w33))))))))))

def F_towpathlaw06_LogfileSources_k0 (asks : Slc) (R : Bool → World → Prop) (v27 : Slc) (s : Option Addr) (r : Option Addr) (t53 : Bool) (w7 : World) : Prop :=
  (t53 = true → (R false w7)) ∧
  (t53 = false → (∀ b_1 w8, b_1 = w7.heap.size → w8 = w7.alloc (Obj.cells ([Value.int .i64 0, Value.slice none 0 0, Value.slice none 0 0, Value.slice none 0 0, Value.slice none 0 0, Value.slice none 0 0, Value.slice none 0 0, Value.slice none 0 0, Value.slice none 0 0, Value.slice none 0 0, Value.slice none 0 0, Value.slice none 0 0]).toArray ty_towpathlaw01_Book (0, 0)) → (Writable w8 b_1 0 12 ∧ (∀ w9, w9 = World.puts b_1 0 [Value.int .i64 0, Value.slice none 0 0, Value.slice none 0 0, Value.slice none 0 0, Value.slice none 0 0, Value.slice none 0 0, Value.slice none 0 0, Value.slice none 0 0, Value.slice none 0 0, Value.slice none 0 0, Value.slice none 0 0, Value.slice none 0 0] w8 → (C_towpathlaw01_Book_Txns (some ⟨b_1, 0, none⟩) v27 w9 (fun w10 => C_towpathlaw01_Book_Apart (some ⟨b_1, 0, none⟩) w10 (fun (v57 : Bool) w11 => ((!v57) = true → (R false w11)) ∧
  ((!v57) = false → (∀ b_2 w12, b_2 = w11.heap.size → w12 = w11.alloc (Obj.cells ([Value.int .i64 0, Value.slice none 0 0, Value.slice none 0 0, Value.slice none 0 0, Value.slice none 0 0, Value.slice none 0 0, Value.slice none 0 0, Value.slice none 0 0, Value.slice none 0 0, Value.slice none 0 0, Value.slice none 0 0, Value.slice none 0 0]).toArray ty_towpathlaw01_Book (0, 0)) → (Writable w12 b_2 0 12 ∧ (∀ w13, w13 = World.puts b_2 0 [Value.int .i64 0, Value.slice none 0 0, Value.slice none 0 0, Value.slice none 0 0, Value.slice none 0 0, Value.slice none 0 0, Value.slice none 0 0, Value.slice none 0 0, Value.slice none 0 0, Value.slice none 0 0, Value.slice none 0 0, Value.slice none 0 0] w12 → (∃ (I : Int → World → Prop) (μ : Int → World → Nat), I 0 w13 ∧
  ∀ (i : Int) w, I i w → F_towpathlaw06_LogfileSources_L1 asks R s r b_2 (fun (i' : Int) w' => I i' w' ∧ μ i' w' < μ i w) i w))))))))))))

def F_towpathlaw06_LogfileSources (l_ : Slc) (asks : Slc) (R : Bool → World → Prop) (w : World) : Prop :=
  C_towpathlaw01_TxnsSize l_ w (fun (v21 : Int) w1 => ∀ b_ w2, b_ = w1.heap.size → w2 = w1.alloc (Obj.cells ([Value.int .i64 v21, Value.int .i64 ((asks.len : Nat) : Int)]).toArray ty_int (0, 0)) → (C_towpathlaw01_Beyond (Slc.mk (some ⟨b_, 0, none⟩) 2 2) w2 (fun (v25 : Bool) w3 => (v25 = true → (R true w3)) ∧
  (v25 = false → (C_towpathlaw01_TwinTxns l_ w3 (fun (v27 : Slc) w4 => C_logfile_New v27 w4 (fun (s : Option Addr) (e : Int) w5 => C_towpathref06_New l_ w5 (fun (r : Option Addr) (f : Int) w6 => ((e != f) = true → (F_towpathlaw06_LogfileSources_k0 asks R v27 s r true w6)) ∧
  ((e != f) = false → (((!(s.isNone == r.isNone)) = true → (F_towpathlaw06_LogfileSources_k0 asks R v27 s r true w6)) ∧
  ((!(s.isNone == r.isNone)) = false → (C_towpathlaw01_LeftTxns v27 l_ w6 (fun (v51 : Bool) w41 => F_towpathlaw06_LogfileSources_k0 asks R v27 s r (!v51) w41)))))))))))))

def F_towpathlaw01_Beyond_L0 (l_ : Slc) (R : Bool → World → Prop) (again_ : Int → Int → World → Prop) (n_ : Int) (i : Int) (w1 : World) : Prop :=
  ((decide (i < ((l_.len : Nat) : Int))) = true → (IsAt l_.ptr ∧ (0 ≤ i ∧ i < ((l_.len : Nat) : Int) ∧ (∃ (v15 : Int), w1.cell? ⟨(pblk l_.ptr), (poff l_.ptr) + i.toNat, none⟩ = some (Value.int .i64 v15) ∧ (((decide ((IntKind.i64.wrap (n_ + v15)) > 1048576)) = true → (R true w1)) ∧
  ((decide ((IntKind.i64.wrap (n_ + v15)) > 1048576)) = false → (again_ (IntKind.i64.wrap (n_ + v15)) (IntKind.i64.wrap (i + 1)) w1))))))) ∧
  ((decide (i < ((l_.len : Nat) : Int))) = false → (R false w1))

def F_towpathlaw01_Beyond (l_ : Slc) (R : Bool → World → Prop) (w : World) : Prop :=
  ∃ (I : Int → Int → World → Prop) (μ : Int → Int → World → Nat), I 0 0 w ∧
  ∀ (n_ : Int) (i : Int) w, I n_ i w → F_towpathlaw01_Beyond_L0 l_ R (fun (n_' : Int) (i' : Int) w' => I n_' i' w' ∧ μ n_' i' w' < μ n_ i w) n_ i w

def F_towpathlaw01_TxnsSize_L0 (l_ : Slc) (R : Int → World → Prop) (again_ : Int → Int → World → Prop) (n_ : Int) (i : Int) (w1 : World) : Prop :=
  (((decide (i < ((l_.len : Nat) : Int))) && (decide (n_ ≤ 1048576))) = true → (IsAt l_.ptr ∧ (0 ≤ i ∧ i < ((l_.len : Nat) : Int) ∧ (∃ (v21 : T_api_Txn), CellsAt w1 (pblk l_.ptr) ((poff l_.ptr) + i.toNat * 2) [Value.int .i64 v21.Number, Value.slice v21.Writes.ptr v21.Writes.len v21.Writes.cap] ∧ (C_towpathlaw01_TxnSize v21 w1 (fun (v22 : Int) w2 => again_ (IntKind.i64.wrap (n_ + v22)) (IntKind.i64.wrap (i + 1)) w2)))))) ∧
  (((decide (i < ((l_.len : Nat) : Int))) && (decide (n_ ≤ 1048576))) = false → (R n_ w1))

def F_towpathlaw01_TxnsSize (l_ : Slc) (R : Int → World → Prop) (w : World) : Prop :=
  ∃ (I : Int → Int → World → Prop) (μ : Int → Int → World → Nat), I ((l_.len : Nat) : Int) 0 w ∧
  ∀ (n_ : Int) (i : Int) w, I n_ i w → F_towpathlaw01_TxnsSize_L0 l_ R (fun (n_' : Int) (i' : Int) w' => I n_' i' w' ∧ μ n_' i' w' < μ n_ i w) n_ i w

def F_towpathlaw01_TwinTxns_L0 (l_ : Slc) (R : Slc → World → Prop) (again_ : Slc → Int → World → Prop) (t_ : Slc) (i : Int) (w2 : World) : Prop :=
  ((decide (i < ((l_.len : Nat) : Int))) = true → (IsAt l_.ptr ∧ (0 ≤ i ∧ i < ((l_.len : Nat) : Int) ∧ (∃ (v19 : T_api_Txn), CellsAt w2 (pblk l_.ptr) ((poff l_.ptr) + i.toNat * 2) [Value.int .i64 v19.Number, Value.slice v19.Writes.ptr v19.Writes.len v19.Writes.cap] ∧ (C_towpathlaw01_TwinTxn v19 w2 (fun (v20 : T_api_Txn) w3 => ∀ b_1 w4, b_1 = w3.heap.size → w4 = w3.alloc (Obj.cells ([Value.int .i64 v20.Number, Value.slice v20.Writes.ptr v20.Writes.len v20.Writes.cap]).toArray ty_api_Txn (0, 0)) → (∃ src, SrcAt w4 (Slc.mk (some ⟨b_1, 0, none⟩) 1 1) 2 src ∧ AppendW 2 32 ty_api_Txn [Value.int .i64 0, Value.slice none 0 0] t_ src 1 w4 (fun t_1 w5 => again_ t_1 (IntKind.i64.wrap (i + 1)) w5)))))))) ∧
  ((decide (i < ((l_.len : Nat) : Int))) = false → (∀ b_2 w6, b_2 = w2.heap.size → w6 = w2.alloc (Obj.cells ([Value.int .i64 7777, Value.slice none 0 0]).toArray ty_api_Txn (0, 0)) → (∃ src, SrcAt w6 (Slc.mk (some ⟨b_2, 0, none⟩) 1 1) 2 src ∧ AppendW 2 32 ty_api_Txn [Value.int .i64 0, Value.slice none 0 0] t_ src 1 w6 (fun v26 w7 => 0 ≤ ((l_.len : Nat) : Int) ∧ ((l_.len : Nat) : Int) ≤ ((v26.cap : Nat) : Int) ∧ (R (Slc.mk v26.ptr (((l_.len : Nat) : Int).toNat) v26.cap) w7)))))

def F_towpathlaw01_TwinTxns (l_ : Slc) (R : Slc → World → Prop) (w : World) : Prop :=
  0 ≤ (0 : Int) ∧ (0 : Int) ≤ IntKind.i64.wrap (((l_.len : Nat) : Int) + 1) ∧ (32 : Int) * (IntKind.i64.wrap (((l_.len : Nat) : Int) + 1)) ≤ 281474976710656 ∧ (∀ b_ w1, b_ = w.heap.size → w1 = w.alloc (Obj.cells (repCells ((IntKind.i64.wrap (((l_.len : Nat) : Int) + 1)).toNat) [Value.int .i64 0, Value.slice none 0 0]) ty_api_Txn (0, 0)) → (∃ (I : Slc → Int → World → Prop) (μ : Slc → Int → World → Nat), I (Slc.mk (some ⟨b_, 0, none⟩) 0 ((IntKind.i64.wrap (((l_.len : Nat) : Int) + 1)).toNat)) 0 w1 ∧
  ∀ (t_ : Slc) (i : Int) w, I t_ i w → F_towpathlaw01_TwinTxns_L0 l_ R (fun (t_' : Slc) (i' : Int) w' => I t_' i' w' ∧ μ t_' i' w' < μ t_ i w) t_ i w))

def F_logfile_New_L0 (l_ : Slc) (R : Option Addr → Int → World → Prop) (b_ : Nat) (again_ : Int → World → Prop) (t17 : Int) (w3 : World) : Prop :=
  ((decide (t17 < ((l_.len : Nat) : Int))) = true → (IsAt l_.ptr ∧ (0 ≤ t17 ∧ t17 < ((l_.len : Nat) : Int) ∧ (∃ (v20 : T_api_Txn), CellsAt w3 (pblk l_.ptr) ((poff l_.ptr) + t17.toNat * 2) [Value.int .i64 v20.Number, Value.slice v20.Writes.ptr v20.Writes.len v20.Writes.cap] ∧ (∀ b_1 w4, b_1 = w3.heap.size → w4 = w3.alloc (Obj.cells ([Value.int .i64 0, Value.slice none 0 0]).toArray ty_api_Txn (0, 0)) → (Writable w4 b_1 0 2 ∧ (∀ w5, w5 = World.puts b_1 0 [Value.int .i64 v20.Number, Value.slice v20.Writes.ptr v20.Writes.len v20.Writes.cap] w4 → (∀ w6, (∃ k, w6 = w5.drewN k) → (∃ (v25 : Slc), w6.cell? ⟨b_, 1, none⟩ = some (Value.slice v25.ptr v25.len v25.cap) ∧ (∃ (v26 : T_api_Txn), CellsAt w6 b_1 0 [Value.int .i64 v26.Number, Value.slice v26.Writes.ptr v26.Writes.len v26.Writes.cap] ∧ (C_logfile_copied v26 w6 (fun (v27 : T_api_Txn) w7 => w7.cell? ⟨b_, 1, none⟩ = some (Value.slice v25.ptr v25.len v25.cap) ∧ (∀ b_2 w8, b_2 = w7.heap.size → w8 = w7.alloc (Obj.cells ([Value.int .i64 v27.Number, Value.slice v27.Writes.ptr v27.Writes.len v27.Writes.cap]).toArray ty_api_Txn (0, 0)) → (w8.cell? ⟨b_, 1, none⟩ = some (Value.slice v25.ptr v25.len v25.cap) ∧ (∃ src, SrcAt w8 (Slc.mk (some ⟨b_2, 0, none⟩) 1 1) 2 src ∧ AppendW 2 32 ty_api_Txn [Value.int .i64 0, Value.slice none 0 0] v25 src 1 w8 (fun v29 w9 => (Writable w9 b_ 1 1 ∧ (∀ w10, w10 = World.puts b_ 1 [Value.slice v29.ptr v29.len v29.cap] w9 → ((again_ (IntKind.i64.wrap (t17 + 1)) w10)))))))))))))))))))) ∧
  ((decide (t17 < ((l_.len : Nat) : Int))) = false → (R (some ⟨b_, 0, none⟩) 0 w3))

def F_logfile_New (l_ : Slc) (R : Option Addr → Int → World → Prop) (w : World) : Prop :=
  C_logfile_Check l_ w (fun (v9 : Int) w1 => ((v9 != 0) = true → (R none v9 w1)) ∧
  ((v9 != 0) = false → (∀ b_ w2, b_ = w1.heap.size → w2 = w1.alloc (Obj.cells ([Value.bool true, Value.slice none 0 0, Value.slice none 0 0]).toArray ty_logfile_Source (0, 0)) → (∃ (I : Int → World → Prop) (μ : Int → World → Nat), I 0 w2 ∧
  ∀ (t17 : Int) w, I t17 w → F_logfile_New_L0 l_ R b_ (fun (t17' : Int) w' => I t17' w' ∧ μ t17' w' < μ t17 w) t17 w))))

def F_towpathref06_New_L0 (l_ : Slc) (R : Option Addr → Int → World → Prop) (again_ : Slc → Int → World → Prop) (own : Slc) (i : Int) (w2 : World) : Prop :=
  ((decide (i < ((l_.len : Nat) : Int))) = true → (IsAt l_.ptr ∧ (0 ≤ i ∧ i < ((l_.len : Nat) : Int) ∧ (∃ (v22 : T_api_Txn), CellsAt w2 (pblk l_.ptr) ((poff l_.ptr) + i.toNat * 2) [Value.int .i64 v22.Number, Value.slice v22.Writes.ptr v22.Writes.len v22.Writes.cap] ∧ (C_towpathref06_Own v22 w2 (fun (v23 : T_api_Txn) w3 => ∀ b_ w4, b_ = w3.heap.size → w4 = w3.alloc (Obj.cells ([Value.int .i64 v23.Number, Value.slice v23.Writes.ptr v23.Writes.len v23.Writes.cap]).toArray ty_api_Txn (0, 0)) → (∃ src, SrcAt w4 (Slc.mk (some ⟨b_, 0, none⟩) 1 1) 2 src ∧ AppendW 2 32 ty_api_Txn [Value.int .i64 0, Value.slice none 0 0] own src 1 w4 (fun own1 w5 => again_ own1 (IntKind.i64.wrap (i + 1)) w5)))))))) ∧
  ((decide (i < ((l_.len : Nat) : Int))) = false → (∀ b_1 w6, b_1 = w2.heap.size → w6 = w2.alloc (Obj.cells ([Value.slice own.ptr own.len own.cap, Value.slice none 0 0]).toArray ty_towpathref06_Source (0, 0)) → (R (some ⟨b_1, 0, none⟩) 0 w6)))

def F_towpathref06_New (l_ : Slc) (R : Option Addr → Int → World → Prop) (w : World) : Prop :=
  C_towpathref06_Check l_ w (fun (v8 : Int) w1 => ((v8 != 0) = true → (R none v8 w1)) ∧
  ((v8 != 0) = false → (∃ (I : Slc → Int → World → Prop) (μ : Slc → Int → World → Nat), I (Slc.mk none 0 0) 0 w1 ∧
  ∀ (own : Slc) (i : Int) w, I own i w → F_towpathref06_New_L0 l_ R (fun (own' : Slc) (i' : Int) w' => I own' i' w' ∧ μ own' i' w' < μ own i w) own i w)))

def F_towpathlaw01_LeftTxns_L0 (t_ : Slc) (l_ : Slc) (R : Bool → World → Prop) (again_ : Int → World → Prop) (i : Int) (w1 : World) : Prop :=
  ((decide (i < ((l_.len : Nat) : Int))) = true → (IsAt t_.ptr ∧ (0 ≤ i ∧ i < ((t_.len : Nat) : Int) ∧ (∃ (v28 : T_api_Txn), CellsAt w1 (pblk t_.ptr) ((poff t_.ptr) + i.toNat * 2) [Value.int .i64 v28.Number, Value.slice v28.Writes.ptr v28.Writes.len v28.Writes.cap] ∧ (IsAt l_.ptr ∧ (0 ≤ i ∧ i < ((l_.len : Nat) : Int) ∧ (∃ (v32 : T_api_Txn), CellsAt w1 (pblk l_.ptr) ((poff l_.ptr) + i.toNat * 2) [Value.int .i64 v32.Number, Value.slice v32.Writes.ptr v32.Writes.len v32.Writes.cap] ∧ (∃ (v33 : Bool), (∀ w', Ext w1 w' → C_towpathlaw01_LeftTxn v28 v32 w' (fun (v33' : Bool) w'' => v33' = v33 ∧ Ext w' w'')) ∧ (∀ w3, Ext w1 w3 → (((!v33) = true → (R false w3)) ∧
  ((!v33) = false → (again_ (IntKind.i64.wrap (i + 1)) w3)))))))))))) ∧
  ((decide (i < ((l_.len : Nat) : Int))) = false → (0 ≤ IntKind.i64.wrap (((l_.len : Nat) : Int) + 1) ∧ IntKind.i64.wrap (((l_.len : Nat) : Int) + 1) ≤ ((t_.cap : Nat) : Int) ∧ (IsAt t_.ptr ∧ (0 ≤ ((l_.len : Nat) : Int) ∧ ((l_.len : Nat) : Int) < (((IntKind.i64.wrap (((l_.len : Nat) : Int) + 1)).toNat : Nat) : Int) ∧ (∃ (v43 : T_api_Txn), CellsAt w1 (pblk t_.ptr) ((poff t_.ptr) + ((l_.len : Nat) : Int).toNat * 2) [Value.int .i64 v43.Number, Value.slice v43.Writes.ptr v43.Writes.len v43.Writes.cap] ∧ (∀ b_ w4, b_ = w1.heap.size → w4 = w1.alloc (Obj.cells ([Value.int .i64 0, Value.slice none 0 0]).toArray ty_api_Txn (0, 0)) → (Writable w4 b_ 0 2 ∧ (∀ w5, w5 = World.puts b_ 0 [Value.int .i64 v43.Number, Value.slice v43.Writes.ptr v43.Writes.len v43.Writes.cap] w4 → (∃ (v45 : Int), w5.cell? ⟨b_, 0, none⟩ = some (Value.int .i64 v45) ∧ (R (v45 == 7777) w5))))))))))

def F_towpathlaw01_LeftTxns (t_ : Slc) (l_ : Slc) (R : Bool → World → Prop) (w : World) : Prop :=
  (((((t_.len : Nat) : Int) != ((l_.len : Nat) : Int)) || (decide (((t_.cap : Nat) : Int) ≤ ((l_.len : Nat) : Int)))) = true → (R false w)) ∧
  (((((t_.len : Nat) : Int) != ((l_.len : Nat) : Int)) || (decide (((t_.cap : Nat) : Int) ≤ ((l_.len : Nat) : Int)))) = false → (∃ (I : Int → World → Prop) (μ : Int → World → Nat), I 0 w ∧
  ∀ (i : Int) w, I i w → F_towpathlaw01_LeftTxns_L0 t_ l_ R (fun (i' : Int) w' => I i' w' ∧ μ i' w' < μ i w) i w))

def F_towpathlaw01_Book_Txns_L0 (b_ : Option Addr) (l_ : Slc) (R : World → Prop) (again_ : Int → World → Prop) (i : Int) (w1 : World) : Prop :=
  ((decide (i < ((l_.len : Nat) : Int))) = true → (IsAt l_.ptr ∧ (0 ≤ i ∧ i < ((l_.len : Nat) : Int) ∧ (∃ (v15 : T_api_Txn), CellsAt w1 (pblk l_.ptr) ((poff l_.ptr) + i.toNat * 2) [Value.int .i64 v15.Number, Value.slice v15.Writes.ptr v15.Writes.len v15.Writes.cap] ∧ (C_towpathlaw01_Book_Txn b_ v15 w1 (fun w2 => again_ (IntKind.i64.wrap (i + 1)) w2)))))) ∧
  ((decide (i < ((l_.len : Nat) : Int))) = false → (C_towpathlaw01_Book_keepTxn b_ l_ w1 (fun w3 => R w3)))

def F_towpathlaw01_Book_Txns (b_ : Option Addr) (l_ : Slc) (R : World → Prop) (w : World) : Prop :=
  ∃ (I : Int → World → Prop) (μ : Int → World → Nat), I 0 w ∧
  ∀ (i : Int) w, I i w → F_towpathlaw01_Book_Txns_L0 b_ l_ R (fun (i' : Int) w' => I i' w' ∧ μ i' w' < μ i w) i w

def F_towpathlaw01_Book_Apart (b_ : Option Addr) (R : Bool → World → Prop) (w : World) : Prop :=
  C_towpathlaw01_Book_fillByte b_ w (fun w1 => C_towpathlaw01_Book_fillInt b_ w1 (fun w2 => C_towpathlaw01_Book_fillText b_ w2 (fun w3 => C_towpathlaw01_Book_fillWrite b_ w3 (fun w4 => C_towpathlaw01_Book_fillEntry b_ w4 (fun w5 => C_towpathlaw01_Book_fillVersion b_ w5 (fun w6 => C_towpathlaw01_Book_fillTxn b_ w6 (fun w7 => C_towpathlaw01_Book_fillHeld b_ w7 (fun w8 => C_towpathlaw01_Book_fillHeldList b_ w8 (fun w9 => C_towpathlaw01_Book_fillEvent b_ w9 (fun w10 => C_towpathlaw01_Book_fillAnswer b_ w10 (fun w11 => C_towpathlaw01_Book_growByte b_ w11 (fun w12 => C_towpathlaw01_Book_growInt b_ w12 (fun w13 => C_towpathlaw01_Book_growText b_ w13 (fun w14 => C_towpathlaw01_Book_growWrite b_ w14 (fun w15 => C_towpathlaw01_Book_growEntry b_ w15 (fun w16 => C_towpathlaw01_Book_growVersion b_ w16 (fun w17 => C_towpathlaw01_Book_growTxn b_ w17 (fun w18 => C_towpathlaw01_Book_growHeld b_ w18 (fun w19 => C_towpathlaw01_Book_growHeldList b_ w19 (fun w20 => C_towpathlaw01_Book_growEvent b_ w20 (fun w21 => C_towpathlaw01_Book_growAnswer b_ w21 (fun w22 => C_towpathlaw01_Book_lookByte b_ w22 (fun (v48 : Bool) w23 => (v48 = true → (C_towpathlaw01_Book_lookInt b_ w23 (fun (v51 : Bool) w24 => (v51 = true → (C_towpathlaw01_Book_lookText b_ w24 (fun (v55 : Bool) w25 => (v55 = true → (C_towpathlaw01_Book_lookWrite b_ w25 (fun (v59 : Bool) w26 => (v59 = true → (C_towpathlaw01_Book_lookEntry b_ w26 (fun (v63 : Bool) w27 => (v63 = true → (C_towpathlaw01_Book_lookVersion b_ w27 (fun (v67 : Bool) w28 => (v67 = true → (C_towpathlaw01_Book_lookTxn b_ w28 (fun (v71 : Bool) w29 => (v71 = true → (C_towpathlaw01_Book_lookHeld b_ w29 (fun (v75 : Bool) w30 => (v75 = true → (C_towpathlaw01_Book_lookHeldList b_ w30 (fun (v79 : Bool) w31 => (v79 = true → (C_towpathlaw01_Book_lookEvent b_ w31 (fun (v83 : Bool) w32 => (v83 = true → (C_towpathlaw01_Book_lookAnswer b_ w32 (fun (v87 : Bool) w33 => R v87 w33))) ∧
  (v83 = false → (R false w32))))) ∧
  (v79 = false → (R false w31))))) ∧
  (v75 = false → (R false w30))))) ∧
  (v71 = false → (R false w29))))) ∧
  (v67 = false → (R false w28))))) ∧
  (v63 = false → (R false w27))))) ∧
  (v59 = false → (R false w26))))) ∧
  (v55 = false → (R false w25))))) ∧
  (v51 = false → (R false w24))))) ∧
  (v48 = false → (R false w23)))))))))))))))))))))))))

def F_logfile_Source_Get_k1 (s : Option Addr) (number : Int) (R : T_api_Txn → Int → World → Prop) (b_ : Nat) (t17 : Bool) (w4 : World) : Prop :=
  (t17 = true → (Writable w4 b_ 0 2 ∧ (∀ w5, w5 = World.puts b_ 0 [Value.int .i64 0, Value.slice none 0 0] w4 → (∃ (res1 : T_api_Txn), CellsAt w5 b_ 0 [Value.int .i64 res1.Number, Value.slice res1.Writes.ptr res1.Writes.len res1.Writes.cap] ∧ (R res1 1 w5))))) ∧
  (t17 = false → (IsAt s ∧ (∃ (v34 : Slc), w4.cell? ⟨(pblk s), (poff s) + 2, none⟩ = some (Value.slice v34.ptr v34.len v34.cap) ∧ (∀ b_1 w6, b_1 = w4.heap.size → w6 = w4.alloc (Obj.cells ([Value.int .i64 number]).toArray ty_int (0, 0)) → (∃ src, SrcAt w6 (Slc.mk (some ⟨b_1, 0, none⟩) 1 1) 1 src ∧ AppendW 1 8 ty_int [Value.int .i64 0] v34 src 1 w6 (fun v37 w7 => IsAt s ∧ (Writable w7 (pblk s) ((poff s) + 2) 1 ∧ (∀ w8, w8 = World.puts (pblk s) ((poff s) + 2) [Value.slice v37.ptr v37.len v37.cap] w7 → (IsAt s ∧ (∃ (v43 : Slc), w8.cell? ⟨(pblk s), (poff s) + 1, none⟩ = some (Value.slice v43.ptr v43.len v43.cap) ∧ (IsAt v43.ptr ∧ (0 ≤ IntKind.i64.wrap (number - 1) ∧ IntKind.i64.wrap (number - 1) < ((v43.len : Nat) : Int) ∧ (∃ (v47 : T_api_Txn), CellsAt w8 (pblk v43.ptr) ((poff v43.ptr) + (IntKind.i64.wrap (number - 1)).toNat * 2) [Value.int .i64 v47.Number, Value.slice v47.Writes.ptr v47.Writes.len v47.Writes.cap] ∧ (C_logfile_copied v47 w8 (fun (v48 : T_api_Txn) w9 => Writable w9 b_ 0 2 ∧ (∀ w10, w10 = World.puts b_ 0 [Value.int .i64 v48.Number, Value.slice v48.Writes.ptr v48.Writes.len v48.Writes.cap] w9 → (∃ (res2 : T_api_Txn), CellsAt w10 b_ 0 [Value.int .i64 res2.Number, Value.slice res2.Writes.ptr res2.Writes.len res2.Writes.cap] ∧ (R res2 0 w10))))))))))))))))))

def F_logfile_Source_Get_k0 (s : Option Addr) (number : Int) (R : T_api_Txn → Int → World → Prop) (b_ : Nat) (t6 : Bool) (w2 : World) : Prop :=
  (t6 = true → (Writable w2 b_ 0 2 ∧ (∀ w3, w3 = World.puts b_ 0 [Value.int .i64 0, Value.slice none 0 0] w2 → (∃ (res : T_api_Txn), CellsAt w3 b_ 0 [Value.int .i64 res.Number, Value.slice res.Writes.ptr res.Writes.len res.Writes.cap] ∧ (R res 2 w3))))) ∧
  (t6 = false → (((decide (number < 1)) = true → (F_logfile_Source_Get_k1 s number R b_ true w2)) ∧
  ((decide (number < 1)) = false → (IsAt s ∧ (∃ (v25 : Slc), w2.cell? ⟨(pblk s), (poff s) + 1, none⟩ = some (Value.slice v25.ptr v25.len v25.cap) ∧ (F_logfile_Source_Get_k1 s number R b_ (decide (number > ((v25.len : Nat) : Int))) w2))))))

def F_logfile_Source_Get (s : Option Addr) (number : Int) (R : T_api_Txn → Int → World → Prop) (w : World) : Prop :=
  ∀ b_ w1, b_ = w.heap.size → w1 = w.alloc (Obj.cells ([Value.int .i64 0, Value.slice none 0 0]).toArray ty_api_Txn (0, 0)) → ((s.isNone = true → (F_logfile_Source_Get_k0 s number R b_ true w1)) ∧
  (s.isNone = false → (IsAt s ∧ (∃ (v13 : Bool), w1.cell? ⟨(pblk s), (poff s), none⟩ = some (Value.bool v13) ∧ (F_logfile_Source_Get_k0 s number R b_ (!v13) w1)))))

def F_towpathref06_Source_Get_k0 (s : Option Addr) (number : Int) (R : T_api_Txn → Int → World → Prop) (b_ : Nat) (t19 : Bool) (w3 : World) : Prop :=
  (t19 = true → (Writable w3 b_ 0 2 ∧ (∀ w4, w4 = World.puts b_ 0 [Value.int .i64 0, Value.slice none 0 0] w3 → (∃ (res1 : T_api_Txn), CellsAt w4 b_ 0 [Value.int .i64 res1.Number, Value.slice res1.Writes.ptr res1.Writes.len res1.Writes.cap] ∧ (R res1 1 w4))))) ∧
  (t19 = false → (IsAt s ∧ (∃ (v25 : Slc), w3.cell? ⟨(pblk s), (poff s) + 1, none⟩ = some (Value.slice v25.ptr v25.len v25.cap) ∧ (∀ b_1 w5, b_1 = w3.heap.size → w5 = w3.alloc (Obj.cells ([Value.int .i64 number]).toArray ty_int (0, 0)) → (∃ src, SrcAt w5 (Slc.mk (some ⟨b_1, 0, none⟩) 1 1) 1 src ∧ AppendW 1 8 ty_int [Value.int .i64 0] v25 src 1 w5 (fun v28 w6 => IsAt s ∧ (Writable w6 (pblk s) ((poff s) + 1) 1 ∧ (∀ w7, w7 = World.puts (pblk s) ((poff s) + 1) [Value.slice v28.ptr v28.len v28.cap] w6 → (IsAt s ∧ (∃ (v34 : Slc), w7.cell? ⟨(pblk s), (poff s), none⟩ = some (Value.slice v34.ptr v34.len v34.cap) ∧ (IsAt v34.ptr ∧ (0 ≤ IntKind.i64.wrap (number - 1) ∧ IntKind.i64.wrap (number - 1) < ((v34.len : Nat) : Int) ∧ (∃ (v38 : T_api_Txn), CellsAt w7 (pblk v34.ptr) ((poff v34.ptr) + (IntKind.i64.wrap (number - 1)).toNat * 2) [Value.int .i64 v38.Number, Value.slice v38.Writes.ptr v38.Writes.len v38.Writes.cap] ∧ (C_towpathref06_Own v38 w7 (fun (v39 : T_api_Txn) w8 => Writable w8 b_ 0 2 ∧ (∀ w9, w9 = World.puts b_ 0 [Value.int .i64 v39.Number, Value.slice v39.Writes.ptr v39.Writes.len v39.Writes.cap] w8 → (∃ (res2 : T_api_Txn), CellsAt w9 b_ 0 [Value.int .i64 res2.Number, Value.slice res2.Writes.ptr res2.Writes.len res2.Writes.cap] ∧ (R res2 0 w9))))))))))))))))))

def F_towpathref06_Source_Get (s : Option Addr) (number : Int) (R : T_api_Txn → Int → World → Prop) (w : World) : Prop :=
  ∀ b_ w1, b_ = w.heap.size → w1 = w.alloc (Obj.cells ([Value.int .i64 0, Value.slice none 0 0]).toArray ty_api_Txn (0, 0)) → ((s.isNone = true → (Writable w1 b_ 0 2 ∧ (∀ w2, w2 = World.puts b_ 0 [Value.int .i64 0, Value.slice none 0 0] w1 → (∃ (res : T_api_Txn), CellsAt w2 b_ 0 [Value.int .i64 res.Number, Value.slice res.Writes.ptr res.Writes.len res.Writes.cap] ∧ (R res 2 w2))))) ∧
  (s.isNone = false → (((decide (number < 1)) = true → (F_towpathref06_Source_Get_k0 s number R b_ true w1)) ∧
  ((decide (number < 1)) = false → (IsAt s ∧ (∃ (v16 : Slc), w1.cell? ⟨(pblk s), (poff s), none⟩ = some (Value.slice v16.ptr v16.len v16.cap) ∧ (F_towpathref06_Source_Get_k0 s number R b_ (decide (number > ((v16.len : Nat) : Int))) w1)))))))

def F_towpathlaw01_SameTxn (a_ : T_api_Txn) (b_ : T_api_Txn) (R : Bool → World → Prop) (w : World) : Prop :=
  ∀ b_1 w1, b_1 = w.heap.size → w1 = w.alloc (Obj.cells ([Value.int .i64 a_.Number, Value.slice a_.Writes.ptr a_.Writes.len a_.Writes.cap]).toArray ty_api_Txn (0, 0)) → (∀ b_2 w2, b_2 = w1.heap.size → w2 = w1.alloc (Obj.cells ([Value.int .i64 b_.Number, Value.slice b_.Writes.ptr b_.Writes.len b_.Writes.cap]).toArray ty_api_Txn (0, 0)) → (∃ (v6 : Int), w2.cell? ⟨b_1, 0, none⟩ = some (Value.int .i64 v6) ∧ (∃ (v8 : Int), w2.cell? ⟨b_2, 0, none⟩ = some (Value.int .i64 v8) ∧ (((v6 == v8) = true → (∃ (v12 : Slc), w2.cell? ⟨b_1, 1, none⟩ = some (Value.slice v12.ptr v12.len v12.cap) ∧ (∃ (v14 : Slc), w2.cell? ⟨b_2, 1, none⟩ = some (Value.slice v14.ptr v14.len v14.cap) ∧ (C_towpathlaw01_SameWrites v12 v14 w2 (fun (v15 : Bool) w3 => R v15 w3))))) ∧
  ((v6 == v8) = false → (R false w2))))))

def F_logfile_Source_Last (s : Option Addr) (R : Int → World → Prop) (w : World) : Prop :=
  (s.isNone = true → (R 0 w)) ∧
  (s.isNone = false → (IsAt s ∧ (∃ (v8 : Slc), w.cell? ⟨(pblk s), (poff s) + 1, none⟩ = some (Value.slice v8.ptr v8.len v8.cap) ∧ (R ((v8.len : Nat) : Int) w))))

def F_towpathref06_Source_Last (s : Option Addr) (R : Int → World → Prop) (w : World) : Prop :=
  (s.isNone = true → (R 0 w)) ∧
  (s.isNone = false → (IsAt s ∧ (∃ (v8 : Slc), w.cell? ⟨(pblk s), (poff s), none⟩ = some (Value.slice v8.ptr v8.len v8.cap) ∧ (R ((v8.len : Nat) : Int) w))))

def F_towpathlaw01_Book_Txn (b_ : Option Addr) (t_ : T_api_Txn) (R : World → Prop) (w : World) : Prop :=
  ∀ b_1 w1, b_1 = w.heap.size → w1 = w.alloc (Obj.cells ([Value.int .i64 t_.Number, Value.slice t_.Writes.ptr t_.Writes.len t_.Writes.cap]).toArray ty_api_Txn (0, 0)) → (∃ (v6 : Slc), w1.cell? ⟨b_1, 1, none⟩ = some (Value.slice v6.ptr v6.len v6.cap) ∧ (C_towpathlaw01_Book_Writes b_ v6 w1 (fun w2 => R w2)))

def F_towpathlaw01_Book_Ints (b_ : Option Addr) (l_ : Slc) (R : World → Prop) (w : World) : Prop :=
  C_towpathlaw01_Book_keepInt b_ l_ w (fun w1 => R w1)

def F_logfile_Source_Asked (s : Option Addr) (R : Slc → World → Prop) (w : World) : Prop :=
  (s.isNone = true → (R (Slc.mk none 0 0) w)) ∧
  (s.isNone = false → (IsAt s ∧ (∃ (v8 : Slc), w.cell? ⟨(pblk s), (poff s) + 2, none⟩ = some (Value.slice v8.ptr v8.len v8.cap) ∧ (C_slices_Clone_int_int v8 w (fun (v9 : Slc) w1 => R v9 w1)))))

def F_towpathlaw01_SameInts_L0 (a_ : Slc) (b_ : Slc) (R : Bool → World → Prop) (again_ : Int → World → Prop) (i : Int) (w1 : World) : Prop :=
  ((decide (i < ((a_.len : Nat) : Int))) = true → (IsAt a_.ptr ∧ (0 ≤ i ∧ i < ((a_.len : Nat) : Int) ∧ (∃ (v20 : Int), w1.cell? ⟨(pblk a_.ptr), (poff a_.ptr) + i.toNat, none⟩ = some (Value.int .i64 v20) ∧ (IsAt b_.ptr ∧ (0 ≤ i ∧ i < ((b_.len : Nat) : Int) ∧ (∃ (v24 : Int), w1.cell? ⟨(pblk b_.ptr), (poff b_.ptr) + i.toNat, none⟩ = some (Value.int .i64 v24) ∧ (∀ w2, Ext w1 w2 → (((v20 != v24) = true → (R false w2)) ∧
  ((v20 != v24) = false → (again_ (IntKind.i64.wrap (i + 1)) w2))))))))))) ∧
  ((decide (i < ((a_.len : Nat) : Int))) = false → (R true w1))

def F_towpathlaw01_SameInts (a_ : Slc) (b_ : Slc) (R : Bool → World → Prop) (w : World) : Prop :=
  ((((a_.len : Nat) : Int) != ((b_.len : Nat) : Int)) = true → (R false w)) ∧
  ((((a_.len : Nat) : Int) != ((b_.len : Nat) : Int)) = false → (∃ (I : Int → World → Prop) (μ : Int → World → Nat), I 0 w ∧
  ∀ (i : Int) w, I i w → F_towpathlaw01_SameInts_L0 a_ b_ R (fun (i' : Int) w' => I i' w' ∧ μ i' w' < μ i w) i w))

def F_towpathref06_Source_Asked (s : Option Addr) (R : Slc → World → Prop) (w : World) : Prop :=
  (s.isNone = true → (R (Slc.mk none 0 0) w)) ∧
  (s.isNone = false → (IsAt s ∧ (∃ (v8 : Slc), w.cell? ⟨(pblk s), (poff s) + 1, none⟩ = some (Value.slice v8.ptr v8.len v8.cap) ∧ (R v8 w))))

def F_logfile_Check_L0 (l_ : Slc) (R : Int → World → Prop) (v7 : Value) (again_ : Int → World → Prop) (t10 : Int) (w2 : World) : Prop :=
  ((decide (t10 < ((l_.len : Nat) : Int))) = true → (IsAt l_.ptr ∧ (0 ≤ t10 ∧ t10 < ((l_.len : Nat) : Int) ∧ (∃ (v13 : T_api_Txn), CellsAt w2 (pblk l_.ptr) ((poff l_.ptr) + t10.toNat * 2) [Value.int .i64 v13.Number, Value.slice v13.Writes.ptr v13.Writes.len v13.Writes.cap] ∧ (∀ b_ w3, b_ = w2.heap.size → w3 = w2.alloc (Obj.cells ([Value.int .i64 0, Value.slice none 0 0]).toArray ty_api_Txn (0, 0)) → (Writable w3 b_ 0 2 ∧ (∀ w4, w4 = World.puts b_ 0 [Value.int .i64 v13.Number, Value.slice v13.Writes.ptr v13.Writes.len v13.Writes.cap] w3 → (∃ (v15 : T_api_Txn), CellsAt w4 b_ 0 [Value.int .i64 v15.Number, Value.slice v15.Writes.ptr v15.Writes.len v15.Writes.cap] ∧ (CallsV (P := Tryz.prog) v7 #[Value.agg #[Value.int .i64 v15.Number, Value.slice v15.Writes.ptr v15.Writes.len v15.Writes.cap]] w4 (fun e' w5 => ∃ (v16 : Int), e' = Ending.returned (Value.int .i64 v16) ∧ (((v16 != 0) = true → (R v16 w5)) ∧
  ((v16 != 0) = false → (again_ (IntKind.i64.wrap (t10 + 1)) w5))))))))))))) ∧
  ((decide (t10 < ((l_.len : Nat) : Int))) = false → (R 0 w2))

def F_logfile_Check (l_ : Slc) (R : Int → World → Prop) (w : World) : Prop :=
  C_logfile_turns w (fun (v7 : Value) w1 => ∃ (I : Int → World → Prop) (μ : Int → World → Nat), I 0 w1 ∧
  ∀ (t10 : Int) w, I t10 w → F_logfile_Check_L0 l_ R v7 (fun (t10' : Int) w' => I t10' w' ∧ μ t10' w' < μ t10 w) t10 w)

def F_towpathlaw01_TxnSize (t_ : T_api_Txn) (R : Int → World → Prop) (w : World) : Prop :=
  ∀ b_ w1, b_ = w.heap.size → w1 = w.alloc (Obj.cells ([Value.int .i64 t_.Number, Value.slice t_.Writes.ptr t_.Writes.len t_.Writes.cap]).toArray ty_api_Txn (0, 0)) → (∃ (v4 : Slc), w1.cell? ⟨b_, 1, none⟩ = some (Value.slice v4.ptr v4.len v4.cap) ∧ (C_towpathlaw01_WritesSize v4 w1 (fun (v5 : Int) w2 => R (IntKind.i64.wrap (1 + v5)) w2)))

def F_towpathlaw01_TwinTxn (x : T_api_Txn) (R : T_api_Txn → World → Prop) (w : World) : Prop :=
  ∀ b_ w1, b_ = w.heap.size → w1 = w.alloc (Obj.cells ([Value.int .i64 x.Number, Value.slice x.Writes.ptr x.Writes.len x.Writes.cap]).toArray ty_api_Txn (0, 0)) → (∀ b_1 w2, b_1 = w1.heap.size → w2 = w1.alloc (Obj.cells ([Value.int .i64 0, Value.slice none 0 0]).toArray ty_api_Txn (0, 0)) → (∀ w3, (∃ k, w3 = w2.drewN k) → (∃ (v4 : Int), w3.cell? ⟨b_, 0, none⟩ = some (Value.int .i64 v4) ∧ (∃ (v6 : Slc), w3.cell? ⟨b_, 1, none⟩ = some (Value.slice v6.ptr v6.len v6.cap) ∧ (C_towpathlaw01_TwinWrites v6 w3 (fun (v7 : Slc) w4 => w4.cell? ⟨b_, 0, none⟩ = some (Value.int .i64 v4) ∧ (Writable w4 b_1 0 2 ∧ (∀ w5, w5 = World.puts b_1 0 [Value.int .i64 v4, Value.slice v7.ptr v7.len v7.cap] w4 → ((∃ (res : T_api_Txn), CellsAt w5 b_1 0 [Value.int .i64 res.Number, Value.slice res.Writes.ptr res.Writes.len res.Writes.cap] ∧ (R res w5)))))))))))

def F_logfile_copied (t_ : T_api_Txn) (R : T_api_Txn → World → Prop) (w : World) : Prop :=
  ∀ b_ w1, b_ = w.heap.size → w1 = w.alloc (Obj.cells ([Value.int .i64 t_.Number, Value.slice t_.Writes.ptr t_.Writes.len t_.Writes.cap]).toArray ty_api_Txn (0, 0)) → (∀ b_1 w2, b_1 = w1.heap.size → w2 = w1.alloc (Obj.cells ([Value.int .i64 0, Value.slice none 0 0]).toArray ty_api_Txn (0, 0)) → (∀ w3, (∃ k, w3 = w2.drewN k) → (∃ (v4 : Int), w3.cell? ⟨b_, 0, none⟩ = some (Value.int .i64 v4) ∧ (∃ (v6 : Slc), w3.cell? ⟨b_, 1, none⟩ = some (Value.slice v6.ptr v6.len v6.cap) ∧ (C_slices_Clone_api_Write_api_Write v6 w3 (fun (v7 : Slc) w4 => w4.cell? ⟨b_, 0, none⟩ = some (Value.int .i64 v4) ∧ (Writable w4 b_1 0 2 ∧ (∀ w5, w5 = World.puts b_1 0 [Value.int .i64 v4, Value.slice v7.ptr v7.len v7.cap] w4 → ((∃ (res : T_api_Txn), CellsAt w5 b_1 0 [Value.int .i64 res.Number, Value.slice res.Writes.ptr res.Writes.len res.Writes.cap] ∧ (R res w5)))))))))))

def F_towpathref06_Check_L0 (l_ : Slc) (R : Int → World → Prop) (again_ : Int → World → Prop) (i : Int) (w1 : World) : Prop :=
  ((decide (i < ((l_.len : Nat) : Int))) = true → (IsAt l_.ptr ∧ (0 ≤ i ∧ i < ((l_.len : Nat) : Int) ∧ (∃ (v13 : T_api_Txn), CellsAt w1 (pblk l_.ptr) ((poff l_.ptr) + i.toNat * 2) [Value.int .i64 v13.Number, Value.slice v13.Writes.ptr v13.Writes.len v13.Writes.cap] ∧ (C_towpathref05_Check v13 w1 (fun (v14 : Int) w2 => ((v14 != 0) = true → (R 1 w2)) ∧
  ((v14 != 0) = false → (IsAt l_.ptr ∧ (0 ≤ i ∧ i < ((l_.len : Nat) : Int) ∧ (∃ (v20 : Int), w2.cell? ⟨(pblk l_.ptr), (poff l_.ptr) + i.toNat * 2, none⟩ = some (Value.int .i64 v20) ∧ (((v20 != (IntKind.i64.wrap (i + 1))) = true → (R 6 w2)) ∧
  ((v20 != (IntKind.i64.wrap (i + 1))) = false → (again_ (IntKind.i64.wrap (i + 1)) w2))))))))))))) ∧
  ((decide (i < ((l_.len : Nat) : Int))) = false → (R 0 w1))

def F_towpathref06_Check (l_ : Slc) (R : Int → World → Prop) (w : World) : Prop :=
  ∃ (I : Int → World → Prop) (μ : Int → World → Nat), I 0 w ∧
  ∀ (i : Int) w, I i w → F_towpathref06_Check_L0 l_ R (fun (i' : Int) w' => I i' w' ∧ μ i' w' < μ i w) i w

def F_towpathref06_Own (t_ : T_api_Txn) (R : T_api_Txn → World → Prop) (w : World) : Prop :=
  ∀ b_ w1, b_ = w.heap.size → w1 = w.alloc (Obj.cells ([Value.int .i64 t_.Number, Value.slice t_.Writes.ptr t_.Writes.len t_.Writes.cap]).toArray ty_api_Txn (0, 0)) → (∀ b_1 w2, b_1 = w1.heap.size → w2 = w1.alloc (Obj.cells ([Value.int .i64 0, Value.slice none 0 0]).toArray ty_api_Txn (0, 0)) → (∃ (v6 : Slc), w2.cell? ⟨b_, 1, none⟩ = some (Value.slice v6.ptr v6.len v6.cap) ∧ (∃ src, SrcAt w2 v6 3 src ∧ AppendW 3 40 ty_api_Write [Value.string ByteArray.empty, Value.string ByteArray.empty, Value.bool false] (Slc.mk none 0 0) src v6.len w2 (fun w_ w3 => ∃ (v9 : Int), w3.cell? ⟨b_, 0, none⟩ = some (Value.int .i64 v9) ∧ (Writable w3 b_1 0 2 ∧ (∀ w4, w4 = World.puts b_1 0 [Value.int .i64 v9, Value.slice w_.ptr w_.len w_.cap] w3 → (∃ (res : T_api_Txn), CellsAt w4 b_1 0 [Value.int .i64 res.Number, Value.slice res.Writes.ptr res.Writes.len res.Writes.cap] ∧ (R res w4))))))))

def F_towpathlaw01_LeftTxn (t_ : T_api_Txn) (x : T_api_Txn) (R : Bool → World → Prop) (w : World) : Prop :=
  ∀ b_ w1, b_ = w.heap.size → w1 = w.alloc (Obj.cells ([Value.int .i64 t_.Number, Value.slice t_.Writes.ptr t_.Writes.len t_.Writes.cap]).toArray ty_api_Txn (0, 0)) → (∀ b_1 w2, b_1 = w1.heap.size → w2 = w1.alloc (Obj.cells ([Value.int .i64 x.Number, Value.slice x.Writes.ptr x.Writes.len x.Writes.cap]).toArray ty_api_Txn (0, 0)) → (∃ (v6 : Int), w2.cell? ⟨b_, 0, none⟩ = some (Value.int .i64 v6) ∧ (∃ (v8 : Int), w2.cell? ⟨b_1, 0, none⟩ = some (Value.int .i64 v8) ∧ (((v6 == v8) = true → (∃ (v12 : Slc), w2.cell? ⟨b_, 1, none⟩ = some (Value.slice v12.ptr v12.len v12.cap) ∧ (∃ (v14 : Slc), w2.cell? ⟨b_1, 1, none⟩ = some (Value.slice v14.ptr v14.len v14.cap) ∧ (C_towpathlaw01_LeftWrites v12 v14 w2 (fun (v15 : Bool) w3 => R v15 w3))))) ∧
  ((v6 == v8) = false → (R false w2))))))

def F_towpathlaw01_Book_keepTxn (b_ : Option Addr) (l_ : Slc) (R : World → Prop) (w : World) : Prop :=
  IsAt b_ ∧ (∃ (v7 : Int), w.cell? ⟨(pblk b_), (poff b_), none⟩ = some (Value.int .i64 v7) ∧ (Writable w (pblk b_) (poff b_) 1 ∧ (∀ w1, w1 = World.puts (pblk b_) (poff b_) [Value.int .i64 (IntKind.i64.wrap (v7 + 1))] w → (∀ w2, (∃ k, w2 = w1.drewN k) → (IsAt b_ ∧ (∃ (v15 : Slc), w2.cell? ⟨(pblk b_), (poff b_) + 7, none⟩ = some (Value.slice v15.ptr v15.len v15.cap) ∧ (IsAt b_ ∧ (∃ (v20 : Int), w2.cell? ⟨(pblk b_), (poff b_), none⟩ = some (Value.int .i64 v20) ∧ (∀ b_1 w3, b_1 = w2.heap.size → w3 = w2.alloc (Obj.cells ([Value.slice l_.ptr l_.len l_.cap, Value.slice none 0 0, Value.int .i64 v20]).toArray ty_towpathlaw01_heldTxn (0, 0)) → (w3.cell? ⟨(pblk b_), (poff b_) + 7, none⟩ = some (Value.slice v15.ptr v15.len v15.cap) ∧ (∃ src, SrcAt w3 (Slc.mk (some ⟨b_1, 0, none⟩) 1 1) 3 src ∧ AppendW 3 56 ty_towpathlaw01_heldTxn [Value.slice none 0 0, Value.slice none 0 0, Value.int .i64 0] v15 src 1 w3 (fun v23 w4 => (IsAt b_ ∧ (Writable w4 (pblk b_) ((poff b_) + 7) 1 ∧ (∀ w5, w5 = World.puts (pblk b_) ((poff b_) + 7) [Value.slice v23.ptr v23.len v23.cap] w4 → ((R w5)))))))))))))))))

def F_towpathlaw01_Book_fillByte_L0 (b_ : Option Addr) (R : World → Prop) (again_ : Int → World → Prop) (i : Int) (w1 : World) : Prop :=
  IsAt b_ ∧ (∃ (v9 : Slc), w1.cell? ⟨(pblk b_), (poff b_) + 1, none⟩ = some (Value.slice v9.ptr v9.len v9.cap) ∧ (((decide (i < ((v9.len : Nat) : Int))) = true → (False)) ∧
  ((decide (i < ((v9.len : Nat) : Int))) = false → (R w1))))

def F_towpathlaw01_Book_fillByte (b_ : Option Addr) (R : World → Prop) (w : World) : Prop :=
  ∃ (I : Int → World → Prop) (μ : Int → World → Nat), I 0 w ∧
  ∀ (i : Int) w, I i w → F_towpathlaw01_Book_fillByte_L0 b_ R (fun (i' : Int) w' => I i' w' ∧ μ i' w' < μ i w) i w

def F_towpathlaw01_Book_fillInt_L1 (i : Int) (again_ : Int → World → Prop) (b_1 : Nat) (again_1 : Int → World → Prop) (k_ : Int) (w4 : World) : Prop :=
  ∃ (v23 : Slc), w4.cell? ⟨b_1, 0, none⟩ = some (Value.slice v23.ptr v23.len v23.cap) ∧ (((decide (k_ < ((v23.len : Nat) : Int))) = true → (∀ w5, (∃ k, w5 = w4.drewN k) → (∃ (v29 : Slc), w5.cell? ⟨b_1, 0, none⟩ = some (Value.slice v29.ptr v29.len v29.cap) ∧ (∃ (v32 : Int), w5.cell? ⟨b_1, 2, none⟩ = some (Value.int .i64 v32) ∧ (C_towpathlaw01_markInt v32 w5 (fun (v33 : Int) w6 => w6.cell? ⟨b_1, 0, none⟩ = some (Value.slice v29.ptr v29.len v29.cap) ∧ (IsAt v29.ptr ∧ (0 ≤ k_ ∧ k_ < ((v29.len : Nat) : Int) ∧ (Writable w6 (pblk v29.ptr) ((poff v29.ptr) + k_.toNat) 1 ∧ (∀ w7, w7 = World.puts (pblk v29.ptr) ((poff v29.ptr) + k_.toNat) [Value.int .i64 v33] w6 → ((again_1 (IntKind.i64.wrap (k_ + 1)) w7)))))))))))) ∧
  ((decide (k_ < ((v23.len : Nat) : Int))) = false → (again_ (IntKind.i64.wrap (i + 1)) w4)))

def F_towpathlaw01_Book_fillInt_L0 (b_ : Option Addr) (R : World → Prop) (again_ : Int → World → Prop) (i : Int) (w1 : World) : Prop :=
  IsAt b_ ∧ (∃ (v9 : Slc), w1.cell? ⟨(pblk b_), (poff b_) + 2, none⟩ = some (Value.slice v9.ptr v9.len v9.cap) ∧ (((decide (i < ((v9.len : Nat) : Int))) = true → (IsAt b_ ∧ (∃ (v17 : Slc), w1.cell? ⟨(pblk b_), (poff b_) + 2, none⟩ = some (Value.slice v17.ptr v17.len v17.cap) ∧ (IsAt v17.ptr ∧ (0 ≤ i ∧ i < ((v17.len : Nat) : Int) ∧ (∃ (v20 : T_towpathlaw01_heldInt), CellsAt w1 (pblk v17.ptr) ((poff v17.ptr) + i.toNat * 3) [Value.slice v20.l.ptr v20.l.len v20.l.cap, Value.slice v20.long.ptr v20.long.len v20.long.cap, Value.int .i64 v20.n] ∧ (∀ b_1 w2, b_1 = w1.heap.size → w2 = w1.alloc (Obj.cells ([Value.slice none 0 0, Value.slice none 0 0, Value.int .i64 0]).toArray ty_towpathlaw01_heldInt (0, 0)) → (Writable w2 b_1 0 3 ∧ (∀ w3, w3 = World.puts b_1 0 [Value.slice v20.l.ptr v20.l.len v20.l.cap, Value.slice v20.long.ptr v20.long.len v20.long.cap, Value.int .i64 v20.n] w2 → (∃ (I : Int → World → Prop) (μ : Int → World → Nat), I 0 w3 ∧
  ∀ (k_ : Int) w, I k_ w → F_towpathlaw01_Book_fillInt_L1 i again_ b_1 (fun (k_' : Int) w' => I k_' w' ∧ μ k_' w' < μ k_ w) k_ w)))))))))) ∧
  ((decide (i < ((v9.len : Nat) : Int))) = false → (R w1))))

def F_towpathlaw01_Book_fillInt (b_ : Option Addr) (R : World → Prop) (w : World) : Prop :=
  ∃ (I : Int → World → Prop) (μ : Int → World → Nat), I 0 w ∧
  ∀ (i : Int) w, I i w → F_towpathlaw01_Book_fillInt_L0 b_ R (fun (i' : Int) w' => I i' w' ∧ μ i' w' < μ i w) i w

def F_towpathlaw01_Book_fillText_L0 (b_ : Option Addr) (R : World → Prop) (again_ : Int → World → Prop) (i : Int) (w1 : World) : Prop :=
  IsAt b_ ∧ (∃ (v9 : Slc), w1.cell? ⟨(pblk b_), (poff b_) + 3, none⟩ = some (Value.slice v9.ptr v9.len v9.cap) ∧ (((decide (i < ((v9.len : Nat) : Int))) = true → (False)) ∧
  ((decide (i < ((v9.len : Nat) : Int))) = false → (R w1))))

def F_towpathlaw01_Book_fillText (b_ : Option Addr) (R : World → Prop) (w : World) : Prop :=
  ∃ (I : Int → World → Prop) (μ : Int → World → Nat), I 0 w ∧
  ∀ (i : Int) w, I i w → F_towpathlaw01_Book_fillText_L0 b_ R (fun (i' : Int) w' => I i' w' ∧ μ i' w' < μ i w) i w

def F_towpathlaw01_Book_fillWrite_L1 (i : Int) (again_ : Int → World → Prop) (b_1 : Nat) (again_1 : Int → World → Prop) (k_ : Int) (w4 : World) : Prop :=
  ∃ (v23 : Slc), w4.cell? ⟨b_1, 0, none⟩ = some (Value.slice v23.ptr v23.len v23.cap) ∧ (((decide (k_ < ((v23.len : Nat) : Int))) = true → (∀ w5, (∃ k, w5 = w4.drewN k) → (∃ (v29 : Slc), w5.cell? ⟨b_1, 0, none⟩ = some (Value.slice v29.ptr v29.len v29.cap) ∧ (∃ (v32 : Int), w5.cell? ⟨b_1, 2, none⟩ = some (Value.int .i64 v32) ∧ (C_towpathlaw01_markWrite v32 w5 (fun (v33 : T_api_Write) w6 => w6.cell? ⟨b_1, 0, none⟩ = some (Value.slice v29.ptr v29.len v29.cap) ∧ (IsAt v29.ptr ∧ (0 ≤ k_ ∧ k_ < ((v29.len : Nat) : Int) ∧ (Writable w6 (pblk v29.ptr) ((poff v29.ptr) + k_.toNat * 3) 3 ∧ (∀ w7, w7 = World.puts (pblk v29.ptr) ((poff v29.ptr) + k_.toNat * 3) [Value.string v33.Key, Value.string v33.Val, Value.bool v33.Drop] w6 → ((again_1 (IntKind.i64.wrap (k_ + 1)) w7)))))))))))) ∧
  ((decide (k_ < ((v23.len : Nat) : Int))) = false → (again_ (IntKind.i64.wrap (i + 1)) w4)))

def F_towpathlaw01_Book_fillWrite_L0 (b_ : Option Addr) (R : World → Prop) (again_ : Int → World → Prop) (i : Int) (w1 : World) : Prop :=
  IsAt b_ ∧ (∃ (v9 : Slc), w1.cell? ⟨(pblk b_), (poff b_) + 4, none⟩ = some (Value.slice v9.ptr v9.len v9.cap) ∧ (((decide (i < ((v9.len : Nat) : Int))) = true → (IsAt b_ ∧ (∃ (v17 : Slc), w1.cell? ⟨(pblk b_), (poff b_) + 4, none⟩ = some (Value.slice v17.ptr v17.len v17.cap) ∧ (IsAt v17.ptr ∧ (0 ≤ i ∧ i < ((v17.len : Nat) : Int) ∧ (∃ (v20 : T_towpathlaw01_heldWrite), CellsAt w1 (pblk v17.ptr) ((poff v17.ptr) + i.toNat * 3) [Value.slice v20.l.ptr v20.l.len v20.l.cap, Value.slice v20.long.ptr v20.long.len v20.long.cap, Value.int .i64 v20.n] ∧ (∀ b_1 w2, b_1 = w1.heap.size → w2 = w1.alloc (Obj.cells ([Value.slice none 0 0, Value.slice none 0 0, Value.int .i64 0]).toArray ty_towpathlaw01_heldWrite (0, 0)) → (Writable w2 b_1 0 3 ∧ (∀ w3, w3 = World.puts b_1 0 [Value.slice v20.l.ptr v20.l.len v20.l.cap, Value.slice v20.long.ptr v20.long.len v20.long.cap, Value.int .i64 v20.n] w2 → (∃ (I : Int → World → Prop) (μ : Int → World → Nat), I 0 w3 ∧
  ∀ (k_ : Int) w, I k_ w → F_towpathlaw01_Book_fillWrite_L1 i again_ b_1 (fun (k_' : Int) w' => I k_' w' ∧ μ k_' w' < μ k_ w) k_ w)))))))))) ∧
  ((decide (i < ((v9.len : Nat) : Int))) = false → (R w1))))

def F_towpathlaw01_Book_fillWrite (b_ : Option Addr) (R : World → Prop) (w : World) : Prop :=
  ∃ (I : Int → World → Prop) (μ : Int → World → Nat), I 0 w ∧
  ∀ (i : Int) w, I i w → F_towpathlaw01_Book_fillWrite_L0 b_ R (fun (i' : Int) w' => I i' w' ∧ μ i' w' < μ i w) i w

def F_towpathlaw01_Book_fillEntry_L0 (b_ : Option Addr) (R : World → Prop) (again_ : Int → World → Prop) (i : Int) (w1 : World) : Prop :=
  IsAt b_ ∧ (∃ (v9 : Slc), w1.cell? ⟨(pblk b_), (poff b_) + 5, none⟩ = some (Value.slice v9.ptr v9.len v9.cap) ∧ (((decide (i < ((v9.len : Nat) : Int))) = true → (False)) ∧
  ((decide (i < ((v9.len : Nat) : Int))) = false → (R w1))))

def F_towpathlaw01_Book_fillEntry (b_ : Option Addr) (R : World → Prop) (w : World) : Prop :=
  ∃ (I : Int → World → Prop) (μ : Int → World → Nat), I 0 w ∧
  ∀ (i : Int) w, I i w → F_towpathlaw01_Book_fillEntry_L0 b_ R (fun (i' : Int) w' => I i' w' ∧ μ i' w' < μ i w) i w

def F_towpathlaw01_Book_fillVersion_L0 (b_ : Option Addr) (R : World → Prop) (again_ : Int → World → Prop) (i : Int) (w1 : World) : Prop :=
  IsAt b_ ∧ (∃ (v9 : Slc), w1.cell? ⟨(pblk b_), (poff b_) + 6, none⟩ = some (Value.slice v9.ptr v9.len v9.cap) ∧ (((decide (i < ((v9.len : Nat) : Int))) = true → (False)) ∧
  ((decide (i < ((v9.len : Nat) : Int))) = false → (R w1))))

def F_towpathlaw01_Book_fillVersion (b_ : Option Addr) (R : World → Prop) (w : World) : Prop :=
  ∃ (I : Int → World → Prop) (μ : Int → World → Nat), I 0 w ∧
  ∀ (i : Int) w, I i w → F_towpathlaw01_Book_fillVersion_L0 b_ R (fun (i' : Int) w' => I i' w' ∧ μ i' w' < μ i w) i w

def F_towpathlaw01_Book_fillTxn_L1 (i : Int) (again_ : Int → World → Prop) (b_1 : Nat) (again_1 : Int → World → Prop) (k_ : Int) (w4 : World) : Prop :=
  ∃ (v23 : Slc), w4.cell? ⟨b_1, 0, none⟩ = some (Value.slice v23.ptr v23.len v23.cap) ∧ (((decide (k_ < ((v23.len : Nat) : Int))) = true → (∀ w5, (∃ k, w5 = w4.drewN k) → (∃ (v29 : Slc), w5.cell? ⟨b_1, 0, none⟩ = some (Value.slice v29.ptr v29.len v29.cap) ∧ (∃ (v32 : Int), w5.cell? ⟨b_1, 2, none⟩ = some (Value.int .i64 v32) ∧ (C_towpathlaw01_markTxn v32 w5 (fun (v33 : T_api_Txn) w6 => w6.cell? ⟨b_1, 0, none⟩ = some (Value.slice v29.ptr v29.len v29.cap) ∧ (IsAt v29.ptr ∧ (0 ≤ k_ ∧ k_ < ((v29.len : Nat) : Int) ∧ (Writable w6 (pblk v29.ptr) ((poff v29.ptr) + k_.toNat * 2) 2 ∧ (∀ w7, w7 = World.puts (pblk v29.ptr) ((poff v29.ptr) + k_.toNat * 2) [Value.int .i64 v33.Number, Value.slice v33.Writes.ptr v33.Writes.len v33.Writes.cap] w6 → ((again_1 (IntKind.i64.wrap (k_ + 1)) w7)))))))))))) ∧
  ((decide (k_ < ((v23.len : Nat) : Int))) = false → (again_ (IntKind.i64.wrap (i + 1)) w4)))

def F_towpathlaw01_Book_fillTxn_L0 (b_ : Option Addr) (R : World → Prop) (again_ : Int → World → Prop) (i : Int) (w1 : World) : Prop :=
  IsAt b_ ∧ (∃ (v9 : Slc), w1.cell? ⟨(pblk b_), (poff b_) + 7, none⟩ = some (Value.slice v9.ptr v9.len v9.cap) ∧ (((decide (i < ((v9.len : Nat) : Int))) = true → (IsAt b_ ∧ (∃ (v17 : Slc), w1.cell? ⟨(pblk b_), (poff b_) + 7, none⟩ = some (Value.slice v17.ptr v17.len v17.cap) ∧ (IsAt v17.ptr ∧ (0 ≤ i ∧ i < ((v17.len : Nat) : Int) ∧ (∃ (v20 : T_towpathlaw01_heldTxn), CellsAt w1 (pblk v17.ptr) ((poff v17.ptr) + i.toNat * 3) [Value.slice v20.l.ptr v20.l.len v20.l.cap, Value.slice v20.long.ptr v20.long.len v20.long.cap, Value.int .i64 v20.n] ∧ (∀ b_1 w2, b_1 = w1.heap.size → w2 = w1.alloc (Obj.cells ([Value.slice none 0 0, Value.slice none 0 0, Value.int .i64 0]).toArray ty_towpathlaw01_heldTxn (0, 0)) → (Writable w2 b_1 0 3 ∧ (∀ w3, w3 = World.puts b_1 0 [Value.slice v20.l.ptr v20.l.len v20.l.cap, Value.slice v20.long.ptr v20.long.len v20.long.cap, Value.int .i64 v20.n] w2 → (∃ (I : Int → World → Prop) (μ : Int → World → Nat), I 0 w3 ∧
  ∀ (k_ : Int) w, I k_ w → F_towpathlaw01_Book_fillTxn_L1 i again_ b_1 (fun (k_' : Int) w' => I k_' w' ∧ μ k_' w' < μ k_ w) k_ w)))))))))) ∧
  ((decide (i < ((v9.len : Nat) : Int))) = false → (R w1))))

def F_towpathlaw01_Book_fillTxn (b_ : Option Addr) (R : World → Prop) (w : World) : Prop :=
  ∃ (I : Int → World → Prop) (μ : Int → World → Nat), I 0 w ∧
  ∀ (i : Int) w, I i w → F_towpathlaw01_Book_fillTxn_L0 b_ R (fun (i' : Int) w' => I i' w' ∧ μ i' w' < μ i w) i w

def F_towpathlaw01_Book_fillHeld_L0 (b_ : Option Addr) (R : World → Prop) (again_ : Int → World → Prop) (i : Int) (w1 : World) : Prop :=
  IsAt b_ ∧ (∃ (v9 : Slc), w1.cell? ⟨(pblk b_), (poff b_) + 8, none⟩ = some (Value.slice v9.ptr v9.len v9.cap) ∧ (((decide (i < ((v9.len : Nat) : Int))) = true → (False)) ∧
  ((decide (i < ((v9.len : Nat) : Int))) = false → (R w1))))

def F_towpathlaw01_Book_fillHeld (b_ : Option Addr) (R : World → Prop) (w : World) : Prop :=
  ∃ (I : Int → World → Prop) (μ : Int → World → Nat), I 0 w ∧
  ∀ (i : Int) w, I i w → F_towpathlaw01_Book_fillHeld_L0 b_ R (fun (i' : Int) w' => I i' w' ∧ μ i' w' < μ i w) i w

def F_towpathlaw01_Book_fillHeldList_L0 (b_ : Option Addr) (R : World → Prop) (again_ : Int → World → Prop) (i : Int) (w1 : World) : Prop :=
  IsAt b_ ∧ (∃ (v9 : Slc), w1.cell? ⟨(pblk b_), (poff b_) + 9, none⟩ = some (Value.slice v9.ptr v9.len v9.cap) ∧ (((decide (i < ((v9.len : Nat) : Int))) = true → (False)) ∧
  ((decide (i < ((v9.len : Nat) : Int))) = false → (R w1))))

def F_towpathlaw01_Book_fillHeldList (b_ : Option Addr) (R : World → Prop) (w : World) : Prop :=
  ∃ (I : Int → World → Prop) (μ : Int → World → Nat), I 0 w ∧
  ∀ (i : Int) w, I i w → F_towpathlaw01_Book_fillHeldList_L0 b_ R (fun (i' : Int) w' => I i' w' ∧ μ i' w' < μ i w) i w

def F_towpathlaw01_Book_fillEvent_L0 (b_ : Option Addr) (R : World → Prop) (again_ : Int → World → Prop) (i : Int) (w1 : World) : Prop :=
  IsAt b_ ∧ (∃ (v9 : Slc), w1.cell? ⟨(pblk b_), (poff b_) + 10, none⟩ = some (Value.slice v9.ptr v9.len v9.cap) ∧ (((decide (i < ((v9.len : Nat) : Int))) = true → (False)) ∧
  ((decide (i < ((v9.len : Nat) : Int))) = false → (R w1))))

def F_towpathlaw01_Book_fillEvent (b_ : Option Addr) (R : World → Prop) (w : World) : Prop :=
  ∃ (I : Int → World → Prop) (μ : Int → World → Nat), I 0 w ∧
  ∀ (i : Int) w, I i w → F_towpathlaw01_Book_fillEvent_L0 b_ R (fun (i' : Int) w' => I i' w' ∧ μ i' w' < μ i w) i w

def F_towpathlaw01_Book_fillAnswer_L0 (b_ : Option Addr) (R : World → Prop) (again_ : Int → World → Prop) (i : Int) (w1 : World) : Prop :=
  IsAt b_ ∧ (∃ (v9 : Slc), w1.cell? ⟨(pblk b_), (poff b_) + 11, none⟩ = some (Value.slice v9.ptr v9.len v9.cap) ∧ (((decide (i < ((v9.len : Nat) : Int))) = true → (False)) ∧
  ((decide (i < ((v9.len : Nat) : Int))) = false → (R w1))))

def F_towpathlaw01_Book_fillAnswer (b_ : Option Addr) (R : World → Prop) (w : World) : Prop :=
  ∃ (I : Int → World → Prop) (μ : Int → World → Nat), I 0 w ∧
  ∀ (i : Int) w, I i w → F_towpathlaw01_Book_fillAnswer_L0 b_ R (fun (i' : Int) w' => I i' w' ∧ μ i' w' < μ i w) i w

def F_towpathlaw01_Book_growByte_L0 (b_ : Option Addr) (R : World → Prop) (again_ : Int → World → Prop) (i : Int) (w1 : World) : Prop :=
  IsAt b_ ∧ (∃ (v10 : Slc), w1.cell? ⟨(pblk b_), (poff b_) + 1, none⟩ = some (Value.slice v10.ptr v10.len v10.cap) ∧ (((decide (i < ((v10.len : Nat) : Int))) = true → (False)) ∧
  ((decide (i < ((v10.len : Nat) : Int))) = false → (R w1))))

def F_towpathlaw01_Book_growByte (b_ : Option Addr) (R : World → Prop) (w : World) : Prop :=
  ∃ (I : Int → World → Prop) (μ : Int → World → Nat), I 0 w ∧
  ∀ (i : Int) w, I i w → F_towpathlaw01_Book_growByte_L0 b_ R (fun (i' : Int) w' => I i' w' ∧ μ i' w' < μ i w) i w

def F_towpathlaw01_Book_growInt_L1 (b_ : Option Addr) (i : Int) (again_ : Int → World → Prop) (b_1 : Nat) (again_1 : Slc → Int → World → Prop) (long1 : Slc) (k_ : Int) (w4 : World) : Prop :=
  ((decide (k_ < 70)) = true → (∃ (v30 : Int), w4.cell? ⟨b_1, 2, none⟩ = some (Value.int .i64 v30) ∧ (C_towpathlaw01_markInt v30 w4 (fun (v31 : Int) w5 => ∀ b_2 w6, b_2 = w5.heap.size → w6 = w5.alloc (Obj.cells ([Value.int .i64 v31]).toArray ty_int (0, 0)) → (∃ src, SrcAt w6 (Slc.mk (some ⟨b_2, 0, none⟩) 1 1) 1 src ∧ AppendW 1 8 ty_int [Value.int .i64 0] long1 src 1 w6 (fun long2 w7 => again_1 long2 (IntKind.i64.wrap (k_ + 1)) w7)))))) ∧
  ((decide (k_ < 70)) = false → (IsAt b_ ∧ (∃ (v37 : Slc), w4.cell? ⟨(pblk b_), (poff b_) + 2, none⟩ = some (Value.slice v37.ptr v37.len v37.cap) ∧ (IsAt v37.ptr ∧ (0 ≤ i ∧ i < ((v37.len : Nat) : Int) ∧ (Writable w4 (pblk v37.ptr) (((poff v37.ptr) + i.toNat * 3) + 1) 1 ∧ (∀ w8, w8 = World.puts (pblk v37.ptr) (((poff v37.ptr) + i.toNat * 3) + 1) [Value.slice long1.ptr long1.len long1.cap] w4 → (again_ (IntKind.i64.wrap (i + 1)) w8))))))))

def F_towpathlaw01_Book_growInt_L0 (b_ : Option Addr) (R : World → Prop) (again_ : Int → World → Prop) (i : Int) (w1 : World) : Prop :=
  IsAt b_ ∧ (∃ (v10 : Slc), w1.cell? ⟨(pblk b_), (poff b_) + 2, none⟩ = some (Value.slice v10.ptr v10.len v10.cap) ∧ (((decide (i < ((v10.len : Nat) : Int))) = true → (IsAt b_ ∧ (∃ (v18 : Slc), w1.cell? ⟨(pblk b_), (poff b_) + 2, none⟩ = some (Value.slice v18.ptr v18.len v18.cap) ∧ (IsAt v18.ptr ∧ (0 ≤ i ∧ i < ((v18.len : Nat) : Int) ∧ (∃ (v21 : T_towpathlaw01_heldInt), CellsAt w1 (pblk v18.ptr) ((poff v18.ptr) + i.toNat * 3) [Value.slice v21.l.ptr v21.l.len v21.l.cap, Value.slice v21.long.ptr v21.long.len v21.long.cap, Value.int .i64 v21.n] ∧ (∀ b_1 w2, b_1 = w1.heap.size → w2 = w1.alloc (Obj.cells ([Value.slice none 0 0, Value.slice none 0 0, Value.int .i64 0]).toArray ty_towpathlaw01_heldInt (0, 0)) → (Writable w2 b_1 0 3 ∧ (∀ w3, w3 = World.puts b_1 0 [Value.slice v21.l.ptr v21.l.len v21.l.cap, Value.slice v21.long.ptr v21.long.len v21.long.cap, Value.int .i64 v21.n] w2 → (∃ (long : Slc), w3.cell? ⟨b_1, 0, none⟩ = some (Value.slice long.ptr long.len long.cap) ∧ (∃ (I : Slc → Int → World → Prop) (μ : Slc → Int → World → Nat), I long 0 w3 ∧
  ∀ (long1 : Slc) (k_ : Int) w, I long1 k_ w → F_towpathlaw01_Book_growInt_L1 b_ i again_ b_1 (fun (long1' : Slc) (k_' : Int) w' => I long1' k_' w' ∧ μ long1' k_' w' < μ long1 k_ w) long1 k_ w))))))))))) ∧
  ((decide (i < ((v10.len : Nat) : Int))) = false → (R w1))))

def F_towpathlaw01_Book_growInt (b_ : Option Addr) (R : World → Prop) (w : World) : Prop :=
  ∃ (I : Int → World → Prop) (μ : Int → World → Nat), I 0 w ∧
  ∀ (i : Int) w, I i w → F_towpathlaw01_Book_growInt_L0 b_ R (fun (i' : Int) w' => I i' w' ∧ μ i' w' < μ i w) i w

def F_towpathlaw01_Book_growText_L0 (b_ : Option Addr) (R : World → Prop) (again_ : Int → World → Prop) (i : Int) (w1 : World) : Prop :=
  IsAt b_ ∧ (∃ (v10 : Slc), w1.cell? ⟨(pblk b_), (poff b_) + 3, none⟩ = some (Value.slice v10.ptr v10.len v10.cap) ∧ (((decide (i < ((v10.len : Nat) : Int))) = true → (False)) ∧
  ((decide (i < ((v10.len : Nat) : Int))) = false → (R w1))))

def F_towpathlaw01_Book_growText (b_ : Option Addr) (R : World → Prop) (w : World) : Prop :=
  ∃ (I : Int → World → Prop) (μ : Int → World → Nat), I 0 w ∧
  ∀ (i : Int) w, I i w → F_towpathlaw01_Book_growText_L0 b_ R (fun (i' : Int) w' => I i' w' ∧ μ i' w' < μ i w) i w

def F_towpathlaw01_Book_growWrite_L1 (b_ : Option Addr) (i : Int) (again_ : Int → World → Prop) (b_1 : Nat) (again_1 : Slc → Int → World → Prop) (long1 : Slc) (k_ : Int) (w4 : World) : Prop :=
  ((decide (k_ < 70)) = true → (∃ (v30 : Int), w4.cell? ⟨b_1, 2, none⟩ = some (Value.int .i64 v30) ∧ (C_towpathlaw01_markWrite v30 w4 (fun (v31 : T_api_Write) w5 => ∀ b_2 w6, b_2 = w5.heap.size → w6 = w5.alloc (Obj.cells ([Value.string v31.Key, Value.string v31.Val, Value.bool v31.Drop]).toArray ty_api_Write (0, 0)) → (∃ src, SrcAt w6 (Slc.mk (some ⟨b_2, 0, none⟩) 1 1) 3 src ∧ AppendW 3 40 ty_api_Write [Value.string ByteArray.empty, Value.string ByteArray.empty, Value.bool false] long1 src 1 w6 (fun long2 w7 => again_1 long2 (IntKind.i64.wrap (k_ + 1)) w7)))))) ∧
  ((decide (k_ < 70)) = false → (IsAt b_ ∧ (∃ (v37 : Slc), w4.cell? ⟨(pblk b_), (poff b_) + 4, none⟩ = some (Value.slice v37.ptr v37.len v37.cap) ∧ (IsAt v37.ptr ∧ (0 ≤ i ∧ i < ((v37.len : Nat) : Int) ∧ (Writable w4 (pblk v37.ptr) (((poff v37.ptr) + i.toNat * 3) + 1) 1 ∧ (∀ w8, w8 = World.puts (pblk v37.ptr) (((poff v37.ptr) + i.toNat * 3) + 1) [Value.slice long1.ptr long1.len long1.cap] w4 → (again_ (IntKind.i64.wrap (i + 1)) w8))))))))

def F_towpathlaw01_Book_growWrite_L0 (b_ : Option Addr) (R : World → Prop) (again_ : Int → World → Prop) (i : Int) (w1 : World) : Prop :=
  IsAt b_ ∧ (∃ (v10 : Slc), w1.cell? ⟨(pblk b_), (poff b_) + 4, none⟩ = some (Value.slice v10.ptr v10.len v10.cap) ∧ (((decide (i < ((v10.len : Nat) : Int))) = true → (IsAt b_ ∧ (∃ (v18 : Slc), w1.cell? ⟨(pblk b_), (poff b_) + 4, none⟩ = some (Value.slice v18.ptr v18.len v18.cap) ∧ (IsAt v18.ptr ∧ (0 ≤ i ∧ i < ((v18.len : Nat) : Int) ∧ (∃ (v21 : T_towpathlaw01_heldWrite), CellsAt w1 (pblk v18.ptr) ((poff v18.ptr) + i.toNat * 3) [Value.slice v21.l.ptr v21.l.len v21.l.cap, Value.slice v21.long.ptr v21.long.len v21.long.cap, Value.int .i64 v21.n] ∧ (∀ b_1 w2, b_1 = w1.heap.size → w2 = w1.alloc (Obj.cells ([Value.slice none 0 0, Value.slice none 0 0, Value.int .i64 0]).toArray ty_towpathlaw01_heldWrite (0, 0)) → (Writable w2 b_1 0 3 ∧ (∀ w3, w3 = World.puts b_1 0 [Value.slice v21.l.ptr v21.l.len v21.l.cap, Value.slice v21.long.ptr v21.long.len v21.long.cap, Value.int .i64 v21.n] w2 → (∃ (long : Slc), w3.cell? ⟨b_1, 0, none⟩ = some (Value.slice long.ptr long.len long.cap) ∧ (∃ (I : Slc → Int → World → Prop) (μ : Slc → Int → World → Nat), I long 0 w3 ∧
  ∀ (long1 : Slc) (k_ : Int) w, I long1 k_ w → F_towpathlaw01_Book_growWrite_L1 b_ i again_ b_1 (fun (long1' : Slc) (k_' : Int) w' => I long1' k_' w' ∧ μ long1' k_' w' < μ long1 k_ w) long1 k_ w))))))))))) ∧
  ((decide (i < ((v10.len : Nat) : Int))) = false → (R w1))))

def F_towpathlaw01_Book_growWrite (b_ : Option Addr) (R : World → Prop) (w : World) : Prop :=
  ∃ (I : Int → World → Prop) (μ : Int → World → Nat), I 0 w ∧
  ∀ (i : Int) w, I i w → F_towpathlaw01_Book_growWrite_L0 b_ R (fun (i' : Int) w' => I i' w' ∧ μ i' w' < μ i w) i w

def F_towpathlaw01_Book_growEntry_L0 (b_ : Option Addr) (R : World → Prop) (again_ : Int → World → Prop) (i : Int) (w1 : World) : Prop :=
  IsAt b_ ∧ (∃ (v10 : Slc), w1.cell? ⟨(pblk b_), (poff b_) + 5, none⟩ = some (Value.slice v10.ptr v10.len v10.cap) ∧ (((decide (i < ((v10.len : Nat) : Int))) = true → (False)) ∧
  ((decide (i < ((v10.len : Nat) : Int))) = false → (R w1))))

def F_towpathlaw01_Book_growEntry (b_ : Option Addr) (R : World → Prop) (w : World) : Prop :=
  ∃ (I : Int → World → Prop) (μ : Int → World → Nat), I 0 w ∧
  ∀ (i : Int) w, I i w → F_towpathlaw01_Book_growEntry_L0 b_ R (fun (i' : Int) w' => I i' w' ∧ μ i' w' < μ i w) i w

def F_towpathlaw01_Book_growVersion_L0 (b_ : Option Addr) (R : World → Prop) (again_ : Int → World → Prop) (i : Int) (w1 : World) : Prop :=
  IsAt b_ ∧ (∃ (v10 : Slc), w1.cell? ⟨(pblk b_), (poff b_) + 6, none⟩ = some (Value.slice v10.ptr v10.len v10.cap) ∧ (((decide (i < ((v10.len : Nat) : Int))) = true → (False)) ∧
  ((decide (i < ((v10.len : Nat) : Int))) = false → (R w1))))

def F_towpathlaw01_Book_growVersion (b_ : Option Addr) (R : World → Prop) (w : World) : Prop :=
  ∃ (I : Int → World → Prop) (μ : Int → World → Nat), I 0 w ∧
  ∀ (i : Int) w, I i w → F_towpathlaw01_Book_growVersion_L0 b_ R (fun (i' : Int) w' => I i' w' ∧ μ i' w' < μ i w) i w

def F_towpathlaw01_Book_growTxn_L1 (b_ : Option Addr) (i : Int) (again_ : Int → World → Prop) (b_1 : Nat) (again_1 : Slc → Int → World → Prop) (long1 : Slc) (k_ : Int) (w4 : World) : Prop :=
  ((decide (k_ < 70)) = true → (∃ (v30 : Int), w4.cell? ⟨b_1, 2, none⟩ = some (Value.int .i64 v30) ∧ (C_towpathlaw01_markTxn v30 w4 (fun (v31 : T_api_Txn) w5 => ∀ b_2 w6, b_2 = w5.heap.size → w6 = w5.alloc (Obj.cells ([Value.int .i64 v31.Number, Value.slice v31.Writes.ptr v31.Writes.len v31.Writes.cap]).toArray ty_api_Txn (0, 0)) → (∃ src, SrcAt w6 (Slc.mk (some ⟨b_2, 0, none⟩) 1 1) 2 src ∧ AppendW 2 32 ty_api_Txn [Value.int .i64 0, Value.slice none 0 0] long1 src 1 w6 (fun long2 w7 => again_1 long2 (IntKind.i64.wrap (k_ + 1)) w7)))))) ∧
  ((decide (k_ < 70)) = false → (IsAt b_ ∧ (∃ (v37 : Slc), w4.cell? ⟨(pblk b_), (poff b_) + 7, none⟩ = some (Value.slice v37.ptr v37.len v37.cap) ∧ (IsAt v37.ptr ∧ (0 ≤ i ∧ i < ((v37.len : Nat) : Int) ∧ (Writable w4 (pblk v37.ptr) (((poff v37.ptr) + i.toNat * 3) + 1) 1 ∧ (∀ w8, w8 = World.puts (pblk v37.ptr) (((poff v37.ptr) + i.toNat * 3) + 1) [Value.slice long1.ptr long1.len long1.cap] w4 → (again_ (IntKind.i64.wrap (i + 1)) w8))))))))

def F_towpathlaw01_Book_growTxn_L0 (b_ : Option Addr) (R : World → Prop) (again_ : Int → World → Prop) (i : Int) (w1 : World) : Prop :=
  IsAt b_ ∧ (∃ (v10 : Slc), w1.cell? ⟨(pblk b_), (poff b_) + 7, none⟩ = some (Value.slice v10.ptr v10.len v10.cap) ∧ (((decide (i < ((v10.len : Nat) : Int))) = true → (IsAt b_ ∧ (∃ (v18 : Slc), w1.cell? ⟨(pblk b_), (poff b_) + 7, none⟩ = some (Value.slice v18.ptr v18.len v18.cap) ∧ (IsAt v18.ptr ∧ (0 ≤ i ∧ i < ((v18.len : Nat) : Int) ∧ (∃ (v21 : T_towpathlaw01_heldTxn), CellsAt w1 (pblk v18.ptr) ((poff v18.ptr) + i.toNat * 3) [Value.slice v21.l.ptr v21.l.len v21.l.cap, Value.slice v21.long.ptr v21.long.len v21.long.cap, Value.int .i64 v21.n] ∧ (∀ b_1 w2, b_1 = w1.heap.size → w2 = w1.alloc (Obj.cells ([Value.slice none 0 0, Value.slice none 0 0, Value.int .i64 0]).toArray ty_towpathlaw01_heldTxn (0, 0)) → (Writable w2 b_1 0 3 ∧ (∀ w3, w3 = World.puts b_1 0 [Value.slice v21.l.ptr v21.l.len v21.l.cap, Value.slice v21.long.ptr v21.long.len v21.long.cap, Value.int .i64 v21.n] w2 → (∃ (long : Slc), w3.cell? ⟨b_1, 0, none⟩ = some (Value.slice long.ptr long.len long.cap) ∧ (∃ (I : Slc → Int → World → Prop) (μ : Slc → Int → World → Nat), I long 0 w3 ∧
  ∀ (long1 : Slc) (k_ : Int) w, I long1 k_ w → F_towpathlaw01_Book_growTxn_L1 b_ i again_ b_1 (fun (long1' : Slc) (k_' : Int) w' => I long1' k_' w' ∧ μ long1' k_' w' < μ long1 k_ w) long1 k_ w))))))))))) ∧
  ((decide (i < ((v10.len : Nat) : Int))) = false → (R w1))))

def F_towpathlaw01_Book_growTxn (b_ : Option Addr) (R : World → Prop) (w : World) : Prop :=
  ∃ (I : Int → World → Prop) (μ : Int → World → Nat), I 0 w ∧
  ∀ (i : Int) w, I i w → F_towpathlaw01_Book_growTxn_L0 b_ R (fun (i' : Int) w' => I i' w' ∧ μ i' w' < μ i w) i w

def F_towpathlaw01_Book_growHeld_L0 (b_ : Option Addr) (R : World → Prop) (again_ : Int → World → Prop) (i : Int) (w1 : World) : Prop :=
  IsAt b_ ∧ (∃ (v10 : Slc), w1.cell? ⟨(pblk b_), (poff b_) + 8, none⟩ = some (Value.slice v10.ptr v10.len v10.cap) ∧ (((decide (i < ((v10.len : Nat) : Int))) = true → (False)) ∧
  ((decide (i < ((v10.len : Nat) : Int))) = false → (R w1))))

def F_towpathlaw01_Book_growHeld (b_ : Option Addr) (R : World → Prop) (w : World) : Prop :=
  ∃ (I : Int → World → Prop) (μ : Int → World → Nat), I 0 w ∧
  ∀ (i : Int) w, I i w → F_towpathlaw01_Book_growHeld_L0 b_ R (fun (i' : Int) w' => I i' w' ∧ μ i' w' < μ i w) i w

def F_towpathlaw01_Book_growHeldList_L0 (b_ : Option Addr) (R : World → Prop) (again_ : Int → World → Prop) (i : Int) (w1 : World) : Prop :=
  IsAt b_ ∧ (∃ (v10 : Slc), w1.cell? ⟨(pblk b_), (poff b_) + 9, none⟩ = some (Value.slice v10.ptr v10.len v10.cap) ∧ (((decide (i < ((v10.len : Nat) : Int))) = true → (False)) ∧
  ((decide (i < ((v10.len : Nat) : Int))) = false → (R w1))))

def F_towpathlaw01_Book_growHeldList (b_ : Option Addr) (R : World → Prop) (w : World) : Prop :=
  ∃ (I : Int → World → Prop) (μ : Int → World → Nat), I 0 w ∧
  ∀ (i : Int) w, I i w → F_towpathlaw01_Book_growHeldList_L0 b_ R (fun (i' : Int) w' => I i' w' ∧ μ i' w' < μ i w) i w

def F_towpathlaw01_Book_growEvent_L0 (b_ : Option Addr) (R : World → Prop) (again_ : Int → World → Prop) (i : Int) (w1 : World) : Prop :=
  IsAt b_ ∧ (∃ (v10 : Slc), w1.cell? ⟨(pblk b_), (poff b_) + 10, none⟩ = some (Value.slice v10.ptr v10.len v10.cap) ∧ (((decide (i < ((v10.len : Nat) : Int))) = true → (False)) ∧
  ((decide (i < ((v10.len : Nat) : Int))) = false → (R w1))))

def F_towpathlaw01_Book_growEvent (b_ : Option Addr) (R : World → Prop) (w : World) : Prop :=
  ∃ (I : Int → World → Prop) (μ : Int → World → Nat), I 0 w ∧
  ∀ (i : Int) w, I i w → F_towpathlaw01_Book_growEvent_L0 b_ R (fun (i' : Int) w' => I i' w' ∧ μ i' w' < μ i w) i w

def F_towpathlaw01_Book_growAnswer_L0 (b_ : Option Addr) (R : World → Prop) (again_ : Int → World → Prop) (i : Int) (w1 : World) : Prop :=
  IsAt b_ ∧ (∃ (v10 : Slc), w1.cell? ⟨(pblk b_), (poff b_) + 11, none⟩ = some (Value.slice v10.ptr v10.len v10.cap) ∧ (((decide (i < ((v10.len : Nat) : Int))) = true → (False)) ∧
  ((decide (i < ((v10.len : Nat) : Int))) = false → (R w1))))

def F_towpathlaw01_Book_growAnswer (b_ : Option Addr) (R : World → Prop) (w : World) : Prop :=
  ∃ (I : Int → World → Prop) (μ : Int → World → Nat), I 0 w ∧
  ∀ (i : Int) w, I i w → F_towpathlaw01_Book_growAnswer_L0 b_ R (fun (i' : Int) w' => I i' w' ∧ μ i' w' < μ i w) i w

def F_towpathlaw01_Book_lookByte_L0 (b_ : Option Addr) (R : Bool → World → Prop) (again_ : Int → World → Prop) (i : Int) (w1 : World) : Prop :=
  IsAt b_ ∧ (∃ (v10 : Slc), w1.cell? ⟨(pblk b_), (poff b_) + 1, none⟩ = some (Value.slice v10.ptr v10.len v10.cap) ∧ (((decide (i < ((v10.len : Nat) : Int))) = true → (False)) ∧
  ((decide (i < ((v10.len : Nat) : Int))) = false → (R true w1))))

def F_towpathlaw01_Book_lookByte (b_ : Option Addr) (R : Bool → World → Prop) (w : World) : Prop :=
  ∃ (I : Int → World → Prop) (μ : Int → World → Nat), I 0 w ∧
  ∀ (i : Int) w, I i w → F_towpathlaw01_Book_lookByte_L0 b_ R (fun (i' : Int) w' => I i' w' ∧ μ i' w' < μ i w) i w

def F_towpathlaw01_Book_lookInt_k2 (R : Bool → World → Prop) (k_ : Int) (again_1 : Int → World → Prop) (t63 : Bool) (w5 : World) : Prop :=
  (t63 = true → (R false w5)) ∧
  (t63 = false → (again_1 (IntKind.i64.wrap (k_ + 1)) w5))

def F_towpathlaw01_Book_lookInt_L1 (R : Bool → World → Prop) (i : Int) (again_ : Int → World → Prop) (b_1 : Nat) (again_1 : Int → World → Prop) (k_ : Int) (w4 : World) : Prop :=
  ∃ (v32 : Slc), w4.cell? ⟨b_1, 1, none⟩ = some (Value.slice v32.ptr v32.len v32.cap) ∧ (((decide (k_ < ((v32.len : Nat) : Int))) = true → (∃ (v38 : Slc), w4.cell? ⟨b_1, 1, none⟩ = some (Value.slice v38.ptr v38.len v38.cap) ∧ (IsAt v38.ptr ∧ (0 ≤ k_ ∧ k_ < ((v38.len : Nat) : Int) ∧ (∃ (v41 : Int), w4.cell? ⟨(pblk v38.ptr), (poff v38.ptr) + k_.toNat, none⟩ = some (Value.int .i64 v41) ∧ (∃ (v43 : Int), w4.cell? ⟨b_1, 2, none⟩ = some (Value.int .i64 v43) ∧ (∃ (v44 : Bool), (∀ w', Ext w4 w' → C_towpathlaw01_isInt v41 v43 w' (fun (v44' : Bool) w'' => v44' = v44 ∧ Ext w' w'')) ∧ (((!v44) = true → (∀ w7, Ext w4 w7 → (F_towpathlaw01_Book_lookInt_k2 R k_ again_1 true w7))) ∧
  ((!v44) = false → (∃ (v49 : Slc), w4.cell? ⟨b_1, 0, none⟩ = some (Value.slice v49.ptr v49.len v49.cap) ∧ (((decide (k_ < ((v49.len : Nat) : Int))) = true → (∃ (v54 : Slc), w4.cell? ⟨b_1, 0, none⟩ = some (Value.slice v54.ptr v54.len v54.cap) ∧ (IsAt v54.ptr ∧ (0 ≤ k_ ∧ k_ < ((v54.len : Nat) : Int) ∧ (∃ (v57 : Int), w4.cell? ⟨(pblk v54.ptr), (poff v54.ptr) + k_.toNat, none⟩ = some (Value.int .i64 v57) ∧ (∃ (v59 : Int), w4.cell? ⟨b_1, 2, none⟩ = some (Value.int .i64 v59) ∧ (∃ (v60 : Bool), (∀ w', Ext w4 w' → C_towpathlaw01_isInt v57 v59 w' (fun (v60' : Bool) w'' => v60' = v60 ∧ Ext w' w'')) ∧ (∀ w9, Ext w4 w9 → (F_towpathlaw01_Book_lookInt_k2 R k_ again_1 (!v60) w9))))))))) ∧
  ((decide (k_ < ((v49.len : Nat) : Int))) = false → (∀ w10, Ext w4 w10 → (F_towpathlaw01_Book_lookInt_k2 R k_ again_1 false w10)))))))))))))) ∧
  ((decide (k_ < ((v32.len : Nat) : Int))) = false → (again_ (IntKind.i64.wrap (i + 1)) w4)))

def F_towpathlaw01_Book_lookInt_L0 (b_ : Option Addr) (R : Bool → World → Prop) (again_ : Int → World → Prop) (i : Int) (w1 : World) : Prop :=
  IsAt b_ ∧ (∃ (v10 : Slc), w1.cell? ⟨(pblk b_), (poff b_) + 2, none⟩ = some (Value.slice v10.ptr v10.len v10.cap) ∧ (((decide (i < ((v10.len : Nat) : Int))) = true → (IsAt b_ ∧ (∃ (v18 : Slc), w1.cell? ⟨(pblk b_), (poff b_) + 2, none⟩ = some (Value.slice v18.ptr v18.len v18.cap) ∧ (IsAt v18.ptr ∧ (0 ≤ i ∧ i < ((v18.len : Nat) : Int) ∧ (∃ (v21 : T_towpathlaw01_heldInt), CellsAt w1 (pblk v18.ptr) ((poff v18.ptr) + i.toNat * 3) [Value.slice v21.l.ptr v21.l.len v21.l.cap, Value.slice v21.long.ptr v21.long.len v21.long.cap, Value.int .i64 v21.n] ∧ (∀ b_1 w2, b_1 = w1.heap.size → w2 = w1.alloc (Obj.cells ([Value.slice none 0 0, Value.slice none 0 0, Value.int .i64 0]).toArray ty_towpathlaw01_heldInt (0, 0)) → (Writable w2 b_1 0 3 ∧ (∀ w3, w3 = World.puts b_1 0 [Value.slice v21.l.ptr v21.l.len v21.l.cap, Value.slice v21.long.ptr v21.long.len v21.long.cap, Value.int .i64 v21.n] w2 → (∃ (v23 : Slc), w3.cell? ⟨b_1, 1, none⟩ = some (Value.slice v23.ptr v23.len v23.cap) ∧ (∃ (v26 : Slc), w3.cell? ⟨b_1, 0, none⟩ = some (Value.slice v26.ptr v26.len v26.cap) ∧ (((((v23.len : Nat) : Int) != (IntKind.i64.wrap (((v26.len : Nat) : Int) + 70))) = true → (R false w3)) ∧
  ((((v23.len : Nat) : Int) != (IntKind.i64.wrap (((v26.len : Nat) : Int) + 70))) = false → (∃ (I : Int → World → Prop) (μ : Int → World → Nat), I 0 w3 ∧
  ∀ (k_ : Int) w, I k_ w → F_towpathlaw01_Book_lookInt_L1 R i again_ b_1 (fun (k_' : Int) w' => I k_' w' ∧ μ k_' w' < μ k_ w) k_ w)))))))))))))) ∧
  ((decide (i < ((v10.len : Nat) : Int))) = false → (R true w1))))

def F_towpathlaw01_Book_lookInt (b_ : Option Addr) (R : Bool → World → Prop) (w : World) : Prop :=
  ∃ (I : Int → World → Prop) (μ : Int → World → Nat), I 0 w ∧
  ∀ (i : Int) w, I i w → F_towpathlaw01_Book_lookInt_L0 b_ R (fun (i' : Int) w' => I i' w' ∧ μ i' w' < μ i w) i w

def F_towpathlaw01_Book_lookText_L0 (b_ : Option Addr) (R : Bool → World → Prop) (again_ : Int → World → Prop) (i : Int) (w1 : World) : Prop :=
  IsAt b_ ∧ (∃ (v10 : Slc), w1.cell? ⟨(pblk b_), (poff b_) + 3, none⟩ = some (Value.slice v10.ptr v10.len v10.cap) ∧ (((decide (i < ((v10.len : Nat) : Int))) = true → (False)) ∧
  ((decide (i < ((v10.len : Nat) : Int))) = false → (R true w1))))

def F_towpathlaw01_Book_lookText (b_ : Option Addr) (R : Bool → World → Prop) (w : World) : Prop :=
  ∃ (I : Int → World → Prop) (μ : Int → World → Nat), I 0 w ∧
  ∀ (i : Int) w, I i w → F_towpathlaw01_Book_lookText_L0 b_ R (fun (i' : Int) w' => I i' w' ∧ μ i' w' < μ i w) i w

def F_towpathlaw01_Book_lookWrite_k2 (R : Bool → World → Prop) (k_ : Int) (again_1 : Int → World → Prop) (t63 : Bool) (w5 : World) : Prop :=
  (t63 = true → (R false w5)) ∧
  (t63 = false → (again_1 (IntKind.i64.wrap (k_ + 1)) w5))

def F_towpathlaw01_Book_lookWrite_L1 (R : Bool → World → Prop) (i : Int) (again_ : Int → World → Prop) (b_1 : Nat) (again_1 : Int → World → Prop) (k_ : Int) (w4 : World) : Prop :=
  ∃ (v32 : Slc), w4.cell? ⟨b_1, 1, none⟩ = some (Value.slice v32.ptr v32.len v32.cap) ∧ (((decide (k_ < ((v32.len : Nat) : Int))) = true → (∀ w6, (∃ k, w6 = w4.drewN k) → (∃ (v38 : Slc), w6.cell? ⟨b_1, 1, none⟩ = some (Value.slice v38.ptr v38.len v38.cap) ∧ (IsAt v38.ptr ∧ (0 ≤ k_ ∧ k_ < ((v38.len : Nat) : Int) ∧ (∃ (v41 : T_api_Write), CellsAt w6 (pblk v38.ptr) ((poff v38.ptr) + k_.toNat * 3) [Value.string v41.Key, Value.string v41.Val, Value.bool v41.Drop] ∧ (∃ (v43 : Int), w6.cell? ⟨b_1, 2, none⟩ = some (Value.int .i64 v43) ∧ (C_towpathlaw01_isWrite v41 v43 w6 (fun (v44 : Bool) w7 => (((!v44) = true → (F_towpathlaw01_Book_lookWrite_k2 R k_ again_1 true w7)) ∧
  ((!v44) = false → (∃ (v49 : Slc), w7.cell? ⟨b_1, 0, none⟩ = some (Value.slice v49.ptr v49.len v49.cap) ∧ (((decide (k_ < ((v49.len : Nat) : Int))) = true → (∃ (v54 : Slc), w7.cell? ⟨b_1, 0, none⟩ = some (Value.slice v54.ptr v54.len v54.cap) ∧ (IsAt v54.ptr ∧ (0 ≤ k_ ∧ k_ < ((v54.len : Nat) : Int) ∧ (∃ (v57 : T_api_Write), CellsAt w7 (pblk v54.ptr) ((poff v54.ptr) + k_.toNat * 3) [Value.string v57.Key, Value.string v57.Val, Value.bool v57.Drop] ∧ (∃ (v59 : Int), w7.cell? ⟨b_1, 2, none⟩ = some (Value.int .i64 v59) ∧ (C_towpathlaw01_isWrite v57 v59 w7 (fun (v60 : Bool) w8 => (F_towpathlaw01_Book_lookWrite_k2 R k_ again_1 (!v60) w8))))))))) ∧
  ((decide (k_ < ((v49.len : Nat) : Int))) = false → (F_towpathlaw01_Book_lookWrite_k2 R k_ again_1 false w7))))))))))))))) ∧
  ((decide (k_ < ((v32.len : Nat) : Int))) = false → (again_ (IntKind.i64.wrap (i + 1)) w4)))

def F_towpathlaw01_Book_lookWrite_L0 (b_ : Option Addr) (R : Bool → World → Prop) (again_ : Int → World → Prop) (i : Int) (w1 : World) : Prop :=
  IsAt b_ ∧ (∃ (v10 : Slc), w1.cell? ⟨(pblk b_), (poff b_) + 4, none⟩ = some (Value.slice v10.ptr v10.len v10.cap) ∧ (((decide (i < ((v10.len : Nat) : Int))) = true → (IsAt b_ ∧ (∃ (v18 : Slc), w1.cell? ⟨(pblk b_), (poff b_) + 4, none⟩ = some (Value.slice v18.ptr v18.len v18.cap) ∧ (IsAt v18.ptr ∧ (0 ≤ i ∧ i < ((v18.len : Nat) : Int) ∧ (∃ (v21 : T_towpathlaw01_heldWrite), CellsAt w1 (pblk v18.ptr) ((poff v18.ptr) + i.toNat * 3) [Value.slice v21.l.ptr v21.l.len v21.l.cap, Value.slice v21.long.ptr v21.long.len v21.long.cap, Value.int .i64 v21.n] ∧ (∀ b_1 w2, b_1 = w1.heap.size → w2 = w1.alloc (Obj.cells ([Value.slice none 0 0, Value.slice none 0 0, Value.int .i64 0]).toArray ty_towpathlaw01_heldWrite (0, 0)) → (Writable w2 b_1 0 3 ∧ (∀ w3, w3 = World.puts b_1 0 [Value.slice v21.l.ptr v21.l.len v21.l.cap, Value.slice v21.long.ptr v21.long.len v21.long.cap, Value.int .i64 v21.n] w2 → (∃ (v23 : Slc), w3.cell? ⟨b_1, 1, none⟩ = some (Value.slice v23.ptr v23.len v23.cap) ∧ (∃ (v26 : Slc), w3.cell? ⟨b_1, 0, none⟩ = some (Value.slice v26.ptr v26.len v26.cap) ∧ (((((v23.len : Nat) : Int) != (IntKind.i64.wrap (((v26.len : Nat) : Int) + 70))) = true → (R false w3)) ∧
  ((((v23.len : Nat) : Int) != (IntKind.i64.wrap (((v26.len : Nat) : Int) + 70))) = false → (∃ (I : Int → World → Prop) (μ : Int → World → Nat), I 0 w3 ∧
  ∀ (k_ : Int) w, I k_ w → F_towpathlaw01_Book_lookWrite_L1 R i again_ b_1 (fun (k_' : Int) w' => I k_' w' ∧ μ k_' w' < μ k_ w) k_ w)))))))))))))) ∧
  ((decide (i < ((v10.len : Nat) : Int))) = false → (R true w1))))

def F_towpathlaw01_Book_lookWrite (b_ : Option Addr) (R : Bool → World → Prop) (w : World) : Prop :=
  ∃ (I : Int → World → Prop) (μ : Int → World → Nat), I 0 w ∧
  ∀ (i : Int) w, I i w → F_towpathlaw01_Book_lookWrite_L0 b_ R (fun (i' : Int) w' => I i' w' ∧ μ i' w' < μ i w) i w

def F_towpathlaw01_Book_lookEntry_L0 (b_ : Option Addr) (R : Bool → World → Prop) (again_ : Int → World → Prop) (i : Int) (w1 : World) : Prop :=
  IsAt b_ ∧ (∃ (v10 : Slc), w1.cell? ⟨(pblk b_), (poff b_) + 5, none⟩ = some (Value.slice v10.ptr v10.len v10.cap) ∧ (((decide (i < ((v10.len : Nat) : Int))) = true → (False)) ∧
  ((decide (i < ((v10.len : Nat) : Int))) = false → (R true w1))))

def F_towpathlaw01_Book_lookEntry (b_ : Option Addr) (R : Bool → World → Prop) (w : World) : Prop :=
  ∃ (I : Int → World → Prop) (μ : Int → World → Nat), I 0 w ∧
  ∀ (i : Int) w, I i w → F_towpathlaw01_Book_lookEntry_L0 b_ R (fun (i' : Int) w' => I i' w' ∧ μ i' w' < μ i w) i w

def F_towpathlaw01_Book_lookVersion_L0 (b_ : Option Addr) (R : Bool → World → Prop) (again_ : Int → World → Prop) (i : Int) (w1 : World) : Prop :=
  IsAt b_ ∧ (∃ (v10 : Slc), w1.cell? ⟨(pblk b_), (poff b_) + 6, none⟩ = some (Value.slice v10.ptr v10.len v10.cap) ∧ (((decide (i < ((v10.len : Nat) : Int))) = true → (False)) ∧
  ((decide (i < ((v10.len : Nat) : Int))) = false → (R true w1))))

def F_towpathlaw01_Book_lookVersion (b_ : Option Addr) (R : Bool → World → Prop) (w : World) : Prop :=
  ∃ (I : Int → World → Prop) (μ : Int → World → Nat), I 0 w ∧
  ∀ (i : Int) w, I i w → F_towpathlaw01_Book_lookVersion_L0 b_ R (fun (i' : Int) w' => I i' w' ∧ μ i' w' < μ i w) i w

def F_towpathlaw01_Book_lookTxn_k2 (R : Bool → World → Prop) (k_ : Int) (again_1 : Int → World → Prop) (t63 : Bool) (w5 : World) : Prop :=
  (t63 = true → (R false w5)) ∧
  (t63 = false → (again_1 (IntKind.i64.wrap (k_ + 1)) w5))

def F_towpathlaw01_Book_lookTxn_L1 (R : Bool → World → Prop) (i : Int) (again_ : Int → World → Prop) (b_1 : Nat) (again_1 : Int → World → Prop) (k_ : Int) (w4 : World) : Prop :=
  ∃ (v32 : Slc), w4.cell? ⟨b_1, 1, none⟩ = some (Value.slice v32.ptr v32.len v32.cap) ∧ (((decide (k_ < ((v32.len : Nat) : Int))) = true → (∃ (v38 : Slc), w4.cell? ⟨b_1, 1, none⟩ = some (Value.slice v38.ptr v38.len v38.cap) ∧ (IsAt v38.ptr ∧ (0 ≤ k_ ∧ k_ < ((v38.len : Nat) : Int) ∧ (∃ (v41 : T_api_Txn), CellsAt w4 (pblk v38.ptr) ((poff v38.ptr) + k_.toNat * 2) [Value.int .i64 v41.Number, Value.slice v41.Writes.ptr v41.Writes.len v41.Writes.cap] ∧ (∃ (v43 : Int), w4.cell? ⟨b_1, 2, none⟩ = some (Value.int .i64 v43) ∧ (∃ (v44 : Bool), (∀ w', Ext w4 w' → C_towpathlaw01_isTxn v41 v43 w' (fun (v44' : Bool) w'' => v44' = v44 ∧ Ext w' w'')) ∧ (((!v44) = true → (∀ w7, Ext w4 w7 → (F_towpathlaw01_Book_lookTxn_k2 R k_ again_1 true w7))) ∧
  ((!v44) = false → (∃ (v49 : Slc), w4.cell? ⟨b_1, 0, none⟩ = some (Value.slice v49.ptr v49.len v49.cap) ∧ (((decide (k_ < ((v49.len : Nat) : Int))) = true → (∃ (v54 : Slc), w4.cell? ⟨b_1, 0, none⟩ = some (Value.slice v54.ptr v54.len v54.cap) ∧ (IsAt v54.ptr ∧ (0 ≤ k_ ∧ k_ < ((v54.len : Nat) : Int) ∧ (∃ (v57 : T_api_Txn), CellsAt w4 (pblk v54.ptr) ((poff v54.ptr) + k_.toNat * 2) [Value.int .i64 v57.Number, Value.slice v57.Writes.ptr v57.Writes.len v57.Writes.cap] ∧ (∃ (v59 : Int), w4.cell? ⟨b_1, 2, none⟩ = some (Value.int .i64 v59) ∧ (∃ (v60 : Bool), (∀ w', Ext w4 w' → C_towpathlaw01_isTxn v57 v59 w' (fun (v60' : Bool) w'' => v60' = v60 ∧ Ext w' w'')) ∧ (∀ w9, Ext w4 w9 → (F_towpathlaw01_Book_lookTxn_k2 R k_ again_1 (!v60) w9))))))))) ∧
  ((decide (k_ < ((v49.len : Nat) : Int))) = false → (∀ w10, Ext w4 w10 → (F_towpathlaw01_Book_lookTxn_k2 R k_ again_1 false w10)))))))))))))) ∧
  ((decide (k_ < ((v32.len : Nat) : Int))) = false → (again_ (IntKind.i64.wrap (i + 1)) w4)))

def F_towpathlaw01_Book_lookTxn_L0 (b_ : Option Addr) (R : Bool → World → Prop) (again_ : Int → World → Prop) (i : Int) (w1 : World) : Prop :=
  IsAt b_ ∧ (∃ (v10 : Slc), w1.cell? ⟨(pblk b_), (poff b_) + 7, none⟩ = some (Value.slice v10.ptr v10.len v10.cap) ∧ (((decide (i < ((v10.len : Nat) : Int))) = true → (IsAt b_ ∧ (∃ (v18 : Slc), w1.cell? ⟨(pblk b_), (poff b_) + 7, none⟩ = some (Value.slice v18.ptr v18.len v18.cap) ∧ (IsAt v18.ptr ∧ (0 ≤ i ∧ i < ((v18.len : Nat) : Int) ∧ (∃ (v21 : T_towpathlaw01_heldTxn), CellsAt w1 (pblk v18.ptr) ((poff v18.ptr) + i.toNat * 3) [Value.slice v21.l.ptr v21.l.len v21.l.cap, Value.slice v21.long.ptr v21.long.len v21.long.cap, Value.int .i64 v21.n] ∧ (∀ b_1 w2, b_1 = w1.heap.size → w2 = w1.alloc (Obj.cells ([Value.slice none 0 0, Value.slice none 0 0, Value.int .i64 0]).toArray ty_towpathlaw01_heldTxn (0, 0)) → (Writable w2 b_1 0 3 ∧ (∀ w3, w3 = World.puts b_1 0 [Value.slice v21.l.ptr v21.l.len v21.l.cap, Value.slice v21.long.ptr v21.long.len v21.long.cap, Value.int .i64 v21.n] w2 → (∃ (v23 : Slc), w3.cell? ⟨b_1, 1, none⟩ = some (Value.slice v23.ptr v23.len v23.cap) ∧ (∃ (v26 : Slc), w3.cell? ⟨b_1, 0, none⟩ = some (Value.slice v26.ptr v26.len v26.cap) ∧ (((((v23.len : Nat) : Int) != (IntKind.i64.wrap (((v26.len : Nat) : Int) + 70))) = true → (R false w3)) ∧
  ((((v23.len : Nat) : Int) != (IntKind.i64.wrap (((v26.len : Nat) : Int) + 70))) = false → (∃ (I : Int → World → Prop) (μ : Int → World → Nat), I 0 w3 ∧
  ∀ (k_ : Int) w, I k_ w → F_towpathlaw01_Book_lookTxn_L1 R i again_ b_1 (fun (k_' : Int) w' => I k_' w' ∧ μ k_' w' < μ k_ w) k_ w)))))))))))))) ∧
  ((decide (i < ((v10.len : Nat) : Int))) = false → (R true w1))))

def F_towpathlaw01_Book_lookTxn (b_ : Option Addr) (R : Bool → World → Prop) (w : World) : Prop :=
  ∃ (I : Int → World → Prop) (μ : Int → World → Nat), I 0 w ∧
  ∀ (i : Int) w, I i w → F_towpathlaw01_Book_lookTxn_L0 b_ R (fun (i' : Int) w' => I i' w' ∧ μ i' w' < μ i w) i w

def F_towpathlaw01_Book_lookHeld_L0 (b_ : Option Addr) (R : Bool → World → Prop) (again_ : Int → World → Prop) (i : Int) (w1 : World) : Prop :=
  IsAt b_ ∧ (∃ (v10 : Slc), w1.cell? ⟨(pblk b_), (poff b_) + 8, none⟩ = some (Value.slice v10.ptr v10.len v10.cap) ∧ (((decide (i < ((v10.len : Nat) : Int))) = true → (False)) ∧
  ((decide (i < ((v10.len : Nat) : Int))) = false → (R true w1))))

def F_towpathlaw01_Book_lookHeld (b_ : Option Addr) (R : Bool → World → Prop) (w : World) : Prop :=
  ∃ (I : Int → World → Prop) (μ : Int → World → Nat), I 0 w ∧
  ∀ (i : Int) w, I i w → F_towpathlaw01_Book_lookHeld_L0 b_ R (fun (i' : Int) w' => I i' w' ∧ μ i' w' < μ i w) i w

def F_towpathlaw01_Book_lookHeldList_L0 (b_ : Option Addr) (R : Bool → World → Prop) (again_ : Int → World → Prop) (i : Int) (w1 : World) : Prop :=
  IsAt b_ ∧ (∃ (v10 : Slc), w1.cell? ⟨(pblk b_), (poff b_) + 9, none⟩ = some (Value.slice v10.ptr v10.len v10.cap) ∧ (((decide (i < ((v10.len : Nat) : Int))) = true → (False)) ∧
  ((decide (i < ((v10.len : Nat) : Int))) = false → (R true w1))))

def F_towpathlaw01_Book_lookHeldList (b_ : Option Addr) (R : Bool → World → Prop) (w : World) : Prop :=
  ∃ (I : Int → World → Prop) (μ : Int → World → Nat), I 0 w ∧
  ∀ (i : Int) w, I i w → F_towpathlaw01_Book_lookHeldList_L0 b_ R (fun (i' : Int) w' => I i' w' ∧ μ i' w' < μ i w) i w

def F_towpathlaw01_Book_lookEvent_L0 (b_ : Option Addr) (R : Bool → World → Prop) (again_ : Int → World → Prop) (i : Int) (w1 : World) : Prop :=
  IsAt b_ ∧ (∃ (v10 : Slc), w1.cell? ⟨(pblk b_), (poff b_) + 10, none⟩ = some (Value.slice v10.ptr v10.len v10.cap) ∧ (((decide (i < ((v10.len : Nat) : Int))) = true → (False)) ∧
  ((decide (i < ((v10.len : Nat) : Int))) = false → (R true w1))))

def F_towpathlaw01_Book_lookEvent (b_ : Option Addr) (R : Bool → World → Prop) (w : World) : Prop :=
  ∃ (I : Int → World → Prop) (μ : Int → World → Nat), I 0 w ∧
  ∀ (i : Int) w, I i w → F_towpathlaw01_Book_lookEvent_L0 b_ R (fun (i' : Int) w' => I i' w' ∧ μ i' w' < μ i w) i w

def F_towpathlaw01_Book_lookAnswer_L0 (b_ : Option Addr) (R : Bool → World → Prop) (again_ : Int → World → Prop) (i : Int) (w1 : World) : Prop :=
  IsAt b_ ∧ (∃ (v10 : Slc), w1.cell? ⟨(pblk b_), (poff b_) + 11, none⟩ = some (Value.slice v10.ptr v10.len v10.cap) ∧ (((decide (i < ((v10.len : Nat) : Int))) = true → (False)) ∧
  ((decide (i < ((v10.len : Nat) : Int))) = false → (R true w1))))

def F_towpathlaw01_Book_lookAnswer (b_ : Option Addr) (R : Bool → World → Prop) (w : World) : Prop :=
  ∃ (I : Int → World → Prop) (μ : Int → World → Nat), I 0 w ∧
  ∀ (i : Int) w, I i w → F_towpathlaw01_Book_lookAnswer_L0 b_ R (fun (i' : Int) w' => I i' w' ∧ μ i' w' < μ i w) i w

def F_towpathlaw01_SameWrites_L0 (a_ : Slc) (b_ : Slc) (R : Bool → World → Prop) (again_ : Int → World → Prop) (i : Int) (w1 : World) : Prop :=
  ((decide (i < ((a_.len : Nat) : Int))) = true → (IsAt a_.ptr ∧ (0 ≤ i ∧ i < ((a_.len : Nat) : Int) ∧ (∃ (v20 : T_api_Write), CellsAt w1 (pblk a_.ptr) ((poff a_.ptr) + i.toNat * 3) [Value.string v20.Key, Value.string v20.Val, Value.bool v20.Drop] ∧ (IsAt b_.ptr ∧ (0 ≤ i ∧ i < ((b_.len : Nat) : Int) ∧ (∃ (v24 : T_api_Write), CellsAt w1 (pblk b_.ptr) ((poff b_.ptr) + i.toNat * 3) [Value.string v24.Key, Value.string v24.Val, Value.bool v24.Drop] ∧ (∀ w2, Ext w1 w2 → (((!(((v20.Key == v24.Key) && (v20.Val == v24.Val)) && (v20.Drop == v24.Drop))) = true → (R false w2)) ∧
  ((!(((v20.Key == v24.Key) && (v20.Val == v24.Val)) && (v20.Drop == v24.Drop))) = false → (again_ (IntKind.i64.wrap (i + 1)) w2))))))))))) ∧
  ((decide (i < ((a_.len : Nat) : Int))) = false → (R true w1))

def F_towpathlaw01_SameWrites (a_ : Slc) (b_ : Slc) (R : Bool → World → Prop) (w : World) : Prop :=
  ((((a_.len : Nat) : Int) != ((b_.len : Nat) : Int)) = true → (R false w)) ∧
  ((((a_.len : Nat) : Int) != ((b_.len : Nat) : Int)) = false → (∃ (I : Int → World → Prop) (μ : Int → World → Nat), I 0 w ∧
  ∀ (i : Int) w, I i w → F_towpathlaw01_SameWrites_L0 a_ b_ R (fun (i' : Int) w' => I i' w' ∧ μ i' w' < μ i w) i w))

def F_towpathlaw01_Book_Writes (b_ : Option Addr) (l_ : Slc) (R : World → Prop) (w : World) : Prop :=
  C_towpathlaw01_Book_keepWrite b_ l_ w (fun w1 => R w1)

def F_towpathlaw01_Book_keepInt (b_ : Option Addr) (l_ : Slc) (R : World → Prop) (w : World) : Prop :=
  IsAt b_ ∧ (∃ (v7 : Int), w.cell? ⟨(pblk b_), (poff b_), none⟩ = some (Value.int .i64 v7) ∧ (Writable w (pblk b_) (poff b_) 1 ∧ (∀ w1, w1 = World.puts (pblk b_) (poff b_) [Value.int .i64 (IntKind.i64.wrap (v7 + 1))] w → (∀ w2, (∃ k, w2 = w1.drewN k) → (IsAt b_ ∧ (∃ (v15 : Slc), w2.cell? ⟨(pblk b_), (poff b_) + 2, none⟩ = some (Value.slice v15.ptr v15.len v15.cap) ∧ (IsAt b_ ∧ (∃ (v20 : Int), w2.cell? ⟨(pblk b_), (poff b_), none⟩ = some (Value.int .i64 v20) ∧ (∀ b_1 w3, b_1 = w2.heap.size → w3 = w2.alloc (Obj.cells ([Value.slice l_.ptr l_.len l_.cap, Value.slice none 0 0, Value.int .i64 v20]).toArray ty_towpathlaw01_heldInt (0, 0)) → (w3.cell? ⟨(pblk b_), (poff b_) + 2, none⟩ = some (Value.slice v15.ptr v15.len v15.cap) ∧ (∃ src, SrcAt w3 (Slc.mk (some ⟨b_1, 0, none⟩) 1 1) 3 src ∧ AppendW 3 56 ty_towpathlaw01_heldInt [Value.slice none 0 0, Value.slice none 0 0, Value.int .i64 0] v15 src 1 w3 (fun v23 w4 => (IsAt b_ ∧ (Writable w4 (pblk b_) ((poff b_) + 2) 1 ∧ (∀ w5, w5 = World.puts (pblk b_) ((poff b_) + 2) [Value.slice v23.ptr v23.len v23.cap] w4 → ((R w5)))))))))))))))))

def F_slices_Clone_int_int (s : Slc) (R : Slc → World → Prop) (w : World) : Prop :=
  (s.ptr.isNone = true → (R (Slc.mk none 0 0) w)) ∧
  (s.ptr.isNone = false → (∀ b_ w1, b_ = w.heap.size → w1 = w.alloc (Obj.cells ([]).toArray ty_int (0, 0)) → (∃ src, SrcAt w1 s 1 src ∧ AppendW 1 8 ty_int [Value.int .i64 0] (Slc.mk (some ⟨b_, 0, none⟩) 0 0) src s.len w1 (fun v7 w2 => R v7 w2))))

def F_logfile_turns (R : Value → World → Prop) (w : World) : Prop :=
  ∀ b_ w1, b_ = w.heap.size → w1 = w.alloc (Obj.cells ([Value.int .i64 0]).toArray ty_int (0, 0)) → (Writable w1 b_ 0 1 ∧ (∀ w2, w2 = World.puts b_ 0 [Value.int .i64 1] w1 → (R (Value.func (.func 171) #[] #[Value.pointer (some ⟨b_, 0, none⟩)]) w2)))

def F_towpathlaw01_WritesSize_L0 (l_ : Slc) (R : Int → World → Prop) (again_ : Int → Int → World → Prop) (n_ : Int) (i : Int) (w1 : World) : Prop :=
  (((decide (i < ((l_.len : Nat) : Int))) && (decide (n_ ≤ 1048576))) = true → (IsAt l_.ptr ∧ (0 ≤ i ∧ i < ((l_.len : Nat) : Int) ∧ (∃ (v22 : ByteArray), w1.cell? ⟨(pblk l_.ptr), (poff l_.ptr) + i.toNat * 3, none⟩ = some (Value.string v22) ∧ (IsAt l_.ptr ∧ (0 ≤ i ∧ i < ((l_.len : Nat) : Int) ∧ (∃ (v29 : ByteArray), w1.cell? ⟨(pblk l_.ptr), ((poff l_.ptr) + i.toNat * 3) + 1, none⟩ = some (Value.string v29) ∧ (∀ w2, Ext w1 w2 → (again_ (IntKind.i64.wrap ((IntKind.i64.wrap (n_ + ((v22.size : Nat) : Int))) + ((v29.size : Nat) : Int))) (IntKind.i64.wrap (i + 1)) w2))))))))) ∧
  (((decide (i < ((l_.len : Nat) : Int))) && (decide (n_ ≤ 1048576))) = false → (R n_ w1))

def F_towpathlaw01_WritesSize (l_ : Slc) (R : Int → World → Prop) (w : World) : Prop :=
  ∃ (I : Int → Int → World → Prop) (μ : Int → Int → World → Nat), I ((l_.len : Nat) : Int) 0 w ∧
  ∀ (n_ : Int) (i : Int) w, I n_ i w → F_towpathlaw01_WritesSize_L0 l_ R (fun (n_' : Int) (i' : Int) w' => I n_' i' w' ∧ μ n_' i' w' < μ n_ i w) n_ i w

def F_towpathlaw01_TwinWrites_L0 (l_ : Slc) (R : Slc → World → Prop) (again_ : Slc → Int → World → Prop) (t_ : Slc) (i : Int) (w2 : World) : Prop :=
  ((decide (i < ((l_.len : Nat) : Int))) = true → (IsAt l_.ptr ∧ (0 ≤ i ∧ i < ((l_.len : Nat) : Int) ∧ (∃ (v19 : T_api_Write), CellsAt w2 (pblk l_.ptr) ((poff l_.ptr) + i.toNat * 3) [Value.string v19.Key, Value.string v19.Val, Value.bool v19.Drop] ∧ (∀ b_1 w3, b_1 = w2.heap.size → w3 = w2.alloc (Obj.cells ([Value.string v19.Key, Value.string v19.Val, Value.bool v19.Drop]).toArray ty_api_Write (0, 0)) → (∃ src, SrcAt w3 (Slc.mk (some ⟨b_1, 0, none⟩) 1 1) 3 src ∧ AppendW 3 40 ty_api_Write [Value.string ByteArray.empty, Value.string ByteArray.empty, Value.bool false] t_ src 1 w3 (fun t_1 w4 => again_ t_1 (IntKind.i64.wrap (i + 1)) w4))))))) ∧
  ((decide (i < ((l_.len : Nat) : Int))) = false → (∀ b_2 w5, b_2 = w2.heap.size → w5 = w2.alloc (Obj.cells ([Value.string (ByteArray.mk #[115, 112, 97, 114, 101]), Value.string ByteArray.empty, Value.bool false]).toArray ty_api_Write (0, 0)) → (∃ src, SrcAt w5 (Slc.mk (some ⟨b_2, 0, none⟩) 1 1) 3 src ∧ AppendW 3 40 ty_api_Write [Value.string ByteArray.empty, Value.string ByteArray.empty, Value.bool false] t_ src 1 w5 (fun v25 w6 => 0 ≤ ((l_.len : Nat) : Int) ∧ ((l_.len : Nat) : Int) ≤ ((v25.cap : Nat) : Int) ∧ (R (Slc.mk v25.ptr (((l_.len : Nat) : Int).toNat) v25.cap) w6)))))

def F_towpathlaw01_TwinWrites (l_ : Slc) (R : Slc → World → Prop) (w : World) : Prop :=
  0 ≤ (0 : Int) ∧ (0 : Int) ≤ IntKind.i64.wrap (((l_.len : Nat) : Int) + 1) ∧ (40 : Int) * (IntKind.i64.wrap (((l_.len : Nat) : Int) + 1)) ≤ 281474976710656 ∧ (∀ b_ w1, b_ = w.heap.size → w1 = w.alloc (Obj.cells (repCells ((IntKind.i64.wrap (((l_.len : Nat) : Int) + 1)).toNat) [Value.string ByteArray.empty, Value.string ByteArray.empty, Value.bool false]) ty_api_Write (0, 0)) → (∃ (I : Slc → Int → World → Prop) (μ : Slc → Int → World → Nat), I (Slc.mk (some ⟨b_, 0, none⟩) 0 ((IntKind.i64.wrap (((l_.len : Nat) : Int) + 1)).toNat)) 0 w1 ∧
  ∀ (t_ : Slc) (i : Int) w, I t_ i w → F_towpathlaw01_TwinWrites_L0 l_ R (fun (t_' : Slc) (i' : Int) w' => I t_' i' w' ∧ μ t_' i' w' < μ t_ i w) t_ i w))

def F_slices_Clone_api_Write_api_Write (s : Slc) (R : Slc → World → Prop) (w : World) : Prop :=
  (s.ptr.isNone = true → (R (Slc.mk none 0 0) w)) ∧
  (s.ptr.isNone = false → (∀ b_ w1, b_ = w.heap.size → w1 = w.alloc (Obj.cells ([]).toArray ty_api_Write (0, 0)) → (∃ src, SrcAt w1 s 3 src ∧ AppendW 3 40 ty_api_Write [Value.string ByteArray.empty, Value.string ByteArray.empty, Value.bool false] (Slc.mk (some ⟨b_, 0, none⟩) 0 0) src s.len w1 (fun v7 w2 => R v7 w2))))

def F_towpathref05_Check_L1 (R : Int → World → Prop) (b_ : Nat) (again_ : Int → World → Prop) (i : Int) (w3 : World) : Prop :=
  ∃ (v16 : Slc), w3.cell? ⟨b_, 1, none⟩ = some (Value.slice v16.ptr v16.len v16.cap) ∧ (((decide (i < ((v16.len : Nat) : Int))) = true → (∃ (v22 : Slc), w3.cell? ⟨b_, 1, none⟩ = some (Value.slice v22.ptr v22.len v22.cap) ∧ (IsAt v22.ptr ∧ (0 ≤ i ∧ i < ((v22.len : Nat) : Int) ∧ (∃ (v25 : T_api_Write), CellsAt w3 (pblk v22.ptr) ((poff v22.ptr) + i.toNat * 3) [Value.string v25.Key, Value.string v25.Val, Value.bool v25.Drop] ∧ (C_towpathref05_Write v25 w3 (fun (v26 : Bool) w4 => ((!v26) = true → (R 1 w4)) ∧
  ((!v26) = false → (again_ (IntKind.i64.wrap (i + 1)) w4))))))))) ∧
  ((decide (i < ((v16.len : Nat) : Int))) = false → (R 0 w3)))

def F_towpathref05_Check_k0 (R : Int → World → Prop) (b_ : Nat) (t13 : Bool) (w2 : World) : Prop :=
  (t13 = true → (R 1 w2)) ∧
  (t13 = false → (∃ (I : Int → World → Prop) (μ : Int → World → Nat), I 0 w2 ∧
  ∀ (i : Int) w, I i w → F_towpathref05_Check_L1 R b_ (fun (i' : Int) w' => I i' w' ∧ μ i' w' < μ i w) i w))

def F_towpathref05_Check (t_ : T_api_Txn) (R : Int → World → Prop) (w : World) : Prop :=
  ∀ b_ w1, b_ = w.heap.size → w1 = w.alloc (Obj.cells ([Value.int .i64 t_.Number, Value.slice t_.Writes.ptr t_.Writes.len t_.Writes.cap]).toArray ty_api_Txn (0, 0)) → (∃ (v5 : Int), w1.cell? ⟨b_, 0, none⟩ = some (Value.int .i64 v5) ∧ (C_towpathref05_Number v5 w1 (fun (v6 : Bool) w5 => ((!v6) = true → (F_towpathref05_Check_k0 R b_ true w5)) ∧
  ((!v6) = false → (∃ (v10 : Slc), w5.cell? ⟨b_, 1, none⟩ = some (Value.slice v10.ptr v10.len v10.cap) ∧ (F_towpathref05_Check_k0 R b_ (decide (((v10.len : Nat) : Int) > 32)) w5))))))

def F_towpathlaw01_LeftWrites_L0 (t_ : Slc) (l_ : Slc) (R : Bool → World → Prop) (again_ : Int → World → Prop) (i : Int) (w1 : World) : Prop :=
  ((decide (i < ((l_.len : Nat) : Int))) = true → (IsAt t_.ptr ∧ (0 ≤ i ∧ i < ((t_.len : Nat) : Int) ∧ (∃ (v28 : T_api_Write), CellsAt w1 (pblk t_.ptr) ((poff t_.ptr) + i.toNat * 3) [Value.string v28.Key, Value.string v28.Val, Value.bool v28.Drop] ∧ (IsAt l_.ptr ∧ (0 ≤ i ∧ i < ((l_.len : Nat) : Int) ∧ (∃ (v32 : T_api_Write), CellsAt w1 (pblk l_.ptr) ((poff l_.ptr) + i.toNat * 3) [Value.string v32.Key, Value.string v32.Val, Value.bool v32.Drop] ∧ (∀ w2, Ext w1 w2 → (((!(((v28.Key == v32.Key) && (v28.Val == v32.Val)) && (v28.Drop == v32.Drop))) = true → (R false w2)) ∧
  ((!(((v28.Key == v32.Key) && (v28.Val == v32.Val)) && (v28.Drop == v32.Drop))) = false → (again_ (IntKind.i64.wrap (i + 1)) w2))))))))))) ∧
  ((decide (i < ((l_.len : Nat) : Int))) = false → (0 ≤ IntKind.i64.wrap (((l_.len : Nat) : Int) + 1) ∧ IntKind.i64.wrap (((l_.len : Nat) : Int) + 1) ≤ ((t_.cap : Nat) : Int) ∧ (IsAt t_.ptr ∧ (0 ≤ ((l_.len : Nat) : Int) ∧ ((l_.len : Nat) : Int) < (((IntKind.i64.wrap (((l_.len : Nat) : Int) + 1)).toNat : Nat) : Int) ∧ (∃ (v42 : T_api_Write), CellsAt w1 (pblk t_.ptr) ((poff t_.ptr) + ((l_.len : Nat) : Int).toNat * 3) [Value.string v42.Key, Value.string v42.Val, Value.bool v42.Drop] ∧ (∀ b_ w3, b_ = w1.heap.size → w3 = w1.alloc (Obj.cells ([Value.string ByteArray.empty, Value.string ByteArray.empty, Value.bool false]).toArray ty_api_Write (0, 0)) → (Writable w3 b_ 0 3 ∧ (∀ w4, w4 = World.puts b_ 0 [Value.string v42.Key, Value.string v42.Val, Value.bool v42.Drop] w3 → (∃ (v43 : T_api_Write), CellsAt w4 b_ 0 [Value.string v43.Key, Value.string v43.Val, Value.bool v43.Drop] ∧ (R (((v43.Key == (ByteArray.mk #[115, 112, 97, 114, 101])) && (v43.Val == ByteArray.empty)) && (v43.Drop == false)) w4))))))))))

def F_towpathlaw01_LeftWrites (t_ : Slc) (l_ : Slc) (R : Bool → World → Prop) (w : World) : Prop :=
  (((((t_.len : Nat) : Int) != ((l_.len : Nat) : Int)) || (decide (((t_.cap : Nat) : Int) ≤ ((l_.len : Nat) : Int)))) = true → (R false w)) ∧
  (((((t_.len : Nat) : Int) != ((l_.len : Nat) : Int)) || (decide (((t_.cap : Nat) : Int) ≤ ((l_.len : Nat) : Int)))) = false → (∃ (I : Int → World → Prop) (μ : Int → World → Nat), I 0 w ∧
  ∀ (i : Int) w, I i w → F_towpathlaw01_LeftWrites_L0 t_ l_ R (fun (i' : Int) w' => I i' w' ∧ μ i' w' < μ i w) i w))

def F_towpathlaw01_markInt (n_ : Int) (R : Int → World → Prop) (w : World) : Prop :=
  R (IntKind.i64.wrap ((-1000) - n_)) w

def F_towpathlaw01_markWrite (n_ : Int) (R : T_api_Write → World → Prop) (w : World) : Prop :=
  ∀ b_ w1, b_ = w.heap.size → w1 = w.alloc (Obj.cells ([Value.string ByteArray.empty, Value.string ByteArray.empty, Value.bool false]).toArray ty_api_Write (0, 0)) → (C_towpathlaw01_word n_ w1 (fun (v4 : ByteArray) w2 => Writable w2 b_ 0 3 ∧ (∀ w3, w3 = World.puts b_ 0 [Value.string v4, Value.string ByteArray.empty, Value.bool false] w2 → (∃ (res : T_api_Write), CellsAt w3 b_ 0 [Value.string res.Key, Value.string res.Val, Value.bool res.Drop] ∧ (R res w3)))))

def F_towpathlaw01_markTxn (n_ : Int) (R : T_api_Txn → World → Prop) (w : World) : Prop :=
  ∀ b_ w1, b_ = w.heap.size → w1 = w.alloc (Obj.cells ([Value.int .i64 0, Value.slice none 0 0]).toArray ty_api_Txn (0, 0)) → (Writable w1 b_ 0 2 ∧ (∀ w2, w2 = World.puts b_ 0 [Value.int .i64 (IntKind.i64.wrap ((-1000) - n_)), Value.slice none 0 0] w1 → (∃ (res : T_api_Txn), CellsAt w2 b_ 0 [Value.int .i64 res.Number, Value.slice res.Writes.ptr res.Writes.len res.Writes.cap] ∧ (R res w2))))

def F_towpathlaw01_isInt (x : Int) (n_ : Int) (R : Bool → World → Prop) (w : World) : Prop :=
  R (x == (IntKind.i64.wrap ((-1000) - n_))) w

def F_towpathlaw01_isWrite (x : T_api_Write) (n_ : Int) (R : Bool → World → Prop) (w : World) : Prop :=
  ∀ b_ w1, b_ = w.heap.size → w1 = w.alloc (Obj.cells ([Value.string x.Key, Value.string x.Val, Value.bool x.Drop]).toArray ty_api_Write (0, 0)) → (∀ w2, (∃ k, w2 = w1.drewN k) → (∃ (v5 : T_api_Write), CellsAt w2 b_ 0 [Value.string v5.Key, Value.string v5.Val, Value.bool v5.Drop] ∧ (C_towpathlaw01_word n_ w2 (fun (v7 : ByteArray) w3 => CellsAt w3 b_ 0 [Value.string v5.Key, Value.string v5.Val, Value.bool v5.Drop] ∧ (R (((v5.Key == v7) && (v5.Val == ByteArray.empty)) && (v5.Drop == false)) w3)))))

def F_towpathlaw01_isTxn (x : T_api_Txn) (n_ : Int) (R : Bool → World → Prop) (w : World) : Prop :=
  ∀ b_ w1, b_ = w.heap.size → w1 = w.alloc (Obj.cells ([Value.int .i64 x.Number, Value.slice x.Writes.ptr x.Writes.len x.Writes.cap]).toArray ty_api_Txn (0, 0)) → (∃ (v6 : Int), w1.cell? ⟨b_, 0, none⟩ = some (Value.int .i64 v6) ∧ (((v6 == (IntKind.i64.wrap ((-1000) - n_))) = true → (∃ (v12 : Slc), w1.cell? ⟨b_, 1, none⟩ = some (Value.slice v12.ptr v12.len v12.cap) ∧ (R (((v12.len : Nat) : Int) == 0) w1))) ∧
  ((v6 == (IntKind.i64.wrap ((-1000) - n_))) = false → (R false w1))))

def F_towpathlaw01_Book_keepWrite (b_ : Option Addr) (l_ : Slc) (R : World → Prop) (w : World) : Prop :=
  IsAt b_ ∧ (∃ (v7 : Int), w.cell? ⟨(pblk b_), (poff b_), none⟩ = some (Value.int .i64 v7) ∧ (Writable w (pblk b_) (poff b_) 1 ∧ (∀ w1, w1 = World.puts (pblk b_) (poff b_) [Value.int .i64 (IntKind.i64.wrap (v7 + 1))] w → (∀ w2, (∃ k, w2 = w1.drewN k) → (IsAt b_ ∧ (∃ (v15 : Slc), w2.cell? ⟨(pblk b_), (poff b_) + 4, none⟩ = some (Value.slice v15.ptr v15.len v15.cap) ∧ (IsAt b_ ∧ (∃ (v20 : Int), w2.cell? ⟨(pblk b_), (poff b_), none⟩ = some (Value.int .i64 v20) ∧ (∀ b_1 w3, b_1 = w2.heap.size → w3 = w2.alloc (Obj.cells ([Value.slice l_.ptr l_.len l_.cap, Value.slice none 0 0, Value.int .i64 v20]).toArray ty_towpathlaw01_heldWrite (0, 0)) → (w3.cell? ⟨(pblk b_), (poff b_) + 4, none⟩ = some (Value.slice v15.ptr v15.len v15.cap) ∧ (∃ src, SrcAt w3 (Slc.mk (some ⟨b_1, 0, none⟩) 1 1) 3 src ∧ AppendW 3 56 ty_towpathlaw01_heldWrite [Value.slice none 0 0, Value.slice none 0 0, Value.int .i64 0] v15 src 1 w3 (fun v23 w4 => (IsAt b_ ∧ (Writable w4 (pblk b_) ((poff b_) + 4) 1 ∧ (∀ w5, w5 = World.puts (pblk b_) ((poff b_) + 4) [Value.slice v23.ptr v23.len v23.cap] w4 → ((R w5)))))))))))))))))

def F_towpathref05_Key (s : ByteArray) (R : Bool → World → Prop) (w : World) : Prop :=
  R ((decide (((s.size : Nat) : Int) ≥ 1)) && (decide (((s.size : Nat) : Int) ≤ 64))) w

def F_record_Check_k0 (R : Int → World → Prop) (t23 : Bool) (w2 : World) : Prop :=
  (t23 = true → (R 1 w2)) ∧
  (t23 = false → (R 0 w2))

def F_record_Check (t_ : T_api_Txn) (R : Int → World → Prop) (w : World) : Prop :=
  ∀ b_ w1, b_ = w.heap.size → w1 = w.alloc (Obj.cells ([Value.int .i64 t_.Number, Value.slice t_.Writes.ptr t_.Writes.len t_.Writes.cap]).toArray ty_api_Txn (0, 0)) → (∃ (v5 : Int), w1.cell? ⟨b_, 0, none⟩ = some (Value.int .i64 v5) ∧ (((decide (v5 < 1)) = true → (F_record_Check_k0 R true w1)) ∧
  ((decide (v5 < 1)) = false → (∃ (v9 : Int), w1.cell? ⟨b_, 0, none⟩ = some (Value.int .i64 v9) ∧ (((decide (v9 > 65536)) = true → (F_record_Check_k0 R true w1)) ∧
  ((decide (v9 > 65536)) = false → (∃ (v14 : Slc), w1.cell? ⟨b_, 1, none⟩ = some (Value.slice v14.ptr v14.len v14.cap) ∧ (((decide (((v14.len : Nat) : Int) > 32)) = true → (F_record_Check_k0 R true w1)) ∧
  ((decide (((v14.len : Nat) : Int) > 32)) = false → (∃ (v20 : Slc), w1.cell? ⟨b_, 1, none⟩ = some (Value.slice v20.ptr v20.len v20.cap) ∧ (C_slices_ContainsFunc_api_Write_api_Write v20 (Value.func (.func 197) #[] #[]) w1 (fun (v22 : Bool) w3 => F_record_Check_k0 R v22 w3))))))))))))

def F_logfile_turns_1 (t_ : T_api_Txn) (t1 : Option Addr) (R : Int → World → Prop) (w : World) : Prop :=
  ∀ b_ w1, b_ = w.heap.size → w1 = w.alloc (Obj.cells ([Value.int .i64 t_.Number, Value.slice t_.Writes.ptr t_.Writes.len t_.Writes.cap]).toArray ty_api_Txn (0, 0)) → (∃ (v5 : T_api_Txn), CellsAt w1 b_ 0 [Value.int .i64 v5.Number, Value.slice v5.Writes.ptr v5.Writes.len v5.Writes.cap] ∧ (C_record_Check v5 w1 (fun (v6 : Int) w2 => ((v6 != 0) = true → (R v6 w2)) ∧
  ((v6 != 0) = false → (∃ (v11 : Int), w2.cell? ⟨b_, 0, none⟩ = some (Value.int .i64 v11) ∧ (IsAt t1 ∧ (∃ (v12 : Int), w2.cell? ⟨(pblk t1), (poff t1), none⟩ = some (Value.int .i64 v12) ∧ (((v11 != v12) = true → (R 6 w2)) ∧
  ((v11 != v12) = false → (IsAt t1 ∧ (∃ (v14 : Int), w2.cell? ⟨(pblk t1), (poff t1), none⟩ = some (Value.int .i64 v14) ∧ (Writable w2 (pblk t1) (poff t1) 1 ∧ (∀ w3, w3 = World.puts (pblk t1) (poff t1) [Value.int .i64 (IntKind.i64.wrap (v14 + 1))] w2 → (R 0 w3))))))))))))))

def F_towpathref05_Number (n_ : Int) (R : Bool → World → Prop) (w : World) : Prop :=
  R ((decide (n_ ≥ 1)) && (decide (n_ ≤ 65536))) w

def F_towpathref05_Write (w_ : T_api_Write) (R : Bool → World → Prop) (w : World) : Prop :=
  ∀ b_ w1, b_ = w.heap.size → w1 = w.alloc (Obj.cells ([Value.string w_.Key, Value.string w_.Val, Value.bool w_.Drop]).toArray ty_api_Write (0, 0)) → (∃ (v4 : ByteArray), w1.cell? ⟨b_, 0, none⟩ = some (Value.string v4) ∧ (C_towpathref05_Key v4 w1 (fun (v5 : Bool) w2 => (v5 = true → (∃ (v8 : ByteArray), w2.cell? ⟨b_, 1, none⟩ = some (Value.string v8) ∧ (C_towpathref05_Val v8 w2 (fun (v9 : Bool) w3 => (v9 = true → (∃ (v13 : Bool), w3.cell? ⟨b_, 2, none⟩ = some (Value.bool v13) ∧ (((!v13) = true → (R true w3)) ∧
  ((!v13) = false → (∃ (v17 : ByteArray), w3.cell? ⟨b_, 1, none⟩ = some (Value.string v17) ∧ (R (((v17.size : Nat) : Int) == 0) w3)))))) ∧
  (v9 = false → (R false w3)))))) ∧
  (v5 = false → (R false w2)))))

def F_towpathlaw01_word (n_ : Int) (R : ByteArray → World → Prop) (w : World) : Prop :=
  C_strconv_Itoa n_ w (fun (v4 : ByteArray) w1 => (((ByteArray.mk #[35]).size + v4.size : Nat) : Int) ≤ 9223372036854775807 ∧ (R ((ByteArray.mk #[35]) ++ v4) w1))

def F_record_Check_1 (w_ : T_api_Write) (R : Bool → World → Prop) (w : World) : Prop :=
  ∀ b_ w1, b_ = w.heap.size → w1 = w.alloc (Obj.cells ([Value.string w_.Key, Value.string w_.Val, Value.bool w_.Drop]).toArray ty_api_Write (0, 0)) → (∃ (v4 : ByteArray), w1.cell? ⟨b_, 0, none⟩ = some (Value.string v4) ∧ (((v4.toList == ByteArray.empty.toList) = true → (R true w1)) ∧
  ((v4.toList == ByteArray.empty.toList) = false → (∃ (v8 : ByteArray), w1.cell? ⟨b_, 0, none⟩ = some (Value.string v8) ∧ (((decide (((v8.size : Nat) : Int) > 64)) = true → (R true w1)) ∧
  ((decide (((v8.size : Nat) : Int) > 64)) = false → (∃ (v14 : ByteArray), w1.cell? ⟨b_, 1, none⟩ = some (Value.string v14) ∧ (((decide (((v14.size : Nat) : Int) > 1024)) = true → (R true w1)) ∧
  ((decide (((v14.size : Nat) : Int) > 1024)) = false → (∃ (v20 : Bool), w1.cell? ⟨b_, 2, none⟩ = some (Value.bool v20) ∧ ((v20 = true → (∃ (v23 : ByteArray), w1.cell? ⟨b_, 1, none⟩ = some (Value.string v23) ∧ (R (!(v23.toList == ByteArray.empty.toList)) w1))) ∧
  (v20 = false → (R false w1)))))))))))))

def F_slices_ContainsFunc_api_Write_api_Write (s : Slc) (f : Value) (R : Bool → World → Prop) (w : World) : Prop :=
  C_slices_IndexFunc_api_Write_api_Write s f w (fun (v7 : Int) w1 => R (decide (v7 ≥ 0)) w1)

def F_towpathref05_Val (s : ByteArray) (R : Bool → World → Prop) (w : World) : Prop :=
  R (decide (((s.size : Nat) : Int) ≤ 1024)) w

def F_strconv_Itoa (i : Int) (R : ByteArray → World → Prop) (w : World) : Prop :=
  C_internal_strconv_Itoa i w (fun (v4 : ByteArray) w1 => R v4 w1)

def F_slices_IndexFunc_api_Write_api_Write_L0 (s : Slc) (f : Value) (R : Int → World → Prop) (again_ : Int → World → Prop) (t8 : Int) (w1 : World) : Prop :=
  ((decide (t8 < ((s.len : Nat) : Int))) = true → (IsAt s.ptr ∧ (0 ≤ t8 ∧ t8 < ((s.len : Nat) : Int) ∧ (∃ (v15 : T_api_Write), CellsAt w1 (pblk s.ptr) ((poff s.ptr) + t8.toNat * 3) [Value.string v15.Key, Value.string v15.Val, Value.bool v15.Drop] ∧ (CallsV (P := Tryz.prog) f #[Value.agg #[Value.string v15.Key, Value.string v15.Val, Value.bool v15.Drop]] w1 (fun e' w2 => ∃ (v16 : Bool), e' = Ending.returned (Value.bool v16) ∧ ((v16 = true → (R t8 w2)) ∧
  (v16 = false → (again_ (IntKind.i64.wrap (t8 + 1)) w2))))))))) ∧
  ((decide (t8 < ((s.len : Nat) : Int))) = false → (R (-1) w1))

def F_slices_IndexFunc_api_Write_api_Write (s : Slc) (f : Value) (R : Int → World → Prop) (w : World) : Prop :=
  ∃ (I : Int → World → Prop) (μ : Int → World → Nat), I 0 w ∧
  ∀ (t8 : Int) w, I t8 w → F_slices_IndexFunc_api_Write_api_Write_L0 s f R (fun (t8' : Int) w' => I t8' w' ∧ μ t8' w' < μ t8 w) t8 w

def F_internal_strconv_Itoa (i : Int) (R : ByteArray → World → Prop) (w : World) : Prop :=
  C_internal_strconv_FormatInt i 10 w (fun (v4 : ByteArray) w1 => R v4 w1)

def Ok_T_api_Write (w : World) (x : T_api_Write) : Prop := (x.Key.size ≤ 140737488351232) ∧ (x.Val.size ≤ 140737488351232) ∧ True

def Ok_T_api_Txn (w : World) (x : T_api_Txn) : Prop := ((-9223372036854775808) ≤ x.Number ∧ x.Number ≤ 9223372036854775807) ∧ (OkSl w x.Writes 3 40 (fun es => ∃ e_ : T_api_Write, es = [Value.string e_.Key, Value.string e_.Val, Value.bool e_.Drop] ∧ (Ok_T_api_Write w e_)))

end Go.Proofs.YtpdegdnigcnjiaaGreatDoor
