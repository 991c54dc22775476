/- WRITTEN BY PROGRAM (dec.py): for each Go function the clean formula F, the call's contract C, and the proof S that F gives C. -/
import Derived.Test.YtpedclhflmhakaaGreatDoorRows
import Derived.Test.YtpedclhflmhakaaGreatDoorCore
namespace Go.Proofs.YtpedclhflmhakaaGreatDoor
open Go
set_option linter.unusedVariables false


abbrev ty_int : TypeId := 3

abbrev ty_towpathlaw01_Book : TypeId := 35

abbrev ty_api_Txn : TypeId := 49

abbrev ty_api_Write : TypeId := 80

abbrev ty_logfile_Source : TypeId := 95

abbrev ty_struct : TypeId := 98

abbrev ty_feed_Feed : TypeId := 102

abbrev ty_towpathlaw01_heldWrite : TypeId := 156

abbrev ty_24_uint8 : TypeId := 216

structure T_api_Txn where
  Number : Int
  Writes : Slc

structure T_api_Write where
  Key : ByteArray
  Val : ByteArray
  Drop : Bool

structure T_towpathlaw01_heldWrite where
  l : Slc
  long : Slc
  n : Int

def C_towpathlaw16_FeedOwn (l_ : Slc) (w : World) (R : Bool → World → Prop) : Prop :=
  Calls Tryz.prog 3 #[Value.slice l_.ptr l_.len l_.cap] w (fun e w' => ∃ (r0 : Bool), e = .returned (Value.bool r0) ∧ R r0 w')

def C_logfile_New (l_ : Slc) (w : World) (R : Option Addr → Int → World → Prop) : Prop :=
  Calls Tryz.prog 5 #[Value.slice l_.ptr l_.len l_.cap] w (fun e w' => ∃ (r0 : Option Addr) (r1 : Int), e = .returned (Value.tuple #[Value.pointer r0, Value.int .i64 r1]) ∧ R r0 r1 w')

def C_feed_New (s : Option Addr) (mark : Int) (beyond : Slc) (window : Int) (w : World) (R : Option Addr → Int → World → Prop) : Prop :=
  Calls Tryz.prog 6 #[Value.pointer s, Value.int .i64 mark, Value.slice beyond.ptr beyond.len beyond.cap, Value.int .i64 window] w (fun e w' => ∃ (r0 : Option Addr) (r1 : Int), e = .returned (Value.tuple #[Value.pointer r0, Value.int .i64 r1]) ∧ R r0 r1 w')

def C_towpathlaw16_lives (w : World) (R : Bool → World → Prop) : Prop :=
  Calls Tryz.prog 7 #[] w (fun e w' => ∃ (r0 : Bool), e = .returned (Value.bool r0) ∧ R r0 w')

def C_feed_Feed_More (f : Option Addr) (last : Int) (w : World) (R : Int → World → Prop) : Prop :=
  Calls Tryz.prog 8 #[Value.pointer f, Value.int .i64 last] w (fun e w' => ∃ (r0 : Int), e = .returned (Value.int .i64 r0) ∧ R r0 w')

def C_feed_Feed_Read (f : Option Addr) (w : World) (R : Int → Int → World → Prop) : Prop :=
  Calls Tryz.prog 9 #[Value.pointer f] w (fun e w' => ∃ (r0 : Int) (r1 : Int), e = .returned (Value.tuple #[Value.int .i64 r0, Value.int .i64 r1]) ∧ R r0 r1 w')

def C_feed_Feed_Dispatch (f : Option Addr) (mark : Int) (w : World) (R : T_api_Txn → Int → World → Prop) : Prop :=
  Calls Tryz.prog 10 #[Value.pointer f, Value.int .i64 mark] w (fun e w' => ∃ (r0 : T_api_Txn) (r1 : Int), e = .returned (Value.tuple #[Value.agg #[Value.int .i64 r0.Number, Value.slice r0.Writes.ptr r0.Writes.len r0.Writes.cap], Value.int .i64 r1]) ∧ R r0 r1 w')

def C_towpathlaw01_SameTxn (a_ : T_api_Txn) (b_ : T_api_Txn) (w : World) (R : Bool → World → Prop) : Prop :=
  Calls Tryz.prog 11 #[Value.agg #[Value.int .i64 a_.Number, Value.slice a_.Writes.ptr a_.Writes.len a_.Writes.cap], Value.agg #[Value.int .i64 b_.Number, Value.slice b_.Writes.ptr b_.Writes.len b_.Writes.cap]] w (fun e w' => ∃ (r0 : Bool), e = .returned (Value.bool r0) ∧ R r0 w')

def C_towpathlaw01_Book_Txn (b_ : Option Addr) (t_ : T_api_Txn) (w : World) (R : World → Prop) : Prop :=
  Calls Tryz.prog 12 #[Value.pointer b_, Value.agg #[Value.int .i64 t_.Number, Value.slice t_.Writes.ptr t_.Writes.len t_.Writes.cap]] w (fun e w' => e = .returned (Value.tuple #[]) ∧ R w')

def C_towpathlaw01_Book_Apart (b_ : Option Addr) (w : World) (R : Bool → World → Prop) : Prop :=
  Calls Tryz.prog 13 #[Value.pointer b_] w (fun e w' => ∃ (r0 : Bool), e = .returned (Value.bool r0) ∧ R r0 w')

def C_logfile_Check (l_ : Slc) (w : World) (R : Int → World → Prop) : Prop :=
  Calls Tryz.prog 25 #[Value.slice l_.ptr l_.len l_.cap] w (fun e w' => ∃ (r0 : Int), e = .returned (Value.int .i64 r0) ∧ R r0 w')

def C_logfile_copied (t_ : T_api_Txn) (w : World) (R : T_api_Txn → World → Prop) : Prop :=
  Calls Tryz.prog 26 #[Value.agg #[Value.int .i64 t_.Number, Value.slice t_.Writes.ptr t_.Writes.len t_.Writes.cap]] w (fun e w' => ∃ (r0 : T_api_Txn), e = .returned (Value.agg #[Value.int .i64 r0.Number, Value.slice r0.Writes.ptr r0.Writes.len r0.Writes.cap]) ∧ R r0 w')

def C_logfile_Source_Last (s : Option Addr) (w : World) (R : Int → World → Prop) : Prop :=
  Calls Tryz.prog 27 #[Value.pointer s] w (fun e w' => ∃ (r0 : Int), e = .returned (Value.int .i64 r0) ∧ R r0 w')

def C_towpathlaw16_three (w : World) (R : Slc → World → Prop) : Prop :=
  Calls Tryz.prog 28 #[] w (fun e w' => ∃ (r0 : Slc), e = .returned (Value.slice r0.ptr r0.len r0.cap) ∧ R r0 w')

def C_feed_Feed_Can (f : Option Addr) (mark : Int) (w : World) (R : Int → World → Prop) : Prop :=
  Calls Tryz.prog 29 #[Value.pointer f, Value.int .i64 mark] w (fun e w' => ∃ (r0 : Int), e = .returned (Value.int .u8 r0) ∧ R r0 w')

def C_feed_Feed_there (f : Option Addr) (w : World) (R : Bool → World → Prop) : Prop :=
  Calls Tryz.prog 30 #[Value.pointer f] w (fun e w' => ∃ (r0 : Bool), e = .returned (Value.bool r0) ∧ R r0 w')

def C_logfile_Source_Get (s : Option Addr) (number : Int) (w : World) (R : T_api_Txn → Int → World → Prop) : Prop :=
  Calls Tryz.prog 31 #[Value.pointer s, Value.int .i64 number] w (fun e w' => ∃ (r0 : T_api_Txn) (r1 : Int), e = .returned (Value.tuple #[Value.agg #[Value.int .i64 r0.Number, Value.slice r0.Writes.ptr r0.Writes.len r0.Writes.cap], Value.int .i64 r1]) ∧ R r0 r1 w')

def C_feed_Feed_skips (f : Option Addr) (w : World) (R : Bool → World → Prop) : Prop :=
  Calls Tryz.prog 32 #[Value.pointer f] w (fun e w' => ∃ (r0 : Bool), e = .returned (Value.bool r0) ∧ R r0 w')

def C_feed_Feed_near (f : Option Addr) (mark : Int) (w : World) (R : Bool → World → Prop) : Prop :=
  Calls Tryz.prog 33 #[Value.pointer f, Value.int .i64 mark] w (fun e w' => ∃ (r0 : Bool), e = .returned (Value.bool r0) ∧ R r0 w')

def C_towpathlaw01_SameWrites (a_ : Slc) (b_ : Slc) (w : World) (R : Bool → World → Prop) : Prop :=
  Calls Tryz.prog 34 #[Value.slice a_.ptr a_.len a_.cap, Value.slice b_.ptr b_.len b_.cap] w (fun e w' => ∃ (r0 : Bool), e = .returned (Value.bool r0) ∧ R r0 w')

def C_towpathlaw01_Book_Writes (b_ : Option Addr) (l_ : Slc) (w : World) (R : World → Prop) : Prop :=
  Calls Tryz.prog 35 #[Value.pointer b_, Value.slice l_.ptr l_.len l_.cap] w (fun e w' => e = .returned (Value.tuple #[]) ∧ R w')

def C_towpathlaw01_Book_fillByte (b_ : Option Addr) (w : World) (R : World → Prop) : Prop :=
  Calls Tryz.prog 36 #[Value.pointer b_] w (fun e w' => e = .returned (Value.tuple #[]) ∧ R w')

def C_towpathlaw01_Book_fillInt (b_ : Option Addr) (w : World) (R : World → Prop) : Prop :=
  Calls Tryz.prog 37 #[Value.pointer b_] w (fun e w' => e = .returned (Value.tuple #[]) ∧ R w')

def C_towpathlaw01_Book_fillText (b_ : Option Addr) (w : World) (R : World → Prop) : Prop :=
  Calls Tryz.prog 38 #[Value.pointer b_] w (fun e w' => e = .returned (Value.tuple #[]) ∧ R w')

def C_towpathlaw01_Book_fillWrite (b_ : Option Addr) (w : World) (R : World → Prop) : Prop :=
  Calls Tryz.prog 39 #[Value.pointer b_] w (fun e w' => e = .returned (Value.tuple #[]) ∧ R w')

def C_towpathlaw01_Book_fillEntry (b_ : Option Addr) (w : World) (R : World → Prop) : Prop :=
  Calls Tryz.prog 40 #[Value.pointer b_] w (fun e w' => e = .returned (Value.tuple #[]) ∧ R w')

def C_towpathlaw01_Book_fillVersion (b_ : Option Addr) (w : World) (R : World → Prop) : Prop :=
  Calls Tryz.prog 41 #[Value.pointer b_] w (fun e w' => e = .returned (Value.tuple #[]) ∧ R w')

def C_towpathlaw01_Book_fillTxn (b_ : Option Addr) (w : World) (R : World → Prop) : Prop :=
  Calls Tryz.prog 42 #[Value.pointer b_] w (fun e w' => e = .returned (Value.tuple #[]) ∧ R w')

def C_towpathlaw01_Book_fillHeld (b_ : Option Addr) (w : World) (R : World → Prop) : Prop :=
  Calls Tryz.prog 43 #[Value.pointer b_] w (fun e w' => e = .returned (Value.tuple #[]) ∧ R w')

def C_towpathlaw01_Book_fillHeldList (b_ : Option Addr) (w : World) (R : World → Prop) : Prop :=
  Calls Tryz.prog 44 #[Value.pointer b_] w (fun e w' => e = .returned (Value.tuple #[]) ∧ R w')

def C_towpathlaw01_Book_fillEvent (b_ : Option Addr) (w : World) (R : World → Prop) : Prop :=
  Calls Tryz.prog 45 #[Value.pointer b_] w (fun e w' => e = .returned (Value.tuple #[]) ∧ R w')

def C_towpathlaw01_Book_fillAnswer (b_ : Option Addr) (w : World) (R : World → Prop) : Prop :=
  Calls Tryz.prog 46 #[Value.pointer b_] w (fun e w' => e = .returned (Value.tuple #[]) ∧ R w')

def C_towpathlaw01_Book_growByte (b_ : Option Addr) (w : World) (R : World → Prop) : Prop :=
  Calls Tryz.prog 47 #[Value.pointer b_] w (fun e w' => e = .returned (Value.tuple #[]) ∧ R w')

def C_towpathlaw01_Book_growInt (b_ : Option Addr) (w : World) (R : World → Prop) : Prop :=
  Calls Tryz.prog 48 #[Value.pointer b_] w (fun e w' => e = .returned (Value.tuple #[]) ∧ R w')

def C_towpathlaw01_Book_growText (b_ : Option Addr) (w : World) (R : World → Prop) : Prop :=
  Calls Tryz.prog 49 #[Value.pointer b_] w (fun e w' => e = .returned (Value.tuple #[]) ∧ R w')

def C_towpathlaw01_Book_growWrite (b_ : Option Addr) (w : World) (R : World → Prop) : Prop :=
  Calls Tryz.prog 50 #[Value.pointer b_] w (fun e w' => e = .returned (Value.tuple #[]) ∧ R w')

def C_towpathlaw01_Book_growEntry (b_ : Option Addr) (w : World) (R : World → Prop) : Prop :=
  Calls Tryz.prog 51 #[Value.pointer b_] w (fun e w' => e = .returned (Value.tuple #[]) ∧ R w')

def C_towpathlaw01_Book_growVersion (b_ : Option Addr) (w : World) (R : World → Prop) : Prop :=
  Calls Tryz.prog 52 #[Value.pointer b_] w (fun e w' => e = .returned (Value.tuple #[]) ∧ R w')

def C_towpathlaw01_Book_growTxn (b_ : Option Addr) (w : World) (R : World → Prop) : Prop :=
  Calls Tryz.prog 53 #[Value.pointer b_] w (fun e w' => e = .returned (Value.tuple #[]) ∧ R w')

def C_towpathlaw01_Book_growHeld (b_ : Option Addr) (w : World) (R : World → Prop) : Prop :=
  Calls Tryz.prog 54 #[Value.pointer b_] w (fun e w' => e = .returned (Value.tuple #[]) ∧ R w')

def C_towpathlaw01_Book_growHeldList (b_ : Option Addr) (w : World) (R : World → Prop) : Prop :=
  Calls Tryz.prog 55 #[Value.pointer b_] w (fun e w' => e = .returned (Value.tuple #[]) ∧ R w')

def C_towpathlaw01_Book_growEvent (b_ : Option Addr) (w : World) (R : World → Prop) : Prop :=
  Calls Tryz.prog 56 #[Value.pointer b_] w (fun e w' => e = .returned (Value.tuple #[]) ∧ R w')

def C_towpathlaw01_Book_growAnswer (b_ : Option Addr) (w : World) (R : World → Prop) : Prop :=
  Calls Tryz.prog 57 #[Value.pointer b_] w (fun e w' => e = .returned (Value.tuple #[]) ∧ R w')

def C_towpathlaw01_Book_lookByte (b_ : Option Addr) (w : World) (R : Bool → World → Prop) : Prop :=
  Calls Tryz.prog 58 #[Value.pointer b_] w (fun e w' => ∃ (r0 : Bool), e = .returned (Value.bool r0) ∧ R r0 w')

def C_towpathlaw01_Book_lookInt (b_ : Option Addr) (w : World) (R : Bool → World → Prop) : Prop :=
  Calls Tryz.prog 59 #[Value.pointer b_] w (fun e w' => ∃ (r0 : Bool), e = .returned (Value.bool r0) ∧ R r0 w')

def C_towpathlaw01_Book_lookText (b_ : Option Addr) (w : World) (R : Bool → World → Prop) : Prop :=
  Calls Tryz.prog 60 #[Value.pointer b_] w (fun e w' => ∃ (r0 : Bool), e = .returned (Value.bool r0) ∧ R r0 w')

def C_towpathlaw01_Book_lookWrite (b_ : Option Addr) (w : World) (R : Bool → World → Prop) : Prop :=
  Calls Tryz.prog 61 #[Value.pointer b_] w (fun e w' => ∃ (r0 : Bool), e = .returned (Value.bool r0) ∧ R r0 w')

def C_towpathlaw01_Book_lookEntry (b_ : Option Addr) (w : World) (R : Bool → World → Prop) : Prop :=
  Calls Tryz.prog 62 #[Value.pointer b_] w (fun e w' => ∃ (r0 : Bool), e = .returned (Value.bool r0) ∧ R r0 w')

def C_towpathlaw01_Book_lookVersion (b_ : Option Addr) (w : World) (R : Bool → World → Prop) : Prop :=
  Calls Tryz.prog 63 #[Value.pointer b_] w (fun e w' => ∃ (r0 : Bool), e = .returned (Value.bool r0) ∧ R r0 w')

def C_towpathlaw01_Book_lookTxn (b_ : Option Addr) (w : World) (R : Bool → World → Prop) : Prop :=
  Calls Tryz.prog 64 #[Value.pointer b_] w (fun e w' => ∃ (r0 : Bool), e = .returned (Value.bool r0) ∧ R r0 w')

def C_towpathlaw01_Book_lookHeld (b_ : Option Addr) (w : World) (R : Bool → World → Prop) : Prop :=
  Calls Tryz.prog 65 #[Value.pointer b_] w (fun e w' => ∃ (r0 : Bool), e = .returned (Value.bool r0) ∧ R r0 w')

def C_towpathlaw01_Book_lookHeldList (b_ : Option Addr) (w : World) (R : Bool → World → Prop) : Prop :=
  Calls Tryz.prog 66 #[Value.pointer b_] w (fun e w' => ∃ (r0 : Bool), e = .returned (Value.bool r0) ∧ R r0 w')

def C_towpathlaw01_Book_lookEvent (b_ : Option Addr) (w : World) (R : Bool → World → Prop) : Prop :=
  Calls Tryz.prog 67 #[Value.pointer b_] w (fun e w' => ∃ (r0 : Bool), e = .returned (Value.bool r0) ∧ R r0 w')

def C_towpathlaw01_Book_lookAnswer (b_ : Option Addr) (w : World) (R : Bool → World → Prop) : Prop :=
  Calls Tryz.prog 68 #[Value.pointer b_] w (fun e w' => ∃ (r0 : Bool), e = .returned (Value.bool r0) ∧ R r0 w')

def C_logfile_turns (w : World) (R : Value → World → Prop) : Prop :=
  Calls Tryz.prog 88 #[] w (fun e w' => ∃ (r0 : Value), e = .returned (r0) ∧ R r0 w')

def C_slices_Clone_api_Write_api_Write (s : Slc) (w : World) (R : Slc → World → Prop) : Prop :=
  Calls Tryz.prog 89 #[Value.slice s.ptr s.len s.cap] w (fun e w' => ∃ (r0 : Slc), e = .returned (Value.slice r0.ptr r0.len r0.cap) ∧ R r0 w')

def C_towpathlaw01_Book_keepWrite (b_ : Option Addr) (l_ : Slc) (w : World) (R : World → Prop) : Prop :=
  Calls Tryz.prog 90 #[Value.pointer b_, Value.slice l_.ptr l_.len l_.cap] w (fun e w' => e = .returned (Value.tuple #[]) ∧ R w')

def C_towpathlaw01_markWrite (n_ : Int) (w : World) (R : T_api_Write → World → Prop) : Prop :=
  Calls Tryz.prog 94 #[Value.int .i64 n_] w (fun e w' => ∃ (r0 : T_api_Write), e = .returned (Value.agg #[Value.string r0.Key, Value.string r0.Val, Value.bool r0.Drop]) ∧ R r0 w')

def C_towpathlaw01_isWrite (x : T_api_Write) (n_ : Int) (w : World) (R : Bool → World → Prop) : Prop :=
  Calls Tryz.prog 105 #[Value.agg #[Value.string x.Key, Value.string x.Val, Value.bool x.Drop], Value.int .i64 n_] w (fun e w' => ∃ (r0 : Bool), e = .returned (Value.bool r0) ∧ R r0 w')

def C_logfile_turns_1 (t_ : T_api_Txn) (t1 : Option Addr) (w : World) (R : Int → World → Prop) : Prop :=
  Calls Tryz.prog 124 #[Value.agg #[Value.int .i64 t_.Number, Value.slice t_.Writes.ptr t_.Writes.len t_.Writes.cap], Value.pointer t1] w (fun e w' => ∃ (r0 : Int), e = .returned (Value.int .i64 r0) ∧ R r0 w')

def C_record_Check (t_ : T_api_Txn) (w : World) (R : Int → World → Prop) : Prop :=
  Calls Tryz.prog 125 #[Value.agg #[Value.int .i64 t_.Number, Value.slice t_.Writes.ptr t_.Writes.len t_.Writes.cap]] w (fun e w' => ∃ (r0 : Int), e = .returned (Value.int .i64 r0) ∧ R r0 w')

def C_towpathlaw01_word (n_ : Int) (w : World) (R : ByteArray → World → Prop) : Prop :=
  Calls Tryz.prog 126 #[Value.int .i64 n_] w (fun e w' => ∃ (r0 : ByteArray), e = .returned (Value.string r0) ∧ R r0 w')

def C_record_Check_1 (w_ : T_api_Write) (w : World) (R : Bool → World → Prop) : Prop :=
  Calls Tryz.prog 134 #[Value.agg #[Value.string w_.Key, Value.string w_.Val, Value.bool w_.Drop]] w (fun e w' => ∃ (r0 : Bool), e = .returned (Value.bool r0) ∧ R r0 w')

def C_slices_ContainsFunc_api_Write_api_Write (s : Slc) (f : Value) (w : World) (R : Bool → World → Prop) : Prop :=
  Calls Tryz.prog 135 #[Value.slice s.ptr s.len s.cap, f] w (fun e w' => ∃ (r0 : Bool), e = .returned (Value.bool r0) ∧ R r0 w')

def C_strconv_Itoa (i : Int) (w : World) (R : ByteArray → World → Prop) : Prop :=
  Calls Tryz.prog 136 #[Value.int .i64 i] w (fun e w' => ∃ (r0 : ByteArray), e = .returned (Value.string r0) ∧ R r0 w')

def C_slices_IndexFunc_api_Write_api_Write (s : Slc) (f : Value) (w : World) (R : Int → World → Prop) : Prop :=
  Calls Tryz.prog 140 #[Value.slice s.ptr s.len s.cap, f] w (fun e w' => ∃ (r0 : Int), e = .returned (Value.int .i64 r0) ∧ R r0 w')

def C_internal_strconv_Itoa (i : Int) (w : World) (R : ByteArray → World → Prop) : Prop :=
  Calls Tryz.prog 141 #[Value.int .i64 i] w (fun e w' => ∃ (r0 : ByteArray), e = .returned (Value.string r0) ∧ R r0 w')

def C_internal_strconv_FormatInt (i : Int) (base : Int) (w : World) (R : ByteArray → World → Prop) : Prop :=
  Calls Tryz.prog 144 #[Value.int .i64 i, Value.int .i64 base] w (fun e w' => ∃ (r0 : ByteArray), e = .returned (Value.string r0) ∧ R r0 w')

def F_towpathlaw16_FeedOwn_k2 (R : Bool → World → Prop) (b_ : Nat) (n_ : Int) (again_1 : Int → World → Prop) (b_1 : Nat) (t65 : Bool) (w12 : World) : Prop :=
  (t65 = true → (R false w12)) ∧
  (t65 = false → (∃ (v66 : T_api_Txn), CellsAt w12 b_1 0 [Value.int .i64 v66.Number, Value.slice v66.Writes.ptr v66.Writes.len v66.Writes.cap] ∧ (C_towpathlaw01_Book_Txn (some ⟨b_, 0, none⟩) v66 w12 (fun w13 => again_1 (IntKind.i64.wrap (n_ + 1)) w13))))

def F_towpathlaw16_FeedOwn_L1 (l_ : Slc) (R : Bool → World → Prop) (b_ : Nat) (i : Int) (again_ : Int → World → Prop) (f : Option Addr) (again_1 : Int → World → Prop) (n_ : Int) (w7 : World) : Prop :=
  (((decide (n_ < ((l_.len : Nat) : Int))) && (decide (n_ < 40))) = true → (C_feed_Feed_Read f w7 (fun (v48 : Int) (v48_1 : Int) w8 => C_feed_Feed_Dispatch f n_ w8 (fun (v52 : T_api_Txn) (e1 : Int) w9 => ∀ b_1 w10, b_1 = w9.heap.size → w10 = w9.alloc (Obj.cells ([Value.int .i64 0, Value.slice none 0 0]).toArray ty_api_Txn (0, 0)) → (Writable w10 b_1 0 2 ∧ (∀ w11, w11 = World.puts b_1 0 [Value.int .i64 v52.Number, Value.slice v52.Writes.ptr v52.Writes.len v52.Writes.cap] w10 → (∀ w14, (∃ k, w14 = w11.drewN k) → (((e1 != 0) = true → (F_towpathlaw16_FeedOwn_k2 R b_ n_ again_1 b_1 true w14)) ∧
  ((e1 != 0) = false → (∃ (v58 : T_api_Txn), CellsAt w14 b_1 0 [Value.int .i64 v58.Number, Value.slice v58.Writes.ptr v58.Writes.len v58.Writes.cap] ∧ (IsAt l_.ptr ∧ (0 ≤ n_ ∧ n_ < ((l_.len : Nat) : Int) ∧ (∃ (v62 : T_api_Txn), CellsAt w14 (pblk l_.ptr) ((poff l_.ptr) + n_.toNat * 2) [Value.int .i64 v62.Number, Value.slice v62.Writes.ptr v62.Writes.len v62.Writes.cap] ∧ (C_towpathlaw01_SameTxn v58 v62 w14 (fun (v63 : Bool) w15 => (F_towpathlaw16_FeedOwn_k2 R b_ n_ again_1 b_1 (!v63) w15)))))))))))))))) ∧
  (((decide (n_ < ((l_.len : Nat) : Int))) && (decide (n_ < 40))) = false → (again_ (IntKind.i64.wrap (i + 1)) w7))

def F_towpathlaw16_FeedOwn_L0 (l_ : Slc) (R : Bool → World → Prop) (b_ : Nat) (again_ : Int → World → Prop) (i : Int) (w2 : World) : Prop :=
  ((decide (i < 2)) = true → (C_logfile_New l_ w2 (fun (s : Option Addr) (e : Int) w3 => C_feed_New s 0 (Slc.mk none 0 0) 64 w3 (fun (f : Option Addr) (g : Int) w4 => (((e != 0) || (g != 0)) = true → (C_towpathlaw16_lives w4 (fun (v32 : Bool) w5 => R v32 w5))) ∧
  (((e != 0) || (g != 0)) = false → (C_feed_Feed_More f ((l_.len : Nat) : Int) w4 (fun (v36 : Int) w6 => ∃ (I : Int → World → Prop) (μ : Int → World → Nat), I 0 w6 ∧
  ∀ (n_ : Int) w, I n_ w → F_towpathlaw16_FeedOwn_L1 l_ R b_ i again_ f (fun (n_' : Int) w' => I n_' w' ∧ μ n_' w' < μ n_ w) n_ w))))))) ∧
  ((decide (i < 2)) = false → (C_towpathlaw01_Book_Apart (some ⟨b_, 0, none⟩) w2 (fun (v68 : Bool) w16 => (v68 = true → (C_towpathlaw16_lives w16 (fun (v70 : Bool) w17 => R v70 w17))) ∧
  (v68 = false → (R false w16)))))

def F_towpathlaw16_FeedOwn (l_ : Slc) (R : Bool → World → Prop) (w : World) : Prop :=
  ∀ b_ w1, b_ = w.heap.size → w1 = w.alloc (Obj.cells ([Value.int .i64 0, Value.slice none 0 0, Value.slice none 0 0, Value.slice none 0 0, Value.slice none 0 0, Value.slice none 0 0, Value.slice none 0 0, Value.slice none 0 0, Value.slice none 0 0, Value.slice none 0 0, Value.slice none 0 0, Value.slice none 0 0]).toArray ty_towpathlaw01_Book (0, 0)) → (∃ (I : Int → World → Prop) (μ : Int → World → Nat), I 0 w1 ∧
  ∀ (i : Int) w, I i w → F_towpathlaw16_FeedOwn_L0 l_ R b_ (fun (i' : Int) w' => I i' w' ∧ μ i' w' < μ i w) i w)

def F_logfile_New_L0 (l_ : Slc) (R : Option Addr → Int → World → Prop) (b_ : Nat) (again_ : Int → World → Prop) (t17 : Int) (w3 : World) : Prop :=
  ((decide (t17 < ((l_.len : Nat) : Int))) = true → (IsAt l_.ptr ∧ (0 ≤ t17 ∧ t17 < ((l_.len : Nat) : Int) ∧ (∃ (v20 : T_api_Txn), CellsAt w3 (pblk l_.ptr) ((poff l_.ptr) + t17.toNat * 2) [Value.int .i64 v20.Number, Value.slice v20.Writes.ptr v20.Writes.len v20.Writes.cap] ∧ (∀ b_1 w4, b_1 = w3.heap.size → w4 = w3.alloc (Obj.cells ([Value.int .i64 0, Value.slice none 0 0]).toArray ty_api_Txn (0, 0)) → (Writable w4 b_1 0 2 ∧ (∀ w5, w5 = World.puts b_1 0 [Value.int .i64 v20.Number, Value.slice v20.Writes.ptr v20.Writes.len v20.Writes.cap] w4 → (∀ w6, (∃ k, w6 = w5.drewN k) → (∃ (v25 : Slc), w6.cell? ⟨b_, 1, none⟩ = some (Value.slice v25.ptr v25.len v25.cap) ∧ (∃ (v26 : T_api_Txn), CellsAt w6 b_1 0 [Value.int .i64 v26.Number, Value.slice v26.Writes.ptr v26.Writes.len v26.Writes.cap] ∧ (C_logfile_copied v26 w6 (fun (v27 : T_api_Txn) w7 => w7.cell? ⟨b_, 1, none⟩ = some (Value.slice v25.ptr v25.len v25.cap) ∧ (∀ b_2 w8, b_2 = w7.heap.size → w8 = w7.alloc (Obj.cells ([Value.int .i64 v27.Number, Value.slice v27.Writes.ptr v27.Writes.len v27.Writes.cap]).toArray ty_api_Txn (0, 0)) → (w8.cell? ⟨b_, 1, none⟩ = some (Value.slice v25.ptr v25.len v25.cap) ∧ (∃ src, SrcAt w8 (Slc.mk (some ⟨b_2, 0, none⟩) 1 1) 2 src ∧ AppendW 2 32 ty_api_Txn [Value.int .i64 0, Value.slice none 0 0] v25 src 1 w8 (fun v29 w9 => (Writable w9 b_ 1 1 ∧ (∀ w10, w10 = World.puts b_ 1 [Value.slice v29.ptr v29.len v29.cap] w9 → ((again_ (IntKind.i64.wrap (t17 + 1)) w10)))))))))))))))))))) ∧
  ((decide (t17 < ((l_.len : Nat) : Int))) = false → (R (some ⟨b_, 0, none⟩) 0 w3))

def F_logfile_New (l_ : Slc) (R : Option Addr → Int → World → Prop) (w : World) : Prop :=
  C_logfile_Check l_ w (fun (v9 : Int) w1 => ((v9 != 0) = true → (R none v9 w1)) ∧
  ((v9 != 0) = false → (∀ b_ w2, b_ = w1.heap.size → w2 = w1.alloc (Obj.cells ([Value.bool true, Value.slice none 0 0, Value.slice none 0 0]).toArray ty_logfile_Source (0, 0)) → (∃ (I : Int → World → Prop) (μ : Int → World → Nat), I 0 w2 ∧
  ∀ (t17 : Int) w, I t17 w → F_logfile_New_L0 l_ R b_ (fun (t17' : Int) w' => I t17' w' ∧ μ t17' w' < μ t17 w) t17 w))))

def F_feed_New_L0 (s : Option Addr) (mark : Int) (beyond : Slc) (window : Int) (R : Option Addr → Int → World → Prop) (b_ : Nat) (again_ : Int → Int → World → Prop) (last : Int) (t32 : Int) (w2 : World) : Prop :=
  ((decide (t32 < ((beyond.len : Nat) : Int))) = true → (IsAt beyond.ptr ∧ (0 ≤ t32 ∧ t32 < ((beyond.len : Nat) : Int) ∧ (∃ (n_ : Int), w2.cell? ⟨(pblk beyond.ptr), (poff beyond.ptr) + t32.toNat, none⟩ = some (Value.int .i64 n_) ∧ ((((decide (n_ ≤ last)) || ((t32 == 0) && (decide ((IntKind.i64.wrap (n_ - 1)) ≤ last)))) = true → (R none 1 w2)) ∧
  (((decide (n_ ≤ last)) || ((t32 == 0) && (decide ((IntKind.i64.wrap (n_ - 1)) ≤ last)))) = false → (∃ (r : Nat) (es : Array MapEntry) (c : Nat), (some b_) = some r ∧ w2.heap[r]? = some (.map es c) ∧ (MapInt es ∧ (mapHas es n_ = false ∧ (∀ w3, w3 = { w2 with heap := w2.heap.setIfInBounds r (.map (es.push ⟨.int .i64 n_, Value.agg #[], c⟩) (c + 1)) } → (again_ n_ (IntKind.i64.wrap (t32 + 1)) w3))))))))))) ∧
  ((decide (t32 < ((beyond.len : Nat) : Int))) = false → (C_logfile_Source_Last s w2 (fun (v57 : Int) w4 => ((decide (last > v57)) = true → (R none 6 w4)) ∧
  ((decide (last > v57)) = false → (∀ b_1 w5, b_1 = w4.heap.size → w5 = w4.alloc (Obj.cells ([Value.pointer s, Value.int .i64 mark, Value.int .i64 mark, Value.int .i64 window, Value.map (some b_), Value.pointer none, Value.bool false]).toArray ty_feed_Feed (0, 0)) → (R (some ⟨b_1, 0, none⟩) 0 w5))))))

def F_feed_New (s : Option Addr) (mark : Int) (beyond : Slc) (window : Int) (R : Option Addr → Int → World → Prop) (w : World) : Prop :=
  (s.isNone = true → (R none 2 w)) ∧
  (s.isNone = false → (((((decide (mark < 0)) || (decide (window < 1))) || (decide (window > 64))) = true → (R none 1 w)) ∧
  ((((decide (mark < 0)) || (decide (window < 1))) || (decide (window > 64))) = false → (∀ b_ w1, b_ = w.heap.size → w1 = w.alloc (Obj.map #[] 0) → (∃ (I : Int → Int → World → Prop) (μ : Int → Int → World → Nat), I mark 0 w1 ∧
  ∀ (last : Int) (t32 : Int) w, I last t32 w → F_feed_New_L0 s mark beyond window R b_ (fun (last' : Int) (t32' : Int) w' => I last' t32' w' ∧ μ last' t32' w' < μ last t32 w) last t32 w)))))

def F_towpathlaw16_lives_k0 (R : Bool → World → Prop) (f : Option Addr) (t34 : Bool) (w4 : World) : Prop :=
  (t34 = true → (R false w4)) ∧
  (t34 = false → (C_feed_Feed_Read f w4 (fun (n_ : Int) (e2 : Int) w5 => C_feed_Feed_Dispatch f 0 w5 (fun (v42 : T_api_Txn) (g : Int) w6 => ∀ b_ w7, b_ = w6.heap.size → w7 = w6.alloc (Obj.cells ([Value.int .i64 0, Value.slice none 0 0]).toArray ty_api_Txn (0, 0)) → (Writable w7 b_ 0 2 ∧ (∀ w8, w8 = World.puts b_ 0 [Value.int .i64 v42.Number, Value.slice v42.Writes.ptr v42.Writes.len v42.Writes.cap] w7 → (C_feed_Feed_Read f w8 (fun (m_ : Int) (h_ : Int) w9 => C_feed_Feed_Dispatch f 0 w9 (fun (v52 : T_api_Txn) (i : Int) w10 => ∀ b_1 w11, b_1 = w10.heap.size → w11 = w10.alloc (Obj.cells ([Value.int .i64 0, Value.slice none 0 0]).toArray ty_api_Txn (0, 0)) → (Writable w11 b_1 0 2 ∧ (∀ w12, w12 = World.puts b_1 0 [Value.int .i64 v52.Number, Value.slice v52.Writes.ptr v52.Writes.len v52.Writes.cap] w11 → (((((e2 == 0) && (n_ == 1)) && (g == 0)) = true → (∃ (v67 : Int), w12.cell? ⟨b_, 0, none⟩ = some (Value.int .i64 v67) ∧ ((((((v67 == 1) && (h_ == 0)) && (m_ == 2)) && (i == 6)) = true → (C_feed_Feed_Can f 1 w12 (fun (v84 : Int) w13 => R (v84 == 3) w13))) ∧
  (((((v67 == 1) && (h_ == 0)) && (m_ == 2)) && (i == 6)) = false → (R false w12))))) ∧
  ((((e2 == 0) && (n_ == 1)) && (g == 0)) = false → (R false w12))))))))))))))

def F_towpathlaw16_lives (R : Bool → World → Prop) (w : World) : Prop :=
  C_towpathlaw16_three w (fun (v12 : Slc) w1 => C_logfile_New v12 w1 (fun (s : Option Addr) (e : Int) w2 => ((e != 0) = true → (R false w2)) ∧
  ((e != 0) = false → (C_feed_New s 0 (Slc.mk none 0 0) 1 w2 (fun (f : Option Addr) (e1 : Int) w3 => ((e1 != 0) = true → (F_towpathlaw16_lives_k0 R f true w3)) ∧
  ((e1 != 0) = false → (C_feed_Feed_More f 2 w3 (fun (v27 : Int) w14 => ((v27 != 0) = true → (F_towpathlaw16_lives_k0 R f true w14)) ∧
  ((v27 != 0) = false → (C_feed_Feed_Can f 0 w14 (fun (v32 : Int) w15 => F_towpathlaw16_lives_k0 R f (v32 != 1) w15)))))))))))

def F_feed_Feed_More_k0 (f : Option Addr) (last : Int) (R : Int → World → Prop) (t14 : Bool) (w2 : World) : Prop :=
  (t14 = true → (R 1 w2)) ∧
  (t14 = false → (IsAt f ∧ (Writable w2 (pblk f) ((poff f) + 2) 1 ∧ (∀ w3, w3 = World.puts (pblk f) ((poff f) + 2) [Value.int .i64 last] w2 → (R 0 w3)))))

def F_feed_Feed_More (f : Option Addr) (last : Int) (R : Int → World → Prop) (w : World) : Prop :=
  C_feed_Feed_there f w (fun (v7 : Bool) w1 => ((!v7) = true → (R 2 w1)) ∧
  ((!v7) = false → (IsAt f ∧ (∃ (v13 : Bool), w1.cell? ⟨(pblk f), (poff f) + 6, none⟩ = some (Value.bool v13) ∧ ((v13 = true → (R 12 w1)) ∧
  (v13 = false → (IsAt f ∧ (∃ (v19 : Int), w1.cell? ⟨(pblk f), (poff f) + 2, none⟩ = some (Value.int .i64 v19) ∧ (((decide (last < v19)) = true → (F_feed_Feed_More_k0 f last R true w1)) ∧
  ((decide (last < v19)) = false → (IsAt f ∧ (∃ (v26 : Option Addr), w1.cell? ⟨(pblk f), (poff f), none⟩ = some (Value.pointer v26) ∧ (C_logfile_Source_Last v26 w1 (fun (v27 : Int) w4 => F_feed_Feed_More_k0 f last R (decide (last > v27)) w4))))))))))))))

def F_feed_Feed_Read_k0 (f : Option Addr) (R : Int → Int → World → Prop) (t_ : Option Addr) (e : Int) (w3 : World) : Prop :=
  ((e != 0) = true → (R 0 e w3)) ∧
  ((e != 0) = false → (IsAt f ∧ (∃ (v50 : Int), w3.cell? ⟨(pblk f), (poff f) + 1, none⟩ = some (Value.int .i64 v50) ∧ (Writable w3 (pblk f) ((poff f) + 1) 1 ∧ (∀ w4, w4 = World.puts (pblk f) ((poff f) + 1) [Value.int .i64 (IntKind.i64.wrap (v50 + 1))] w3 → (IsAt f ∧ (Writable w4 (pblk f) ((poff f) + 5) 1 ∧ (∀ w5, w5 = World.puts (pblk f) ((poff f) + 5) [Value.pointer t_] w4 → (IsAt t_ ∧ (∃ (v58 : Int), w5.cell? ⟨(pblk t_), (poff t_), none⟩ = some (Value.int .i64 v58) ∧ (R v58 0 w5)))))))))))

def F_feed_Feed_Read (f : Option Addr) (R : Int → Int → World → Prop) (w : World) : Prop :=
  C_feed_Feed_there f w (fun (v8 : Bool) w1 => ((!v8) = true → (R 0 2 w1)) ∧
  ((!v8) = false → (IsAt f ∧ (∃ (v14 : Option Addr), w1.cell? ⟨(pblk f), (poff f) + 5, none⟩ = some (Value.pointer v14) ∧ (((!v14.isNone) = true → (R 0 10 w1)) ∧
  ((!v14.isNone) = false → (IsAt f ∧ (∃ (v20 : Bool), w1.cell? ⟨(pblk f), (poff f) + 6, none⟩ = some (Value.bool v20) ∧ ((v20 = true → (R 0 12 w1)) ∧
  (v20 = false → (IsAt f ∧ (∃ (v25 : Int), w1.cell? ⟨(pblk f), (poff f) + 1, none⟩ = some (Value.int .i64 v25) ∧ (IsAt f ∧ (∃ (v29 : Int), w1.cell? ⟨(pblk f), (poff f) + 2, none⟩ = some (Value.int .i64 v29) ∧ (∀ w2, Ext w1 w2 → (((decide (v25 ≥ v29)) = true → (R 0 9 w2)) ∧
  ((decide (v25 ≥ v29)) = false → (∀ w6, (∃ k, w6 = w2.drewN k) → (IsAt f ∧ (∃ (v35 : Option Addr), w6.cell? ⟨(pblk f), (poff f), none⟩ = some (Value.pointer v35) ∧ (IsAt f ∧ (∃ (v39 : Int), w6.cell? ⟨(pblk f), (poff f) + 1, none⟩ = some (Value.int .i64 v39) ∧ ((C_logfile_Source_Get v35 (IntKind.i64.wrap (v39 + 1)) w6 (fun (v41 : T_api_Txn) (e1 : Int) w7 => (∀ b_ w8, b_ = w7.heap.size → w8 = w7.alloc (Obj.cells ([Value.int .i64 0, Value.slice none 0 0]).toArray ty_api_Txn (0, 0)) → ((Writable w8 b_ 0 2 ∧ (∀ w9, w9 = World.puts b_ 0 [Value.int .i64 v41.Number, Value.slice v41.Writes.ptr v41.Writes.len v41.Writes.cap] w8 → ((F_feed_Feed_Read_k0 f R (some ⟨b_, 0, none⟩) e1 w9)))))))) ∧
  (∀ b_1 w10, b_1 = w6.heap.size → w10 = w6.alloc (Obj.cells ([Value.int .i64 0, Value.slice none 0 0]).toArray ty_api_Txn (0, 0)) → (w10.cell? ⟨(pblk f), (poff f) + 1, none⟩ = some (Value.int .i64 v39) ∧ w10.cell? ⟨(pblk f), (poff f), none⟩ = some (Value.pointer v35) ∧ (C_logfile_Source_Get v35 (IntKind.i64.wrap (v39 + 1)) w10 (fun (v411 : T_api_Txn) (e2 : Int) w11 => (Writable w11 b_1 0 2 ∧ (∀ w12, w12 = World.puts b_1 0 [Value.int .i64 v411.Number, Value.slice v411.Writes.ptr v411.Writes.len v411.Writes.cap] w11 → ((F_feed_Feed_Read_k0 f R (some ⟨b_1, 0, none⟩) e2 w12)))))))))))))))))))))))))))))))

def F_feed_Feed_Dispatch_k0 (f : Option Addr) (R : T_api_Txn → Int → World → Prop) (b_ : Nat) (t19 : Bool) (w5 : World) : Prop :=
  (t19 = true → (Writable w5 b_ 0 2 ∧ (∀ w6, w6 = World.puts b_ 0 [Value.int .i64 0, Value.slice none 0 0] w5 → (∃ (res2 : T_api_Txn), CellsAt w6 b_ 0 [Value.int .i64 res2.Number, Value.slice res2.Writes.ptr res2.Writes.len res2.Writes.cap] ∧ (R res2 6 w6))))) ∧
  (t19 = false → (IsAt f ∧ (∃ (v32 : Option Addr), w5.cell? ⟨(pblk f), (poff f) + 5, none⟩ = some (Value.pointer v32) ∧ (IsAt v32 ∧ (∃ (v34 : T_api_Txn), CellsAt w5 (pblk v32) (poff v32) [Value.int .i64 v34.Number, Value.slice v34.Writes.ptr v34.Writes.len v34.Writes.cap] ∧ (∀ b_1 w7, b_1 = w5.heap.size → w7 = w5.alloc (Obj.cells ([Value.int .i64 0, Value.slice none 0 0]).toArray ty_api_Txn (0, 0)) → (Writable w7 b_1 0 2 ∧ (∀ w8, w8 = World.puts b_1 0 [Value.int .i64 v34.Number, Value.slice v34.Writes.ptr v34.Writes.len v34.Writes.cap] w7 → (IsAt f ∧ (Writable w8 (pblk f) ((poff f) + 5) 1 ∧ (∀ w9, w9 = World.puts (pblk f) ((poff f) + 5) [Value.pointer none] w8 → (∃ (v38 : T_api_Txn), CellsAt w9 b_1 0 [Value.int .i64 v38.Number, Value.slice v38.Writes.ptr v38.Writes.len v38.Writes.cap] ∧ (Writable w9 b_ 0 2 ∧ (∀ w10, w10 = World.puts b_ 0 [Value.int .i64 v38.Number, Value.slice v38.Writes.ptr v38.Writes.len v38.Writes.cap] w9 → (∃ (res3 : T_api_Txn), CellsAt w10 b_ 0 [Value.int .i64 res3.Number, Value.slice res3.Writes.ptr res3.Writes.len res3.Writes.cap] ∧ (R res3 0 w10))))))))))))))))

def F_feed_Feed_Dispatch (f : Option Addr) (mark : Int) (R : T_api_Txn → Int → World → Prop) (w : World) : Prop :=
  ∀ b_ w1, b_ = w.heap.size → w1 = w.alloc (Obj.cells ([Value.int .i64 0, Value.slice none 0 0]).toArray ty_api_Txn (0, 0)) → (C_feed_Feed_there f w1 (fun (v9 : Bool) w2 => ((!v9) = true → (Writable w2 b_ 0 2 ∧ (∀ w3, w3 = World.puts b_ 0 [Value.int .i64 0, Value.slice none 0 0] w2 → (∃ (res : T_api_Txn), CellsAt w3 b_ 0 [Value.int .i64 res.Number, Value.slice res.Writes.ptr res.Writes.len res.Writes.cap] ∧ (R res 2 w3))))) ∧
  ((!v9) = false → (IsAt f ∧ (∃ (v16 : Option Addr), w2.cell? ⟨(pblk f), (poff f) + 5, none⟩ = some (Value.pointer v16) ∧ ((v16.isNone = true → (Writable w2 b_ 0 2 ∧ (∀ w4, w4 = World.puts b_ 0 [Value.int .i64 0, Value.slice none 0 0] w2 → (∃ (res1 : T_api_Txn), CellsAt w4 b_ 0 [Value.int .i64 res1.Number, Value.slice res1.Writes.ptr res1.Writes.len res1.Writes.cap] ∧ (R res1 9 w4))))) ∧
  (v16.isNone = false → (C_feed_Feed_skips f w2 (fun (v21 : Bool) w11 => (v21 = true → (F_feed_Feed_Dispatch_k0 f R b_ true w11)) ∧
  (v21 = false → (C_feed_Feed_near f mark w11 (fun (v25 : Bool) w12 => F_feed_Feed_Dispatch_k0 f R b_ (!v25) w12))))))))))))

def F_towpathlaw01_SameTxn (a_ : T_api_Txn) (b_ : T_api_Txn) (R : Bool → World → Prop) (w : World) : Prop :=
  ∀ b_1 w1, b_1 = w.heap.size → w1 = w.alloc (Obj.cells ([Value.int .i64 a_.Number, Value.slice a_.Writes.ptr a_.Writes.len a_.Writes.cap]).toArray ty_api_Txn (0, 0)) → (∀ b_2 w2, b_2 = w1.heap.size → w2 = w1.alloc (Obj.cells ([Value.int .i64 b_.Number, Value.slice b_.Writes.ptr b_.Writes.len b_.Writes.cap]).toArray ty_api_Txn (0, 0)) → (∃ (v6 : Int), w2.cell? ⟨b_1, 0, none⟩ = some (Value.int .i64 v6) ∧ (∃ (v8 : Int), w2.cell? ⟨b_2, 0, none⟩ = some (Value.int .i64 v8) ∧ (((v6 == v8) = true → (∃ (v12 : Slc), w2.cell? ⟨b_1, 1, none⟩ = some (Value.slice v12.ptr v12.len v12.cap) ∧ (∃ (v14 : Slc), w2.cell? ⟨b_2, 1, none⟩ = some (Value.slice v14.ptr v14.len v14.cap) ∧ (C_towpathlaw01_SameWrites v12 v14 w2 (fun (v15 : Bool) w3 => R v15 w3))))) ∧
  ((v6 == v8) = false → (R false w2))))))

def F_towpathlaw01_Book_Txn (b_ : Option Addr) (t_ : T_api_Txn) (R : World → Prop) (w : World) : Prop :=
  ∀ b_1 w1, b_1 = w.heap.size → w1 = w.alloc (Obj.cells ([Value.int .i64 t_.Number, Value.slice t_.Writes.ptr t_.Writes.len t_.Writes.cap]).toArray ty_api_Txn (0, 0)) → (∃ (v6 : Slc), w1.cell? ⟨b_1, 1, none⟩ = some (Value.slice v6.ptr v6.len v6.cap) ∧ (C_towpathlaw01_Book_Writes b_ v6 w1 (fun w2 => R w2)))

def F_towpathlaw01_Book_Apart (b_ : Option Addr) (R : Bool → World → Prop) (w : World) : Prop :=
  C_towpathlaw01_Book_fillByte b_ w (fun w1 => C_towpathlaw01_Book_fillInt b_ w1 (fun w2 => C_towpathlaw01_Book_fillText b_ w2 (fun w3 => C_towpathlaw01_Book_fillWrite b_ w3 (fun w4 => C_towpathlaw01_Book_fillEntry b_ w4 (fun w5 => C_towpathlaw01_Book_fillVersion b_ w5 (fun w6 => C_towpathlaw01_Book_fillTxn b_ w6 (fun w7 => C_towpathlaw01_Book_fillHeld b_ w7 (fun w8 => C_towpathlaw01_Book_fillHeldList b_ w8 (fun w9 => C_towpathlaw01_Book_fillEvent b_ w9 (fun w10 => C_towpathlaw01_Book_fillAnswer b_ w10 (fun w11 => C_towpathlaw01_Book_growByte b_ w11 (fun w12 => C_towpathlaw01_Book_growInt b_ w12 (fun w13 => C_towpathlaw01_Book_growText b_ w13 (fun w14 => C_towpathlaw01_Book_growWrite b_ w14 (fun w15 => C_towpathlaw01_Book_growEntry b_ w15 (fun w16 => C_towpathlaw01_Book_growVersion b_ w16 (fun w17 => C_towpathlaw01_Book_growTxn b_ w17 (fun w18 => C_towpathlaw01_Book_growHeld b_ w18 (fun w19 => C_towpathlaw01_Book_growHeldList b_ w19 (fun w20 => C_towpathlaw01_Book_growEvent b_ w20 (fun w21 => C_towpathlaw01_Book_growAnswer b_ w21 (fun w22 => C_towpathlaw01_Book_lookByte b_ w22 (fun (v48 : Bool) w23 => (v48 = true → (C_towpathlaw01_Book_lookInt b_ w23 (fun (v51 : Bool) w24 => (v51 = true → (C_towpathlaw01_Book_lookText b_ w24 (fun (v55 : Bool) w25 => (v55 = true → (C_towpathlaw01_Book_lookWrite b_ w25 (fun (v59 : Bool) w26 => (v59 = true → (C_towpathlaw01_Book_lookEntry b_ w26 (fun (v63 : Bool) w27 => (v63 = true → (C_towpathlaw01_Book_lookVersion b_ w27 (fun (v67 : Bool) w28 => (v67 = true → (C_towpathlaw01_Book_lookTxn b_ w28 (fun (v71 : Bool) w29 => (v71 = true → (C_towpathlaw01_Book_lookHeld b_ w29 (fun (v75 : Bool) w30 => (v75 = true → (C_towpathlaw01_Book_lookHeldList b_ w30 (fun (v79 : Bool) w31 => (v79 = true → (C_towpathlaw01_Book_lookEvent b_ w31 (fun (v83 : Bool) w32 => (v83 = true → (C_towpathlaw01_Book_lookAnswer b_ w32 (fun (v87 : Bool) w33 => R v87 w33))) ∧
  (v83 = false → (R false w32))))) ∧
  (v79 = false → (R false w31))))) ∧
  (v75 = false → (R false w30))))) ∧
  (v71 = false → (R false w29))))) ∧
  (v67 = false → (R false w28))))) ∧
  (v63 = false → (R false w27))))) ∧
  (v59 = false → (R false w26))))) ∧
  (v55 = false → (R false w25))))) ∧
  (v51 = false → (R false w24))))) ∧
  (v48 = false → (R false w23)))))))))))))))))))))))))

def F_logfile_Check_L0 (l_ : Slc) (R : Int → World → Prop) (v7 : Value) (again_ : Int → World → Prop) (t10 : Int) (w2 : World) : Prop :=
  ((decide (t10 < ((l_.len : Nat) : Int))) = true → (IsAt l_.ptr ∧ (0 ≤ t10 ∧ t10 < ((l_.len : Nat) : Int) ∧ (∃ (v13 : T_api_Txn), CellsAt w2 (pblk l_.ptr) ((poff l_.ptr) + t10.toNat * 2) [Value.int .i64 v13.Number, Value.slice v13.Writes.ptr v13.Writes.len v13.Writes.cap] ∧ (∀ b_ w3, b_ = w2.heap.size → w3 = w2.alloc (Obj.cells ([Value.int .i64 0, Value.slice none 0 0]).toArray ty_api_Txn (0, 0)) → (Writable w3 b_ 0 2 ∧ (∀ w4, w4 = World.puts b_ 0 [Value.int .i64 v13.Number, Value.slice v13.Writes.ptr v13.Writes.len v13.Writes.cap] w3 → (∃ (v15 : T_api_Txn), CellsAt w4 b_ 0 [Value.int .i64 v15.Number, Value.slice v15.Writes.ptr v15.Writes.len v15.Writes.cap] ∧ (CallsV (P := Tryz.prog) v7 #[Value.agg #[Value.int .i64 v15.Number, Value.slice v15.Writes.ptr v15.Writes.len v15.Writes.cap]] w4 (fun e' w5 => ∃ (v16 : Int), e' = Ending.returned (Value.int .i64 v16) ∧ (((v16 != 0) = true → (R v16 w5)) ∧
  ((v16 != 0) = false → (again_ (IntKind.i64.wrap (t10 + 1)) w5))))))))))))) ∧
  ((decide (t10 < ((l_.len : Nat) : Int))) = false → (R 0 w2))

def F_logfile_Check (l_ : Slc) (R : Int → World → Prop) (w : World) : Prop :=
  C_logfile_turns w (fun (v7 : Value) w1 => ∃ (I : Int → World → Prop) (μ : Int → World → Nat), I 0 w1 ∧
  ∀ (t10 : Int) w, I t10 w → F_logfile_Check_L0 l_ R v7 (fun (t10' : Int) w' => I t10' w' ∧ μ t10' w' < μ t10 w) t10 w)

def F_logfile_copied (t_ : T_api_Txn) (R : T_api_Txn → World → Prop) (w : World) : Prop :=
  ∀ b_ w1, b_ = w.heap.size → w1 = w.alloc (Obj.cells ([Value.int .i64 t_.Number, Value.slice t_.Writes.ptr t_.Writes.len t_.Writes.cap]).toArray ty_api_Txn (0, 0)) → (∀ b_1 w2, b_1 = w1.heap.size → w2 = w1.alloc (Obj.cells ([Value.int .i64 0, Value.slice none 0 0]).toArray ty_api_Txn (0, 0)) → (∀ w3, (∃ k, w3 = w2.drewN k) → (∃ (v4 : Int), w3.cell? ⟨b_, 0, none⟩ = some (Value.int .i64 v4) ∧ (∃ (v6 : Slc), w3.cell? ⟨b_, 1, none⟩ = some (Value.slice v6.ptr v6.len v6.cap) ∧ (C_slices_Clone_api_Write_api_Write v6 w3 (fun (v7 : Slc) w4 => w4.cell? ⟨b_, 0, none⟩ = some (Value.int .i64 v4) ∧ (Writable w4 b_1 0 2 ∧ (∀ w5, w5 = World.puts b_1 0 [Value.int .i64 v4, Value.slice v7.ptr v7.len v7.cap] w4 → ((∃ (res : T_api_Txn), CellsAt w5 b_1 0 [Value.int .i64 res.Number, Value.slice res.Writes.ptr res.Writes.len res.Writes.cap] ∧ (R res w5)))))))))))

def F_logfile_Source_Last (s : Option Addr) (R : Int → World → Prop) (w : World) : Prop :=
  (s.isNone = true → (R 0 w)) ∧
  (s.isNone = false → (IsAt s ∧ (∃ (v8 : Slc), w.cell? ⟨(pblk s), (poff s) + 1, none⟩ = some (Value.slice v8.ptr v8.len v8.cap) ∧ (R ((v8.len : Nat) : Int) w))))

def F_towpathlaw16_three (R : Slc → World → Prop) (w : World) : Prop :=
  ∀ b_ w1, b_ = w.heap.size → w1 = w.alloc (Obj.cells ([Value.string (ByteArray.mk #[97]), Value.string (ByteArray.mk #[49]), Value.bool false]).toArray ty_api_Write (0, 0)) → (∀ b_1 w2, b_1 = w1.heap.size → w2 = w1.alloc (Obj.cells ([Value.int .i64 0, Value.slice none 0 0]).toArray ty_api_Txn (0, 0)) → (Writable w2 b_1 0 2 ∧ (∀ w3, w3 = World.puts b_1 0 [Value.int .i64 1, Value.slice (some ⟨b_, 0, none⟩) 1 1] w2 → (∀ b_2 w4, b_2 = w3.heap.size → w4 = w3.alloc (Obj.cells ([Value.string (ByteArray.mk #[98]), Value.string (ByteArray.mk #[50]), Value.bool false]).toArray ty_api_Write (0, 0)) → (∀ b_3 w5, b_3 = w4.heap.size → w5 = w4.alloc (Obj.cells ([Value.int .i64 0, Value.slice none 0 0]).toArray ty_api_Txn (0, 0)) → (Writable w5 b_3 0 2 ∧ (∀ w6, w6 = World.puts b_3 0 [Value.int .i64 2, Value.slice (some ⟨b_2, 0, none⟩) 1 1] w5 → (∀ b_4 w7, b_4 = w6.heap.size → w7 = w6.alloc (Obj.cells ([Value.string (ByteArray.mk #[97]), Value.string (ByteArray.mk #[51]), Value.bool false, Value.string (ByteArray.mk #[98]), Value.string ByteArray.empty, Value.bool true]).toArray ty_api_Write (0, 0)) → (∀ b_5 w8, b_5 = w7.heap.size → w8 = w7.alloc (Obj.cells ([Value.int .i64 0, Value.slice none 0 0]).toArray ty_api_Txn (0, 0)) → (Writable w8 b_5 0 2 ∧ (∀ w9, w9 = World.puts b_5 0 [Value.int .i64 3, Value.slice (some ⟨b_4, 0, none⟩) 2 2] w8 → (∃ (v14 : T_api_Txn), CellsAt w9 b_1 0 [Value.int .i64 v14.Number, Value.slice v14.Writes.ptr v14.Writes.len v14.Writes.cap] ∧ (∃ (v15 : T_api_Txn), CellsAt w9 b_3 0 [Value.int .i64 v15.Number, Value.slice v15.Writes.ptr v15.Writes.len v15.Writes.cap] ∧ (∃ (v16 : T_api_Txn), CellsAt w9 b_5 0 [Value.int .i64 v16.Number, Value.slice v16.Writes.ptr v16.Writes.len v16.Writes.cap] ∧ (∀ b_6 w10, b_6 = w9.heap.size → w10 = w9.alloc (Obj.cells ([Value.int .i64 v14.Number, Value.slice v14.Writes.ptr v14.Writes.len v14.Writes.cap, Value.int .i64 v15.Number, Value.slice v15.Writes.ptr v15.Writes.len v15.Writes.cap, Value.int .i64 v16.Number, Value.slice v16.Writes.ptr v16.Writes.len v16.Writes.cap]).toArray ty_api_Txn (0, 0)) → (R (Slc.mk (some ⟨b_6, 0, none⟩) 3 3) w10))))))))))))))))

def F_feed_Feed_Can_k0 (R : Int → World → Prop) (k_ : Int) (w2 : World) : Prop :=
  R k_ w2

def F_feed_Feed_Can_k1 (R : Int → World → Prop) (w3 : World) : Prop :=
  R 0 w3

def F_feed_Feed_Can_k4 (f : Option Addr) (R : Int → World → Prop) (t30 : Bool) (w6 : World) : Prop :=
  (t30 = true → (F_feed_Feed_Can_k1 R w6)) ∧
  (t30 = false → (IsAt f ∧ (∃ (v44 : Int), w6.cell? ⟨(pblk f), (poff f) + 1, none⟩ = some (Value.int .i64 v44) ∧ (IsAt f ∧ (∃ (v48 : Int), w6.cell? ⟨(pblk f), (poff f) + 2, none⟩ = some (Value.int .i64 v48) ∧ (∀ w7, Ext w6 w7 → (((decide (v44 ≥ v48)) = true → (F_feed_Feed_Can_k1 R w7)) ∧
  ((decide (v44 ≥ v48)) = false → (F_feed_Feed_Can_k0 R 1 w7)))))))))

def F_feed_Feed_Can_k3 (f : Option Addr) (R : Int → World → Prop) (t19 : Bool) (w5 : World) : Prop :=
  (t19 = true → (F_feed_Feed_Can_k0 R 3 w5)) ∧
  (t19 = false → (IsAt f ∧ (∃ (v34 : Option Addr), w5.cell? ⟨(pblk f), (poff f) + 5, none⟩ = some (Value.pointer v34) ∧ (((!v34.isNone) = true → (F_feed_Feed_Can_k4 f R (!v34.isNone) w5)) ∧
  ((!v34.isNone) = false → (IsAt f ∧ (∃ (v39 : Bool), w5.cell? ⟨(pblk f), (poff f) + 6, none⟩ = some (Value.bool v39) ∧ (F_feed_Feed_Can_k4 f R v39 w5))))))))

def F_feed_Feed_Can_k2 (f : Option Addr) (mark : Int) (R : Int → World → Prop) (t9 : Bool) (w4 : World) : Prop :=
  (t9 = true → (F_feed_Feed_Can_k0 R 2 w4)) ∧
  (t9 = false → (IsAt f ∧ (∃ (v23 : Option Addr), w4.cell? ⟨(pblk f), (poff f) + 5, none⟩ = some (Value.pointer v23) ∧ (((!v23.isNone) = true → (C_feed_Feed_near f mark w4 (fun (v28 : Bool) w8 => F_feed_Feed_Can_k3 f R v28 w8))) ∧
  ((!v23.isNone) = false → (F_feed_Feed_Can_k3 f R false w4))))))

def F_feed_Feed_Can (f : Option Addr) (mark : Int) (R : Int → World → Prop) (w : World) : Prop :=
  C_feed_Feed_there f w (fun (v7 : Bool) w1 => ((!v7) = true → (R 0 w1)) ∧
  ((!v7) = false → (IsAt f ∧ (∃ (v13 : Option Addr), w1.cell? ⟨(pblk f), (poff f) + 5, none⟩ = some (Value.pointer v13) ∧ (((!v13.isNone) = true → (C_feed_Feed_skips f w1 (fun (v17 : Bool) w9 => F_feed_Feed_Can_k2 f mark R v17 w9))) ∧
  ((!v13.isNone) = false → (F_feed_Feed_Can_k2 f mark R false w1)))))))

def F_feed_Feed_there (f : Option Addr) (R : Bool → World → Prop) (w : World) : Prop :=
  ((!f.isNone) = true → (IsAt f ∧ (∃ (v9 : Option Addr), w.cell? ⟨(pblk f), (poff f), none⟩ = some (Value.pointer v9) ∧ (R (!v9.isNone) w)))) ∧
  ((!f.isNone) = false → (R false w))

def F_logfile_Source_Get_k1 (s : Option Addr) (number : Int) (R : T_api_Txn → Int → World → Prop) (b_ : Nat) (t17 : Bool) (w4 : World) : Prop :=
  (t17 = true → (Writable w4 b_ 0 2 ∧ (∀ w5, w5 = World.puts b_ 0 [Value.int .i64 0, Value.slice none 0 0] w4 → (∃ (res1 : T_api_Txn), CellsAt w5 b_ 0 [Value.int .i64 res1.Number, Value.slice res1.Writes.ptr res1.Writes.len res1.Writes.cap] ∧ (R res1 1 w5))))) ∧
  (t17 = false → (IsAt s ∧ (∃ (v34 : Slc), w4.cell? ⟨(pblk s), (poff s) + 2, none⟩ = some (Value.slice v34.ptr v34.len v34.cap) ∧ (∀ b_1 w6, b_1 = w4.heap.size → w6 = w4.alloc (Obj.cells ([Value.int .i64 number]).toArray ty_int (0, 0)) → (∃ src, SrcAt w6 (Slc.mk (some ⟨b_1, 0, none⟩) 1 1) 1 src ∧ AppendW 1 8 ty_int [Value.int .i64 0] v34 src 1 w6 (fun v37 w7 => IsAt s ∧ (Writable w7 (pblk s) ((poff s) + 2) 1 ∧ (∀ w8, w8 = World.puts (pblk s) ((poff s) + 2) [Value.slice v37.ptr v37.len v37.cap] w7 → (IsAt s ∧ (∃ (v43 : Slc), w8.cell? ⟨(pblk s), (poff s) + 1, none⟩ = some (Value.slice v43.ptr v43.len v43.cap) ∧ (IsAt v43.ptr ∧ (0 ≤ IntKind.i64.wrap (number - 1) ∧ IntKind.i64.wrap (number - 1) < ((v43.len : Nat) : Int) ∧ (∃ (v47 : T_api_Txn), CellsAt w8 (pblk v43.ptr) ((poff v43.ptr) + (IntKind.i64.wrap (number - 1)).toNat * 2) [Value.int .i64 v47.Number, Value.slice v47.Writes.ptr v47.Writes.len v47.Writes.cap] ∧ (C_logfile_copied v47 w8 (fun (v48 : T_api_Txn) w9 => Writable w9 b_ 0 2 ∧ (∀ w10, w10 = World.puts b_ 0 [Value.int .i64 v48.Number, Value.slice v48.Writes.ptr v48.Writes.len v48.Writes.cap] w9 → (∃ (res2 : T_api_Txn), CellsAt w10 b_ 0 [Value.int .i64 res2.Number, Value.slice res2.Writes.ptr res2.Writes.len res2.Writes.cap] ∧ (R res2 0 w10))))))))))))))))))

def F_logfile_Source_Get_k0 (s : Option Addr) (number : Int) (R : T_api_Txn → Int → World → Prop) (b_ : Nat) (t6 : Bool) (w2 : World) : Prop :=
  (t6 = true → (Writable w2 b_ 0 2 ∧ (∀ w3, w3 = World.puts b_ 0 [Value.int .i64 0, Value.slice none 0 0] w2 → (∃ (res : T_api_Txn), CellsAt w3 b_ 0 [Value.int .i64 res.Number, Value.slice res.Writes.ptr res.Writes.len res.Writes.cap] ∧ (R res 2 w3))))) ∧
  (t6 = false → (((decide (number < 1)) = true → (F_logfile_Source_Get_k1 s number R b_ true w2)) ∧
  ((decide (number < 1)) = false → (IsAt s ∧ (∃ (v25 : Slc), w2.cell? ⟨(pblk s), (poff s) + 1, none⟩ = some (Value.slice v25.ptr v25.len v25.cap) ∧ (F_logfile_Source_Get_k1 s number R b_ (decide (number > ((v25.len : Nat) : Int))) w2))))))

def F_logfile_Source_Get (s : Option Addr) (number : Int) (R : T_api_Txn → Int → World → Prop) (w : World) : Prop :=
  ∀ b_ w1, b_ = w.heap.size → w1 = w.alloc (Obj.cells ([Value.int .i64 0, Value.slice none 0 0]).toArray ty_api_Txn (0, 0)) → ((s.isNone = true → (F_logfile_Source_Get_k0 s number R b_ true w1)) ∧
  (s.isNone = false → (IsAt s ∧ (∃ (v13 : Bool), w1.cell? ⟨(pblk s), (poff s), none⟩ = some (Value.bool v13) ∧ (F_logfile_Source_Get_k0 s number R b_ (!v13) w1)))))

def F_feed_Feed_skips (f : Option Addr) (R : Bool → World → Prop) (w : World) : Prop :=
  ∀ w1, (∃ k, w1 = w.drewN k) → (IsAt f ∧ (∃ (v9 : Option Nat), w1.cell? ⟨(pblk f), (poff f) + 4, none⟩ = some (Value.map v9) ∧ (IsAt f ∧ (∃ (v13 : Option Addr), w1.cell? ⟨(pblk f), (poff f) + 5, none⟩ = some (Value.pointer v13) ∧ (IsAt v13 ∧ (∃ (v16 : Int), w1.cell? ⟨(pblk v13), (poff v13), none⟩ = some (Value.int .i64 v16) ∧ (∃ (es : Array MapEntry), MapAt w1 v9 es ∧ (MapInt es ∧ (∀ b_ w2, b_ = w1.heap.size → w2 = w1.alloc (Obj.cells ([]).toArray ty_struct (0, 0)) → (MapAt w2 v9 es ∧ w2.cell? ⟨(pblk v13), (poff v13), none⟩ = some (Value.int .i64 v16) ∧ w2.cell? ⟨(pblk f), (poff f) + 5, none⟩ = some (Value.pointer v13) ∧ w2.cell? ⟨(pblk f), (poff f) + 4, none⟩ = some (Value.map v9) ∧ (Writable w2 b_ 0 0 ∧ (∀ w3, w3 = World.puts b_ 0 [] w2 → ((R (mapHas es v16) w3))))))))))))))

def F_feed_Feed_near (f : Option Addr) (mark : Int) (R : Bool → World → Prop) (w : World) : Prop :=
  IsAt f ∧ (∃ (v8 : Option Addr), w.cell? ⟨(pblk f), (poff f) + 5, none⟩ = some (Value.pointer v8) ∧ (IsAt v8 ∧ (∃ (v11 : Int), w.cell? ⟨(pblk v8), (poff v8), none⟩ = some (Value.int .i64 v11) ∧ (IsAt f ∧ (∃ (v15 : Int), w.cell? ⟨(pblk f), (poff f) + 3, none⟩ = some (Value.int .i64 v15) ∧ (∀ w1, Ext w w1 → (R (decide ((IntKind.i64.wrap (v11 - v15)) ≤ mark)) w1)))))))

def F_towpathlaw01_SameWrites_L0 (a_ : Slc) (b_ : Slc) (R : Bool → World → Prop) (again_ : Int → World → Prop) (i : Int) (w1 : World) : Prop :=
  ((decide (i < ((a_.len : Nat) : Int))) = true → (IsAt a_.ptr ∧ (0 ≤ i ∧ i < ((a_.len : Nat) : Int) ∧ (∃ (v20 : T_api_Write), CellsAt w1 (pblk a_.ptr) ((poff a_.ptr) + i.toNat * 3) [Value.string v20.Key, Value.string v20.Val, Value.bool v20.Drop] ∧ (IsAt b_.ptr ∧ (0 ≤ i ∧ i < ((b_.len : Nat) : Int) ∧ (∃ (v24 : T_api_Write), CellsAt w1 (pblk b_.ptr) ((poff b_.ptr) + i.toNat * 3) [Value.string v24.Key, Value.string v24.Val, Value.bool v24.Drop] ∧ (∀ w2, Ext w1 w2 → (((!(((v20.Key == v24.Key) && (v20.Val == v24.Val)) && (v20.Drop == v24.Drop))) = true → (R false w2)) ∧
  ((!(((v20.Key == v24.Key) && (v20.Val == v24.Val)) && (v20.Drop == v24.Drop))) = false → (again_ (IntKind.i64.wrap (i + 1)) w2))))))))))) ∧
  ((decide (i < ((a_.len : Nat) : Int))) = false → (R true w1))

def F_towpathlaw01_SameWrites (a_ : Slc) (b_ : Slc) (R : Bool → World → Prop) (w : World) : Prop :=
  ((((a_.len : Nat) : Int) != ((b_.len : Nat) : Int)) = true → (R false w)) ∧
  ((((a_.len : Nat) : Int) != ((b_.len : Nat) : Int)) = false → (∃ (I : Int → World → Prop) (μ : Int → World → Nat), I 0 w ∧
  ∀ (i : Int) w, I i w → F_towpathlaw01_SameWrites_L0 a_ b_ R (fun (i' : Int) w' => I i' w' ∧ μ i' w' < μ i w) i w))

def F_towpathlaw01_Book_Writes (b_ : Option Addr) (l_ : Slc) (R : World → Prop) (w : World) : Prop :=
  C_towpathlaw01_Book_keepWrite b_ l_ w (fun w1 => R w1)

def F_towpathlaw01_Book_fillByte_L0 (b_ : Option Addr) (R : World → Prop) (again_ : Int → World → Prop) (i : Int) (w1 : World) : Prop :=
  IsAt b_ ∧ (∃ (v9 : Slc), w1.cell? ⟨(pblk b_), (poff b_) + 1, none⟩ = some (Value.slice v9.ptr v9.len v9.cap) ∧ (((decide (i < ((v9.len : Nat) : Int))) = true → (False)) ∧
  ((decide (i < ((v9.len : Nat) : Int))) = false → (R w1))))

def F_towpathlaw01_Book_fillByte (b_ : Option Addr) (R : World → Prop) (w : World) : Prop :=
  ∃ (I : Int → World → Prop) (μ : Int → World → Nat), I 0 w ∧
  ∀ (i : Int) w, I i w → F_towpathlaw01_Book_fillByte_L0 b_ R (fun (i' : Int) w' => I i' w' ∧ μ i' w' < μ i w) i w

def F_towpathlaw01_Book_fillInt_L0 (b_ : Option Addr) (R : World → Prop) (again_ : Int → World → Prop) (i : Int) (w1 : World) : Prop :=
  IsAt b_ ∧ (∃ (v9 : Slc), w1.cell? ⟨(pblk b_), (poff b_) + 2, none⟩ = some (Value.slice v9.ptr v9.len v9.cap) ∧ (((decide (i < ((v9.len : Nat) : Int))) = true → (False)) ∧
  ((decide (i < ((v9.len : Nat) : Int))) = false → (R w1))))

def F_towpathlaw01_Book_fillInt (b_ : Option Addr) (R : World → Prop) (w : World) : Prop :=
  ∃ (I : Int → World → Prop) (μ : Int → World → Nat), I 0 w ∧
  ∀ (i : Int) w, I i w → F_towpathlaw01_Book_fillInt_L0 b_ R (fun (i' : Int) w' => I i' w' ∧ μ i' w' < μ i w) i w

def F_towpathlaw01_Book_fillText_L0 (b_ : Option Addr) (R : World → Prop) (again_ : Int → World → Prop) (i : Int) (w1 : World) : Prop :=
  IsAt b_ ∧ (∃ (v9 : Slc), w1.cell? ⟨(pblk b_), (poff b_) + 3, none⟩ = some (Value.slice v9.ptr v9.len v9.cap) ∧ (((decide (i < ((v9.len : Nat) : Int))) = true → (False)) ∧
  ((decide (i < ((v9.len : Nat) : Int))) = false → (R w1))))

def F_towpathlaw01_Book_fillText (b_ : Option Addr) (R : World → Prop) (w : World) : Prop :=
  ∃ (I : Int → World → Prop) (μ : Int → World → Nat), I 0 w ∧
  ∀ (i : Int) w, I i w → F_towpathlaw01_Book_fillText_L0 b_ R (fun (i' : Int) w' => I i' w' ∧ μ i' w' < μ i w) i w

def F_towpathlaw01_Book_fillWrite_L1 (i : Int) (again_ : Int → World → Prop) (b_1 : Nat) (again_1 : Int → World → Prop) (k_ : Int) (w4 : World) : Prop :=
  ∃ (v23 : Slc), w4.cell? ⟨b_1, 0, none⟩ = some (Value.slice v23.ptr v23.len v23.cap) ∧ (((decide (k_ < ((v23.len : Nat) : Int))) = true → (∀ w5, (∃ k, w5 = w4.drewN k) → (∃ (v29 : Slc), w5.cell? ⟨b_1, 0, none⟩ = some (Value.slice v29.ptr v29.len v29.cap) ∧ (∃ (v32 : Int), w5.cell? ⟨b_1, 2, none⟩ = some (Value.int .i64 v32) ∧ (C_towpathlaw01_markWrite v32 w5 (fun (v33 : T_api_Write) w6 => w6.cell? ⟨b_1, 0, none⟩ = some (Value.slice v29.ptr v29.len v29.cap) ∧ (IsAt v29.ptr ∧ (0 ≤ k_ ∧ k_ < ((v29.len : Nat) : Int) ∧ (Writable w6 (pblk v29.ptr) ((poff v29.ptr) + k_.toNat * 3) 3 ∧ (∀ w7, w7 = World.puts (pblk v29.ptr) ((poff v29.ptr) + k_.toNat * 3) [Value.string v33.Key, Value.string v33.Val, Value.bool v33.Drop] w6 → ((again_1 (IntKind.i64.wrap (k_ + 1)) w7)))))))))))) ∧
  ((decide (k_ < ((v23.len : Nat) : Int))) = false → (again_ (IntKind.i64.wrap (i + 1)) w4)))

def F_towpathlaw01_Book_fillWrite_L0 (b_ : Option Addr) (R : World → Prop) (again_ : Int → World → Prop) (i : Int) (w1 : World) : Prop :=
  IsAt b_ ∧ (∃ (v9 : Slc), w1.cell? ⟨(pblk b_), (poff b_) + 4, none⟩ = some (Value.slice v9.ptr v9.len v9.cap) ∧ (((decide (i < ((v9.len : Nat) : Int))) = true → (IsAt b_ ∧ (∃ (v17 : Slc), w1.cell? ⟨(pblk b_), (poff b_) + 4, none⟩ = some (Value.slice v17.ptr v17.len v17.cap) ∧ (IsAt v17.ptr ∧ (0 ≤ i ∧ i < ((v17.len : Nat) : Int) ∧ (∃ (v20 : T_towpathlaw01_heldWrite), CellsAt w1 (pblk v17.ptr) ((poff v17.ptr) + i.toNat * 3) [Value.slice v20.l.ptr v20.l.len v20.l.cap, Value.slice v20.long.ptr v20.long.len v20.long.cap, Value.int .i64 v20.n] ∧ (∀ b_1 w2, b_1 = w1.heap.size → w2 = w1.alloc (Obj.cells ([Value.slice none 0 0, Value.slice none 0 0, Value.int .i64 0]).toArray ty_towpathlaw01_heldWrite (0, 0)) → (Writable w2 b_1 0 3 ∧ (∀ w3, w3 = World.puts b_1 0 [Value.slice v20.l.ptr v20.l.len v20.l.cap, Value.slice v20.long.ptr v20.long.len v20.long.cap, Value.int .i64 v20.n] w2 → (∃ (I : Int → World → Prop) (μ : Int → World → Nat), I 0 w3 ∧
  ∀ (k_ : Int) w, I k_ w → F_towpathlaw01_Book_fillWrite_L1 i again_ b_1 (fun (k_' : Int) w' => I k_' w' ∧ μ k_' w' < μ k_ w) k_ w)))))))))) ∧
  ((decide (i < ((v9.len : Nat) : Int))) = false → (R w1))))

def F_towpathlaw01_Book_fillWrite (b_ : Option Addr) (R : World → Prop) (w : World) : Prop :=
  ∃ (I : Int → World → Prop) (μ : Int → World → Nat), I 0 w ∧
  ∀ (i : Int) w, I i w → F_towpathlaw01_Book_fillWrite_L0 b_ R (fun (i' : Int) w' => I i' w' ∧ μ i' w' < μ i w) i w

def F_towpathlaw01_Book_fillEntry_L0 (b_ : Option Addr) (R : World → Prop) (again_ : Int → World → Prop) (i : Int) (w1 : World) : Prop :=
  IsAt b_ ∧ (∃ (v9 : Slc), w1.cell? ⟨(pblk b_), (poff b_) + 5, none⟩ = some (Value.slice v9.ptr v9.len v9.cap) ∧ (((decide (i < ((v9.len : Nat) : Int))) = true → (False)) ∧
  ((decide (i < ((v9.len : Nat) : Int))) = false → (R w1))))

def F_towpathlaw01_Book_fillEntry (b_ : Option Addr) (R : World → Prop) (w : World) : Prop :=
  ∃ (I : Int → World → Prop) (μ : Int → World → Nat), I 0 w ∧
  ∀ (i : Int) w, I i w → F_towpathlaw01_Book_fillEntry_L0 b_ R (fun (i' : Int) w' => I i' w' ∧ μ i' w' < μ i w) i w

def F_towpathlaw01_Book_fillVersion_L0 (b_ : Option Addr) (R : World → Prop) (again_ : Int → World → Prop) (i : Int) (w1 : World) : Prop :=
  IsAt b_ ∧ (∃ (v9 : Slc), w1.cell? ⟨(pblk b_), (poff b_) + 6, none⟩ = some (Value.slice v9.ptr v9.len v9.cap) ∧ (((decide (i < ((v9.len : Nat) : Int))) = true → (False)) ∧
  ((decide (i < ((v9.len : Nat) : Int))) = false → (R w1))))

def F_towpathlaw01_Book_fillVersion (b_ : Option Addr) (R : World → Prop) (w : World) : Prop :=
  ∃ (I : Int → World → Prop) (μ : Int → World → Nat), I 0 w ∧
  ∀ (i : Int) w, I i w → F_towpathlaw01_Book_fillVersion_L0 b_ R (fun (i' : Int) w' => I i' w' ∧ μ i' w' < μ i w) i w

def F_towpathlaw01_Book_fillTxn_L0 (b_ : Option Addr) (R : World → Prop) (again_ : Int → World → Prop) (i : Int) (w1 : World) : Prop :=
  IsAt b_ ∧ (∃ (v9 : Slc), w1.cell? ⟨(pblk b_), (poff b_) + 7, none⟩ = some (Value.slice v9.ptr v9.len v9.cap) ∧ (((decide (i < ((v9.len : Nat) : Int))) = true → (False)) ∧
  ((decide (i < ((v9.len : Nat) : Int))) = false → (R w1))))

def F_towpathlaw01_Book_fillTxn (b_ : Option Addr) (R : World → Prop) (w : World) : Prop :=
  ∃ (I : Int → World → Prop) (μ : Int → World → Nat), I 0 w ∧
  ∀ (i : Int) w, I i w → F_towpathlaw01_Book_fillTxn_L0 b_ R (fun (i' : Int) w' => I i' w' ∧ μ i' w' < μ i w) i w

def F_towpathlaw01_Book_fillHeld_L0 (b_ : Option Addr) (R : World → Prop) (again_ : Int → World → Prop) (i : Int) (w1 : World) : Prop :=
  IsAt b_ ∧ (∃ (v9 : Slc), w1.cell? ⟨(pblk b_), (poff b_) + 8, none⟩ = some (Value.slice v9.ptr v9.len v9.cap) ∧ (((decide (i < ((v9.len : Nat) : Int))) = true → (False)) ∧
  ((decide (i < ((v9.len : Nat) : Int))) = false → (R w1))))

def F_towpathlaw01_Book_fillHeld (b_ : Option Addr) (R : World → Prop) (w : World) : Prop :=
  ∃ (I : Int → World → Prop) (μ : Int → World → Nat), I 0 w ∧
  ∀ (i : Int) w, I i w → F_towpathlaw01_Book_fillHeld_L0 b_ R (fun (i' : Int) w' => I i' w' ∧ μ i' w' < μ i w) i w

def F_towpathlaw01_Book_fillHeldList_L0 (b_ : Option Addr) (R : World → Prop) (again_ : Int → World → Prop) (i : Int) (w1 : World) : Prop :=
  IsAt b_ ∧ (∃ (v9 : Slc), w1.cell? ⟨(pblk b_), (poff b_) + 9, none⟩ = some (Value.slice v9.ptr v9.len v9.cap) ∧ (((decide (i < ((v9.len : Nat) : Int))) = true → (False)) ∧
  ((decide (i < ((v9.len : Nat) : Int))) = false → (R w1))))

def F_towpathlaw01_Book_fillHeldList (b_ : Option Addr) (R : World → Prop) (w : World) : Prop :=
  ∃ (I : Int → World → Prop) (μ : Int → World → Nat), I 0 w ∧
  ∀ (i : Int) w, I i w → F_towpathlaw01_Book_fillHeldList_L0 b_ R (fun (i' : Int) w' => I i' w' ∧ μ i' w' < μ i w) i w

def F_towpathlaw01_Book_fillEvent_L0 (b_ : Option Addr) (R : World → Prop) (again_ : Int → World → Prop) (i : Int) (w1 : World) : Prop :=
  IsAt b_ ∧ (∃ (v9 : Slc), w1.cell? ⟨(pblk b_), (poff b_) + 10, none⟩ = some (Value.slice v9.ptr v9.len v9.cap) ∧ (((decide (i < ((v9.len : Nat) : Int))) = true → (False)) ∧
  ((decide (i < ((v9.len : Nat) : Int))) = false → (R w1))))

def F_towpathlaw01_Book_fillEvent (b_ : Option Addr) (R : World → Prop) (w : World) : Prop :=
  ∃ (I : Int → World → Prop) (μ : Int → World → Nat), I 0 w ∧
  ∀ (i : Int) w, I i w → F_towpathlaw01_Book_fillEvent_L0 b_ R (fun (i' : Int) w' => I i' w' ∧ μ i' w' < μ i w) i w

def F_towpathlaw01_Book_fillAnswer_L0 (b_ : Option Addr) (R : World → Prop) (again_ : Int → World → Prop) (i : Int) (w1 : World) : Prop :=
  IsAt b_ ∧ (∃ (v9 : Slc), w1.cell? ⟨(pblk b_), (poff b_) + 11, none⟩ = some (Value.slice v9.ptr v9.len v9.cap) ∧ (((decide (i < ((v9.len : Nat) : Int))) = true → (False)) ∧
  ((decide (i < ((v9.len : Nat) : Int))) = false → (R w1))))

def F_towpathlaw01_Book_fillAnswer (b_ : Option Addr) (R : World → Prop) (w : World) : Prop :=
  ∃ (I : Int → World → Prop) (μ : Int → World → Nat), I 0 w ∧
  ∀ (i : Int) w, I i w → F_towpathlaw01_Book_fillAnswer_L0 b_ R (fun (i' : Int) w' => I i' w' ∧ μ i' w' < μ i w) i w

def F_towpathlaw01_Book_growByte_L0 (b_ : Option Addr) (R : World → Prop) (again_ : Int → World → Prop) (i : Int) (w1 : World) : Prop :=
  IsAt b_ ∧ (∃ (v10 : Slc), w1.cell? ⟨(pblk b_), (poff b_) + 1, none⟩ = some (Value.slice v10.ptr v10.len v10.cap) ∧ (((decide (i < ((v10.len : Nat) : Int))) = true → (False)) ∧
  ((decide (i < ((v10.len : Nat) : Int))) = false → (R w1))))

def F_towpathlaw01_Book_growByte (b_ : Option Addr) (R : World → Prop) (w : World) : Prop :=
  ∃ (I : Int → World → Prop) (μ : Int → World → Nat), I 0 w ∧
  ∀ (i : Int) w, I i w → F_towpathlaw01_Book_growByte_L0 b_ R (fun (i' : Int) w' => I i' w' ∧ μ i' w' < μ i w) i w

def F_towpathlaw01_Book_growInt_L0 (b_ : Option Addr) (R : World → Prop) (again_ : Int → World → Prop) (i : Int) (w1 : World) : Prop :=
  IsAt b_ ∧ (∃ (v10 : Slc), w1.cell? ⟨(pblk b_), (poff b_) + 2, none⟩ = some (Value.slice v10.ptr v10.len v10.cap) ∧ (((decide (i < ((v10.len : Nat) : Int))) = true → (False)) ∧
  ((decide (i < ((v10.len : Nat) : Int))) = false → (R w1))))

def F_towpathlaw01_Book_growInt (b_ : Option Addr) (R : World → Prop) (w : World) : Prop :=
  ∃ (I : Int → World → Prop) (μ : Int → World → Nat), I 0 w ∧
  ∀ (i : Int) w, I i w → F_towpathlaw01_Book_growInt_L0 b_ R (fun (i' : Int) w' => I i' w' ∧ μ i' w' < μ i w) i w

def F_towpathlaw01_Book_growText_L0 (b_ : Option Addr) (R : World → Prop) (again_ : Int → World → Prop) (i : Int) (w1 : World) : Prop :=
  IsAt b_ ∧ (∃ (v10 : Slc), w1.cell? ⟨(pblk b_), (poff b_) + 3, none⟩ = some (Value.slice v10.ptr v10.len v10.cap) ∧ (((decide (i < ((v10.len : Nat) : Int))) = true → (False)) ∧
  ((decide (i < ((v10.len : Nat) : Int))) = false → (R w1))))

def F_towpathlaw01_Book_growText (b_ : Option Addr) (R : World → Prop) (w : World) : Prop :=
  ∃ (I : Int → World → Prop) (μ : Int → World → Nat), I 0 w ∧
  ∀ (i : Int) w, I i w → F_towpathlaw01_Book_growText_L0 b_ R (fun (i' : Int) w' => I i' w' ∧ μ i' w' < μ i w) i w

def F_towpathlaw01_Book_growWrite_L1 (b_ : Option Addr) (i : Int) (again_ : Int → World → Prop) (b_1 : Nat) (again_1 : Slc → Int → World → Prop) (long1 : Slc) (k_ : Int) (w4 : World) : Prop :=
  ((decide (k_ < 70)) = true → (∃ (v30 : Int), w4.cell? ⟨b_1, 2, none⟩ = some (Value.int .i64 v30) ∧ (C_towpathlaw01_markWrite v30 w4 (fun (v31 : T_api_Write) w5 => ∀ b_2 w6, b_2 = w5.heap.size → w6 = w5.alloc (Obj.cells ([Value.string v31.Key, Value.string v31.Val, Value.bool v31.Drop]).toArray ty_api_Write (0, 0)) → (∃ src, SrcAt w6 (Slc.mk (some ⟨b_2, 0, none⟩) 1 1) 3 src ∧ AppendW 3 40 ty_api_Write [Value.string ByteArray.empty, Value.string ByteArray.empty, Value.bool false] long1 src 1 w6 (fun long2 w7 => again_1 long2 (IntKind.i64.wrap (k_ + 1)) w7)))))) ∧
  ((decide (k_ < 70)) = false → (IsAt b_ ∧ (∃ (v37 : Slc), w4.cell? ⟨(pblk b_), (poff b_) + 4, none⟩ = some (Value.slice v37.ptr v37.len v37.cap) ∧ (IsAt v37.ptr ∧ (0 ≤ i ∧ i < ((v37.len : Nat) : Int) ∧ (Writable w4 (pblk v37.ptr) (((poff v37.ptr) + i.toNat * 3) + 1) 1 ∧ (∀ w8, w8 = World.puts (pblk v37.ptr) (((poff v37.ptr) + i.toNat * 3) + 1) [Value.slice long1.ptr long1.len long1.cap] w4 → (again_ (IntKind.i64.wrap (i + 1)) w8))))))))

def F_towpathlaw01_Book_growWrite_L0 (b_ : Option Addr) (R : World → Prop) (again_ : Int → World → Prop) (i : Int) (w1 : World) : Prop :=
  IsAt b_ ∧ (∃ (v10 : Slc), w1.cell? ⟨(pblk b_), (poff b_) + 4, none⟩ = some (Value.slice v10.ptr v10.len v10.cap) ∧ (((decide (i < ((v10.len : Nat) : Int))) = true → (IsAt b_ ∧ (∃ (v18 : Slc), w1.cell? ⟨(pblk b_), (poff b_) + 4, none⟩ = some (Value.slice v18.ptr v18.len v18.cap) ∧ (IsAt v18.ptr ∧ (0 ≤ i ∧ i < ((v18.len : Nat) : Int) ∧ (∃ (v21 : T_towpathlaw01_heldWrite), CellsAt w1 (pblk v18.ptr) ((poff v18.ptr) + i.toNat * 3) [Value.slice v21.l.ptr v21.l.len v21.l.cap, Value.slice v21.long.ptr v21.long.len v21.long.cap, Value.int .i64 v21.n] ∧ (∀ b_1 w2, b_1 = w1.heap.size → w2 = w1.alloc (Obj.cells ([Value.slice none 0 0, Value.slice none 0 0, Value.int .i64 0]).toArray ty_towpathlaw01_heldWrite (0, 0)) → (Writable w2 b_1 0 3 ∧ (∀ w3, w3 = World.puts b_1 0 [Value.slice v21.l.ptr v21.l.len v21.l.cap, Value.slice v21.long.ptr v21.long.len v21.long.cap, Value.int .i64 v21.n] w2 → (∃ (long : Slc), w3.cell? ⟨b_1, 0, none⟩ = some (Value.slice long.ptr long.len long.cap) ∧ (∃ (I : Slc → Int → World → Prop) (μ : Slc → Int → World → Nat), I long 0 w3 ∧
  ∀ (long1 : Slc) (k_ : Int) w, I long1 k_ w → F_towpathlaw01_Book_growWrite_L1 b_ i again_ b_1 (fun (long1' : Slc) (k_' : Int) w' => I long1' k_' w' ∧ μ long1' k_' w' < μ long1 k_ w) long1 k_ w))))))))))) ∧
  ((decide (i < ((v10.len : Nat) : Int))) = false → (R w1))))

def F_towpathlaw01_Book_growWrite (b_ : Option Addr) (R : World → Prop) (w : World) : Prop :=
  ∃ (I : Int → World → Prop) (μ : Int → World → Nat), I 0 w ∧
  ∀ (i : Int) w, I i w → F_towpathlaw01_Book_growWrite_L0 b_ R (fun (i' : Int) w' => I i' w' ∧ μ i' w' < μ i w) i w

def F_towpathlaw01_Book_growEntry_L0 (b_ : Option Addr) (R : World → Prop) (again_ : Int → World → Prop) (i : Int) (w1 : World) : Prop :=
  IsAt b_ ∧ (∃ (v10 : Slc), w1.cell? ⟨(pblk b_), (poff b_) + 5, none⟩ = some (Value.slice v10.ptr v10.len v10.cap) ∧ (((decide (i < ((v10.len : Nat) : Int))) = true → (False)) ∧
  ((decide (i < ((v10.len : Nat) : Int))) = false → (R w1))))

def F_towpathlaw01_Book_growEntry (b_ : Option Addr) (R : World → Prop) (w : World) : Prop :=
  ∃ (I : Int → World → Prop) (μ : Int → World → Nat), I 0 w ∧
  ∀ (i : Int) w, I i w → F_towpathlaw01_Book_growEntry_L0 b_ R (fun (i' : Int) w' => I i' w' ∧ μ i' w' < μ i w) i w

def F_towpathlaw01_Book_growVersion_L0 (b_ : Option Addr) (R : World → Prop) (again_ : Int → World → Prop) (i : Int) (w1 : World) : Prop :=
  IsAt b_ ∧ (∃ (v10 : Slc), w1.cell? ⟨(pblk b_), (poff b_) + 6, none⟩ = some (Value.slice v10.ptr v10.len v10.cap) ∧ (((decide (i < ((v10.len : Nat) : Int))) = true → (False)) ∧
  ((decide (i < ((v10.len : Nat) : Int))) = false → (R w1))))

def F_towpathlaw01_Book_growVersion (b_ : Option Addr) (R : World → Prop) (w : World) : Prop :=
  ∃ (I : Int → World → Prop) (μ : Int → World → Nat), I 0 w ∧
  ∀ (i : Int) w, I i w → F_towpathlaw01_Book_growVersion_L0 b_ R (fun (i' : Int) w' => I i' w' ∧ μ i' w' < μ i w) i w

def F_towpathlaw01_Book_growTxn_L0 (b_ : Option Addr) (R : World → Prop) (again_ : Int → World → Prop) (i : Int) (w1 : World) : Prop :=
  IsAt b_ ∧ (∃ (v10 : Slc), w1.cell? ⟨(pblk b_), (poff b_) + 7, none⟩ = some (Value.slice v10.ptr v10.len v10.cap) ∧ (((decide (i < ((v10.len : Nat) : Int))) = true → (False)) ∧
  ((decide (i < ((v10.len : Nat) : Int))) = false → (R w1))))

def F_towpathlaw01_Book_growTxn (b_ : Option Addr) (R : World → Prop) (w : World) : Prop :=
  ∃ (I : Int → World → Prop) (μ : Int → World → Nat), I 0 w ∧
  ∀ (i : Int) w, I i w → F_towpathlaw01_Book_growTxn_L0 b_ R (fun (i' : Int) w' => I i' w' ∧ μ i' w' < μ i w) i w

def F_towpathlaw01_Book_growHeld_L0 (b_ : Option Addr) (R : World → Prop) (again_ : Int → World → Prop) (i : Int) (w1 : World) : Prop :=
  IsAt b_ ∧ (∃ (v10 : Slc), w1.cell? ⟨(pblk b_), (poff b_) + 8, none⟩ = some (Value.slice v10.ptr v10.len v10.cap) ∧ (((decide (i < ((v10.len : Nat) : Int))) = true → (False)) ∧
  ((decide (i < ((v10.len : Nat) : Int))) = false → (R w1))))

def F_towpathlaw01_Book_growHeld (b_ : Option Addr) (R : World → Prop) (w : World) : Prop :=
  ∃ (I : Int → World → Prop) (μ : Int → World → Nat), I 0 w ∧
  ∀ (i : Int) w, I i w → F_towpathlaw01_Book_growHeld_L0 b_ R (fun (i' : Int) w' => I i' w' ∧ μ i' w' < μ i w) i w

def F_towpathlaw01_Book_growHeldList_L0 (b_ : Option Addr) (R : World → Prop) (again_ : Int → World → Prop) (i : Int) (w1 : World) : Prop :=
  IsAt b_ ∧ (∃ (v10 : Slc), w1.cell? ⟨(pblk b_), (poff b_) + 9, none⟩ = some (Value.slice v10.ptr v10.len v10.cap) ∧ (((decide (i < ((v10.len : Nat) : Int))) = true → (False)) ∧
  ((decide (i < ((v10.len : Nat) : Int))) = false → (R w1))))

def F_towpathlaw01_Book_growHeldList (b_ : Option Addr) (R : World → Prop) (w : World) : Prop :=
  ∃ (I : Int → World → Prop) (μ : Int → World → Nat), I 0 w ∧
  ∀ (i : Int) w, I i w → F_towpathlaw01_Book_growHeldList_L0 b_ R (fun (i' : Int) w' => I i' w' ∧ μ i' w' < μ i w) i w

def F_towpathlaw01_Book_growEvent_L0 (b_ : Option Addr) (R : World → Prop) (again_ : Int → World → Prop) (i : Int) (w1 : World) : Prop :=
  IsAt b_ ∧ (∃ (v10 : Slc), w1.cell? ⟨(pblk b_), (poff b_) + 10, none⟩ = some (Value.slice v10.ptr v10.len v10.cap) ∧ (((decide (i < ((v10.len : Nat) : Int))) = true → (False)) ∧
  ((decide (i < ((v10.len : Nat) : Int))) = false → (R w1))))

def F_towpathlaw01_Book_growEvent (b_ : Option Addr) (R : World → Prop) (w : World) : Prop :=
  ∃ (I : Int → World → Prop) (μ : Int → World → Nat), I 0 w ∧
  ∀ (i : Int) w, I i w → F_towpathlaw01_Book_growEvent_L0 b_ R (fun (i' : Int) w' => I i' w' ∧ μ i' w' < μ i w) i w

def F_towpathlaw01_Book_growAnswer_L0 (b_ : Option Addr) (R : World → Prop) (again_ : Int → World → Prop) (i : Int) (w1 : World) : Prop :=
  IsAt b_ ∧ (∃ (v10 : Slc), w1.cell? ⟨(pblk b_), (poff b_) + 11, none⟩ = some (Value.slice v10.ptr v10.len v10.cap) ∧ (((decide (i < ((v10.len : Nat) : Int))) = true → (False)) ∧
  ((decide (i < ((v10.len : Nat) : Int))) = false → (R w1))))

def F_towpathlaw01_Book_growAnswer (b_ : Option Addr) (R : World → Prop) (w : World) : Prop :=
  ∃ (I : Int → World → Prop) (μ : Int → World → Nat), I 0 w ∧
  ∀ (i : Int) w, I i w → F_towpathlaw01_Book_growAnswer_L0 b_ R (fun (i' : Int) w' => I i' w' ∧ μ i' w' < μ i w) i w

def F_towpathlaw01_Book_lookByte_L0 (b_ : Option Addr) (R : Bool → World → Prop) (again_ : Int → World → Prop) (i : Int) (w1 : World) : Prop :=
  IsAt b_ ∧ (∃ (v10 : Slc), w1.cell? ⟨(pblk b_), (poff b_) + 1, none⟩ = some (Value.slice v10.ptr v10.len v10.cap) ∧ (((decide (i < ((v10.len : Nat) : Int))) = true → (False)) ∧
  ((decide (i < ((v10.len : Nat) : Int))) = false → (R true w1))))

def F_towpathlaw01_Book_lookByte (b_ : Option Addr) (R : Bool → World → Prop) (w : World) : Prop :=
  ∃ (I : Int → World → Prop) (μ : Int → World → Nat), I 0 w ∧
  ∀ (i : Int) w, I i w → F_towpathlaw01_Book_lookByte_L0 b_ R (fun (i' : Int) w' => I i' w' ∧ μ i' w' < μ i w) i w

def F_towpathlaw01_Book_lookInt_L0 (b_ : Option Addr) (R : Bool → World → Prop) (again_ : Int → World → Prop) (i : Int) (w1 : World) : Prop :=
  IsAt b_ ∧ (∃ (v10 : Slc), w1.cell? ⟨(pblk b_), (poff b_) + 2, none⟩ = some (Value.slice v10.ptr v10.len v10.cap) ∧ (((decide (i < ((v10.len : Nat) : Int))) = true → (False)) ∧
  ((decide (i < ((v10.len : Nat) : Int))) = false → (R true w1))))

def F_towpathlaw01_Book_lookInt (b_ : Option Addr) (R : Bool → World → Prop) (w : World) : Prop :=
  ∃ (I : Int → World → Prop) (μ : Int → World → Nat), I 0 w ∧
  ∀ (i : Int) w, I i w → F_towpathlaw01_Book_lookInt_L0 b_ R (fun (i' : Int) w' => I i' w' ∧ μ i' w' < μ i w) i w

def F_towpathlaw01_Book_lookText_L0 (b_ : Option Addr) (R : Bool → World → Prop) (again_ : Int → World → Prop) (i : Int) (w1 : World) : Prop :=
  IsAt b_ ∧ (∃ (v10 : Slc), w1.cell? ⟨(pblk b_), (poff b_) + 3, none⟩ = some (Value.slice v10.ptr v10.len v10.cap) ∧ (((decide (i < ((v10.len : Nat) : Int))) = true → (False)) ∧
  ((decide (i < ((v10.len : Nat) : Int))) = false → (R true w1))))

def F_towpathlaw01_Book_lookText (b_ : Option Addr) (R : Bool → World → Prop) (w : World) : Prop :=
  ∃ (I : Int → World → Prop) (μ : Int → World → Nat), I 0 w ∧
  ∀ (i : Int) w, I i w → F_towpathlaw01_Book_lookText_L0 b_ R (fun (i' : Int) w' => I i' w' ∧ μ i' w' < μ i w) i w

def F_towpathlaw01_Book_lookWrite_k2 (R : Bool → World → Prop) (k_ : Int) (again_1 : Int → World → Prop) (t63 : Bool) (w5 : World) : Prop :=
  (t63 = true → (R false w5)) ∧
  (t63 = false → (again_1 (IntKind.i64.wrap (k_ + 1)) w5))

def F_towpathlaw01_Book_lookWrite_L1 (R : Bool → World → Prop) (i : Int) (again_ : Int → World → Prop) (b_1 : Nat) (again_1 : Int → World → Prop) (k_ : Int) (w4 : World) : Prop :=
  ∃ (v32 : Slc), w4.cell? ⟨b_1, 1, none⟩ = some (Value.slice v32.ptr v32.len v32.cap) ∧ (((decide (k_ < ((v32.len : Nat) : Int))) = true → (∀ w6, (∃ k, w6 = w4.drewN k) → (∃ (v38 : Slc), w6.cell? ⟨b_1, 1, none⟩ = some (Value.slice v38.ptr v38.len v38.cap) ∧ (IsAt v38.ptr ∧ (0 ≤ k_ ∧ k_ < ((v38.len : Nat) : Int) ∧ (∃ (v41 : T_api_Write), CellsAt w6 (pblk v38.ptr) ((poff v38.ptr) + k_.toNat * 3) [Value.string v41.Key, Value.string v41.Val, Value.bool v41.Drop] ∧ (∃ (v43 : Int), w6.cell? ⟨b_1, 2, none⟩ = some (Value.int .i64 v43) ∧ (C_towpathlaw01_isWrite v41 v43 w6 (fun (v44 : Bool) w7 => (((!v44) = true → (F_towpathlaw01_Book_lookWrite_k2 R k_ again_1 true w7)) ∧
  ((!v44) = false → (∃ (v49 : Slc), w7.cell? ⟨b_1, 0, none⟩ = some (Value.slice v49.ptr v49.len v49.cap) ∧ (((decide (k_ < ((v49.len : Nat) : Int))) = true → (∃ (v54 : Slc), w7.cell? ⟨b_1, 0, none⟩ = some (Value.slice v54.ptr v54.len v54.cap) ∧ (IsAt v54.ptr ∧ (0 ≤ k_ ∧ k_ < ((v54.len : Nat) : Int) ∧ (∃ (v57 : T_api_Write), CellsAt w7 (pblk v54.ptr) ((poff v54.ptr) + k_.toNat * 3) [Value.string v57.Key, Value.string v57.Val, Value.bool v57.Drop] ∧ (∃ (v59 : Int), w7.cell? ⟨b_1, 2, none⟩ = some (Value.int .i64 v59) ∧ (C_towpathlaw01_isWrite v57 v59 w7 (fun (v60 : Bool) w8 => (F_towpathlaw01_Book_lookWrite_k2 R k_ again_1 (!v60) w8))))))))) ∧
  ((decide (k_ < ((v49.len : Nat) : Int))) = false → (F_towpathlaw01_Book_lookWrite_k2 R k_ again_1 false w7))))))))))))))) ∧
  ((decide (k_ < ((v32.len : Nat) : Int))) = false → (again_ (IntKind.i64.wrap (i + 1)) w4)))

def F_towpathlaw01_Book_lookWrite_L0 (b_ : Option Addr) (R : Bool → World → Prop) (again_ : Int → World → Prop) (i : Int) (w1 : World) : Prop :=
  IsAt b_ ∧ (∃ (v10 : Slc), w1.cell? ⟨(pblk b_), (poff b_) + 4, none⟩ = some (Value.slice v10.ptr v10.len v10.cap) ∧ (((decide (i < ((v10.len : Nat) : Int))) = true → (IsAt b_ ∧ (∃ (v18 : Slc), w1.cell? ⟨(pblk b_), (poff b_) + 4, none⟩ = some (Value.slice v18.ptr v18.len v18.cap) ∧ (IsAt v18.ptr ∧ (0 ≤ i ∧ i < ((v18.len : Nat) : Int) ∧ (∃ (v21 : T_towpathlaw01_heldWrite), CellsAt w1 (pblk v18.ptr) ((poff v18.ptr) + i.toNat * 3) [Value.slice v21.l.ptr v21.l.len v21.l.cap, Value.slice v21.long.ptr v21.long.len v21.long.cap, Value.int .i64 v21.n] ∧ (∀ b_1 w2, b_1 = w1.heap.size → w2 = w1.alloc (Obj.cells ([Value.slice none 0 0, Value.slice none 0 0, Value.int .i64 0]).toArray ty_towpathlaw01_heldWrite (0, 0)) → (Writable w2 b_1 0 3 ∧ (∀ w3, w3 = World.puts b_1 0 [Value.slice v21.l.ptr v21.l.len v21.l.cap, Value.slice v21.long.ptr v21.long.len v21.long.cap, Value.int .i64 v21.n] w2 → (∃ (v23 : Slc), w3.cell? ⟨b_1, 1, none⟩ = some (Value.slice v23.ptr v23.len v23.cap) ∧ (∃ (v26 : Slc), w3.cell? ⟨b_1, 0, none⟩ = some (Value.slice v26.ptr v26.len v26.cap) ∧ (((((v23.len : Nat) : Int) != (IntKind.i64.wrap (((v26.len : Nat) : Int) + 70))) = true → (R false w3)) ∧
  ((((v23.len : Nat) : Int) != (IntKind.i64.wrap (((v26.len : Nat) : Int) + 70))) = false → (∃ (I : Int → World → Prop) (μ : Int → World → Nat), I 0 w3 ∧
  ∀ (k_ : Int) w, I k_ w → F_towpathlaw01_Book_lookWrite_L1 R i again_ b_1 (fun (k_' : Int) w' => I k_' w' ∧ μ k_' w' < μ k_ w) k_ w)))))))))))))) ∧
  ((decide (i < ((v10.len : Nat) : Int))) = false → (R true w1))))

def F_towpathlaw01_Book_lookWrite (b_ : Option Addr) (R : Bool → World → Prop) (w : World) : Prop :=
  ∃ (I : Int → World → Prop) (μ : Int → World → Nat), I 0 w ∧
  ∀ (i : Int) w, I i w → F_towpathlaw01_Book_lookWrite_L0 b_ R (fun (i' : Int) w' => I i' w' ∧ μ i' w' < μ i w) i w

def F_towpathlaw01_Book_lookEntry_L0 (b_ : Option Addr) (R : Bool → World → Prop) (again_ : Int → World → Prop) (i : Int) (w1 : World) : Prop :=
  IsAt b_ ∧ (∃ (v10 : Slc), w1.cell? ⟨(pblk b_), (poff b_) + 5, none⟩ = some (Value.slice v10.ptr v10.len v10.cap) ∧ (((decide (i < ((v10.len : Nat) : Int))) = true → (False)) ∧
  ((decide (i < ((v10.len : Nat) : Int))) = false → (R true w1))))

def F_towpathlaw01_Book_lookEntry (b_ : Option Addr) (R : Bool → World → Prop) (w : World) : Prop :=
  ∃ (I : Int → World → Prop) (μ : Int → World → Nat), I 0 w ∧
  ∀ (i : Int) w, I i w → F_towpathlaw01_Book_lookEntry_L0 b_ R (fun (i' : Int) w' => I i' w' ∧ μ i' w' < μ i w) i w

def F_towpathlaw01_Book_lookVersion_L0 (b_ : Option Addr) (R : Bool → World → Prop) (again_ : Int → World → Prop) (i : Int) (w1 : World) : Prop :=
  IsAt b_ ∧ (∃ (v10 : Slc), w1.cell? ⟨(pblk b_), (poff b_) + 6, none⟩ = some (Value.slice v10.ptr v10.len v10.cap) ∧ (((decide (i < ((v10.len : Nat) : Int))) = true → (False)) ∧
  ((decide (i < ((v10.len : Nat) : Int))) = false → (R true w1))))

def F_towpathlaw01_Book_lookVersion (b_ : Option Addr) (R : Bool → World → Prop) (w : World) : Prop :=
  ∃ (I : Int → World → Prop) (μ : Int → World → Nat), I 0 w ∧
  ∀ (i : Int) w, I i w → F_towpathlaw01_Book_lookVersion_L0 b_ R (fun (i' : Int) w' => I i' w' ∧ μ i' w' < μ i w) i w

def F_towpathlaw01_Book_lookTxn_L0 (b_ : Option Addr) (R : Bool → World → Prop) (again_ : Int → World → Prop) (i : Int) (w1 : World) : Prop :=
  IsAt b_ ∧ (∃ (v10 : Slc), w1.cell? ⟨(pblk b_), (poff b_) + 7, none⟩ = some (Value.slice v10.ptr v10.len v10.cap) ∧ (((decide (i < ((v10.len : Nat) : Int))) = true → (False)) ∧
  ((decide (i < ((v10.len : Nat) : Int))) = false → (R true w1))))

def F_towpathlaw01_Book_lookTxn (b_ : Option Addr) (R : Bool → World → Prop) (w : World) : Prop :=
  ∃ (I : Int → World → Prop) (μ : Int → World → Nat), I 0 w ∧
  ∀ (i : Int) w, I i w → F_towpathlaw01_Book_lookTxn_L0 b_ R (fun (i' : Int) w' => I i' w' ∧ μ i' w' < μ i w) i w

def F_towpathlaw01_Book_lookHeld_L0 (b_ : Option Addr) (R : Bool → World → Prop) (again_ : Int → World → Prop) (i : Int) (w1 : World) : Prop :=
  IsAt b_ ∧ (∃ (v10 : Slc), w1.cell? ⟨(pblk b_), (poff b_) + 8, none⟩ = some (Value.slice v10.ptr v10.len v10.cap) ∧ (((decide (i < ((v10.len : Nat) : Int))) = true → (False)) ∧
  ((decide (i < ((v10.len : Nat) : Int))) = false → (R true w1))))

def F_towpathlaw01_Book_lookHeld (b_ : Option Addr) (R : Bool → World → Prop) (w : World) : Prop :=
  ∃ (I : Int → World → Prop) (μ : Int → World → Nat), I 0 w ∧
  ∀ (i : Int) w, I i w → F_towpathlaw01_Book_lookHeld_L0 b_ R (fun (i' : Int) w' => I i' w' ∧ μ i' w' < μ i w) i w

def F_towpathlaw01_Book_lookHeldList_L0 (b_ : Option Addr) (R : Bool → World → Prop) (again_ : Int → World → Prop) (i : Int) (w1 : World) : Prop :=
  IsAt b_ ∧ (∃ (v10 : Slc), w1.cell? ⟨(pblk b_), (poff b_) + 9, none⟩ = some (Value.slice v10.ptr v10.len v10.cap) ∧ (((decide (i < ((v10.len : Nat) : Int))) = true → (False)) ∧
  ((decide (i < ((v10.len : Nat) : Int))) = false → (R true w1))))

def F_towpathlaw01_Book_lookHeldList (b_ : Option Addr) (R : Bool → World → Prop) (w : World) : Prop :=
  ∃ (I : Int → World → Prop) (μ : Int → World → Nat), I 0 w ∧
  ∀ (i : Int) w, I i w → F_towpathlaw01_Book_lookHeldList_L0 b_ R (fun (i' : Int) w' => I i' w' ∧ μ i' w' < μ i w) i w

def F_towpathlaw01_Book_lookEvent_L0 (b_ : Option Addr) (R : Bool → World → Prop) (again_ : Int → World → Prop) (i : Int) (w1 : World) : Prop :=
  IsAt b_ ∧ (∃ (v10 : Slc), w1.cell? ⟨(pblk b_), (poff b_) + 10, none⟩ = some (Value.slice v10.ptr v10.len v10.cap) ∧ (((decide (i < ((v10.len : Nat) : Int))) = true → (False)) ∧
  ((decide (i < ((v10.len : Nat) : Int))) = false → (R true w1))))

def F_towpathlaw01_Book_lookEvent (b_ : Option Addr) (R : Bool → World → Prop) (w : World) : Prop :=
  ∃ (I : Int → World → Prop) (μ : Int → World → Nat), I 0 w ∧
  ∀ (i : Int) w, I i w → F_towpathlaw01_Book_lookEvent_L0 b_ R (fun (i' : Int) w' => I i' w' ∧ μ i' w' < μ i w) i w

def F_towpathlaw01_Book_lookAnswer_L0 (b_ : Option Addr) (R : Bool → World → Prop) (again_ : Int → World → Prop) (i : Int) (w1 : World) : Prop :=
  IsAt b_ ∧ (∃ (v10 : Slc), w1.cell? ⟨(pblk b_), (poff b_) + 11, none⟩ = some (Value.slice v10.ptr v10.len v10.cap) ∧ (((decide (i < ((v10.len : Nat) : Int))) = true → (False)) ∧
  ((decide (i < ((v10.len : Nat) : Int))) = false → (R true w1))))

def F_towpathlaw01_Book_lookAnswer (b_ : Option Addr) (R : Bool → World → Prop) (w : World) : Prop :=
  ∃ (I : Int → World → Prop) (μ : Int → World → Nat), I 0 w ∧
  ∀ (i : Int) w, I i w → F_towpathlaw01_Book_lookAnswer_L0 b_ R (fun (i' : Int) w' => I i' w' ∧ μ i' w' < μ i w) i w

def F_logfile_turns (R : Value → World → Prop) (w : World) : Prop :=
  ∀ b_ w1, b_ = w.heap.size → w1 = w.alloc (Obj.cells ([Value.int .i64 0]).toArray ty_int (0, 0)) → (Writable w1 b_ 0 1 ∧ (∀ w2, w2 = World.puts b_ 0 [Value.int .i64 1] w1 → (R (Value.func (.func 124) #[] #[Value.pointer (some ⟨b_, 0, none⟩)]) w2)))

def F_slices_Clone_api_Write_api_Write (s : Slc) (R : Slc → World → Prop) (w : World) : Prop :=
  (s.ptr.isNone = true → (R (Slc.mk none 0 0) w)) ∧
  (s.ptr.isNone = false → (∀ b_ w1, b_ = w.heap.size → w1 = w.alloc (Obj.cells ([]).toArray ty_api_Write (0, 0)) → (∃ src, SrcAt w1 s 3 src ∧ AppendW 3 40 ty_api_Write [Value.string ByteArray.empty, Value.string ByteArray.empty, Value.bool false] (Slc.mk (some ⟨b_, 0, none⟩) 0 0) src s.len w1 (fun v7 w2 => R v7 w2))))

def F_towpathlaw01_Book_keepWrite (b_ : Option Addr) (l_ : Slc) (R : World → Prop) (w : World) : Prop :=
  IsAt b_ ∧ (∃ (v7 : Int), w.cell? ⟨(pblk b_), (poff b_), none⟩ = some (Value.int .i64 v7) ∧ (Writable w (pblk b_) (poff b_) 1 ∧ (∀ w1, w1 = World.puts (pblk b_) (poff b_) [Value.int .i64 (IntKind.i64.wrap (v7 + 1))] w → (∀ w2, (∃ k, w2 = w1.drewN k) → (IsAt b_ ∧ (∃ (v15 : Slc), w2.cell? ⟨(pblk b_), (poff b_) + 4, none⟩ = some (Value.slice v15.ptr v15.len v15.cap) ∧ (IsAt b_ ∧ (∃ (v20 : Int), w2.cell? ⟨(pblk b_), (poff b_), none⟩ = some (Value.int .i64 v20) ∧ (∀ b_1 w3, b_1 = w2.heap.size → w3 = w2.alloc (Obj.cells ([Value.slice l_.ptr l_.len l_.cap, Value.slice none 0 0, Value.int .i64 v20]).toArray ty_towpathlaw01_heldWrite (0, 0)) → (w3.cell? ⟨(pblk b_), (poff b_) + 4, none⟩ = some (Value.slice v15.ptr v15.len v15.cap) ∧ (∃ src, SrcAt w3 (Slc.mk (some ⟨b_1, 0, none⟩) 1 1) 3 src ∧ AppendW 3 56 ty_towpathlaw01_heldWrite [Value.slice none 0 0, Value.slice none 0 0, Value.int .i64 0] v15 src 1 w3 (fun v23 w4 => (IsAt b_ ∧ (Writable w4 (pblk b_) ((poff b_) + 4) 1 ∧ (∀ w5, w5 = World.puts (pblk b_) ((poff b_) + 4) [Value.slice v23.ptr v23.len v23.cap] w4 → ((R w5)))))))))))))))))

def F_towpathlaw01_markWrite (n_ : Int) (R : T_api_Write → World → Prop) (w : World) : Prop :=
  ∀ b_ w1, b_ = w.heap.size → w1 = w.alloc (Obj.cells ([Value.string ByteArray.empty, Value.string ByteArray.empty, Value.bool false]).toArray ty_api_Write (0, 0)) → (C_towpathlaw01_word n_ w1 (fun (v4 : ByteArray) w2 => Writable w2 b_ 0 3 ∧ (∀ w3, w3 = World.puts b_ 0 [Value.string v4, Value.string ByteArray.empty, Value.bool false] w2 → (∃ (res : T_api_Write), CellsAt w3 b_ 0 [Value.string res.Key, Value.string res.Val, Value.bool res.Drop] ∧ (R res w3)))))

def F_towpathlaw01_isWrite (x : T_api_Write) (n_ : Int) (R : Bool → World → Prop) (w : World) : Prop :=
  ∀ b_ w1, b_ = w.heap.size → w1 = w.alloc (Obj.cells ([Value.string x.Key, Value.string x.Val, Value.bool x.Drop]).toArray ty_api_Write (0, 0)) → (∀ w2, (∃ k, w2 = w1.drewN k) → (∃ (v5 : T_api_Write), CellsAt w2 b_ 0 [Value.string v5.Key, Value.string v5.Val, Value.bool v5.Drop] ∧ (C_towpathlaw01_word n_ w2 (fun (v7 : ByteArray) w3 => CellsAt w3 b_ 0 [Value.string v5.Key, Value.string v5.Val, Value.bool v5.Drop] ∧ (R (((v5.Key == v7) && (v5.Val == ByteArray.empty)) && (v5.Drop == false)) w3)))))

def F_logfile_turns_1 (t_ : T_api_Txn) (t1 : Option Addr) (R : Int → World → Prop) (w : World) : Prop :=
  ∀ b_ w1, b_ = w.heap.size → w1 = w.alloc (Obj.cells ([Value.int .i64 t_.Number, Value.slice t_.Writes.ptr t_.Writes.len t_.Writes.cap]).toArray ty_api_Txn (0, 0)) → (∃ (v5 : T_api_Txn), CellsAt w1 b_ 0 [Value.int .i64 v5.Number, Value.slice v5.Writes.ptr v5.Writes.len v5.Writes.cap] ∧ (C_record_Check v5 w1 (fun (v6 : Int) w2 => ((v6 != 0) = true → (R v6 w2)) ∧
  ((v6 != 0) = false → (∃ (v11 : Int), w2.cell? ⟨b_, 0, none⟩ = some (Value.int .i64 v11) ∧ (IsAt t1 ∧ (∃ (v12 : Int), w2.cell? ⟨(pblk t1), (poff t1), none⟩ = some (Value.int .i64 v12) ∧ (((v11 != v12) = true → (R 6 w2)) ∧
  ((v11 != v12) = false → (IsAt t1 ∧ (∃ (v14 : Int), w2.cell? ⟨(pblk t1), (poff t1), none⟩ = some (Value.int .i64 v14) ∧ (Writable w2 (pblk t1) (poff t1) 1 ∧ (∀ w3, w3 = World.puts (pblk t1) (poff t1) [Value.int .i64 (IntKind.i64.wrap (v14 + 1))] w2 → (R 0 w3))))))))))))))

def F_record_Check_k0 (R : Int → World → Prop) (t23 : Bool) (w2 : World) : Prop :=
  (t23 = true → (R 1 w2)) ∧
  (t23 = false → (R 0 w2))

def F_record_Check (t_ : T_api_Txn) (R : Int → World → Prop) (w : World) : Prop :=
  ∀ b_ w1, b_ = w.heap.size → w1 = w.alloc (Obj.cells ([Value.int .i64 t_.Number, Value.slice t_.Writes.ptr t_.Writes.len t_.Writes.cap]).toArray ty_api_Txn (0, 0)) → (∃ (v5 : Int), w1.cell? ⟨b_, 0, none⟩ = some (Value.int .i64 v5) ∧ (((decide (v5 < 1)) = true → (F_record_Check_k0 R true w1)) ∧
  ((decide (v5 < 1)) = false → (∃ (v9 : Int), w1.cell? ⟨b_, 0, none⟩ = some (Value.int .i64 v9) ∧ (((decide (v9 > 65536)) = true → (F_record_Check_k0 R true w1)) ∧
  ((decide (v9 > 65536)) = false → (∃ (v14 : Slc), w1.cell? ⟨b_, 1, none⟩ = some (Value.slice v14.ptr v14.len v14.cap) ∧ (((decide (((v14.len : Nat) : Int) > 32)) = true → (F_record_Check_k0 R true w1)) ∧
  ((decide (((v14.len : Nat) : Int) > 32)) = false → (∃ (v20 : Slc), w1.cell? ⟨b_, 1, none⟩ = some (Value.slice v20.ptr v20.len v20.cap) ∧ (C_slices_ContainsFunc_api_Write_api_Write v20 (Value.func (.func 134) #[] #[]) w1 (fun (v22 : Bool) w3 => F_record_Check_k0 R v22 w3))))))))))))

def F_towpathlaw01_word (n_ : Int) (R : ByteArray → World → Prop) (w : World) : Prop :=
  C_strconv_Itoa n_ w (fun (v4 : ByteArray) w1 => (((ByteArray.mk #[35]).size + v4.size : Nat) : Int) ≤ 9223372036854775807 ∧ (R ((ByteArray.mk #[35]) ++ v4) w1))

def F_record_Check_1 (w_ : T_api_Write) (R : Bool → World → Prop) (w : World) : Prop :=
  ∀ b_ w1, b_ = w.heap.size → w1 = w.alloc (Obj.cells ([Value.string w_.Key, Value.string w_.Val, Value.bool w_.Drop]).toArray ty_api_Write (0, 0)) → (∃ (v4 : ByteArray), w1.cell? ⟨b_, 0, none⟩ = some (Value.string v4) ∧ (((v4.toList == ByteArray.empty.toList) = true → (R true w1)) ∧
  ((v4.toList == ByteArray.empty.toList) = false → (∃ (v8 : ByteArray), w1.cell? ⟨b_, 0, none⟩ = some (Value.string v8) ∧ (((decide (((v8.size : Nat) : Int) > 64)) = true → (R true w1)) ∧
  ((decide (((v8.size : Nat) : Int) > 64)) = false → (∃ (v14 : ByteArray), w1.cell? ⟨b_, 1, none⟩ = some (Value.string v14) ∧ (((decide (((v14.size : Nat) : Int) > 1024)) = true → (R true w1)) ∧
  ((decide (((v14.size : Nat) : Int) > 1024)) = false → (∃ (v20 : Bool), w1.cell? ⟨b_, 2, none⟩ = some (Value.bool v20) ∧ ((v20 = true → (∃ (v23 : ByteArray), w1.cell? ⟨b_, 1, none⟩ = some (Value.string v23) ∧ (R (!(v23.toList == ByteArray.empty.toList)) w1))) ∧
  (v20 = false → (R false w1)))))))))))))

def F_slices_ContainsFunc_api_Write_api_Write (s : Slc) (f : Value) (R : Bool → World → Prop) (w : World) : Prop :=
  C_slices_IndexFunc_api_Write_api_Write s f w (fun (v7 : Int) w1 => R (decide (v7 ≥ 0)) w1)

def F_strconv_Itoa (i : Int) (R : ByteArray → World → Prop) (w : World) : Prop :=
  C_internal_strconv_Itoa i w (fun (v4 : ByteArray) w1 => R v4 w1)

def F_slices_IndexFunc_api_Write_api_Write_L0 (s : Slc) (f : Value) (R : Int → World → Prop) (again_ : Int → World → Prop) (t8 : Int) (w1 : World) : Prop :=
  ((decide (t8 < ((s.len : Nat) : Int))) = true → (IsAt s.ptr ∧ (0 ≤ t8 ∧ t8 < ((s.len : Nat) : Int) ∧ (∃ (v15 : T_api_Write), CellsAt w1 (pblk s.ptr) ((poff s.ptr) + t8.toNat * 3) [Value.string v15.Key, Value.string v15.Val, Value.bool v15.Drop] ∧ (CallsV (P := Tryz.prog) f #[Value.agg #[Value.string v15.Key, Value.string v15.Val, Value.bool v15.Drop]] w1 (fun e' w2 => ∃ (v16 : Bool), e' = Ending.returned (Value.bool v16) ∧ ((v16 = true → (R t8 w2)) ∧
  (v16 = false → (again_ (IntKind.i64.wrap (t8 + 1)) w2))))))))) ∧
  ((decide (t8 < ((s.len : Nat) : Int))) = false → (R (-1) w1))

def F_slices_IndexFunc_api_Write_api_Write (s : Slc) (f : Value) (R : Int → World → Prop) (w : World) : Prop :=
  ∃ (I : Int → World → Prop) (μ : Int → World → Nat), I 0 w ∧
  ∀ (t8 : Int) w, I t8 w → F_slices_IndexFunc_api_Write_api_Write_L0 s f R (fun (t8' : Int) w' => I t8' w' ∧ μ t8' w' < μ t8 w) t8 w

def F_internal_strconv_Itoa (i : Int) (R : ByteArray → World → Prop) (w : World) : Prop :=
  C_internal_strconv_FormatInt i 10 w (fun (v4 : ByteArray) w1 => R v4 w1)

def Ok_T_api_Write (w : World) (x : T_api_Write) : Prop := (x.Key.size ≤ 140737488351232) ∧ (x.Val.size ≤ 140737488351232) ∧ True

def Ok_T_api_Txn (w : World) (x : T_api_Txn) : Prop := ((-9223372036854775808) ≤ x.Number ∧ x.Number ≤ 9223372036854775807) ∧ (OkSl w x.Writes 3 40 (fun es => ∃ e_ : T_api_Write, es = [Value.string e_.Key, Value.string e_.Val, Value.bool e_.Drop] ∧ (Ok_T_api_Write w e_)))

end Go.Proofs.YtpedclhflmhakaaGreatDoor
