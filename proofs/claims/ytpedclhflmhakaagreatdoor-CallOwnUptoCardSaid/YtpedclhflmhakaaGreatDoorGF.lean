/- WRITTEN BY PROGRAM (dec.py): for each Go function the clean formula F, the call's contract C, and the proof S that F gives C. -/
import Derived.Test.YtpedclhflmhakaaGreatDoorRows
import Derived.Test.YtpedclhflmhakaaGreatDoorCore
namespace Go.Proofs.YtpedclhflmhakaaGreatDoor
open Go
set_option linter.unusedVariables false


abbrev ty_int : TypeId := 3

abbrev ty_towpathlaw01_Book : TypeId := 35

abbrev ty_api_Config : TypeId := 56

abbrev ty_api_Call : TypeId := 59

abbrev ty_towpathlaw17_Made : TypeId := 61

abbrev ty_ptr_call_Task : TypeId := 63

abbrev ty_sl_int : TypeId := 67

abbrev ty_sl_api_Entry : TypeId := 68

abbrev ty_api_Resp : TypeId := 71

abbrev ty_api_Req : TypeId := 82

abbrev ty_api_Answer : TypeId := 86

abbrev ty_call_Task : TypeId := 115

abbrev ty_call_asked : TypeId := 122

abbrev ty_api_Held : TypeId := 125

abbrev ty_api_Version : TypeId := 128

abbrev ty_api_Entry : TypeId := 131

abbrev ty_towpathlaw01_heldInt : TypeId := 149

abbrev ty_towpathlaw01_heldEntry : TypeId := 159

abbrev ty_towpathlaw01_heldVersion : TypeId := 162

abbrev ty_towpathlaw01_heldHeld : TypeId := 168

abbrev ty_2_int : TypeId := 195

structure T_api_Config where
  Lanes : Int
  Shards : Int
  Window : Int
  Queue : Int

structure T_api_Call where
  Kind : Int
  Key : ByteArray
  End : ByteArray

structure T_towpathlaw17_Made where
  Number : Int
  Config : T_api_Config
  Call : T_api_Call

structure T_api_Resp where
  To : Int
  OK : Bool
  Entries : Slc
  Held : Slc
  Count : Int

structure T_api_Write where
  Key : ByteArray
  Val : ByteArray
  Drop : Bool

structure T_api_Req where
  Kind : Int
  From : Int
  Number : Int
  Write : T_api_Write
  Key : ByteArray
  End : ByteArray
  Beyond : Slc

structure T_api_Answer where
  Code : Int
  Mark : Int
  OK : Bool
  Entries : Slc
  Count : Int

structure T_api_Held where
  Key : ByteArray
  Versions : Slc

structure T_towpathlaw01_heldHeld where
  l : Slc
  long : Slc
  n : Int

structure T_towpathlaw01_heldInt where
  l : Slc
  long : Slc
  n : Int

structure T_towpathlaw01_heldEntry where
  l : Slc
  long : Slc
  n : Int

structure T_api_Entry where
  Key : ByteArray
  Val : ByteArray

structure T_towpathlaw01_heldVersion where
  l : Slc
  long : Slc
  n : Int

structure T_api_Version where
  Number : Int
  Val : ByteArray
  Drop : Bool

structure Arr2_Int where
  e0 : Int
  e1 : Int

structure T_towpathlaw17_Ask where
  Kind : Int
  Mark : Int
  Least : Int
  Beyond : Slc
  Resp : T_api_Resp

def C_towpathlaw17_CallOwn (m_ : T_towpathlaw17_Made) (q : Slc) (w : World) (R : Bool → World → Prop) : Prop :=
  Calls Tryz.prog 4 #[Value.agg #[Value.int .i64 m_.Number, Value.int .i64 m_.Config.Lanes, Value.int .i64 m_.Config.Shards, Value.int .i64 m_.Config.Window, Value.int .i64 m_.Config.Queue, Value.int .u8 m_.Call.Kind, Value.string m_.Call.Key, Value.string m_.Call.End], Value.slice q.ptr q.len q.cap] w (fun e w' => ∃ (r0 : Bool), e = .returned (Value.bool r0) ∧ R r0 w')

def C_towpathlaw01_Book_Apart (b_ : Option Addr) (w : World) (R : Bool → World → Prop) : Prop :=
  Calls Tryz.prog 13 #[Value.pointer b_] w (fun e w' => ∃ (r0 : Bool), e = .returned (Value.bool r0) ∧ R r0 w')

def C_call_New (number : Int) (c : T_api_Config) (x : T_api_Call) (w : World) (R : Option Addr → Int → World → Prop) : Prop :=
  Calls Tryz.prog 14 #[Value.int .i64 number, Value.agg #[Value.int .i64 c.Lanes, Value.int .i64 c.Shards, Value.int .i64 c.Window, Value.int .i64 c.Queue], Value.agg #[Value.int .u8 x.Kind, Value.string x.Key, Value.string x.End]] w (fun e w' => ∃ (r0 : Option Addr) (r1 : Int), e = .returned (Value.tuple #[Value.pointer r0, Value.int .i64 r1]) ∧ R r0 r1 w')

def C_towpathlaw17_lives (w : World) (R : Bool → World → Prop) : Prop :=
  Calls Tryz.prog 15 #[] w (fun e w' => ∃ (r0 : Bool), e = .returned (Value.bool r0) ∧ R r0 w')

def C_call_Task_Begin (t_ : Option Addr) (mark : Int) (least : Int) (beyond : Slc) (w : World) (R : Int → World → Prop) : Prop :=
  Calls Tryz.prog 16 #[Value.pointer t_, Value.int .i64 mark, Value.int .i64 least, Value.slice beyond.ptr beyond.len beyond.cap] w (fun e w' => ∃ (r0 : Int), e = .returned (Value.int .i64 r0) ∧ R r0 w')

def C_call_Task_Got (t_ : Option Addr) (r : T_api_Resp) (w : World) (R : Int → World → Prop) : Prop :=
  Calls Tryz.prog 17 #[Value.pointer t_, Value.agg #[Value.int .i64 r.To, Value.bool r.OK, Value.slice r.Entries.ptr r.Entries.len r.Entries.cap, Value.slice r.Held.ptr r.Held.len r.Held.cap, Value.int .i64 r.Count]] w (fun e w' => ∃ (r0 : Int), e = .returned (Value.int .i64 r0) ∧ R r0 w')

def C_towpathlaw01_TwinResp (x : T_api_Resp) (w : World) (R : T_api_Resp → World → Prop) : Prop :=
  Calls Tryz.prog 18 #[Value.agg #[Value.int .i64 x.To, Value.bool x.OK, Value.slice x.Entries.ptr x.Entries.len x.Entries.cap, Value.slice x.Held.ptr x.Held.len x.Held.cap, Value.int .i64 x.Count]] w (fun e w' => ∃ (r0 : T_api_Resp), e = .returned (Value.agg #[Value.int .i64 r0.To, Value.bool r0.OK, Value.slice r0.Entries.ptr r0.Entries.len r0.Entries.cap, Value.slice r0.Held.ptr r0.Held.len r0.Held.cap, Value.int .i64 r0.Count]) ∧ R r0 w')

def C_call_Task_Sent (t_ : Option Addr) (w : World) (R : Int → World → Prop) : Prop :=
  Calls Tryz.prog 19 #[Value.pointer t_] w (fun e w' => ∃ (r0 : Int), e = .returned (Value.int .i64 r0) ∧ R r0 w')

def C_call_Task_Next (t_ : Option Addr) (w : World) (R : Int → T_api_Req → Bool → World → Prop) : Prop :=
  Calls Tryz.prog 20 #[Value.pointer t_] w (fun e w' => ∃ (r0 : Int) (r1 : T_api_Req) (r2 : Bool), e = .returned (Value.tuple #[Value.int .i64 r0, Value.agg #[Value.int .u8 r1.Kind, Value.int .i64 r1.From, Value.int .i64 r1.Number, Value.string r1.Write.Key, Value.string r1.Write.Val, Value.bool r1.Write.Drop, Value.string r1.Key, Value.string r1.End, Value.slice r1.Beyond.ptr r1.Beyond.len r1.Beyond.cap], Value.bool r2]) ∧ R r0 r1 r2 w')

def C_call_Task_Answer (t_ : Option Addr) (w : World) (R : T_api_Answer → Slc → Int → World → Prop) : Prop :=
  Calls Tryz.prog 21 #[Value.pointer t_] w (fun e w' => ∃ (r0 : T_api_Answer) (r1 : Slc) (r2 : Int), e = .returned (Value.tuple #[Value.agg #[Value.int .i64 r0.Code, Value.int .i64 r0.Mark, Value.bool r0.OK, Value.slice r0.Entries.ptr r0.Entries.len r0.Entries.cap, Value.int .i64 r0.Count], Value.slice r1.ptr r1.len r1.cap, Value.int .i64 r2]) ∧ R r0 r1 r2 w')

def C_towpathlaw01_Book_Req (b_ : Option Addr) (r : T_api_Req) (w : World) (R : World → Prop) : Prop :=
  Calls Tryz.prog 22 #[Value.pointer b_, Value.agg #[Value.int .u8 r.Kind, Value.int .i64 r.From, Value.int .i64 r.Number, Value.string r.Write.Key, Value.string r.Write.Val, Value.bool r.Write.Drop, Value.string r.Key, Value.string r.End, Value.slice r.Beyond.ptr r.Beyond.len r.Beyond.cap]] w (fun e w' => e = .returned (Value.tuple #[]) ∧ R w')

def C_towpathlaw01_Book_Answer (b_ : Option Addr) (a_ : T_api_Answer) (w : World) (R : World → Prop) : Prop :=
  Calls Tryz.prog 23 #[Value.pointer b_, Value.agg #[Value.int .i64 a_.Code, Value.int .i64 a_.Mark, Value.bool a_.OK, Value.slice a_.Entries.ptr a_.Entries.len a_.Entries.cap, Value.int .i64 a_.Count]] w (fun e w' => e = .returned (Value.tuple #[]) ∧ R w')

def C_towpathlaw01_Book_Helds (b_ : Option Addr) (l_ : Slc) (w : World) (R : World → Prop) : Prop :=
  Calls Tryz.prog 24 #[Value.pointer b_, Value.slice l_.ptr l_.len l_.cap] w (fun e w' => e = .returned (Value.tuple #[]) ∧ R w')

def C_towpathlaw01_Book_fillByte (b_ : Option Addr) (w : World) (R : World → Prop) : Prop :=
  Calls Tryz.prog 36 #[Value.pointer b_] w (fun e w' => e = .returned (Value.tuple #[]) ∧ R w')

def C_towpathlaw01_Book_fillInt (b_ : Option Addr) (w : World) (R : World → Prop) : Prop :=
  Calls Tryz.prog 37 #[Value.pointer b_] w (fun e w' => e = .returned (Value.tuple #[]) ∧ R w')

def C_towpathlaw01_Book_fillText (b_ : Option Addr) (w : World) (R : World → Prop) : Prop :=
  Calls Tryz.prog 38 #[Value.pointer b_] w (fun e w' => e = .returned (Value.tuple #[]) ∧ R w')

def C_towpathlaw01_Book_fillWrite (b_ : Option Addr) (w : World) (R : World → Prop) : Prop :=
  Calls Tryz.prog 39 #[Value.pointer b_] w (fun e w' => e = .returned (Value.tuple #[]) ∧ R w')

def C_towpathlaw01_Book_fillEntry (b_ : Option Addr) (w : World) (R : World → Prop) : Prop :=
  Calls Tryz.prog 40 #[Value.pointer b_] w (fun e w' => e = .returned (Value.tuple #[]) ∧ R w')

def C_towpathlaw01_Book_fillVersion (b_ : Option Addr) (w : World) (R : World → Prop) : Prop :=
  Calls Tryz.prog 41 #[Value.pointer b_] w (fun e w' => e = .returned (Value.tuple #[]) ∧ R w')

def C_towpathlaw01_Book_fillTxn (b_ : Option Addr) (w : World) (R : World → Prop) : Prop :=
  Calls Tryz.prog 42 #[Value.pointer b_] w (fun e w' => e = .returned (Value.tuple #[]) ∧ R w')

def C_towpathlaw01_Book_fillHeld (b_ : Option Addr) (w : World) (R : World → Prop) : Prop :=
  Calls Tryz.prog 43 #[Value.pointer b_] w (fun e w' => e = .returned (Value.tuple #[]) ∧ R w')

def C_towpathlaw01_Book_fillHeldList (b_ : Option Addr) (w : World) (R : World → Prop) : Prop :=
  Calls Tryz.prog 44 #[Value.pointer b_] w (fun e w' => e = .returned (Value.tuple #[]) ∧ R w')

def C_towpathlaw01_Book_fillEvent (b_ : Option Addr) (w : World) (R : World → Prop) : Prop :=
  Calls Tryz.prog 45 #[Value.pointer b_] w (fun e w' => e = .returned (Value.tuple #[]) ∧ R w')

def C_towpathlaw01_Book_fillAnswer (b_ : Option Addr) (w : World) (R : World → Prop) : Prop :=
  Calls Tryz.prog 46 #[Value.pointer b_] w (fun e w' => e = .returned (Value.tuple #[]) ∧ R w')

def C_towpathlaw01_Book_growByte (b_ : Option Addr) (w : World) (R : World → Prop) : Prop :=
  Calls Tryz.prog 47 #[Value.pointer b_] w (fun e w' => e = .returned (Value.tuple #[]) ∧ R w')

def C_towpathlaw01_Book_growInt (b_ : Option Addr) (w : World) (R : World → Prop) : Prop :=
  Calls Tryz.prog 48 #[Value.pointer b_] w (fun e w' => e = .returned (Value.tuple #[]) ∧ R w')

def C_towpathlaw01_Book_growText (b_ : Option Addr) (w : World) (R : World → Prop) : Prop :=
  Calls Tryz.prog 49 #[Value.pointer b_] w (fun e w' => e = .returned (Value.tuple #[]) ∧ R w')

def C_towpathlaw01_Book_growWrite (b_ : Option Addr) (w : World) (R : World → Prop) : Prop :=
  Calls Tryz.prog 50 #[Value.pointer b_] w (fun e w' => e = .returned (Value.tuple #[]) ∧ R w')

def C_towpathlaw01_Book_growEntry (b_ : Option Addr) (w : World) (R : World → Prop) : Prop :=
  Calls Tryz.prog 51 #[Value.pointer b_] w (fun e w' => e = .returned (Value.tuple #[]) ∧ R w')

def C_towpathlaw01_Book_growVersion (b_ : Option Addr) (w : World) (R : World → Prop) : Prop :=
  Calls Tryz.prog 52 #[Value.pointer b_] w (fun e w' => e = .returned (Value.tuple #[]) ∧ R w')

def C_towpathlaw01_Book_growTxn (b_ : Option Addr) (w : World) (R : World → Prop) : Prop :=
  Calls Tryz.prog 53 #[Value.pointer b_] w (fun e w' => e = .returned (Value.tuple #[]) ∧ R w')

def C_towpathlaw01_Book_growHeld (b_ : Option Addr) (w : World) (R : World → Prop) : Prop :=
  Calls Tryz.prog 54 #[Value.pointer b_] w (fun e w' => e = .returned (Value.tuple #[]) ∧ R w')

def C_towpathlaw01_Book_growHeldList (b_ : Option Addr) (w : World) (R : World → Prop) : Prop :=
  Calls Tryz.prog 55 #[Value.pointer b_] w (fun e w' => e = .returned (Value.tuple #[]) ∧ R w')

def C_towpathlaw01_Book_growEvent (b_ : Option Addr) (w : World) (R : World → Prop) : Prop :=
  Calls Tryz.prog 56 #[Value.pointer b_] w (fun e w' => e = .returned (Value.tuple #[]) ∧ R w')

def C_towpathlaw01_Book_growAnswer (b_ : Option Addr) (w : World) (R : World → Prop) : Prop :=
  Calls Tryz.prog 57 #[Value.pointer b_] w (fun e w' => e = .returned (Value.tuple #[]) ∧ R w')

def C_towpathlaw01_Book_lookByte (b_ : Option Addr) (w : World) (R : Bool → World → Prop) : Prop :=
  Calls Tryz.prog 58 #[Value.pointer b_] w (fun e w' => ∃ (r0 : Bool), e = .returned (Value.bool r0) ∧ R r0 w')

def C_towpathlaw01_Book_lookInt (b_ : Option Addr) (w : World) (R : Bool → World → Prop) : Prop :=
  Calls Tryz.prog 59 #[Value.pointer b_] w (fun e w' => ∃ (r0 : Bool), e = .returned (Value.bool r0) ∧ R r0 w')

def C_towpathlaw01_Book_lookText (b_ : Option Addr) (w : World) (R : Bool → World → Prop) : Prop :=
  Calls Tryz.prog 60 #[Value.pointer b_] w (fun e w' => ∃ (r0 : Bool), e = .returned (Value.bool r0) ∧ R r0 w')

def C_towpathlaw01_Book_lookWrite (b_ : Option Addr) (w : World) (R : Bool → World → Prop) : Prop :=
  Calls Tryz.prog 61 #[Value.pointer b_] w (fun e w' => ∃ (r0 : Bool), e = .returned (Value.bool r0) ∧ R r0 w')

def C_towpathlaw01_Book_lookEntry (b_ : Option Addr) (w : World) (R : Bool → World → Prop) : Prop :=
  Calls Tryz.prog 62 #[Value.pointer b_] w (fun e w' => ∃ (r0 : Bool), e = .returned (Value.bool r0) ∧ R r0 w')

def C_towpathlaw01_Book_lookVersion (b_ : Option Addr) (w : World) (R : Bool → World → Prop) : Prop :=
  Calls Tryz.prog 63 #[Value.pointer b_] w (fun e w' => ∃ (r0 : Bool), e = .returned (Value.bool r0) ∧ R r0 w')

def C_towpathlaw01_Book_lookTxn (b_ : Option Addr) (w : World) (R : Bool → World → Prop) : Prop :=
  Calls Tryz.prog 64 #[Value.pointer b_] w (fun e w' => ∃ (r0 : Bool), e = .returned (Value.bool r0) ∧ R r0 w')

def C_towpathlaw01_Book_lookHeld (b_ : Option Addr) (w : World) (R : Bool → World → Prop) : Prop :=
  Calls Tryz.prog 65 #[Value.pointer b_] w (fun e w' => ∃ (r0 : Bool), e = .returned (Value.bool r0) ∧ R r0 w')

def C_towpathlaw01_Book_lookHeldList (b_ : Option Addr) (w : World) (R : Bool → World → Prop) : Prop :=
  Calls Tryz.prog 66 #[Value.pointer b_] w (fun e w' => ∃ (r0 : Bool), e = .returned (Value.bool r0) ∧ R r0 w')

def C_towpathlaw01_Book_lookEvent (b_ : Option Addr) (w : World) (R : Bool → World → Prop) : Prop :=
  Calls Tryz.prog 67 #[Value.pointer b_] w (fun e w' => ∃ (r0 : Bool), e = .returned (Value.bool r0) ∧ R r0 w')

def C_towpathlaw01_Book_lookAnswer (b_ : Option Addr) (w : World) (R : Bool → World → Prop) : Prop :=
  Calls Tryz.prog 68 #[Value.pointer b_] w (fun e w' => ∃ (r0 : Bool), e = .returned (Value.bool r0) ∧ R r0 w')

def C_conf_Check (c : T_api_Config) (w : World) (R : Int → World → Prop) : Prop :=
  Calls Tryz.prog 69 #[Value.agg #[Value.int .i64 c.Lanes, Value.int .i64 c.Shards, Value.int .i64 c.Window, Value.int .i64 c.Queue]] w (fun e w' => ∃ (r0 : Int), e = .returned (Value.int .i64 r0) ∧ R r0 w')

def C_call_Check (c : T_api_Call) (w : World) (R : Int → World → Prop) : Prop :=
  Calls Tryz.prog 70 #[Value.agg #[Value.int .u8 c.Kind, Value.string c.Key, Value.string c.End]] w (fun e w' => ∃ (r0 : Int), e = .returned (Value.int .i64 r0) ∧ R r0 w')

def C_call_Task_there (t_ : Option Addr) (w : World) (R : Bool → World → Prop) : Prop :=
  Calls Tryz.prog 71 #[Value.pointer t_] w (fun e w' => ∃ (r0 : Bool), e = .returned (Value.bool r0) ∧ R r0 w')

def C_call_may (l_ : Slc) (than : Int) (w : World) (R : Bool → World → Prop) : Prop :=
  Calls Tryz.prog 72 #[Value.slice l_.ptr l_.len l_.cap, Value.int .i64 than] w (fun e w' => ∃ (r0 : Bool), e = .returned (Value.bool r0) ∧ R r0 w')

def C_call_Task_shards (t_ : Option Addr) (w : World) (R : Value → World → Prop) : Prop :=
  Calls Tryz.prog 73 #[Value.pointer t_] w (fun e w' => ∃ (r0 : Value), e = .returned (r0) ∧ R r0 w')

def C_slices_Clone_int_int (s : Slc) (w : World) (R : Slc → World → Prop) : Prop :=
  Calls Tryz.prog 74 #[Value.slice s.ptr s.len s.cap] w (fun e w' => ∃ (r0 : Slc), e = .returned (Value.slice r0.ptr r0.len r0.cap) ∧ R r0 w')

def C_slices_Clone_api_Version_api_Version (s : Slc) (w : World) (R : Slc → World → Prop) : Prop :=
  Calls Tryz.prog 75 #[Value.slice s.ptr s.len s.cap] w (fun e w' => ∃ (r0 : Slc), e = .returned (Value.slice r0.ptr r0.len r0.cap) ∧ R r0 w')

def C_slices_Clone_api_Entry_api_Entry (s : Slc) (w : World) (R : Slc → World → Prop) : Prop :=
  Calls Tryz.prog 76 #[Value.slice s.ptr s.len s.cap] w (fun e w' => ∃ (r0 : Slc), e = .returned (Value.slice r0.ptr r0.len r0.cap) ∧ R r0 w')

def C_towpathlaw01_TwinEntries (l_ : Slc) (w : World) (R : Slc → World → Prop) : Prop :=
  Calls Tryz.prog 77 #[Value.slice l_.ptr l_.len l_.cap] w (fun e w' => ∃ (r0 : Slc), e = .returned (Value.slice r0.ptr r0.len r0.cap) ∧ R r0 w')

def C_towpathlaw01_TwinHelds (l_ : Slc) (w : World) (R : Slc → World → Prop) : Prop :=
  Calls Tryz.prog 78 #[Value.slice l_.ptr l_.len l_.cap] w (fun e w' => ∃ (r0 : Slc), e = .returned (Value.slice r0.ptr r0.len r0.cap) ∧ R r0 w')

def C_call_Task_All (t_ : Option Addr) (w : World) (R : Bool → World → Prop) : Prop :=
  Calls Tryz.prog 79 #[Value.pointer t_] w (fun e w' => ∃ (r0 : Bool), e = .returned (Value.bool r0) ∧ R r0 w')

def C_call_entries (l_ : Slc) (w : World) (R : Slc → World → Prop) : Prop :=
  Calls Tryz.prog 80 #[Value.slice l_.ptr l_.len l_.cap] w (fun e w' => ∃ (r0 : Slc), e = .returned (Value.slice r0.ptr r0.len r0.cap) ∧ R r0 w')

def C_slices_SortStableFunc_api_Held_api_Held (x : Slc) (cmp : Value) (w : World) (R : World → Prop) : Prop :=
  Calls Tryz.prog 81 #[Value.slice x.ptr x.len x.cap, cmp] w (fun e w' => e = .returned (Value.tuple #[]) ∧ R w')

def C_call_Task_Answer_1 (a_ : T_api_Held) (b_ : T_api_Held) (w : World) (R : Int → World → Prop) : Prop :=
  Calls Tryz.prog 82 #[Value.agg #[Value.string a_.Key, Value.slice a_.Versions.ptr a_.Versions.len a_.Versions.cap], Value.agg #[Value.string b_.Key, Value.slice b_.Versions.ptr b_.Versions.len b_.Versions.cap]] w (fun e w' => ∃ (r0 : Int), e = .returned (Value.int .i64 r0) ∧ R r0 w')

def C_strings_Compare (a_ : ByteArray) (b_ : ByteArray) (w : World) (R : Int → World → Prop) : Prop :=
  Calls Tryz.prog 83 #[Value.string a_, Value.string b_] w (fun e w' => ∃ (r0 : Int), e = .returned (Value.int .i64 r0) ∧ R r0 w')

def C_towpathlaw01_Book_Ints (b_ : Option Addr) (l_ : Slc) (w : World) (R : World → Prop) : Prop :=
  Calls Tryz.prog 84 #[Value.pointer b_, Value.slice l_.ptr l_.len l_.cap] w (fun e w' => e = .returned (Value.tuple #[]) ∧ R w')

def C_towpathlaw01_Book_Entries (b_ : Option Addr) (l_ : Slc) (w : World) (R : World → Prop) : Prop :=
  Calls Tryz.prog 85 #[Value.pointer b_, Value.slice l_.ptr l_.len l_.cap] w (fun e w' => e = .returned (Value.tuple #[]) ∧ R w')

def C_towpathlaw01_Book_Versions (b_ : Option Addr) (l_ : Slc) (w : World) (R : World → Prop) : Prop :=
  Calls Tryz.prog 86 #[Value.pointer b_, Value.slice l_.ptr l_.len l_.cap] w (fun e w' => e = .returned (Value.tuple #[]) ∧ R w')

def C_towpathlaw01_Book_keepHeld (b_ : Option Addr) (l_ : Slc) (w : World) (R : World → Prop) : Prop :=
  Calls Tryz.prog 87 #[Value.pointer b_, Value.slice l_.ptr l_.len l_.cap] w (fun e w' => e = .returned (Value.tuple #[]) ∧ R w')

def C_towpathlaw01_markInt (n_ : Int) (w : World) (R : Int → World → Prop) : Prop :=
  Calls Tryz.prog 92 #[Value.int .i64 n_] w (fun e w' => ∃ (r0 : Int), e = .returned (Value.int .i64 r0) ∧ R r0 w')

def C_towpathlaw01_markEntry (n_ : Int) (w : World) (R : T_api_Entry → World → Prop) : Prop :=
  Calls Tryz.prog 95 #[Value.int .i64 n_] w (fun e w' => ∃ (r0 : T_api_Entry), e = .returned (Value.agg #[Value.string r0.Key, Value.string r0.Val]) ∧ R r0 w')

def C_towpathlaw01_markVersion (n_ : Int) (w : World) (R : T_api_Version → World → Prop) : Prop :=
  Calls Tryz.prog 96 #[Value.int .i64 n_] w (fun e w' => ∃ (r0 : T_api_Version), e = .returned (Value.agg #[Value.int .i64 r0.Number, Value.string r0.Val, Value.bool r0.Drop]) ∧ R r0 w')

def C_towpathlaw01_markHeld (n_ : Int) (w : World) (R : T_api_Held → World → Prop) : Prop :=
  Calls Tryz.prog 98 #[Value.int .i64 n_] w (fun e w' => ∃ (r0 : T_api_Held), e = .returned (Value.agg #[Value.string r0.Key, Value.slice r0.Versions.ptr r0.Versions.len r0.Versions.cap]) ∧ R r0 w')

def C_towpathlaw01_isInt (x : Int) (n_ : Int) (w : World) (R : Bool → World → Prop) : Prop :=
  Calls Tryz.prog 103 #[Value.int .i64 x, Value.int .i64 n_] w (fun e w' => ∃ (r0 : Bool), e = .returned (Value.bool r0) ∧ R r0 w')

def C_towpathlaw01_isEntry (x : T_api_Entry) (n_ : Int) (w : World) (R : Bool → World → Prop) : Prop :=
  Calls Tryz.prog 106 #[Value.agg #[Value.string x.Key, Value.string x.Val], Value.int .i64 n_] w (fun e w' => ∃ (r0 : Bool), e = .returned (Value.bool r0) ∧ R r0 w')

def C_towpathlaw01_isVersion (x : T_api_Version) (n_ : Int) (w : World) (R : Bool → World → Prop) : Prop :=
  Calls Tryz.prog 107 #[Value.agg #[Value.int .i64 x.Number, Value.string x.Val, Value.bool x.Drop], Value.int .i64 n_] w (fun e w' => ∃ (r0 : Bool), e = .returned (Value.bool r0) ∧ R r0 w')

def C_towpathlaw01_isHeld (x : T_api_Held) (n_ : Int) (w : World) (R : Bool → World → Prop) : Prop :=
  Calls Tryz.prog 109 #[Value.agg #[Value.string x.Key, Value.slice x.Versions.ptr x.Versions.len x.Versions.cap], Value.int .i64 n_] w (fun e w' => ∃ (r0 : Bool), e = .returned (Value.bool r0) ∧ R r0 w')

def C_call_Task_shards_1 (yield : Value) (t1 : Option Addr) (w : World) (R : World → Prop) : Prop :=
  Calls Tryz.prog 113 #[yield, Value.pointer t1] w (fun e w' => e = .returned (Value.tuple #[]) ∧ R w')

def C_conf_Shard (c : T_api_Config) (key : ByteArray) (w : World) (R : Int → Int → World → Prop) : Prop :=
  Calls Tryz.prog 114 #[Value.agg #[Value.int .i64 c.Lanes, Value.int .i64 c.Shards, Value.int .i64 c.Window, Value.int .i64 c.Queue], Value.string key] w (fun e w' => ∃ (r0 : Int) (r1 : Int), e = .returned (Value.tuple #[Value.int .i64 r0, Value.int .i64 r1]) ∧ R r0 r1 w')

def C_towpathlaw01_TwinHeld (x : T_api_Held) (w : World) (R : T_api_Held → World → Prop) : Prop :=
  Calls Tryz.prog 115 #[Value.agg #[Value.string x.Key, Value.slice x.Versions.ptr x.Versions.len x.Versions.cap]] w (fun e w' => ∃ (r0 : T_api_Held), e = .returned (Value.agg #[Value.string r0.Key, Value.slice r0.Versions.ptr r0.Versions.len r0.Versions.cap]) ∧ R r0 w')

def C_slices_Concat_api_Entry_api_Entry (slices : Slc) (w : World) (R : Slc → World → Prop) : Prop :=
  Calls Tryz.prog 116 #[Value.slice slices.ptr slices.len slices.cap] w (fun e w' => ∃ (r0 : Slc), e = .returned (Value.slice r0.ptr r0.len r0.cap) ∧ R r0 w')

def C_slices_SortStableFunc_api_Entry_api_Entry (x : Slc) (cmp : Value) (w : World) (R : World → Prop) : Prop :=
  Calls Tryz.prog 117 #[Value.slice x.ptr x.len x.cap, cmp] w (fun e w' => e = .returned (Value.tuple #[]) ∧ R w')

def C_call_entries_1 (a_ : T_api_Entry) (b_ : T_api_Entry) (w : World) (R : Int → World → Prop) : Prop :=
  Calls Tryz.prog 118 #[Value.agg #[Value.string a_.Key, Value.string a_.Val], Value.agg #[Value.string b_.Key, Value.string b_.Val]] w (fun e w' => ∃ (r0 : Int), e = .returned (Value.int .i64 r0) ∧ R r0 w')

def C_slices_stableCmpFunc_api_Held (data : Slc) (n_ : Int) (cmp : Value) (w : World) (R : World → Prop) : Prop :=
  Calls Tryz.prog 119 #[Value.slice data.ptr data.len data.cap, Value.int .i64 n_, cmp] w (fun e w' => e = .returned (Value.tuple #[]) ∧ R w')

def C_towpathlaw01_Book_keepInt (b_ : Option Addr) (l_ : Slc) (w : World) (R : World → Prop) : Prop :=
  Calls Tryz.prog 121 #[Value.pointer b_, Value.slice l_.ptr l_.len l_.cap] w (fun e w' => e = .returned (Value.tuple #[]) ∧ R w')

def C_towpathlaw01_Book_keepEntry (b_ : Option Addr) (l_ : Slc) (w : World) (R : World → Prop) : Prop :=
  Calls Tryz.prog 122 #[Value.pointer b_, Value.slice l_.ptr l_.len l_.cap] w (fun e w' => e = .returned (Value.tuple #[]) ∧ R w')

def C_towpathlaw01_Book_keepVersion (b_ : Option Addr) (l_ : Slc) (w : World) (R : World → Prop) : Prop :=
  Calls Tryz.prog 123 #[Value.pointer b_, Value.slice l_.ptr l_.len l_.cap] w (fun e w' => e = .returned (Value.tuple #[]) ∧ R w')

def C_towpathlaw01_word (n_ : Int) (w : World) (R : ByteArray → World → Prop) : Prop :=
  Calls Tryz.prog 126 #[Value.int .i64 n_] w (fun e w' => ∃ (r0 : ByteArray), e = .returned (Value.string r0) ∧ R r0 w')

def C_sum_Hash (key : ByteArray) (w : World) (R : Int → World → Prop) : Prop :=
  Calls Tryz.prog 127 #[Value.string key] w (fun e w' => ∃ (r0 : Int), e = .returned (Value.int .u32 r0) ∧ R r0 w')

def C_towpathlaw01_TwinVersions (l_ : Slc) (w : World) (R : Slc → World → Prop) : Prop :=
  Calls Tryz.prog 128 #[Value.slice l_.ptr l_.len l_.cap] w (fun e w' => ∃ (r0 : Slc), e = .returned (Value.slice r0.ptr r0.len r0.cap) ∧ R r0 w')

def C_slices_Grow_api_Entry_api_Entry (s : Slc) (n_ : Int) (w : World) (R : Slc → World → Prop) : Prop :=
  Calls Tryz.prog 129 #[Value.slice s.ptr s.len s.cap, Value.int .i64 n_] w (fun e w' => ∃ (r0 : Slc), e = .returned (Value.slice r0.ptr r0.len r0.cap) ∧ R r0 w')

def C_slices_stableCmpFunc_api_Entry (data : Slc) (n_ : Int) (cmp : Value) (w : World) (R : World → Prop) : Prop :=
  Calls Tryz.prog 130 #[Value.slice data.ptr data.len data.cap, Value.int .i64 n_, cmp] w (fun e w' => e = .returned (Value.tuple #[]) ∧ R w')

def C_slices_insertionSortCmpFunc_api_Held (data : Slc) (a_ : Int) (b_ : Int) (cmp : Value) (w : World) (R : World → Prop) : Prop :=
  Calls Tryz.prog 131 #[Value.slice data.ptr data.len data.cap, Value.int .i64 a_, Value.int .i64 b_, cmp] w (fun e w' => e = .returned (Value.tuple #[]) ∧ R w')

def C_slices_symMergeCmpFunc_api_Held (data : Slc) (a_ : Int) (m_ : Int) (b_ : Int) (cmp : Value) (w : World) (R : World → Prop) : Prop :=
  Calls Tryz.prog 132 #[Value.slice data.ptr data.len data.cap, Value.int .i64 a_, Value.int .i64 m_, Value.int .i64 b_, cmp] w (fun e w' => e = .returned (Value.tuple #[]) ∧ R w')

def C_strconv_Itoa (i : Int) (w : World) (R : ByteArray → World → Prop) : Prop :=
  Calls Tryz.prog 136 #[Value.int .i64 i] w (fun e w' => ∃ (r0 : ByteArray), e = .returned (Value.string r0) ∧ R r0 w')

def C_slices_insertionSortCmpFunc_api_Entry (data : Slc) (a_ : Int) (b_ : Int) (cmp : Value) (w : World) (R : World → Prop) : Prop :=
  Calls Tryz.prog 137 #[Value.slice data.ptr data.len data.cap, Value.int .i64 a_, Value.int .i64 b_, cmp] w (fun e w' => e = .returned (Value.tuple #[]) ∧ R w')

def C_slices_symMergeCmpFunc_api_Entry (data : Slc) (a_ : Int) (m_ : Int) (b_ : Int) (cmp : Value) (w : World) (R : World → Prop) : Prop :=
  Calls Tryz.prog 138 #[Value.slice data.ptr data.len data.cap, Value.int .i64 a_, Value.int .i64 m_, Value.int .i64 b_, cmp] w (fun e w' => e = .returned (Value.tuple #[]) ∧ R w')

def C_slices_rotateCmpFunc_api_Held (data : Slc) (a_ : Int) (m_ : Int) (b_ : Int) (cmp : Value) (w : World) (R : World → Prop) : Prop :=
  Calls Tryz.prog 139 #[Value.slice data.ptr data.len data.cap, Value.int .i64 a_, Value.int .i64 m_, Value.int .i64 b_, cmp] w (fun e w' => e = .returned (Value.tuple #[]) ∧ R w')

def C_slices_rotateCmpFunc_api_Entry (data : Slc) (a_ : Int) (m_ : Int) (b_ : Int) (cmp : Value) (w : World) (R : World → Prop) : Prop :=
  Calls Tryz.prog 142 #[Value.slice data.ptr data.len data.cap, Value.int .i64 a_, Value.int .i64 m_, Value.int .i64 b_, cmp] w (fun e w' => e = .returned (Value.tuple #[]) ∧ R w')

def C_slices_swapRangeCmpFunc_api_Held (data : Slc) (a_ : Int) (b_ : Int) (n_ : Int) (cmp : Value) (w : World) (R : World → Prop) : Prop :=
  Calls Tryz.prog 143 #[Value.slice data.ptr data.len data.cap, Value.int .i64 a_, Value.int .i64 b_, Value.int .i64 n_, cmp] w (fun e w' => e = .returned (Value.tuple #[]) ∧ R w')

def C_slices_swapRangeCmpFunc_api_Entry (data : Slc) (a_ : Int) (b_ : Int) (n_ : Int) (cmp : Value) (w : World) (R : World → Prop) : Prop :=
  Calls Tryz.prog 145 #[Value.slice data.ptr data.len data.cap, Value.int .i64 a_, Value.int .i64 b_, Value.int .i64 n_, cmp] w (fun e w' => e = .returned (Value.tuple #[]) ∧ R w')

def F_towpathlaw17_CallOwn_k1 (t_ : Option Addr) (b_1 : Nat) (i : Int) (again_ : Int → World → Prop) (w6 : World) : Prop :=
  C_call_Task_Next t_ w6 (fun (v76 : Int) (v76_1 : T_api_Req) (v76_2 : Bool) w7 => ∀ b_2 w8, b_2 = w7.heap.size → w8 = w7.alloc (Obj.cells ([Value.int .u8 0, Value.int .i64 0, Value.int .i64 0, Value.string ByteArray.empty, Value.string ByteArray.empty, Value.bool false, Value.string ByteArray.empty, Value.string ByteArray.empty, Value.slice none 0 0]).toArray ty_api_Req (0, 0)) → (Writable w8 b_2 0 9 ∧ (∀ w9, w9 = World.puts b_2 0 [Value.int .u8 v76_1.Kind, Value.int .i64 v76_1.From, Value.int .i64 v76_1.Number, Value.string v76_1.Write.Key, Value.string v76_1.Write.Val, Value.bool v76_1.Write.Drop, Value.string v76_1.Key, Value.string v76_1.End, Value.slice v76_1.Beyond.ptr v76_1.Beyond.len v76_1.Beyond.cap] w8 → (C_call_Task_Answer t_ w9 (fun (v82 : T_api_Answer) (l_ : Slc) (v82_2 : Int) w10 => ∀ b_3 w11, b_3 = w10.heap.size → w11 = w10.alloc (Obj.cells ([Value.int .i64 0, Value.int .i64 0, Value.bool false, Value.slice none 0 0, Value.int .i64 0]).toArray ty_api_Answer (0, 0)) → (Writable w11 b_3 0 5 ∧ (∀ w12, w12 = World.puts b_3 0 [Value.int .i64 v82.Code, Value.int .i64 v82.Mark, Value.bool v82.OK, Value.slice v82.Entries.ptr v82.Entries.len v82.Entries.cap, Value.int .i64 v82.Count] w11 → (∃ (v86 : T_api_Req), CellsAt w12 b_2 0 [Value.int .u8 v86.Kind, Value.int .i64 v86.From, Value.int .i64 v86.Number, Value.string v86.Write.Key, Value.string v86.Write.Val, Value.bool v86.Write.Drop, Value.string v86.Key, Value.string v86.End, Value.slice v86.Beyond.ptr v86.Beyond.len v86.Beyond.cap] ∧ (C_towpathlaw01_Book_Req (some ⟨b_1, 0, none⟩) v86 w12 (fun w13 => ∃ (v88 : T_api_Answer), CellsAt w13 b_3 0 [Value.int .i64 v88.Code, Value.int .i64 v88.Mark, Value.bool v88.OK, Value.slice v88.Entries.ptr v88.Entries.len v88.Entries.cap, Value.int .i64 v88.Count] ∧ (C_towpathlaw01_Book_Answer (some ⟨b_1, 0, none⟩) v88 w13 (fun w14 => C_towpathlaw01_Book_Helds (some ⟨b_1, 0, none⟩) l_ w14 (fun w15 => again_ (IntKind.i64.wrap (i + 1)) w15)))))))))))))

def F_towpathlaw17_CallOwn_L0 (q : Slc) (R : Bool → World → Prop) (t_ : Option Addr) (b_1 : Nat) (again_ : Int → World → Prop) (i : Int) (w5 : World) : Prop :=
  (((decide (i < ((q.len : Nat) : Int))) && (decide (i < 40))) = true → (IsAt q.ptr ∧ (0 ≤ i ∧ i < ((q.len : Nat) : Int) ∧ (∃ (v42 : Int), w5.cell? ⟨(pblk q.ptr), (poff q.ptr) + i.toNat * 9, none⟩ = some (Value.int .u8 v42) ∧ (((v42 == 0) = true → (∀ w16, (∃ k, w16 = w5.drewN k) → (IsAt q.ptr ∧ (0 ≤ i ∧ i < ((q.len : Nat) : Int) ∧ (∃ (v52 : Int), w16.cell? ⟨(pblk q.ptr), ((poff q.ptr) + i.toNat * 9) + 1, none⟩ = some (Value.int .i64 v52) ∧ (IsAt q.ptr ∧ (0 ≤ i ∧ i < ((q.len : Nat) : Int) ∧ (∃ (v57 : Int), w16.cell? ⟨(pblk q.ptr), ((poff q.ptr) + i.toNat * 9) + 2, none⟩ = some (Value.int .i64 v57) ∧ (IsAt q.ptr ∧ (0 ≤ i ∧ i < ((q.len : Nat) : Int) ∧ (∃ (v62 : Slc), w16.cell? ⟨(pblk q.ptr), ((poff q.ptr) + i.toNat * 9) + 3, none⟩ = some (Value.slice v62.ptr v62.len v62.cap) ∧ (C_call_Task_Begin t_ v52 v57 v62 w16 (fun (v63 : Int) w17 => F_towpathlaw17_CallOwn_k1 t_ b_1 i again_ w17))))))))))))) ∧
  ((v42 == 0) = false → (((v42 == 2) = true → (IsAt q.ptr ∧ (0 ≤ i ∧ i < ((q.len : Nat) : Int) ∧ (∃ (v71 : T_api_Resp), CellsAt w5 (pblk q.ptr) (((poff q.ptr) + i.toNat * 9) + 4) [Value.int .i64 v71.To, Value.bool v71.OK, Value.slice v71.Entries.ptr v71.Entries.len v71.Entries.cap, Value.slice v71.Held.ptr v71.Held.len v71.Held.cap, Value.int .i64 v71.Count] ∧ (C_towpathlaw01_TwinResp v71 w5 (fun (v72 : T_api_Resp) w18 => C_call_Task_Got t_ v72 w18 (fun (v73 : Int) w19 => F_towpathlaw17_CallOwn_k1 t_ b_1 i again_ w19))))))) ∧
  ((v42 == 2) = false → (C_call_Task_Sent t_ w5 (fun (v44 : Int) w20 => F_towpathlaw17_CallOwn_k1 t_ b_1 i again_ w20)))))))))) ∧
  (((decide (i < ((q.len : Nat) : Int))) && (decide (i < 40))) = false → (C_towpathlaw01_Book_Apart (some ⟨b_1, 0, none⟩) w5 (fun (v92 : Bool) w21 => (v92 = true → (C_towpathlaw17_lives w21 (fun (v94 : Bool) w22 => R v94 w22))) ∧
  (v92 = false → (R false w21)))))

def F_towpathlaw17_CallOwn (m_ : T_towpathlaw17_Made) (q : Slc) (R : Bool → World → Prop) (w : World) : Prop :=
  ∀ b_ w1, b_ = w.heap.size → w1 = w.alloc (Obj.cells ([Value.int .i64 m_.Number, Value.int .i64 m_.Config.Lanes, Value.int .i64 m_.Config.Shards, Value.int .i64 m_.Config.Window, Value.int .i64 m_.Config.Queue, Value.int .u8 m_.Call.Kind, Value.string m_.Call.Key, Value.string m_.Call.End]).toArray ty_towpathlaw17_Made (0, 0)) → (∃ (v17 : Int), w1.cell? ⟨b_, 0, none⟩ = some (Value.int .i64 v17) ∧ (∃ (v19 : T_api_Config), CellsAt w1 b_ 1 [Value.int .i64 v19.Lanes, Value.int .i64 v19.Shards, Value.int .i64 v19.Window, Value.int .i64 v19.Queue] ∧ (∃ (v21 : T_api_Call), CellsAt w1 b_ 5 [Value.int .u8 v21.Kind, Value.string v21.Key, Value.string v21.End] ∧ (C_call_New v17 v19 v21 w1 (fun (t_ : Option Addr) (e : Int) w2 => ((e != 0) = true → (C_towpathlaw17_lives w2 (fun (v27 : Bool) w3 => R v27 w3))) ∧
  ((e != 0) = false → (∀ b_1 w4, b_1 = w2.heap.size → w4 = w2.alloc (Obj.cells ([Value.int .i64 0, Value.slice none 0 0, Value.slice none 0 0, Value.slice none 0 0, Value.slice none 0 0, Value.slice none 0 0, Value.slice none 0 0, Value.slice none 0 0, Value.slice none 0 0, Value.slice none 0 0, Value.slice none 0 0, Value.slice none 0 0]).toArray ty_towpathlaw01_Book (0, 0)) → (∃ (I : Int → World → Prop) (μ : Int → World → Nat), I 0 w4 ∧
  ∀ (i : Int) w, I i w → F_towpathlaw17_CallOwn_L0 q R t_ b_1 (fun (i' : Int) w' => I i' w' ∧ μ i' w' < μ i w) i w))))))))

def F_towpathlaw01_Book_Apart (b_ : Option Addr) (R : Bool → World → Prop) (w : World) : Prop :=
  C_towpathlaw01_Book_fillByte b_ w (fun w1 => C_towpathlaw01_Book_fillInt b_ w1 (fun w2 => C_towpathlaw01_Book_fillText b_ w2 (fun w3 => C_towpathlaw01_Book_fillWrite b_ w3 (fun w4 => C_towpathlaw01_Book_fillEntry b_ w4 (fun w5 => C_towpathlaw01_Book_fillVersion b_ w5 (fun w6 => C_towpathlaw01_Book_fillTxn b_ w6 (fun w7 => C_towpathlaw01_Book_fillHeld b_ w7 (fun w8 => C_towpathlaw01_Book_fillHeldList b_ w8 (fun w9 => C_towpathlaw01_Book_fillEvent b_ w9 (fun w10 => C_towpathlaw01_Book_fillAnswer b_ w10 (fun w11 => C_towpathlaw01_Book_growByte b_ w11 (fun w12 => C_towpathlaw01_Book_growInt b_ w12 (fun w13 => C_towpathlaw01_Book_growText b_ w13 (fun w14 => C_towpathlaw01_Book_growWrite b_ w14 (fun w15 => C_towpathlaw01_Book_growEntry b_ w15 (fun w16 => C_towpathlaw01_Book_growVersion b_ w16 (fun w17 => C_towpathlaw01_Book_growTxn b_ w17 (fun w18 => C_towpathlaw01_Book_growHeld b_ w18 (fun w19 => C_towpathlaw01_Book_growHeldList b_ w19 (fun w20 => C_towpathlaw01_Book_growEvent b_ w20 (fun w21 => C_towpathlaw01_Book_growAnswer b_ w21 (fun w22 => C_towpathlaw01_Book_lookByte b_ w22 (fun (v48 : Bool) w23 => (v48 = true → (C_towpathlaw01_Book_lookInt b_ w23 (fun (v51 : Bool) w24 => (v51 = true → (C_towpathlaw01_Book_lookText b_ w24 (fun (v55 : Bool) w25 => (v55 = true → (C_towpathlaw01_Book_lookWrite b_ w25 (fun (v59 : Bool) w26 => (v59 = true → (C_towpathlaw01_Book_lookEntry b_ w26 (fun (v63 : Bool) w27 => (v63 = true → (C_towpathlaw01_Book_lookVersion b_ w27 (fun (v67 : Bool) w28 => (v67 = true → (C_towpathlaw01_Book_lookTxn b_ w28 (fun (v71 : Bool) w29 => (v71 = true → (C_towpathlaw01_Book_lookHeld b_ w29 (fun (v75 : Bool) w30 => (v75 = true → (C_towpathlaw01_Book_lookHeldList b_ w30 (fun (v79 : Bool) w31 => (v79 = true → (C_towpathlaw01_Book_lookEvent b_ w31 (fun (v83 : Bool) w32 => (v83 = true → (C_towpathlaw01_Book_lookAnswer b_ w32 (fun (v87 : Bool) w33 => R v87 w33))) ∧
  (v83 = false → (R false w32))))) ∧
  (v79 = false → (R false w31))))) ∧
  (v75 = false → (R false w30))))) ∧
  (v71 = false → (R false w29))))) ∧
  (v67 = false → (R false w28))))) ∧
  (v63 = false → (R false w27))))) ∧
  (v59 = false → (R false w26))))) ∧
  (v55 = false → (R false w25))))) ∧
  (v51 = false → (R false w24))))) ∧
  (v48 = false → (R false w23)))))))))))))))))))))))))

def F_call_New (number : Int) (c : T_api_Config) (x : T_api_Call) (R : Option Addr → Int → World → Prop) (w : World) : Prop :=
  ∀ b_ w1, b_ = w.heap.size → w1 = w.alloc (Obj.cells ([Value.int .i64 c.Lanes, Value.int .i64 c.Shards, Value.int .i64 c.Window, Value.int .i64 c.Queue]).toArray ty_api_Config (0, 0)) → (∀ b_1 w2, b_1 = w1.heap.size → w2 = w1.alloc (Obj.cells ([Value.int .u8 x.Kind, Value.string x.Key, Value.string x.End]).toArray ty_api_Call (0, 0)) → (((decide (number ≥ 0)) = true → (R none 1 w2)) ∧
  ((decide (number ≥ 0)) = false → (∃ (v12 : T_api_Config), CellsAt w2 b_ 0 [Value.int .i64 v12.Lanes, Value.int .i64 v12.Shards, Value.int .i64 v12.Window, Value.int .i64 v12.Queue] ∧ (C_conf_Check v12 w2 (fun (v13 : Int) w3 => ((v13 != 0) = true → (R none 7 w3)) ∧
  ((v13 != 0) = false → (∃ (v16 : T_api_Call), CellsAt w3 b_1 0 [Value.int .u8 v16.Kind, Value.string v16.Key, Value.string v16.End] ∧ (C_call_Check v16 w3 (fun (v17 : Int) w4 => ((v17 != 0) = true → (R none 1 w4)) ∧
  ((v17 != 0) = false → (∃ (v20 : T_api_Config), CellsAt w4 b_ 0 [Value.int .i64 v20.Lanes, Value.int .i64 v20.Shards, Value.int .i64 v20.Window, Value.int .i64 v20.Queue] ∧ (∃ (v21 : T_api_Call), CellsAt w4 b_1 0 [Value.int .u8 v21.Kind, Value.string v21.Key, Value.string v21.End] ∧ (∀ b_2 w5, b_2 = w4.heap.size → w5 = w4.alloc (Obj.cells ([Value.int .i64 number, Value.int .i64 v20.Lanes, Value.int .i64 v20.Shards, Value.int .i64 v20.Window, Value.int .i64 v20.Queue, Value.int .u8 v21.Kind, Value.string v21.Key, Value.string v21.End, Value.bool false, Value.int .i64 0, Value.slice none 0 0, Value.int .i64 0, Value.slice none 0 0]).toArray ty_call_Task (0, 0)) → (R (some ⟨b_2, 0, none⟩) 0 w5)))))))))))))))

def F_towpathlaw17_lives_k1 (R : Bool → World → Prop) (t_ : Option Addr) (t66 : Bool) (w8 : World) : Prop :=
  (t66 = true → (R false w8)) ∧
  (t66 = false → (C_call_Task_Got t_ (T_api_Resp.mk (-2) false (Slc.mk none 0 0) (Slc.mk none 0 0) 2) w8 (fun (v69 : Int) w9 => C_call_Task_Got t_ (T_api_Resp.mk (-2) false (Slc.mk none 0 0) (Slc.mk none 0 0) 1) w9 (fun (v72 : Int) w10 => C_call_Task_Answer t_ w10 (fun (v75 : T_api_Answer) (v75_1 : Slc) (g : Int) w11 => ∀ b_2 w12, b_2 = w11.heap.size → w12 = w11.alloc (Obj.cells ([Value.int .i64 0, Value.int .i64 0, Value.bool false, Value.slice none 0 0, Value.int .i64 0]).toArray ty_api_Answer (0, 0)) → (Writable w12 b_2 0 5 ∧ (∀ w13, w13 = World.puts b_2 0 [Value.int .i64 v75.Code, Value.int .i64 v75.Mark, Value.bool v75.OK, Value.slice v75.Entries.ptr v75.Entries.len v75.Entries.cap, Value.int .i64 v75.Count] w12 → (((((v69 == 0) && (v72 == 0)) && (g == 0)) = true → (∃ (v91 : Int), w13.cell? ⟨b_2, 4, none⟩ = some (Value.int .i64 v91) ∧ (((v91 == 3) = true → (∃ (v96 : Int), w13.cell? ⟨b_2, 1, none⟩ = some (Value.int .i64 v96) ∧ (((v96 == 5) = true → (∃ (v101 : Bool), w13.cell? ⟨b_2, 2, none⟩ = some (Value.bool v101) ∧ (R v101 w13))) ∧
  ((v96 == 5) = false → (R false w13))))) ∧
  ((v91 == 3) = false → (R false w13))))) ∧
  ((((v69 == 0) && (v72 == 0)) && (g == 0)) = false → (R false w13))))))))))

def F_towpathlaw17_lives_k0 (R : Bool → World → Prop) (t_ : Option Addr) (t24 : Bool) (w4 : World) : Prop :=
  (t24 = true → (R false w4)) ∧
  (t24 = false → (C_call_Task_Next t_ w4 (fun (k_ : Int) (v27_1 : T_api_Req) (ok : Bool) w5 => ∀ b_1 w6, b_1 = w5.heap.size → w6 = w5.alloc (Obj.cells ([Value.int .u8 0, Value.int .i64 0, Value.int .i64 0, Value.string ByteArray.empty, Value.string ByteArray.empty, Value.bool false, Value.string ByteArray.empty, Value.string ByteArray.empty, Value.slice none 0 0]).toArray ty_api_Req (0, 0)) → (Writable w6 b_1 0 9 ∧ (∀ w7, w7 = World.puts b_1 0 [Value.int .u8 v27_1.Kind, Value.int .i64 v27_1.From, Value.int .i64 v27_1.Number, Value.string v27_1.Write.Key, Value.string v27_1.Write.Val, Value.bool v27_1.Write.Drop, Value.string v27_1.Key, Value.string v27_1.End, Value.slice v27_1.Beyond.ptr v27_1.Beyond.len v27_1.Beyond.cap] w6 → ((((k_ != 0) || (!ok)) = true → (F_towpathlaw17_lives_k1 R t_ true w7)) ∧
  (((k_ != 0) || (!ok)) = false → (∃ (v39 : Int), w7.cell? ⟨b_1, 0, none⟩ = some (Value.int .u8 v39) ∧ (((v39 != 4) = true → (F_towpathlaw17_lives_k1 R t_ true w7)) ∧
  ((v39 != 4) = false → (∃ (v44 : Int), w7.cell? ⟨b_1, 1, none⟩ = some (Value.int .i64 v44) ∧ (((v44 != (-2)) = true → (F_towpathlaw17_lives_k1 R t_ true w7)) ∧
  ((v44 != (-2)) = false → (∃ (v49 : Int), w7.cell? ⟨b_1, 2, none⟩ = some (Value.int .i64 v49) ∧ (((v49 != 3) = true → (F_towpathlaw17_lives_k1 R t_ true w7)) ∧
  ((v49 != 3) = false → (C_call_Task_Sent t_ w7 (fun (v54 : Int) w14 => ((v54 != 0) = true → (F_towpathlaw17_lives_k1 R t_ true w14)) ∧
  ((v54 != 0) = false → (C_call_Task_Sent t_ w14 (fun (v59 : Int) w15 => ((v59 != 0) = true → (F_towpathlaw17_lives_k1 R t_ true w15)) ∧
  ((v59 != 0) = false → (C_call_Task_Sent t_ w15 (fun (v64 : Int) w16 => F_towpathlaw17_lives_k1 R t_ (v64 != 9) w16))))))))))))))))))))))))

def F_towpathlaw17_lives (R : Bool → World → Prop) (w : World) : Prop :=
  ∀ b_ w1, b_ = w.heap.size → w1 = w.alloc (Obj.cells ([Value.int .i64 0, Value.int .i64 0, Value.int .i64 0, Value.int .i64 0]).toArray ty_api_Config (0, 0)) → (Writable w1 b_ 0 4 ∧ (∀ w2, w2 = World.puts b_ 0 [Value.int .i64 1, Value.int .i64 2, Value.int .i64 4, Value.int .i64 1] w1 → (∃ (v13 : T_api_Config), CellsAt w2 b_ 0 [Value.int .i64 v13.Lanes, Value.int .i64 v13.Shards, Value.int .i64 v13.Window, Value.int .i64 v13.Queue] ∧ (C_call_New (-2) v13 (T_api_Call.mk 3 ByteArray.empty ByteArray.empty) w2 (fun (t_ : Option Addr) (e : Int) w3 => ((e != 0) = true → (F_towpathlaw17_lives_k0 R t_ true w3)) ∧
  ((e != 0) = false → (C_call_Task_Begin t_ 5 3 (Slc.mk none 0 0) w3 (fun (v22 : Int) w17 => F_towpathlaw17_lives_k0 R t_ (v22 != 0) w17))))))))

def F_call_Task_Begin_k2 (b_ : Nat) (D : Nat) (rec_ : Recs) (Kb : Bool → World → Prop) (t52 : Int) (b_4 : Nat) (w17 : World) : Prop :=
  ∀ w18, (∃ k, w18 = w17.drewN k) → (∃ (v99 : Option Addr), w18.cell? ⟨b_, 0, none⟩ = some (Value.pointer v99) ∧ (∃ (v100 : Option Addr), w18.cell? ⟨b_, 0, none⟩ = some (Value.pointer v100) ∧ (IsAt v100 ∧ (∃ (v103 : Slc), w18.cell? ⟨(pblk v100), (poff v100) + 10, none⟩ = some (Value.slice v103.ptr v103.len v103.cap) ∧ (∃ (v105 : T_api_Req), CellsAt w18 b_4 0 [Value.int .u8 v105.Kind, Value.int .i64 v105.From, Value.int .i64 v105.Number, Value.string v105.Write.Key, Value.string v105.Write.Val, Value.bool v105.Write.Drop, Value.string v105.Key, Value.string v105.End, Value.slice v105.Beyond.ptr v105.Beyond.len v105.Beyond.cap] ∧ (∀ b_5 w19, b_5 = w18.heap.size → w19 = w18.alloc (Obj.cells ([Value.int .i64 t52, Value.int .u8 v105.Kind, Value.int .i64 v105.From, Value.int .i64 v105.Number, Value.string v105.Write.Key, Value.string v105.Write.Val, Value.bool v105.Write.Drop, Value.string v105.Key, Value.string v105.End, Value.slice v105.Beyond.ptr v105.Beyond.len v105.Beyond.cap]).toArray ty_call_asked (0, 0)) → (w19.cell? ⟨(pblk v100), (poff v100) + 10, none⟩ = some (Value.slice v103.ptr v103.len v103.cap) ∧ w19.cell? ⟨b_, 0, none⟩ = some (Value.pointer v100) ∧ w19.cell? ⟨b_, 0, none⟩ = some (Value.pointer v99) ∧ (∃ src, SrcAt w19 (Slc.mk (some ⟨b_5, 0, none⟩) 1 1) 10 src ∧ AppendW 10 128 ty_call_asked [Value.int .i64 0, Value.int .u8 0, Value.int .i64 0, Value.int .i64 0, Value.string ByteArray.empty, Value.string ByteArray.empty, Value.bool false, Value.string ByteArray.empty, Value.string ByteArray.empty, Value.slice none 0 0] v103 src 1 w19 (fun v108 w20 => w20.cell? ⟨b_, 0, none⟩ = some (Value.pointer v99) ∧ (IsAt v99 ∧ (Writable w20 (pblk v99) ((poff v99) + 10) 1 ∧ (∀ w21, w21 = World.puts (pblk v99) ((poff v99) + 10) [Value.slice v108.ptr v108.len v108.cap] w20 → ((w21.heap[D + 1]? = some (.loop (rec_ .busy none)) ∧ (∀ w22, w22 = w21.putObj (D + 1) (.loop (rec_ .ready none)) → Kb true w22)))))))))))))))

def F_call_Task_Begin_B1 (b_ : Nat) (b_1 : Nat) (b_2 : Nat) (b_3 : Nat) (rec_ : Recs) (D : Nat) (Kb : Bool → World → Prop) (t52 : Int) (w13 : World) : Prop :=
  ∀ w14, (∃ k, w14 = w13.drewN k) → (∃ (v53 : Option Addr), w14.cell? ⟨b_, 0, none⟩ = some (Value.pointer v53) ∧ (IsAt v53 ∧ (∃ (v56 : Int), w14.cell? ⟨(pblk v53), (poff v53), none⟩ = some (Value.int .i64 v56) ∧ (∃ (v57 : Int), w14.cell? ⟨b_1, 0, none⟩ = some (Value.int .i64 v57) ∧ (∀ b_4 w15, b_4 = w14.heap.size → w15 = w14.alloc (Obj.cells ([Value.int .u8 0, Value.int .i64 0, Value.int .i64 0, Value.string ByteArray.empty, Value.string ByteArray.empty, Value.bool false, Value.string ByteArray.empty, Value.string ByteArray.empty, Value.slice none 0 0]).toArray ty_api_Req (0, 0)) → (w15.cell? ⟨b_1, 0, none⟩ = some (Value.int .i64 v57) ∧ w15.cell? ⟨(pblk v53), (poff v53), none⟩ = some (Value.int .i64 v56) ∧ w15.cell? ⟨b_, 0, none⟩ = some (Value.pointer v53) ∧ (Writable w15 b_4 0 9 ∧ (∀ w16, w16 = World.puts b_4 0 [Value.int .u8 0, Value.int .i64 v56, Value.int .i64 v57, Value.string ByteArray.empty, Value.string ByteArray.empty, Value.bool false, Value.string ByteArray.empty, Value.string ByteArray.empty, Value.slice none 0 0] w15 → ((∃ (v59 : Option Addr), w16.cell? ⟨b_, 0, none⟩ = some (Value.pointer v59) ∧ (IsAt v59 ∧ (∃ (v63 : Int), w16.cell? ⟨(pblk v59), (poff v59) + 5, none⟩ = some (Value.int .u8 v63) ∧ (((v63 == 1) = true → (∀ w23, (∃ k, w23 = w16.drewN k) → (∃ (v66 : Option Addr), w23.cell? ⟨b_, 0, none⟩ = some (Value.pointer v66) ∧ (IsAt v66 ∧ (∃ (v70 : ByteArray), w23.cell? ⟨(pblk v66), (poff v66) + 6, none⟩ = some (Value.string v70) ∧ (Writable w23 b_4 0 1 ∧ (∀ w24, w24 = World.puts b_4 0 [Value.int .u8 2] w23 → (w24.cell? ⟨(pblk v66), (poff v66) + 6, none⟩ = some (Value.string v70) ∧ w24.cell? ⟨b_, 0, none⟩ = some (Value.pointer v66) ∧ (Writable w24 b_4 6 1 ∧ (∀ w25, w25 = World.puts b_4 6 [Value.string v70] w24 → ((F_call_Task_Begin_k2 b_ D rec_ Kb t52 b_4 w25)))))))))))) ∧
  ((v63 == 1) = false → (((v63 == 2) = true → (∀ w26, (∃ k, w26 = w16.drewN k) → (∃ (v75 : Option Addr), w26.cell? ⟨b_, 0, none⟩ = some (Value.pointer v75) ∧ (IsAt v75 ∧ (∃ (v79 : ByteArray), w26.cell? ⟨(pblk v75), (poff v75) + 6, none⟩ = some (Value.string v79) ∧ (∃ (v80 : Option Addr), w26.cell? ⟨b_, 0, none⟩ = some (Value.pointer v80) ∧ (IsAt v80 ∧ (∃ (v84 : ByteArray), w26.cell? ⟨(pblk v80), (poff v80) + 7, none⟩ = some (Value.string v84) ∧ (Writable w26 b_4 0 1 ∧ (∀ w27, w27 = World.puts b_4 0 [Value.int .u8 3] w26 → (w27.cell? ⟨(pblk v80), (poff v80) + 7, none⟩ = some (Value.string v84) ∧ w27.cell? ⟨b_, 0, none⟩ = some (Value.pointer v80) ∧ w27.cell? ⟨(pblk v75), (poff v75) + 6, none⟩ = some (Value.string v79) ∧ w27.cell? ⟨b_, 0, none⟩ = some (Value.pointer v75) ∧ (Writable w27 b_4 6 1 ∧ (∀ w28, w28 = World.puts b_4 6 [Value.string v79] w27 → (w28.cell? ⟨(pblk v80), (poff v80) + 7, none⟩ = some (Value.string v84) ∧ w28.cell? ⟨b_, 0, none⟩ = some (Value.pointer v80) ∧ (Writable w28 b_4 7 1 ∧ (∀ w29, w29 = World.puts b_4 7 [Value.string v84] w28 → ((F_call_Task_Begin_k2 b_ D rec_ Kb t52 b_4 w29)))))))))))))))))) ∧
  ((v63 == 2) = false → (((v63 == 3) = true → (∀ w30, (∃ k, w30 = w16.drewN k) → (∃ (v90 : Int), w30.cell? ⟨b_2, 0, none⟩ = some (Value.int .i64 v90) ∧ (Writable w30 b_4 0 1 ∧ (∀ w31, w31 = World.puts b_4 0 [Value.int .u8 4] w30 → (w31.cell? ⟨b_2, 0, none⟩ = some (Value.int .i64 v90) ∧ (Writable w31 b_4 2 1 ∧ (∀ w32, w32 = World.puts b_4 2 [Value.int .i64 v90] w31 → ((F_call_Task_Begin_k2 b_ D rec_ Kb t52 b_4 w32)))))))))) ∧
  ((v63 == 3) = false → (((v63 == 4) = true → (∃ (v95 : Slc), w16.cell? ⟨b_3, 0, none⟩ = some (Value.slice v95.ptr v95.len v95.cap) ∧ (C_slices_Clone_int_int v95 w16 (fun (v96 : Slc) w33 => Writable w33 b_4 0 1 ∧ (∀ w34, w34 = World.puts b_4 0 [Value.int .u8 5] w33 → (Writable w34 b_4 8 1 ∧ (∀ w35, w35 = World.puts b_4 8 [Value.slice v96.ptr v96.len v96.cap] w34 → (F_call_Task_Begin_k2 b_ D rec_ Kb t52 b_4 w35)))))))) ∧
  ((v63 == 4) = false → (F_call_Task_Begin_k2 b_ D rec_ Kb t52 b_4 w16)))))))))))))))))))))

def F_call_Task_Begin_A3 (R : Int → World → Prop) (D : Nat) (w37 : World) : Prop :=
  w37.heap[D]? = some (.deferred (some [])) ∧ (∀ w40, w40 = w37.putObj D (.deferred none) → (R 0 w40))

def F_call_Task_Begin_k0 (R : Int → World → Prop) (b_ : Nat) (b_1 : Nat) (b_2 : Nat) (b_3 : Nat) (t20 : Bool) (w6 : World) : Prop :=
  (t20 = true → (R 1 w6)) ∧
  (t20 = false → (∀ w7, (∃ k, w7 = w6.drewN k) → (∃ (v43 : Option Addr), w7.cell? ⟨b_, 0, none⟩ = some (Value.pointer v43) ∧ (∃ (v44 : Option Addr), w7.cell? ⟨b_, 0, none⟩ = some (Value.pointer v44) ∧ (∃ (v45 : Int), w7.cell? ⟨b_1, 0, none⟩ = some (Value.int .i64 v45) ∧ (IsAt v43 ∧ (Writable w7 (pblk v43) ((poff v43) + 8) 1 ∧ (∀ w8, w8 = World.puts (pblk v43) ((poff v43) + 8) [Value.bool true] w7 → (w8.cell? ⟨b_1, 0, none⟩ = some (Value.int .i64 v45) ∧ w8.cell? ⟨b_, 0, none⟩ = some (Value.pointer v44) ∧ (IsAt v44 ∧ (Writable w8 (pblk v44) ((poff v44) + 9) 1 ∧ (∀ w9, w9 = World.puts (pblk v44) ((poff v44) + 9) [Value.int .i64 v45] w8 → ((∃ (v50 : Option Addr), w9.cell? ⟨b_, 0, none⟩ = some (Value.pointer v50) ∧ (C_call_Task_shards v50 w9 (fun (v51 : Value) w10 => ∀ (rec_ : Recs) (D : Nat) w11, D = w10.heap.size → w11 = (w10.alloc (.deferred (some []))).alloc (.loop (rec_ .ready none)) → (∀ (t52 : Int) (w12 : World) (Kb : Bool → World → Prop), w12.heap[D + 1]? = some (.loop (rec_ .ready none)) → (∀ w36, w36 = w12.putObj (D + 1) (.loop (rec_ .busy none)) → F_call_Task_Begin_B1 b_ b_1 b_2 b_3 rec_ D Kb t52 w36) → CallsY (P := Tryz.prog) (yieldV (D + 1)) #[Value.int .i64 t52] w12 (fun e_ W_ => ∃ b_, e_ = Ending.returned (.bool b_) ∧ Kb b_ W_)) → CallsV (P := Tryz.prog) v51 #[yieldV (D + 1)] w11 (fun e_ w38 => (∃ v_, e_ = Ending.returned v_) ∧ ∃ st_ pe_, w38.heap[D + 1]? = some (.loop (rec_ st_ pe_)) ∧ st_ ≠ .busy ∧ ∀ w39, w39 = w38.putObj (D + 1) (.loop (rec_ .exhausted pe_)) → (((pe_ = none) ∧ (F_call_Task_Begin_A3 R D w39))))))))))))))))))))

def F_call_Task_Begin (t_ : Option Addr) (mark : Int) (least : Int) (beyond : Slc) (R : Int → World → Prop) (w : World) : Prop :=
  ∀ b_ w1, b_ = w.heap.size → w1 = w.alloc (Obj.cells ([Value.pointer t_]).toArray ty_ptr_call_Task (0, 0)) → (∀ b_1 w2, b_1 = w1.heap.size → w2 = w1.alloc (Obj.cells ([Value.int .i64 mark]).toArray ty_int (0, 0)) → (∀ b_2 w3, b_2 = w2.heap.size → w3 = w2.alloc (Obj.cells ([Value.int .i64 least]).toArray ty_int (0, 0)) → (∀ b_3 w4, b_3 = w3.heap.size → w4 = w3.alloc (Obj.cells ([Value.slice beyond.ptr beyond.len beyond.cap]).toArray ty_sl_int (0, 0)) → (∃ (v12 : Option Addr), w4.cell? ⟨b_, 0, none⟩ = some (Value.pointer v12) ∧ (C_call_Task_there v12 w4 (fun (v13 : Bool) w5 => ((!v13) = true → (R 2 w5)) ∧
  ((!v13) = false → (∃ (v16 : Option Addr), w5.cell? ⟨b_, 0, none⟩ = some (Value.pointer v16) ∧ (IsAt v16 ∧ (∃ (v19 : Bool), w5.cell? ⟨(pblk v16), (poff v16) + 8, none⟩ = some (Value.bool v19) ∧ ((v19 = true → (R 10 w5)) ∧
  (v19 = false → (∃ (v21 : Int), w5.cell? ⟨b_1, 0, none⟩ = some (Value.int .i64 v21) ∧ (((decide (v21 < 0)) = true → (F_call_Task_Begin_k0 R b_ b_1 b_2 b_3 true w5)) ∧
  ((decide (v21 < 0)) = false → (∃ (v24 : Int), w5.cell? ⟨b_1, 0, none⟩ = some (Value.int .i64 v24) ∧ (((decide (v24 > 65536)) = true → (F_call_Task_Begin_k0 R b_ b_1 b_2 b_3 true w5)) ∧
  ((decide (v24 > 65536)) = false → (∃ (v28 : Int), w5.cell? ⟨b_2, 0, none⟩ = some (Value.int .i64 v28) ∧ (((decide (v28 < 0)) = true → (F_call_Task_Begin_k0 R b_ b_1 b_2 b_3 true w5)) ∧
  ((decide (v28 < 0)) = false → (∃ (v32 : Int), w5.cell? ⟨b_2, 0, none⟩ = some (Value.int .i64 v32) ∧ (∃ (v33 : Int), w5.cell? ⟨b_1, 0, none⟩ = some (Value.int .i64 v33) ∧ (((decide (v32 > v33)) = true → (F_call_Task_Begin_k0 R b_ b_1 b_2 b_3 true w5)) ∧
  ((decide (v32 > v33)) = false → (∃ (v37 : Slc), w5.cell? ⟨b_3, 0, none⟩ = some (Value.slice v37.ptr v37.len v37.cap) ∧ (∃ (v38 : Int), w5.cell? ⟨b_1, 0, none⟩ = some (Value.int .i64 v38) ∧ (C_call_may v37 (IntKind.i64.wrap (v38 + 1)) w5 (fun (v40 : Bool) w41 => F_call_Task_Begin_k0 R b_ b_1 b_2 b_3 (!v40) w41)))))))))))))))))))))))))))))

def F_call_Task_Got_L0 (t_ : Option Addr) (R : Int → World → Prop) (b_ : Nat) (v36 : Slc) (again_ : Slc → Int → World → Prop) (held : Slc) (t38 : Int) (w6 : World) : Prop :=
  ((decide (t38 < ((v36.len : Nat) : Int))) = true → (IsAt v36.ptr ∧ (0 ≤ t38 ∧ t38 < ((v36.len : Nat) : Int) ∧ (∃ (v41 : T_api_Held), CellsAt w6 (pblk v36.ptr) ((poff v36.ptr) + t38.toNat * 2) [Value.string v41.Key, Value.slice v41.Versions.ptr v41.Versions.len v41.Versions.cap] ∧ (∀ b_2 w7, b_2 = w6.heap.size → w7 = w6.alloc (Obj.cells ([Value.string ByteArray.empty, Value.slice none 0 0]).toArray ty_api_Held (0, 0)) → (Writable w7 b_2 0 2 ∧ (∀ w8, w8 = World.puts b_2 0 [Value.string v41.Key, Value.slice v41.Versions.ptr v41.Versions.len v41.Versions.cap] w7 → (∀ w9, (∃ k, w9 = w8.drewN k) → (∃ (v44 : ByteArray), w9.cell? ⟨b_2, 0, none⟩ = some (Value.string v44) ∧ (∃ (v46 : Slc), w9.cell? ⟨b_2, 1, none⟩ = some (Value.slice v46.ptr v46.len v46.cap) ∧ (C_slices_Clone_api_Version_api_Version v46 w9 (fun (v47 : Slc) w10 => w10.cell? ⟨b_2, 0, none⟩ = some (Value.string v44) ∧ (∀ b_3 w11, b_3 = w10.heap.size → w11 = w10.alloc (Obj.cells ([Value.string v44, Value.slice v47.ptr v47.len v47.cap]).toArray ty_api_Held (0, 0)) → ((∃ src, SrcAt w11 (Slc.mk (some ⟨b_3, 0, none⟩) 1 1) 2 src ∧ AppendW 2 40 ty_api_Held [Value.string ByteArray.empty, Value.slice none 0 0] held src 1 w11 (fun held1 w12 => (again_ held1 (IntKind.i64.wrap (t38 + 1)) w12))))))))))))))))) ∧
  ((decide (t38 < ((v36.len : Nat) : Int))) = false → (∀ w13, (∃ k, w13 = w6.drewN k) → (IsAt t_ ∧ (∃ (v56 : Slc), w13.cell? ⟨(pblk t_), (poff t_) + 12, none⟩ = some (Value.slice v56.ptr v56.len v56.cap) ∧ (∃ (v58 : Bool), w13.cell? ⟨b_, 1, none⟩ = some (Value.bool v58) ∧ (∃ (v60 : Slc), w13.cell? ⟨b_, 2, none⟩ = some (Value.slice v60.ptr v60.len v60.cap) ∧ (∃ (v64 : Int), w13.cell? ⟨b_, 4, none⟩ = some (Value.int .i64 v64) ∧ (C_slices_Clone_api_Entry_api_Entry v60 w13 (fun (v61 : Slc) w14 => w14.cell? ⟨b_, 4, none⟩ = some (Value.int .i64 v64) ∧ w14.cell? ⟨b_, 1, none⟩ = some (Value.bool v58) ∧ w14.cell? ⟨(pblk t_), (poff t_) + 12, none⟩ = some (Value.slice v56.ptr v56.len v56.cap) ∧ (∀ b_4 w15, b_4 = w14.heap.size → w15 = w14.alloc (Obj.cells ([Value.int .i64 0, Value.bool v58, Value.slice v61.ptr v61.len v61.cap, Value.slice held.ptr held.len held.cap, Value.int .i64 v64]).toArray ty_api_Resp (0, 0)) → (w15.cell? ⟨(pblk t_), (poff t_) + 12, none⟩ = some (Value.slice v56.ptr v56.len v56.cap) ∧ (∃ src, SrcAt w15 (Slc.mk (some ⟨b_4, 0, none⟩) 1 1) 5 src ∧ AppendW 5 72 ty_api_Resp [Value.int .i64 0, Value.bool false, Value.slice none 0 0, Value.slice none 0 0, Value.int .i64 0] v56 src 1 w15 (fun v67 w16 => (IsAt t_ ∧ (Writable w16 (pblk t_) ((poff t_) + 12) 1 ∧ (∀ w17, w17 = World.puts (pblk t_) ((poff t_) + 12) [Value.slice v67.ptr v67.len v67.cap] w16 → ((R 0 w17))))))))))))))))))

def F_call_Task_Got (t_ : Option Addr) (r : T_api_Resp) (R : Int → World → Prop) (w : World) : Prop :=
  ∀ b_ w1, b_ = w.heap.size → w1 = w.alloc (Obj.cells ([Value.int .i64 r.To, Value.bool r.OK, Value.slice r.Entries.ptr r.Entries.len r.Entries.cap, Value.slice r.Held.ptr r.Held.len r.Held.cap, Value.int .i64 r.Count]).toArray ty_api_Resp (0, 0)) → (C_call_Task_there t_ w1 (fun (v10 : Bool) w2 => ((!v10) = true → (R 2 w2)) ∧
  ((!v10) = false → (IsAt t_ ∧ (∃ (v16 : Slc), w2.cell? ⟨(pblk t_), (poff t_) + 12, none⟩ = some (Value.slice v16.ptr v16.len v16.cap) ∧ (IsAt t_ ∧ (∃ (v21 : Int), w2.cell? ⟨(pblk t_), (poff t_) + 11, none⟩ = some (Value.int .i64 v21) ∧ (∀ w3, Ext w2 w3 → (((decide (((v16.len : Nat) : Int) ≥ v21)) = true → (R 9 w3)) ∧
  ((decide (((v16.len : Nat) : Int) ≥ v21)) = false → (∃ (v25 : Int), w3.cell? ⟨b_, 0, none⟩ = some (Value.int .i64 v25) ∧ (IsAt t_ ∧ (∃ (v29 : Int), w3.cell? ⟨(pblk t_), (poff t_), none⟩ = some (Value.int .i64 v29) ∧ (∀ w4, Ext w3 w4 → (((v25 != v29) = true → (R 1 w4)) ∧
  ((v25 != v29) = false → (∃ (v32 : Slc), w4.cell? ⟨b_, 3, none⟩ = some (Value.slice v32.ptr v32.len v32.cap) ∧ (0 ≤ (0 : Int) ∧ (0 : Int) ≤ ((v32.len : Nat) : Int) ∧ (40 : Int) * ((v32.len : Nat) : Int) ≤ 281474976710656 ∧ (∀ b_1 w5, b_1 = w4.heap.size → w5 = w4.alloc (Obj.cells (repCells (((v32.len : Nat) : Int).toNat) [Value.string ByteArray.empty, Value.slice none 0 0]) ty_api_Held (0, 0)) → (∃ (v36 : Slc), w5.cell? ⟨b_, 3, none⟩ = some (Value.slice v36.ptr v36.len v36.cap) ∧ (∃ (I : Slc → Int → World → Prop) (μ : Slc → Int → World → Nat), I (Slc.mk (some ⟨b_1, 0, none⟩) 0 (((v32.len : Nat) : Int).toNat)) 0 w5 ∧
  ∀ (held : Slc) (t38 : Int) w, I held t38 w → F_call_Task_Got_L0 t_ R b_ v36 (fun (held' : Slc) (t38' : Int) w' => I held' t38' w' ∧ μ held' t38' w' < μ held t38 w) held t38 w)))))))))))))))))))))

def F_towpathlaw01_TwinResp (x : T_api_Resp) (R : T_api_Resp → World → Prop) (w : World) : Prop :=
  ∀ b_ w1, b_ = w.heap.size → w1 = w.alloc (Obj.cells ([Value.int .i64 x.To, Value.bool x.OK, Value.slice x.Entries.ptr x.Entries.len x.Entries.cap, Value.slice x.Held.ptr x.Held.len x.Held.cap, Value.int .i64 x.Count]).toArray ty_api_Resp (0, 0)) → (∀ b_1 w2, b_1 = w1.heap.size → w2 = w1.alloc (Obj.cells ([Value.int .i64 0, Value.bool false, Value.slice none 0 0, Value.slice none 0 0, Value.int .i64 0]).toArray ty_api_Resp (0, 0)) → (∀ w3, (∃ k, w3 = w2.drewN k) → (∃ (v4 : Int), w3.cell? ⟨b_, 0, none⟩ = some (Value.int .i64 v4) ∧ (∃ (v6 : Bool), w3.cell? ⟨b_, 1, none⟩ = some (Value.bool v6) ∧ (∃ (v8 : Slc), w3.cell? ⟨b_, 2, none⟩ = some (Value.slice v8.ptr v8.len v8.cap) ∧ (∃ (v11 : Slc), w3.cell? ⟨b_, 3, none⟩ = some (Value.slice v11.ptr v11.len v11.cap) ∧ (∃ (v14 : Int), w3.cell? ⟨b_, 4, none⟩ = some (Value.int .i64 v14) ∧ (C_towpathlaw01_TwinEntries v8 w3 (fun (v9 : Slc) w4 => w4.cell? ⟨b_, 4, none⟩ = some (Value.int .i64 v14) ∧ w4.cell? ⟨b_, 3, none⟩ = some (Value.slice v11.ptr v11.len v11.cap) ∧ w4.cell? ⟨b_, 1, none⟩ = some (Value.bool v6) ∧ w4.cell? ⟨b_, 0, none⟩ = some (Value.int .i64 v4) ∧ (C_towpathlaw01_TwinHelds v11 w4 (fun (v12 : Slc) w5 => w5.cell? ⟨b_, 4, none⟩ = some (Value.int .i64 v14) ∧ w5.cell? ⟨b_, 1, none⟩ = some (Value.bool v6) ∧ w5.cell? ⟨b_, 0, none⟩ = some (Value.int .i64 v4) ∧ (Writable w5 b_1 0 5 ∧ (∀ w6, w6 = World.puts b_1 0 [Value.int .i64 v4, Value.bool v6, Value.slice v9.ptr v9.len v9.cap, Value.slice v12.ptr v12.len v12.cap, Value.int .i64 v14] w5 → ((∃ (res : T_api_Resp), CellsAt w6 b_1 0 [Value.int .i64 res.To, Value.bool res.OK, Value.slice res.Entries.ptr res.Entries.len res.Entries.cap, Value.slice res.Held.ptr res.Held.len res.Held.cap, Value.int .i64 res.Count] ∧ (R res w6))))))))))))))))

def F_call_Task_Sent (t_ : Option Addr) (R : Int → World → Prop) (w : World) : Prop :=
  C_call_Task_there t_ w (fun (v5 : Bool) w1 => ((!v5) = true → (R 2 w1)) ∧
  ((!v5) = false → (IsAt t_ ∧ (∃ (v11 : Slc), w1.cell? ⟨(pblk t_), (poff t_) + 10, none⟩ = some (Value.slice v11.ptr v11.len v11.cap) ∧ (((((v11.len : Nat) : Int) == 0) = true → (R 9 w1)) ∧
  ((((v11.len : Nat) : Int) == 0) = false → (IsAt t_ ∧ (∃ (v18 : Slc), w1.cell? ⟨(pblk t_), (poff t_) + 10, none⟩ = some (Value.slice v18.ptr v18.len v18.cap) ∧ ((0 ≤ (1 : Int) ∧ (1 : Int) ≤ ((v18.len : Nat) : Int) ∧ ((v18.len : Nat) : Int) ≤ ((v18.cap : Nat) : Int) ∧ ((v18.cap : Nat) : Int) ≤ ((v18.cap : Nat) : Int)) ∧ (∀ s, s = Slc.cut 10 v18 1 ((v18.len : Nat) : Int) ((v18.cap : Nat) : Int) → (IsAt t_ ∧ (Writable w1 (pblk t_) ((poff t_) + 10) 1 ∧ (∀ w2, w2 = World.puts (pblk t_) ((poff t_) + 10) [Value.slice s.ptr s.len s.cap] w1 → (IsAt t_ ∧ (∃ (v25 : Int), w2.cell? ⟨(pblk t_), (poff t_) + 11, none⟩ = some (Value.int .i64 v25) ∧ (Writable w2 (pblk t_) ((poff t_) + 11) 1 ∧ (∀ w3, w3 = World.puts (pblk t_) ((poff t_) + 11) [Value.int .i64 (IntKind.i64.wrap (v25 + 1))] w2 → (R 0 w3))))))))))))))))))

def F_call_Task_Next_k0 (t_ : Option Addr) (R : Int → T_api_Req → Bool → World → Prop) (b_ : Nat) (t16 : Bool) (w2 : World) : Prop :=
  (t16 = true → (Writable w2 b_ 0 9 ∧ (∀ w3, w3 = World.puts b_ 0 [Value.int .u8 0, Value.int .i64 0, Value.int .i64 0, Value.string ByteArray.empty, Value.string ByteArray.empty, Value.bool false, Value.string ByteArray.empty, Value.string ByteArray.empty, Value.slice none 0 0] w2 → (∃ (res : T_api_Req), CellsAt w3 b_ 0 [Value.int .u8 res.Kind, Value.int .i64 res.From, Value.int .i64 res.Number, Value.string res.Write.Key, Value.string res.Write.Val, Value.bool res.Write.Drop, Value.string res.Key, Value.string res.End, Value.slice res.Beyond.ptr res.Beyond.len res.Beyond.cap] ∧ (R 0 res false w3))))) ∧
  (t16 = false → (IsAt t_ ∧ (∃ (v21 : Slc), w2.cell? ⟨(pblk t_), (poff t_) + 10, none⟩ = some (Value.slice v21.ptr v21.len v21.cap) ∧ (IsAt v21.ptr ∧ (0 ≤ (0 : Int) ∧ (0 : Int) < ((v21.len : Nat) : Int) ∧ (∃ (v24 : T_api_Req), CellsAt w2 (pblk v21.ptr) ((poff v21.ptr) + 1) [Value.int .u8 v24.Kind, Value.int .i64 v24.From, Value.int .i64 v24.Number, Value.string v24.Write.Key, Value.string v24.Write.Val, Value.bool v24.Write.Drop, Value.string v24.Key, Value.string v24.End, Value.slice v24.Beyond.ptr v24.Beyond.len v24.Beyond.cap] ∧ (∀ b_1 w4, b_1 = w2.heap.size → w4 = w2.alloc (Obj.cells ([Value.int .u8 0, Value.int .i64 0, Value.int .i64 0, Value.string ByteArray.empty, Value.string ByteArray.empty, Value.bool false, Value.string ByteArray.empty, Value.string ByteArray.empty, Value.slice none 0 0]).toArray ty_api_Req (0, 0)) → (Writable w4 b_1 0 9 ∧ (∀ w5, w5 = World.puts b_1 0 [Value.int .u8 v24.Kind, Value.int .i64 v24.From, Value.int .i64 v24.Number, Value.string v24.Write.Key, Value.string v24.Write.Val, Value.bool v24.Write.Drop, Value.string v24.Key, Value.string v24.End, Value.slice v24.Beyond.ptr v24.Beyond.len v24.Beyond.cap] w4 → (∃ (v26 : Slc), w5.cell? ⟨b_1, 8, none⟩ = some (Value.slice v26.ptr v26.len v26.cap) ∧ (C_slices_Clone_int_int v26 w5 (fun (v27 : Slc) w6 => Writable w6 b_1 8 1 ∧ (∀ w7, w7 = World.puts b_1 8 [Value.slice v27.ptr v27.len v27.cap] w6 → (∀ w8, (∃ k, w8 = w7.drewN k) → (IsAt t_ ∧ (∃ (v32 : Slc), w8.cell? ⟨(pblk t_), (poff t_) + 10, none⟩ = some (Value.slice v32.ptr v32.len v32.cap) ∧ (IsAt v32.ptr ∧ (0 ≤ (0 : Int) ∧ (0 : Int) < ((v32.len : Nat) : Int) ∧ (∃ (v35 : Int), w8.cell? ⟨(pblk v32.ptr), (poff v32.ptr), none⟩ = some (Value.int .i64 v35) ∧ (∃ (v36 : T_api_Req), CellsAt w8 b_1 0 [Value.int .u8 v36.Kind, Value.int .i64 v36.From, Value.int .i64 v36.Number, Value.string v36.Write.Key, Value.string v36.Write.Val, Value.bool v36.Write.Drop, Value.string v36.Key, Value.string v36.End, Value.slice v36.Beyond.ptr v36.Beyond.len v36.Beyond.cap] ∧ (Writable w8 b_ 0 9 ∧ (∀ w9, w9 = World.puts b_ 0 [Value.int .u8 v36.Kind, Value.int .i64 v36.From, Value.int .i64 v36.Number, Value.string v36.Write.Key, Value.string v36.Write.Val, Value.bool v36.Write.Drop, Value.string v36.Key, Value.string v36.End, Value.slice v36.Beyond.ptr v36.Beyond.len v36.Beyond.cap] w8 → (∃ (res1 : T_api_Req), CellsAt w9 b_ 0 [Value.int .u8 res1.Kind, Value.int .i64 res1.From, Value.int .i64 res1.Number, Value.string res1.Write.Key, Value.string res1.Write.Val, Value.bool res1.Write.Drop, Value.string res1.Key, Value.string res1.End, Value.slice res1.Beyond.ptr res1.Beyond.len res1.Beyond.cap] ∧ (R v35 res1 true w9))))))))))))))))))))))))

def F_call_Task_Next (t_ : Option Addr) (R : Int → T_api_Req → Bool → World → Prop) (w : World) : Prop :=
  ∀ b_ w1, b_ = w.heap.size → w1 = w.alloc (Obj.cells ([Value.int .u8 0, Value.int .i64 0, Value.int .i64 0, Value.string ByteArray.empty, Value.string ByteArray.empty, Value.bool false, Value.string ByteArray.empty, Value.string ByteArray.empty, Value.slice none 0 0]).toArray ty_api_Req (0, 0)) → (C_call_Task_there t_ w1 (fun (v7 : Bool) w10 => ((!v7) = true → (F_call_Task_Next_k0 t_ R b_ true w10)) ∧
  ((!v7) = false → (IsAt t_ ∧ (∃ (v13 : Slc), w10.cell? ⟨(pblk t_), (poff t_) + 10, none⟩ = some (Value.slice v13.ptr v13.len v13.cap) ∧ (F_call_Task_Next_k0 t_ R b_ (((v13.len : Nat) : Int) == 0) w10))))))

def F_call_Task_Answer_k1 (t31 : Int) (again_ : Slc → Int → World → Prop) (held1 : Slc) (w9 : World) : Prop :=
  again_ held1 (IntKind.i64.wrap (t31 + 1)) w9

def F_call_Task_Answer_L2 (t31 : Int) (again_ : Slc → Int → World → Prop) (v74 : Slc) (again_1 : Slc → Int → World → Prop) (held2 : Slc) (t76 : Int) (w20 : World) : Prop :=
  ((decide (t76 < ((v74.len : Nat) : Int))) = true → (IsAt v74.ptr ∧ (0 ≤ t76 ∧ t76 < ((v74.len : Nat) : Int) ∧ (∃ (v79 : T_api_Held), CellsAt w20 (pblk v74.ptr) ((poff v74.ptr) + t76.toNat * 2) [Value.string v79.Key, Value.slice v79.Versions.ptr v79.Versions.len v79.Versions.cap] ∧ (∀ b_5 w21, b_5 = w20.heap.size → w21 = w20.alloc (Obj.cells ([Value.string ByteArray.empty, Value.slice none 0 0]).toArray ty_api_Held (0, 0)) → (Writable w21 b_5 0 2 ∧ (∀ w22, w22 = World.puts b_5 0 [Value.string v79.Key, Value.slice v79.Versions.ptr v79.Versions.len v79.Versions.cap] w21 → (∀ w23, (∃ k, w23 = w22.drewN k) → (∃ (v82 : ByteArray), w23.cell? ⟨b_5, 0, none⟩ = some (Value.string v82) ∧ (∃ (v84 : Slc), w23.cell? ⟨b_5, 1, none⟩ = some (Value.slice v84.ptr v84.len v84.cap) ∧ (C_slices_Clone_api_Version_api_Version v84 w23 (fun (v85 : Slc) w24 => w24.cell? ⟨b_5, 0, none⟩ = some (Value.string v82) ∧ (∀ b_6 w25, b_6 = w24.heap.size → w25 = w24.alloc (Obj.cells ([Value.string v82, Value.slice v85.ptr v85.len v85.cap]).toArray ty_api_Held (0, 0)) → ((∃ src, SrcAt w25 (Slc.mk (some ⟨b_6, 0, none⟩) 1 1) 2 src ∧ AppendW 2 40 ty_api_Held [Value.string ByteArray.empty, Value.slice none 0 0] held2 src 1 w25 (fun held3 w26 => (again_1 held3 (IntKind.i64.wrap (t76 + 1)) w26))))))))))))))))) ∧
  ((decide (t76 < ((v74.len : Nat) : Int))) = false → (F_call_Task_Answer_k1 t31 again_ held2 w20))

def F_call_Task_Answer_L0 (t_ : Option Addr) (R : T_api_Answer → Slc → Int → World → Prop) (b_ : Nat) (b_1 : Nat) (v29 : Slc) (again_ : Slc → Int → World → Prop) (held : Slc) (t31 : Int) (w8 : World) : Prop :=
  ((decide (t31 < ((v29.len : Nat) : Int))) = true → (IsAt v29.ptr ∧ (0 ≤ t31 ∧ t31 < ((v29.len : Nat) : Int) ∧ (∃ (v34 : T_api_Resp), CellsAt w8 (pblk v29.ptr) ((poff v29.ptr) + t31.toNat * 5) [Value.int .i64 v34.To, Value.bool v34.OK, Value.slice v34.Entries.ptr v34.Entries.len v34.Entries.cap, Value.slice v34.Held.ptr v34.Held.len v34.Held.cap, Value.int .i64 v34.Count] ∧ (∀ b_2 w10, b_2 = w8.heap.size → w10 = w8.alloc (Obj.cells ([Value.int .i64 0, Value.bool false, Value.slice none 0 0, Value.slice none 0 0, Value.int .i64 0]).toArray ty_api_Resp (0, 0)) → (Writable w10 b_2 0 5 ∧ (∀ w11, w11 = World.puts b_2 0 [Value.int .i64 v34.To, Value.bool v34.OK, Value.slice v34.Entries.ptr v34.Entries.len v34.Entries.cap, Value.slice v34.Held.ptr v34.Held.len v34.Held.cap, Value.int .i64 v34.Count] w10 → (IsAt t_ ∧ (∃ (v39 : Int), w11.cell? ⟨(pblk t_), (poff t_) + 5, none⟩ = some (Value.int .u8 v39) ∧ (((v39 == 1) = true → (∃ (v43 : Slc), w11.cell? ⟨b_2, 2, none⟩ = some (Value.slice v43.ptr v43.len v43.cap) ∧ (Writable w11 b_1 2 1 ∧ (∀ w12, w12 = World.puts b_1 2 [Value.bool (((v43.len : Nat) : Int) == 1)] w11 → (∃ (v48 : Bool), w12.cell? ⟨b_1, 2, none⟩ = some (Value.bool v48) ∧ ((v48 = true → (∃ (v50 : Slc), w12.cell? ⟨b_2, 2, none⟩ = some (Value.slice v50.ptr v50.len v50.cap) ∧ (∀ b_3 w13, b_3 = w12.heap.size → w13 = w12.alloc (Obj.cells ([Value.slice v50.ptr v50.len v50.cap]).toArray ty_sl_api_Entry (0, 0)) → (C_call_entries (Slc.mk (some ⟨b_3, 0, none⟩) 1 1) w13 (fun (v52 : Slc) w14 => Writable w14 b_1 3 1 ∧ (∀ w15, w15 = World.puts b_1 3 [Value.slice v52.ptr v52.len v52.cap] w14 → (F_call_Task_Answer_k1 t31 again_ held w15))))))) ∧
  (v48 = false → (F_call_Task_Answer_k1 t31 again_ held w12)))))))) ∧
  ((v39 == 1) = false → (((v39 == 2) = true → (∃ (v57 : Slc), w11.cell? ⟨b_1, 3, none⟩ = some (Value.slice v57.ptr v57.len v57.cap) ∧ (∃ (v59 : Slc), w11.cell? ⟨b_2, 2, none⟩ = some (Value.slice v59.ptr v59.len v59.cap) ∧ (∀ b_4 w16, b_4 = w11.heap.size → w16 = w11.alloc (Obj.cells ([Value.slice v57.ptr v57.len v57.cap, Value.slice v59.ptr v59.len v59.cap]).toArray ty_sl_api_Entry (0, 0)) → (C_call_entries (Slc.mk (some ⟨b_4, 0, none⟩) 2 2) w16 (fun (v61 : Slc) w17 => Writable w17 b_1 3 1 ∧ (∀ w18, w18 = World.puts b_1 3 [Value.slice v61.ptr v61.len v61.cap] w17 → (F_call_Task_Answer_k1 t31 again_ held w18)))))))) ∧
  ((v39 == 2) = false → (((v39 == 3) = true → (∃ (v66 : Int), w11.cell? ⟨b_1, 4, none⟩ = some (Value.int .i64 v66) ∧ (∃ (v68 : Int), w11.cell? ⟨b_2, 4, none⟩ = some (Value.int .i64 v68) ∧ (Writable w11 b_1 4 1 ∧ (∀ w19, w19 = World.puts b_1 4 [Value.int .i64 (IntKind.i64.wrap (v66 + v68))] w11 → (F_call_Task_Answer_k1 t31 again_ held w19)))))) ∧
  ((v39 == 3) = false → (((v39 == 4) = true → (∃ (v74 : Slc), w11.cell? ⟨b_2, 3, none⟩ = some (Value.slice v74.ptr v74.len v74.cap) ∧ (∃ (I : Slc → Int → World → Prop) (μ : Slc → Int → World → Nat), I held 0 w11 ∧
  ∀ (held2 : Slc) (t76 : Int) w, I held2 t76 w → F_call_Task_Answer_L2 t31 again_ v74 (fun (held2' : Slc) (t76' : Int) w' => I held2' t76' w' ∧ μ held2' t76' w' < μ held2 t76 w) held2 t76 w))) ∧
  ((v39 == 4) = false → (F_call_Task_Answer_k1 t31 again_ held w11)))))))))))))))))) ∧
  ((decide (t31 < ((v29.len : Nat) : Int))) = false → (C_slices_SortStableFunc_api_Held_api_Held held (Value.func (.func 82) #[] #[]) w8 (fun w27 => ∃ (v93 : T_api_Answer), CellsAt w27 b_1 0 [Value.int .i64 v93.Code, Value.int .i64 v93.Mark, Value.bool v93.OK, Value.slice v93.Entries.ptr v93.Entries.len v93.Entries.cap, Value.int .i64 v93.Count] ∧ (Writable w27 b_ 0 5 ∧ (∀ w28, w28 = World.puts b_ 0 [Value.int .i64 v93.Code, Value.int .i64 v93.Mark, Value.bool v93.OK, Value.slice v93.Entries.ptr v93.Entries.len v93.Entries.cap, Value.int .i64 v93.Count] w27 → (∃ (res2 : T_api_Answer), CellsAt w28 b_ 0 [Value.int .i64 res2.Code, Value.int .i64 res2.Mark, Value.bool res2.OK, Value.slice res2.Entries.ptr res2.Entries.len res2.Entries.cap, Value.int .i64 res2.Count] ∧ (R res2 held 0 w28)))))))

def F_call_Task_Answer (t_ : Option Addr) (R : T_api_Answer → Slc → Int → World → Prop) (w : World) : Prop :=
  ∀ b_ w1, b_ = w.heap.size → w1 = w.alloc (Obj.cells ([Value.int .i64 0, Value.int .i64 0, Value.bool false, Value.slice none 0 0, Value.int .i64 0]).toArray ty_api_Answer (0, 0)) → (C_call_Task_there t_ w1 (fun (v13 : Bool) w2 => ((!v13) = true → (Writable w2 b_ 0 5 ∧ (∀ w3, w3 = World.puts b_ 0 [Value.int .i64 0, Value.int .i64 0, Value.bool false, Value.slice none 0 0, Value.int .i64 0] w2 → (∃ (res : T_api_Answer), CellsAt w3 b_ 0 [Value.int .i64 res.Code, Value.int .i64 res.Mark, Value.bool res.OK, Value.slice res.Entries.ptr res.Entries.len res.Entries.cap, Value.int .i64 res.Count] ∧ (R res (Slc.mk none 0 0) 2 w3))))) ∧
  ((!v13) = false → (C_call_Task_All t_ w2 (fun (v18 : Bool) w4 => ((!v18) = true → (Writable w4 b_ 0 5 ∧ (∀ w5, w5 = World.puts b_ 0 [Value.int .i64 0, Value.int .i64 0, Value.bool false, Value.slice none 0 0, Value.int .i64 0] w4 → (∃ (res1 : T_api_Answer), CellsAt w5 b_ 0 [Value.int .i64 res1.Code, Value.int .i64 res1.Mark, Value.bool res1.OK, Value.slice res1.Entries.ptr res1.Entries.len res1.Entries.cap, Value.int .i64 res1.Count] ∧ (R res1 (Slc.mk none 0 0) 6 w5))))) ∧
  ((!v18) = false → (IsAt t_ ∧ (∃ (v24 : Int), w4.cell? ⟨(pblk t_), (poff t_) + 9, none⟩ = some (Value.int .i64 v24) ∧ (∀ b_1 w6, b_1 = w4.heap.size → w6 = w4.alloc (Obj.cells ([Value.int .i64 0, Value.int .i64 0, Value.bool false, Value.slice none 0 0, Value.int .i64 0]).toArray ty_api_Answer (0, 0)) → (Writable w6 b_1 0 5 ∧ (∀ w7, w7 = World.puts b_1 0 [Value.int .i64 0, Value.int .i64 v24, Value.bool true, Value.slice none 0 0, Value.int .i64 0] w6 → (IsAt t_ ∧ (∃ (v29 : Slc), w7.cell? ⟨(pblk t_), (poff t_) + 12, none⟩ = some (Value.slice v29.ptr v29.len v29.cap) ∧ (∃ (I : Slc → Int → World → Prop) (μ : Slc → Int → World → Nat), I (Slc.mk none 0 0) 0 w7 ∧
  ∀ (held : Slc) (t31 : Int) w, I held t31 w → F_call_Task_Answer_L0 t_ R b_ b_1 v29 (fun (held' : Slc) (t31' : Int) w' => I held' t31' w' ∧ μ held' t31' w' < μ held t31 w) held t31 w))))))))))))))

def F_towpathlaw01_Book_Req (b_ : Option Addr) (r : T_api_Req) (R : World → Prop) (w : World) : Prop :=
  ∀ b_1 w1, b_1 = w.heap.size → w1 = w.alloc (Obj.cells ([Value.int .u8 r.Kind, Value.int .i64 r.From, Value.int .i64 r.Number, Value.string r.Write.Key, Value.string r.Write.Val, Value.bool r.Write.Drop, Value.string r.Key, Value.string r.End, Value.slice r.Beyond.ptr r.Beyond.len r.Beyond.cap]).toArray ty_api_Req (0, 0)) → (∃ (v6 : Slc), w1.cell? ⟨b_1, 8, none⟩ = some (Value.slice v6.ptr v6.len v6.cap) ∧ (C_towpathlaw01_Book_Ints b_ v6 w1 (fun w2 => R w2)))

def F_towpathlaw01_Book_Answer (b_ : Option Addr) (a_ : T_api_Answer) (R : World → Prop) (w : World) : Prop :=
  ∀ b_1 w1, b_1 = w.heap.size → w1 = w.alloc (Obj.cells ([Value.int .i64 a_.Code, Value.int .i64 a_.Mark, Value.bool a_.OK, Value.slice a_.Entries.ptr a_.Entries.len a_.Entries.cap, Value.int .i64 a_.Count]).toArray ty_api_Answer (0, 0)) → (∃ (v6 : Slc), w1.cell? ⟨b_1, 3, none⟩ = some (Value.slice v6.ptr v6.len v6.cap) ∧ (C_towpathlaw01_Book_Entries b_ v6 w1 (fun w2 => R w2)))

def F_towpathlaw01_Book_Helds_L0 (b_ : Option Addr) (l_ : Slc) (R : World → Prop) (again_ : Int → World → Prop) (i : Int) (w1 : World) : Prop :=
  ((decide (i < ((l_.len : Nat) : Int))) = true → (IsAt l_.ptr ∧ (0 ≤ i ∧ i < ((l_.len : Nat) : Int) ∧ (∃ (v16 : Slc), w1.cell? ⟨(pblk l_.ptr), ((poff l_.ptr) + i.toNat * 2) + 1, none⟩ = some (Value.slice v16.ptr v16.len v16.cap) ∧ (C_towpathlaw01_Book_Versions b_ v16 w1 (fun w2 => again_ (IntKind.i64.wrap (i + 1)) w2)))))) ∧
  ((decide (i < ((l_.len : Nat) : Int))) = false → (C_towpathlaw01_Book_keepHeld b_ l_ w1 (fun w3 => R w3)))

def F_towpathlaw01_Book_Helds (b_ : Option Addr) (l_ : Slc) (R : World → Prop) (w : World) : Prop :=
  ∃ (I : Int → World → Prop) (μ : Int → World → Nat), I 0 w ∧
  ∀ (i : Int) w, I i w → F_towpathlaw01_Book_Helds_L0 b_ l_ R (fun (i' : Int) w' => I i' w' ∧ μ i' w' < μ i w) i w

def F_towpathlaw01_Book_fillByte_L0 (b_ : Option Addr) (R : World → Prop) (again_ : Int → World → Prop) (i : Int) (w1 : World) : Prop :=
  IsAt b_ ∧ (∃ (v9 : Slc), w1.cell? ⟨(pblk b_), (poff b_) + 1, none⟩ = some (Value.slice v9.ptr v9.len v9.cap) ∧ (((decide (i < ((v9.len : Nat) : Int))) = true → (False)) ∧
  ((decide (i < ((v9.len : Nat) : Int))) = false → (R w1))))

def F_towpathlaw01_Book_fillByte (b_ : Option Addr) (R : World → Prop) (w : World) : Prop :=
  ∃ (I : Int → World → Prop) (μ : Int → World → Nat), I 0 w ∧
  ∀ (i : Int) w, I i w → F_towpathlaw01_Book_fillByte_L0 b_ R (fun (i' : Int) w' => I i' w' ∧ μ i' w' < μ i w) i w

def F_towpathlaw01_Book_fillInt_L1 (i : Int) (again_ : Int → World → Prop) (b_1 : Nat) (again_1 : Int → World → Prop) (k_ : Int) (w4 : World) : Prop :=
  ∃ (v23 : Slc), w4.cell? ⟨b_1, 0, none⟩ = some (Value.slice v23.ptr v23.len v23.cap) ∧ (((decide (k_ < ((v23.len : Nat) : Int))) = true → (∀ w5, (∃ k, w5 = w4.drewN k) → (∃ (v29 : Slc), w5.cell? ⟨b_1, 0, none⟩ = some (Value.slice v29.ptr v29.len v29.cap) ∧ (∃ (v32 : Int), w5.cell? ⟨b_1, 2, none⟩ = some (Value.int .i64 v32) ∧ (C_towpathlaw01_markInt v32 w5 (fun (v33 : Int) w6 => w6.cell? ⟨b_1, 0, none⟩ = some (Value.slice v29.ptr v29.len v29.cap) ∧ (IsAt v29.ptr ∧ (0 ≤ k_ ∧ k_ < ((v29.len : Nat) : Int) ∧ (Writable w6 (pblk v29.ptr) ((poff v29.ptr) + k_.toNat) 1 ∧ (∀ w7, w7 = World.puts (pblk v29.ptr) ((poff v29.ptr) + k_.toNat) [Value.int .i64 v33] w6 → ((again_1 (IntKind.i64.wrap (k_ + 1)) w7)))))))))))) ∧
  ((decide (k_ < ((v23.len : Nat) : Int))) = false → (again_ (IntKind.i64.wrap (i + 1)) w4)))

def F_towpathlaw01_Book_fillInt_L0 (b_ : Option Addr) (R : World → Prop) (again_ : Int → World → Prop) (i : Int) (w1 : World) : Prop :=
  IsAt b_ ∧ (∃ (v9 : Slc), w1.cell? ⟨(pblk b_), (poff b_) + 2, none⟩ = some (Value.slice v9.ptr v9.len v9.cap) ∧ (((decide (i < ((v9.len : Nat) : Int))) = true → (IsAt b_ ∧ (∃ (v17 : Slc), w1.cell? ⟨(pblk b_), (poff b_) + 2, none⟩ = some (Value.slice v17.ptr v17.len v17.cap) ∧ (IsAt v17.ptr ∧ (0 ≤ i ∧ i < ((v17.len : Nat) : Int) ∧ (∃ (v20 : T_towpathlaw01_heldInt), CellsAt w1 (pblk v17.ptr) ((poff v17.ptr) + i.toNat * 3) [Value.slice v20.l.ptr v20.l.len v20.l.cap, Value.slice v20.long.ptr v20.long.len v20.long.cap, Value.int .i64 v20.n] ∧ (∀ b_1 w2, b_1 = w1.heap.size → w2 = w1.alloc (Obj.cells ([Value.slice none 0 0, Value.slice none 0 0, Value.int .i64 0]).toArray ty_towpathlaw01_heldInt (0, 0)) → (Writable w2 b_1 0 3 ∧ (∀ w3, w3 = World.puts b_1 0 [Value.slice v20.l.ptr v20.l.len v20.l.cap, Value.slice v20.long.ptr v20.long.len v20.long.cap, Value.int .i64 v20.n] w2 → (∃ (I : Int → World → Prop) (μ : Int → World → Nat), I 0 w3 ∧
  ∀ (k_ : Int) w, I k_ w → F_towpathlaw01_Book_fillInt_L1 i again_ b_1 (fun (k_' : Int) w' => I k_' w' ∧ μ k_' w' < μ k_ w) k_ w)))))))))) ∧
  ((decide (i < ((v9.len : Nat) : Int))) = false → (R w1))))

def F_towpathlaw01_Book_fillInt (b_ : Option Addr) (R : World → Prop) (w : World) : Prop :=
  ∃ (I : Int → World → Prop) (μ : Int → World → Nat), I 0 w ∧
  ∀ (i : Int) w, I i w → F_towpathlaw01_Book_fillInt_L0 b_ R (fun (i' : Int) w' => I i' w' ∧ μ i' w' < μ i w) i w

def F_towpathlaw01_Book_fillText_L0 (b_ : Option Addr) (R : World → Prop) (again_ : Int → World → Prop) (i : Int) (w1 : World) : Prop :=
  IsAt b_ ∧ (∃ (v9 : Slc), w1.cell? ⟨(pblk b_), (poff b_) + 3, none⟩ = some (Value.slice v9.ptr v9.len v9.cap) ∧ (((decide (i < ((v9.len : Nat) : Int))) = true → (False)) ∧
  ((decide (i < ((v9.len : Nat) : Int))) = false → (R w1))))

def F_towpathlaw01_Book_fillText (b_ : Option Addr) (R : World → Prop) (w : World) : Prop :=
  ∃ (I : Int → World → Prop) (μ : Int → World → Nat), I 0 w ∧
  ∀ (i : Int) w, I i w → F_towpathlaw01_Book_fillText_L0 b_ R (fun (i' : Int) w' => I i' w' ∧ μ i' w' < μ i w) i w

def F_towpathlaw01_Book_fillWrite_L0 (b_ : Option Addr) (R : World → Prop) (again_ : Int → World → Prop) (i : Int) (w1 : World) : Prop :=
  IsAt b_ ∧ (∃ (v9 : Slc), w1.cell? ⟨(pblk b_), (poff b_) + 4, none⟩ = some (Value.slice v9.ptr v9.len v9.cap) ∧ (((decide (i < ((v9.len : Nat) : Int))) = true → (False)) ∧
  ((decide (i < ((v9.len : Nat) : Int))) = false → (R w1))))

def F_towpathlaw01_Book_fillWrite (b_ : Option Addr) (R : World → Prop) (w : World) : Prop :=
  ∃ (I : Int → World → Prop) (μ : Int → World → Nat), I 0 w ∧
  ∀ (i : Int) w, I i w → F_towpathlaw01_Book_fillWrite_L0 b_ R (fun (i' : Int) w' => I i' w' ∧ μ i' w' < μ i w) i w

def F_towpathlaw01_Book_fillEntry_L1 (i : Int) (again_ : Int → World → Prop) (b_1 : Nat) (again_1 : Int → World → Prop) (k_ : Int) (w4 : World) : Prop :=
  ∃ (v23 : Slc), w4.cell? ⟨b_1, 0, none⟩ = some (Value.slice v23.ptr v23.len v23.cap) ∧ (((decide (k_ < ((v23.len : Nat) : Int))) = true → (∀ w5, (∃ k, w5 = w4.drewN k) → (∃ (v29 : Slc), w5.cell? ⟨b_1, 0, none⟩ = some (Value.slice v29.ptr v29.len v29.cap) ∧ (∃ (v32 : Int), w5.cell? ⟨b_1, 2, none⟩ = some (Value.int .i64 v32) ∧ (C_towpathlaw01_markEntry v32 w5 (fun (v33 : T_api_Entry) w6 => w6.cell? ⟨b_1, 0, none⟩ = some (Value.slice v29.ptr v29.len v29.cap) ∧ (IsAt v29.ptr ∧ (0 ≤ k_ ∧ k_ < ((v29.len : Nat) : Int) ∧ (Writable w6 (pblk v29.ptr) ((poff v29.ptr) + k_.toNat * 2) 2 ∧ (∀ w7, w7 = World.puts (pblk v29.ptr) ((poff v29.ptr) + k_.toNat * 2) [Value.string v33.Key, Value.string v33.Val] w6 → ((again_1 (IntKind.i64.wrap (k_ + 1)) w7)))))))))))) ∧
  ((decide (k_ < ((v23.len : Nat) : Int))) = false → (again_ (IntKind.i64.wrap (i + 1)) w4)))

def F_towpathlaw01_Book_fillEntry_L0 (b_ : Option Addr) (R : World → Prop) (again_ : Int → World → Prop) (i : Int) (w1 : World) : Prop :=
  IsAt b_ ∧ (∃ (v9 : Slc), w1.cell? ⟨(pblk b_), (poff b_) + 5, none⟩ = some (Value.slice v9.ptr v9.len v9.cap) ∧ (((decide (i < ((v9.len : Nat) : Int))) = true → (IsAt b_ ∧ (∃ (v17 : Slc), w1.cell? ⟨(pblk b_), (poff b_) + 5, none⟩ = some (Value.slice v17.ptr v17.len v17.cap) ∧ (IsAt v17.ptr ∧ (0 ≤ i ∧ i < ((v17.len : Nat) : Int) ∧ (∃ (v20 : T_towpathlaw01_heldEntry), CellsAt w1 (pblk v17.ptr) ((poff v17.ptr) + i.toNat * 3) [Value.slice v20.l.ptr v20.l.len v20.l.cap, Value.slice v20.long.ptr v20.long.len v20.long.cap, Value.int .i64 v20.n] ∧ (∀ b_1 w2, b_1 = w1.heap.size → w2 = w1.alloc (Obj.cells ([Value.slice none 0 0, Value.slice none 0 0, Value.int .i64 0]).toArray ty_towpathlaw01_heldEntry (0, 0)) → (Writable w2 b_1 0 3 ∧ (∀ w3, w3 = World.puts b_1 0 [Value.slice v20.l.ptr v20.l.len v20.l.cap, Value.slice v20.long.ptr v20.long.len v20.long.cap, Value.int .i64 v20.n] w2 → (∃ (I : Int → World → Prop) (μ : Int → World → Nat), I 0 w3 ∧
  ∀ (k_ : Int) w, I k_ w → F_towpathlaw01_Book_fillEntry_L1 i again_ b_1 (fun (k_' : Int) w' => I k_' w' ∧ μ k_' w' < μ k_ w) k_ w)))))))))) ∧
  ((decide (i < ((v9.len : Nat) : Int))) = false → (R w1))))

def F_towpathlaw01_Book_fillEntry (b_ : Option Addr) (R : World → Prop) (w : World) : Prop :=
  ∃ (I : Int → World → Prop) (μ : Int → World → Nat), I 0 w ∧
  ∀ (i : Int) w, I i w → F_towpathlaw01_Book_fillEntry_L0 b_ R (fun (i' : Int) w' => I i' w' ∧ μ i' w' < μ i w) i w

def F_towpathlaw01_Book_fillVersion_L1 (i : Int) (again_ : Int → World → Prop) (b_1 : Nat) (again_1 : Int → World → Prop) (k_ : Int) (w4 : World) : Prop :=
  ∃ (v23 : Slc), w4.cell? ⟨b_1, 0, none⟩ = some (Value.slice v23.ptr v23.len v23.cap) ∧ (((decide (k_ < ((v23.len : Nat) : Int))) = true → (∀ w5, (∃ k, w5 = w4.drewN k) → (∃ (v29 : Slc), w5.cell? ⟨b_1, 0, none⟩ = some (Value.slice v29.ptr v29.len v29.cap) ∧ (∃ (v32 : Int), w5.cell? ⟨b_1, 2, none⟩ = some (Value.int .i64 v32) ∧ (C_towpathlaw01_markVersion v32 w5 (fun (v33 : T_api_Version) w6 => w6.cell? ⟨b_1, 0, none⟩ = some (Value.slice v29.ptr v29.len v29.cap) ∧ (IsAt v29.ptr ∧ (0 ≤ k_ ∧ k_ < ((v29.len : Nat) : Int) ∧ (Writable w6 (pblk v29.ptr) ((poff v29.ptr) + k_.toNat * 3) 3 ∧ (∀ w7, w7 = World.puts (pblk v29.ptr) ((poff v29.ptr) + k_.toNat * 3) [Value.int .i64 v33.Number, Value.string v33.Val, Value.bool v33.Drop] w6 → ((again_1 (IntKind.i64.wrap (k_ + 1)) w7)))))))))))) ∧
  ((decide (k_ < ((v23.len : Nat) : Int))) = false → (again_ (IntKind.i64.wrap (i + 1)) w4)))

def F_towpathlaw01_Book_fillVersion_L0 (b_ : Option Addr) (R : World → Prop) (again_ : Int → World → Prop) (i : Int) (w1 : World) : Prop :=
  IsAt b_ ∧ (∃ (v9 : Slc), w1.cell? ⟨(pblk b_), (poff b_) + 6, none⟩ = some (Value.slice v9.ptr v9.len v9.cap) ∧ (((decide (i < ((v9.len : Nat) : Int))) = true → (IsAt b_ ∧ (∃ (v17 : Slc), w1.cell? ⟨(pblk b_), (poff b_) + 6, none⟩ = some (Value.slice v17.ptr v17.len v17.cap) ∧ (IsAt v17.ptr ∧ (0 ≤ i ∧ i < ((v17.len : Nat) : Int) ∧ (∃ (v20 : T_towpathlaw01_heldVersion), CellsAt w1 (pblk v17.ptr) ((poff v17.ptr) + i.toNat * 3) [Value.slice v20.l.ptr v20.l.len v20.l.cap, Value.slice v20.long.ptr v20.long.len v20.long.cap, Value.int .i64 v20.n] ∧ (∀ b_1 w2, b_1 = w1.heap.size → w2 = w1.alloc (Obj.cells ([Value.slice none 0 0, Value.slice none 0 0, Value.int .i64 0]).toArray ty_towpathlaw01_heldVersion (0, 0)) → (Writable w2 b_1 0 3 ∧ (∀ w3, w3 = World.puts b_1 0 [Value.slice v20.l.ptr v20.l.len v20.l.cap, Value.slice v20.long.ptr v20.long.len v20.long.cap, Value.int .i64 v20.n] w2 → (∃ (I : Int → World → Prop) (μ : Int → World → Nat), I 0 w3 ∧
  ∀ (k_ : Int) w, I k_ w → F_towpathlaw01_Book_fillVersion_L1 i again_ b_1 (fun (k_' : Int) w' => I k_' w' ∧ μ k_' w' < μ k_ w) k_ w)))))))))) ∧
  ((decide (i < ((v9.len : Nat) : Int))) = false → (R w1))))

def F_towpathlaw01_Book_fillVersion (b_ : Option Addr) (R : World → Prop) (w : World) : Prop :=
  ∃ (I : Int → World → Prop) (μ : Int → World → Nat), I 0 w ∧
  ∀ (i : Int) w, I i w → F_towpathlaw01_Book_fillVersion_L0 b_ R (fun (i' : Int) w' => I i' w' ∧ μ i' w' < μ i w) i w

def F_towpathlaw01_Book_fillTxn_L0 (b_ : Option Addr) (R : World → Prop) (again_ : Int → World → Prop) (i : Int) (w1 : World) : Prop :=
  IsAt b_ ∧ (∃ (v9 : Slc), w1.cell? ⟨(pblk b_), (poff b_) + 7, none⟩ = some (Value.slice v9.ptr v9.len v9.cap) ∧ (((decide (i < ((v9.len : Nat) : Int))) = true → (False)) ∧
  ((decide (i < ((v9.len : Nat) : Int))) = false → (R w1))))

def F_towpathlaw01_Book_fillTxn (b_ : Option Addr) (R : World → Prop) (w : World) : Prop :=
  ∃ (I : Int → World → Prop) (μ : Int → World → Nat), I 0 w ∧
  ∀ (i : Int) w, I i w → F_towpathlaw01_Book_fillTxn_L0 b_ R (fun (i' : Int) w' => I i' w' ∧ μ i' w' < μ i w) i w

def F_towpathlaw01_Book_fillHeld_L1 (i : Int) (again_ : Int → World → Prop) (b_1 : Nat) (again_1 : Int → World → Prop) (k_ : Int) (w4 : World) : Prop :=
  ∃ (v23 : Slc), w4.cell? ⟨b_1, 0, none⟩ = some (Value.slice v23.ptr v23.len v23.cap) ∧ (((decide (k_ < ((v23.len : Nat) : Int))) = true → (∀ w5, (∃ k, w5 = w4.drewN k) → (∃ (v29 : Slc), w5.cell? ⟨b_1, 0, none⟩ = some (Value.slice v29.ptr v29.len v29.cap) ∧ (∃ (v32 : Int), w5.cell? ⟨b_1, 2, none⟩ = some (Value.int .i64 v32) ∧ (C_towpathlaw01_markHeld v32 w5 (fun (v33 : T_api_Held) w6 => w6.cell? ⟨b_1, 0, none⟩ = some (Value.slice v29.ptr v29.len v29.cap) ∧ (IsAt v29.ptr ∧ (0 ≤ k_ ∧ k_ < ((v29.len : Nat) : Int) ∧ (Writable w6 (pblk v29.ptr) ((poff v29.ptr) + k_.toNat * 2) 2 ∧ (∀ w7, w7 = World.puts (pblk v29.ptr) ((poff v29.ptr) + k_.toNat * 2) [Value.string v33.Key, Value.slice v33.Versions.ptr v33.Versions.len v33.Versions.cap] w6 → ((again_1 (IntKind.i64.wrap (k_ + 1)) w7)))))))))))) ∧
  ((decide (k_ < ((v23.len : Nat) : Int))) = false → (again_ (IntKind.i64.wrap (i + 1)) w4)))

def F_towpathlaw01_Book_fillHeld_L0 (b_ : Option Addr) (R : World → Prop) (again_ : Int → World → Prop) (i : Int) (w1 : World) : Prop :=
  IsAt b_ ∧ (∃ (v9 : Slc), w1.cell? ⟨(pblk b_), (poff b_) + 8, none⟩ = some (Value.slice v9.ptr v9.len v9.cap) ∧ (((decide (i < ((v9.len : Nat) : Int))) = true → (IsAt b_ ∧ (∃ (v17 : Slc), w1.cell? ⟨(pblk b_), (poff b_) + 8, none⟩ = some (Value.slice v17.ptr v17.len v17.cap) ∧ (IsAt v17.ptr ∧ (0 ≤ i ∧ i < ((v17.len : Nat) : Int) ∧ (∃ (v20 : T_towpathlaw01_heldHeld), CellsAt w1 (pblk v17.ptr) ((poff v17.ptr) + i.toNat * 3) [Value.slice v20.l.ptr v20.l.len v20.l.cap, Value.slice v20.long.ptr v20.long.len v20.long.cap, Value.int .i64 v20.n] ∧ (∀ b_1 w2, b_1 = w1.heap.size → w2 = w1.alloc (Obj.cells ([Value.slice none 0 0, Value.slice none 0 0, Value.int .i64 0]).toArray ty_towpathlaw01_heldHeld (0, 0)) → (Writable w2 b_1 0 3 ∧ (∀ w3, w3 = World.puts b_1 0 [Value.slice v20.l.ptr v20.l.len v20.l.cap, Value.slice v20.long.ptr v20.long.len v20.long.cap, Value.int .i64 v20.n] w2 → (∃ (I : Int → World → Prop) (μ : Int → World → Nat), I 0 w3 ∧
  ∀ (k_ : Int) w, I k_ w → F_towpathlaw01_Book_fillHeld_L1 i again_ b_1 (fun (k_' : Int) w' => I k_' w' ∧ μ k_' w' < μ k_ w) k_ w)))))))))) ∧
  ((decide (i < ((v9.len : Nat) : Int))) = false → (R w1))))

def F_towpathlaw01_Book_fillHeld (b_ : Option Addr) (R : World → Prop) (w : World) : Prop :=
  ∃ (I : Int → World → Prop) (μ : Int → World → Nat), I 0 w ∧
  ∀ (i : Int) w, I i w → F_towpathlaw01_Book_fillHeld_L0 b_ R (fun (i' : Int) w' => I i' w' ∧ μ i' w' < μ i w) i w

def F_towpathlaw01_Book_fillHeldList_L0 (b_ : Option Addr) (R : World → Prop) (again_ : Int → World → Prop) (i : Int) (w1 : World) : Prop :=
  IsAt b_ ∧ (∃ (v9 : Slc), w1.cell? ⟨(pblk b_), (poff b_) + 9, none⟩ = some (Value.slice v9.ptr v9.len v9.cap) ∧ (((decide (i < ((v9.len : Nat) : Int))) = true → (False)) ∧
  ((decide (i < ((v9.len : Nat) : Int))) = false → (R w1))))

def F_towpathlaw01_Book_fillHeldList (b_ : Option Addr) (R : World → Prop) (w : World) : Prop :=
  ∃ (I : Int → World → Prop) (μ : Int → World → Nat), I 0 w ∧
  ∀ (i : Int) w, I i w → F_towpathlaw01_Book_fillHeldList_L0 b_ R (fun (i' : Int) w' => I i' w' ∧ μ i' w' < μ i w) i w

def F_towpathlaw01_Book_fillEvent_L0 (b_ : Option Addr) (R : World → Prop) (again_ : Int → World → Prop) (i : Int) (w1 : World) : Prop :=
  IsAt b_ ∧ (∃ (v9 : Slc), w1.cell? ⟨(pblk b_), (poff b_) + 10, none⟩ = some (Value.slice v9.ptr v9.len v9.cap) ∧ (((decide (i < ((v9.len : Nat) : Int))) = true → (False)) ∧
  ((decide (i < ((v9.len : Nat) : Int))) = false → (R w1))))

def F_towpathlaw01_Book_fillEvent (b_ : Option Addr) (R : World → Prop) (w : World) : Prop :=
  ∃ (I : Int → World → Prop) (μ : Int → World → Nat), I 0 w ∧
  ∀ (i : Int) w, I i w → F_towpathlaw01_Book_fillEvent_L0 b_ R (fun (i' : Int) w' => I i' w' ∧ μ i' w' < μ i w) i w

def F_towpathlaw01_Book_fillAnswer_L0 (b_ : Option Addr) (R : World → Prop) (again_ : Int → World → Prop) (i : Int) (w1 : World) : Prop :=
  IsAt b_ ∧ (∃ (v9 : Slc), w1.cell? ⟨(pblk b_), (poff b_) + 11, none⟩ = some (Value.slice v9.ptr v9.len v9.cap) ∧ (((decide (i < ((v9.len : Nat) : Int))) = true → (False)) ∧
  ((decide (i < ((v9.len : Nat) : Int))) = false → (R w1))))

def F_towpathlaw01_Book_fillAnswer (b_ : Option Addr) (R : World → Prop) (w : World) : Prop :=
  ∃ (I : Int → World → Prop) (μ : Int → World → Nat), I 0 w ∧
  ∀ (i : Int) w, I i w → F_towpathlaw01_Book_fillAnswer_L0 b_ R (fun (i' : Int) w' => I i' w' ∧ μ i' w' < μ i w) i w

def F_towpathlaw01_Book_growByte_L0 (b_ : Option Addr) (R : World → Prop) (again_ : Int → World → Prop) (i : Int) (w1 : World) : Prop :=
  IsAt b_ ∧ (∃ (v10 : Slc), w1.cell? ⟨(pblk b_), (poff b_) + 1, none⟩ = some (Value.slice v10.ptr v10.len v10.cap) ∧ (((decide (i < ((v10.len : Nat) : Int))) = true → (False)) ∧
  ((decide (i < ((v10.len : Nat) : Int))) = false → (R w1))))

def F_towpathlaw01_Book_growByte (b_ : Option Addr) (R : World → Prop) (w : World) : Prop :=
  ∃ (I : Int → World → Prop) (μ : Int → World → Nat), I 0 w ∧
  ∀ (i : Int) w, I i w → F_towpathlaw01_Book_growByte_L0 b_ R (fun (i' : Int) w' => I i' w' ∧ μ i' w' < μ i w) i w

def F_towpathlaw01_Book_growInt_L1 (b_ : Option Addr) (i : Int) (again_ : Int → World → Prop) (b_1 : Nat) (again_1 : Slc → Int → World → Prop) (long1 : Slc) (k_ : Int) (w4 : World) : Prop :=
  ((decide (k_ < 70)) = true → (∃ (v30 : Int), w4.cell? ⟨b_1, 2, none⟩ = some (Value.int .i64 v30) ∧ (C_towpathlaw01_markInt v30 w4 (fun (v31 : Int) w5 => ∀ b_2 w6, b_2 = w5.heap.size → w6 = w5.alloc (Obj.cells ([Value.int .i64 v31]).toArray ty_int (0, 0)) → (∃ src, SrcAt w6 (Slc.mk (some ⟨b_2, 0, none⟩) 1 1) 1 src ∧ AppendW 1 8 ty_int [Value.int .i64 0] long1 src 1 w6 (fun long2 w7 => again_1 long2 (IntKind.i64.wrap (k_ + 1)) w7)))))) ∧
  ((decide (k_ < 70)) = false → (IsAt b_ ∧ (∃ (v37 : Slc), w4.cell? ⟨(pblk b_), (poff b_) + 2, none⟩ = some (Value.slice v37.ptr v37.len v37.cap) ∧ (IsAt v37.ptr ∧ (0 ≤ i ∧ i < ((v37.len : Nat) : Int) ∧ (Writable w4 (pblk v37.ptr) (((poff v37.ptr) + i.toNat * 3) + 1) 1 ∧ (∀ w8, w8 = World.puts (pblk v37.ptr) (((poff v37.ptr) + i.toNat * 3) + 1) [Value.slice long1.ptr long1.len long1.cap] w4 → (again_ (IntKind.i64.wrap (i + 1)) w8))))))))

def F_towpathlaw01_Book_growInt_L0 (b_ : Option Addr) (R : World → Prop) (again_ : Int → World → Prop) (i : Int) (w1 : World) : Prop :=
  IsAt b_ ∧ (∃ (v10 : Slc), w1.cell? ⟨(pblk b_), (poff b_) + 2, none⟩ = some (Value.slice v10.ptr v10.len v10.cap) ∧ (((decide (i < ((v10.len : Nat) : Int))) = true → (IsAt b_ ∧ (∃ (v18 : Slc), w1.cell? ⟨(pblk b_), (poff b_) + 2, none⟩ = some (Value.slice v18.ptr v18.len v18.cap) ∧ (IsAt v18.ptr ∧ (0 ≤ i ∧ i < ((v18.len : Nat) : Int) ∧ (∃ (v21 : T_towpathlaw01_heldInt), CellsAt w1 (pblk v18.ptr) ((poff v18.ptr) + i.toNat * 3) [Value.slice v21.l.ptr v21.l.len v21.l.cap, Value.slice v21.long.ptr v21.long.len v21.long.cap, Value.int .i64 v21.n] ∧ (∀ b_1 w2, b_1 = w1.heap.size → w2 = w1.alloc (Obj.cells ([Value.slice none 0 0, Value.slice none 0 0, Value.int .i64 0]).toArray ty_towpathlaw01_heldInt (0, 0)) → (Writable w2 b_1 0 3 ∧ (∀ w3, w3 = World.puts b_1 0 [Value.slice v21.l.ptr v21.l.len v21.l.cap, Value.slice v21.long.ptr v21.long.len v21.long.cap, Value.int .i64 v21.n] w2 → (∃ (long : Slc), w3.cell? ⟨b_1, 0, none⟩ = some (Value.slice long.ptr long.len long.cap) ∧ (∃ (I : Slc → Int → World → Prop) (μ : Slc → Int → World → Nat), I long 0 w3 ∧
  ∀ (long1 : Slc) (k_ : Int) w, I long1 k_ w → F_towpathlaw01_Book_growInt_L1 b_ i again_ b_1 (fun (long1' : Slc) (k_' : Int) w' => I long1' k_' w' ∧ μ long1' k_' w' < μ long1 k_ w) long1 k_ w))))))))))) ∧
  ((decide (i < ((v10.len : Nat) : Int))) = false → (R w1))))

def F_towpathlaw01_Book_growInt (b_ : Option Addr) (R : World → Prop) (w : World) : Prop :=
  ∃ (I : Int → World → Prop) (μ : Int → World → Nat), I 0 w ∧
  ∀ (i : Int) w, I i w → F_towpathlaw01_Book_growInt_L0 b_ R (fun (i' : Int) w' => I i' w' ∧ μ i' w' < μ i w) i w

def F_towpathlaw01_Book_growText_L0 (b_ : Option Addr) (R : World → Prop) (again_ : Int → World → Prop) (i : Int) (w1 : World) : Prop :=
  IsAt b_ ∧ (∃ (v10 : Slc), w1.cell? ⟨(pblk b_), (poff b_) + 3, none⟩ = some (Value.slice v10.ptr v10.len v10.cap) ∧ (((decide (i < ((v10.len : Nat) : Int))) = true → (False)) ∧
  ((decide (i < ((v10.len : Nat) : Int))) = false → (R w1))))

def F_towpathlaw01_Book_growText (b_ : Option Addr) (R : World → Prop) (w : World) : Prop :=
  ∃ (I : Int → World → Prop) (μ : Int → World → Nat), I 0 w ∧
  ∀ (i : Int) w, I i w → F_towpathlaw01_Book_growText_L0 b_ R (fun (i' : Int) w' => I i' w' ∧ μ i' w' < μ i w) i w

def F_towpathlaw01_Book_growWrite_L0 (b_ : Option Addr) (R : World → Prop) (again_ : Int → World → Prop) (i : Int) (w1 : World) : Prop :=
  IsAt b_ ∧ (∃ (v10 : Slc), w1.cell? ⟨(pblk b_), (poff b_) + 4, none⟩ = some (Value.slice v10.ptr v10.len v10.cap) ∧ (((decide (i < ((v10.len : Nat) : Int))) = true → (False)) ∧
  ((decide (i < ((v10.len : Nat) : Int))) = false → (R w1))))

def F_towpathlaw01_Book_growWrite (b_ : Option Addr) (R : World → Prop) (w : World) : Prop :=
  ∃ (I : Int → World → Prop) (μ : Int → World → Nat), I 0 w ∧
  ∀ (i : Int) w, I i w → F_towpathlaw01_Book_growWrite_L0 b_ R (fun (i' : Int) w' => I i' w' ∧ μ i' w' < μ i w) i w

def F_towpathlaw01_Book_growEntry_L1 (b_ : Option Addr) (i : Int) (again_ : Int → World → Prop) (b_1 : Nat) (again_1 : Slc → Int → World → Prop) (long1 : Slc) (k_ : Int) (w4 : World) : Prop :=
  ((decide (k_ < 70)) = true → (∃ (v30 : Int), w4.cell? ⟨b_1, 2, none⟩ = some (Value.int .i64 v30) ∧ (C_towpathlaw01_markEntry v30 w4 (fun (v31 : T_api_Entry) w5 => ∀ b_2 w6, b_2 = w5.heap.size → w6 = w5.alloc (Obj.cells ([Value.string v31.Key, Value.string v31.Val]).toArray ty_api_Entry (0, 0)) → (∃ src, SrcAt w6 (Slc.mk (some ⟨b_2, 0, none⟩) 1 1) 2 src ∧ AppendW 2 32 ty_api_Entry [Value.string ByteArray.empty, Value.string ByteArray.empty] long1 src 1 w6 (fun long2 w7 => again_1 long2 (IntKind.i64.wrap (k_ + 1)) w7)))))) ∧
  ((decide (k_ < 70)) = false → (IsAt b_ ∧ (∃ (v37 : Slc), w4.cell? ⟨(pblk b_), (poff b_) + 5, none⟩ = some (Value.slice v37.ptr v37.len v37.cap) ∧ (IsAt v37.ptr ∧ (0 ≤ i ∧ i < ((v37.len : Nat) : Int) ∧ (Writable w4 (pblk v37.ptr) (((poff v37.ptr) + i.toNat * 3) + 1) 1 ∧ (∀ w8, w8 = World.puts (pblk v37.ptr) (((poff v37.ptr) + i.toNat * 3) + 1) [Value.slice long1.ptr long1.len long1.cap] w4 → (again_ (IntKind.i64.wrap (i + 1)) w8))))))))

def F_towpathlaw01_Book_growEntry_L0 (b_ : Option Addr) (R : World → Prop) (again_ : Int → World → Prop) (i : Int) (w1 : World) : Prop :=
  IsAt b_ ∧ (∃ (v10 : Slc), w1.cell? ⟨(pblk b_), (poff b_) + 5, none⟩ = some (Value.slice v10.ptr v10.len v10.cap) ∧ (((decide (i < ((v10.len : Nat) : Int))) = true → (IsAt b_ ∧ (∃ (v18 : Slc), w1.cell? ⟨(pblk b_), (poff b_) + 5, none⟩ = some (Value.slice v18.ptr v18.len v18.cap) ∧ (IsAt v18.ptr ∧ (0 ≤ i ∧ i < ((v18.len : Nat) : Int) ∧ (∃ (v21 : T_towpathlaw01_heldEntry), CellsAt w1 (pblk v18.ptr) ((poff v18.ptr) + i.toNat * 3) [Value.slice v21.l.ptr v21.l.len v21.l.cap, Value.slice v21.long.ptr v21.long.len v21.long.cap, Value.int .i64 v21.n] ∧ (∀ b_1 w2, b_1 = w1.heap.size → w2 = w1.alloc (Obj.cells ([Value.slice none 0 0, Value.slice none 0 0, Value.int .i64 0]).toArray ty_towpathlaw01_heldEntry (0, 0)) → (Writable w2 b_1 0 3 ∧ (∀ w3, w3 = World.puts b_1 0 [Value.slice v21.l.ptr v21.l.len v21.l.cap, Value.slice v21.long.ptr v21.long.len v21.long.cap, Value.int .i64 v21.n] w2 → (∃ (long : Slc), w3.cell? ⟨b_1, 0, none⟩ = some (Value.slice long.ptr long.len long.cap) ∧ (∃ (I : Slc → Int → World → Prop) (μ : Slc → Int → World → Nat), I long 0 w3 ∧
  ∀ (long1 : Slc) (k_ : Int) w, I long1 k_ w → F_towpathlaw01_Book_growEntry_L1 b_ i again_ b_1 (fun (long1' : Slc) (k_' : Int) w' => I long1' k_' w' ∧ μ long1' k_' w' < μ long1 k_ w) long1 k_ w))))))))))) ∧
  ((decide (i < ((v10.len : Nat) : Int))) = false → (R w1))))

def F_towpathlaw01_Book_growEntry (b_ : Option Addr) (R : World → Prop) (w : World) : Prop :=
  ∃ (I : Int → World → Prop) (μ : Int → World → Nat), I 0 w ∧
  ∀ (i : Int) w, I i w → F_towpathlaw01_Book_growEntry_L0 b_ R (fun (i' : Int) w' => I i' w' ∧ μ i' w' < μ i w) i w

def F_towpathlaw01_Book_growVersion_L1 (b_ : Option Addr) (i : Int) (again_ : Int → World → Prop) (b_1 : Nat) (again_1 : Slc → Int → World → Prop) (long1 : Slc) (k_ : Int) (w4 : World) : Prop :=
  ((decide (k_ < 70)) = true → (∃ (v30 : Int), w4.cell? ⟨b_1, 2, none⟩ = some (Value.int .i64 v30) ∧ (C_towpathlaw01_markVersion v30 w4 (fun (v31 : T_api_Version) w5 => ∀ b_2 w6, b_2 = w5.heap.size → w6 = w5.alloc (Obj.cells ([Value.int .i64 v31.Number, Value.string v31.Val, Value.bool v31.Drop]).toArray ty_api_Version (0, 0)) → (∃ src, SrcAt w6 (Slc.mk (some ⟨b_2, 0, none⟩) 1 1) 3 src ∧ AppendW 3 32 ty_api_Version [Value.int .i64 0, Value.string ByteArray.empty, Value.bool false] long1 src 1 w6 (fun long2 w7 => again_1 long2 (IntKind.i64.wrap (k_ + 1)) w7)))))) ∧
  ((decide (k_ < 70)) = false → (IsAt b_ ∧ (∃ (v37 : Slc), w4.cell? ⟨(pblk b_), (poff b_) + 6, none⟩ = some (Value.slice v37.ptr v37.len v37.cap) ∧ (IsAt v37.ptr ∧ (0 ≤ i ∧ i < ((v37.len : Nat) : Int) ∧ (Writable w4 (pblk v37.ptr) (((poff v37.ptr) + i.toNat * 3) + 1) 1 ∧ (∀ w8, w8 = World.puts (pblk v37.ptr) (((poff v37.ptr) + i.toNat * 3) + 1) [Value.slice long1.ptr long1.len long1.cap] w4 → (again_ (IntKind.i64.wrap (i + 1)) w8))))))))

def F_towpathlaw01_Book_growVersion_L0 (b_ : Option Addr) (R : World → Prop) (again_ : Int → World → Prop) (i : Int) (w1 : World) : Prop :=
  IsAt b_ ∧ (∃ (v10 : Slc), w1.cell? ⟨(pblk b_), (poff b_) + 6, none⟩ = some (Value.slice v10.ptr v10.len v10.cap) ∧ (((decide (i < ((v10.len : Nat) : Int))) = true → (IsAt b_ ∧ (∃ (v18 : Slc), w1.cell? ⟨(pblk b_), (poff b_) + 6, none⟩ = some (Value.slice v18.ptr v18.len v18.cap) ∧ (IsAt v18.ptr ∧ (0 ≤ i ∧ i < ((v18.len : Nat) : Int) ∧ (∃ (v21 : T_towpathlaw01_heldVersion), CellsAt w1 (pblk v18.ptr) ((poff v18.ptr) + i.toNat * 3) [Value.slice v21.l.ptr v21.l.len v21.l.cap, Value.slice v21.long.ptr v21.long.len v21.long.cap, Value.int .i64 v21.n] ∧ (∀ b_1 w2, b_1 = w1.heap.size → w2 = w1.alloc (Obj.cells ([Value.slice none 0 0, Value.slice none 0 0, Value.int .i64 0]).toArray ty_towpathlaw01_heldVersion (0, 0)) → (Writable w2 b_1 0 3 ∧ (∀ w3, w3 = World.puts b_1 0 [Value.slice v21.l.ptr v21.l.len v21.l.cap, Value.slice v21.long.ptr v21.long.len v21.long.cap, Value.int .i64 v21.n] w2 → (∃ (long : Slc), w3.cell? ⟨b_1, 0, none⟩ = some (Value.slice long.ptr long.len long.cap) ∧ (∃ (I : Slc → Int → World → Prop) (μ : Slc → Int → World → Nat), I long 0 w3 ∧
  ∀ (long1 : Slc) (k_ : Int) w, I long1 k_ w → F_towpathlaw01_Book_growVersion_L1 b_ i again_ b_1 (fun (long1' : Slc) (k_' : Int) w' => I long1' k_' w' ∧ μ long1' k_' w' < μ long1 k_ w) long1 k_ w))))))))))) ∧
  ((decide (i < ((v10.len : Nat) : Int))) = false → (R w1))))

def F_towpathlaw01_Book_growVersion (b_ : Option Addr) (R : World → Prop) (w : World) : Prop :=
  ∃ (I : Int → World → Prop) (μ : Int → World → Nat), I 0 w ∧
  ∀ (i : Int) w, I i w → F_towpathlaw01_Book_growVersion_L0 b_ R (fun (i' : Int) w' => I i' w' ∧ μ i' w' < μ i w) i w

def F_towpathlaw01_Book_growTxn_L0 (b_ : Option Addr) (R : World → Prop) (again_ : Int → World → Prop) (i : Int) (w1 : World) : Prop :=
  IsAt b_ ∧ (∃ (v10 : Slc), w1.cell? ⟨(pblk b_), (poff b_) + 7, none⟩ = some (Value.slice v10.ptr v10.len v10.cap) ∧ (((decide (i < ((v10.len : Nat) : Int))) = true → (False)) ∧
  ((decide (i < ((v10.len : Nat) : Int))) = false → (R w1))))

def F_towpathlaw01_Book_growTxn (b_ : Option Addr) (R : World → Prop) (w : World) : Prop :=
  ∃ (I : Int → World → Prop) (μ : Int → World → Nat), I 0 w ∧
  ∀ (i : Int) w, I i w → F_towpathlaw01_Book_growTxn_L0 b_ R (fun (i' : Int) w' => I i' w' ∧ μ i' w' < μ i w) i w

def F_towpathlaw01_Book_growHeld_L1 (b_ : Option Addr) (i : Int) (again_ : Int → World → Prop) (b_1 : Nat) (again_1 : Slc → Int → World → Prop) (long1 : Slc) (k_ : Int) (w4 : World) : Prop :=
  ((decide (k_ < 70)) = true → (∃ (v30 : Int), w4.cell? ⟨b_1, 2, none⟩ = some (Value.int .i64 v30) ∧ (C_towpathlaw01_markHeld v30 w4 (fun (v31 : T_api_Held) w5 => ∀ b_2 w6, b_2 = w5.heap.size → w6 = w5.alloc (Obj.cells ([Value.string v31.Key, Value.slice v31.Versions.ptr v31.Versions.len v31.Versions.cap]).toArray ty_api_Held (0, 0)) → (∃ src, SrcAt w6 (Slc.mk (some ⟨b_2, 0, none⟩) 1 1) 2 src ∧ AppendW 2 40 ty_api_Held [Value.string ByteArray.empty, Value.slice none 0 0] long1 src 1 w6 (fun long2 w7 => again_1 long2 (IntKind.i64.wrap (k_ + 1)) w7)))))) ∧
  ((decide (k_ < 70)) = false → (IsAt b_ ∧ (∃ (v37 : Slc), w4.cell? ⟨(pblk b_), (poff b_) + 8, none⟩ = some (Value.slice v37.ptr v37.len v37.cap) ∧ (IsAt v37.ptr ∧ (0 ≤ i ∧ i < ((v37.len : Nat) : Int) ∧ (Writable w4 (pblk v37.ptr) (((poff v37.ptr) + i.toNat * 3) + 1) 1 ∧ (∀ w8, w8 = World.puts (pblk v37.ptr) (((poff v37.ptr) + i.toNat * 3) + 1) [Value.slice long1.ptr long1.len long1.cap] w4 → (again_ (IntKind.i64.wrap (i + 1)) w8))))))))

def F_towpathlaw01_Book_growHeld_L0 (b_ : Option Addr) (R : World → Prop) (again_ : Int → World → Prop) (i : Int) (w1 : World) : Prop :=
  IsAt b_ ∧ (∃ (v10 : Slc), w1.cell? ⟨(pblk b_), (poff b_) + 8, none⟩ = some (Value.slice v10.ptr v10.len v10.cap) ∧ (((decide (i < ((v10.len : Nat) : Int))) = true → (IsAt b_ ∧ (∃ (v18 : Slc), w1.cell? ⟨(pblk b_), (poff b_) + 8, none⟩ = some (Value.slice v18.ptr v18.len v18.cap) ∧ (IsAt v18.ptr ∧ (0 ≤ i ∧ i < ((v18.len : Nat) : Int) ∧ (∃ (v21 : T_towpathlaw01_heldHeld), CellsAt w1 (pblk v18.ptr) ((poff v18.ptr) + i.toNat * 3) [Value.slice v21.l.ptr v21.l.len v21.l.cap, Value.slice v21.long.ptr v21.long.len v21.long.cap, Value.int .i64 v21.n] ∧ (∀ b_1 w2, b_1 = w1.heap.size → w2 = w1.alloc (Obj.cells ([Value.slice none 0 0, Value.slice none 0 0, Value.int .i64 0]).toArray ty_towpathlaw01_heldHeld (0, 0)) → (Writable w2 b_1 0 3 ∧ (∀ w3, w3 = World.puts b_1 0 [Value.slice v21.l.ptr v21.l.len v21.l.cap, Value.slice v21.long.ptr v21.long.len v21.long.cap, Value.int .i64 v21.n] w2 → (∃ (long : Slc), w3.cell? ⟨b_1, 0, none⟩ = some (Value.slice long.ptr long.len long.cap) ∧ (∃ (I : Slc → Int → World → Prop) (μ : Slc → Int → World → Nat), I long 0 w3 ∧
  ∀ (long1 : Slc) (k_ : Int) w, I long1 k_ w → F_towpathlaw01_Book_growHeld_L1 b_ i again_ b_1 (fun (long1' : Slc) (k_' : Int) w' => I long1' k_' w' ∧ μ long1' k_' w' < μ long1 k_ w) long1 k_ w))))))))))) ∧
  ((decide (i < ((v10.len : Nat) : Int))) = false → (R w1))))

def F_towpathlaw01_Book_growHeld (b_ : Option Addr) (R : World → Prop) (w : World) : Prop :=
  ∃ (I : Int → World → Prop) (μ : Int → World → Nat), I 0 w ∧
  ∀ (i : Int) w, I i w → F_towpathlaw01_Book_growHeld_L0 b_ R (fun (i' : Int) w' => I i' w' ∧ μ i' w' < μ i w) i w

def F_towpathlaw01_Book_growHeldList_L0 (b_ : Option Addr) (R : World → Prop) (again_ : Int → World → Prop) (i : Int) (w1 : World) : Prop :=
  IsAt b_ ∧ (∃ (v10 : Slc), w1.cell? ⟨(pblk b_), (poff b_) + 9, none⟩ = some (Value.slice v10.ptr v10.len v10.cap) ∧ (((decide (i < ((v10.len : Nat) : Int))) = true → (False)) ∧
  ((decide (i < ((v10.len : Nat) : Int))) = false → (R w1))))

def F_towpathlaw01_Book_growHeldList (b_ : Option Addr) (R : World → Prop) (w : World) : Prop :=
  ∃ (I : Int → World → Prop) (μ : Int → World → Nat), I 0 w ∧
  ∀ (i : Int) w, I i w → F_towpathlaw01_Book_growHeldList_L0 b_ R (fun (i' : Int) w' => I i' w' ∧ μ i' w' < μ i w) i w

def F_towpathlaw01_Book_growEvent_L0 (b_ : Option Addr) (R : World → Prop) (again_ : Int → World → Prop) (i : Int) (w1 : World) : Prop :=
  IsAt b_ ∧ (∃ (v10 : Slc), w1.cell? ⟨(pblk b_), (poff b_) + 10, none⟩ = some (Value.slice v10.ptr v10.len v10.cap) ∧ (((decide (i < ((v10.len : Nat) : Int))) = true → (False)) ∧
  ((decide (i < ((v10.len : Nat) : Int))) = false → (R w1))))

def F_towpathlaw01_Book_growEvent (b_ : Option Addr) (R : World → Prop) (w : World) : Prop :=
  ∃ (I : Int → World → Prop) (μ : Int → World → Nat), I 0 w ∧
  ∀ (i : Int) w, I i w → F_towpathlaw01_Book_growEvent_L0 b_ R (fun (i' : Int) w' => I i' w' ∧ μ i' w' < μ i w) i w

def F_towpathlaw01_Book_growAnswer_L0 (b_ : Option Addr) (R : World → Prop) (again_ : Int → World → Prop) (i : Int) (w1 : World) : Prop :=
  IsAt b_ ∧ (∃ (v10 : Slc), w1.cell? ⟨(pblk b_), (poff b_) + 11, none⟩ = some (Value.slice v10.ptr v10.len v10.cap) ∧ (((decide (i < ((v10.len : Nat) : Int))) = true → (False)) ∧
  ((decide (i < ((v10.len : Nat) : Int))) = false → (R w1))))

def F_towpathlaw01_Book_growAnswer (b_ : Option Addr) (R : World → Prop) (w : World) : Prop :=
  ∃ (I : Int → World → Prop) (μ : Int → World → Nat), I 0 w ∧
  ∀ (i : Int) w, I i w → F_towpathlaw01_Book_growAnswer_L0 b_ R (fun (i' : Int) w' => I i' w' ∧ μ i' w' < μ i w) i w

def F_towpathlaw01_Book_lookByte_L0 (b_ : Option Addr) (R : Bool → World → Prop) (again_ : Int → World → Prop) (i : Int) (w1 : World) : Prop :=
  IsAt b_ ∧ (∃ (v10 : Slc), w1.cell? ⟨(pblk b_), (poff b_) + 1, none⟩ = some (Value.slice v10.ptr v10.len v10.cap) ∧ (((decide (i < ((v10.len : Nat) : Int))) = true → (False)) ∧
  ((decide (i < ((v10.len : Nat) : Int))) = false → (R true w1))))

def F_towpathlaw01_Book_lookByte (b_ : Option Addr) (R : Bool → World → Prop) (w : World) : Prop :=
  ∃ (I : Int → World → Prop) (μ : Int → World → Nat), I 0 w ∧
  ∀ (i : Int) w, I i w → F_towpathlaw01_Book_lookByte_L0 b_ R (fun (i' : Int) w' => I i' w' ∧ μ i' w' < μ i w) i w

def F_towpathlaw01_Book_lookInt_k2 (R : Bool → World → Prop) (k_ : Int) (again_1 : Int → World → Prop) (t63 : Bool) (w5 : World) : Prop :=
  (t63 = true → (R false w5)) ∧
  (t63 = false → (again_1 (IntKind.i64.wrap (k_ + 1)) w5))

def F_towpathlaw01_Book_lookInt_L1 (R : Bool → World → Prop) (i : Int) (again_ : Int → World → Prop) (b_1 : Nat) (again_1 : Int → World → Prop) (k_ : Int) (w4 : World) : Prop :=
  ∃ (v32 : Slc), w4.cell? ⟨b_1, 1, none⟩ = some (Value.slice v32.ptr v32.len v32.cap) ∧ (((decide (k_ < ((v32.len : Nat) : Int))) = true → (∃ (v38 : Slc), w4.cell? ⟨b_1, 1, none⟩ = some (Value.slice v38.ptr v38.len v38.cap) ∧ (IsAt v38.ptr ∧ (0 ≤ k_ ∧ k_ < ((v38.len : Nat) : Int) ∧ (∃ (v41 : Int), w4.cell? ⟨(pblk v38.ptr), (poff v38.ptr) + k_.toNat, none⟩ = some (Value.int .i64 v41) ∧ (∃ (v43 : Int), w4.cell? ⟨b_1, 2, none⟩ = some (Value.int .i64 v43) ∧ (∃ (v44 : Bool), (∀ w', Ext w4 w' → C_towpathlaw01_isInt v41 v43 w' (fun (v44' : Bool) w'' => v44' = v44 ∧ Ext w' w'')) ∧ (((!v44) = true → (∀ w7, Ext w4 w7 → (F_towpathlaw01_Book_lookInt_k2 R k_ again_1 true w7))) ∧
  ((!v44) = false → (∃ (v49 : Slc), w4.cell? ⟨b_1, 0, none⟩ = some (Value.slice v49.ptr v49.len v49.cap) ∧ (((decide (k_ < ((v49.len : Nat) : Int))) = true → (∃ (v54 : Slc), w4.cell? ⟨b_1, 0, none⟩ = some (Value.slice v54.ptr v54.len v54.cap) ∧ (IsAt v54.ptr ∧ (0 ≤ k_ ∧ k_ < ((v54.len : Nat) : Int) ∧ (∃ (v57 : Int), w4.cell? ⟨(pblk v54.ptr), (poff v54.ptr) + k_.toNat, none⟩ = some (Value.int .i64 v57) ∧ (∃ (v59 : Int), w4.cell? ⟨b_1, 2, none⟩ = some (Value.int .i64 v59) ∧ (∃ (v60 : Bool), (∀ w', Ext w4 w' → C_towpathlaw01_isInt v57 v59 w' (fun (v60' : Bool) w'' => v60' = v60 ∧ Ext w' w'')) ∧ (∀ w9, Ext w4 w9 → (F_towpathlaw01_Book_lookInt_k2 R k_ again_1 (!v60) w9))))))))) ∧
  ((decide (k_ < ((v49.len : Nat) : Int))) = false → (∀ w10, Ext w4 w10 → (F_towpathlaw01_Book_lookInt_k2 R k_ again_1 false w10)))))))))))))) ∧
  ((decide (k_ < ((v32.len : Nat) : Int))) = false → (again_ (IntKind.i64.wrap (i + 1)) w4)))

def F_towpathlaw01_Book_lookInt_L0 (b_ : Option Addr) (R : Bool → World → Prop) (again_ : Int → World → Prop) (i : Int) (w1 : World) : Prop :=
  IsAt b_ ∧ (∃ (v10 : Slc), w1.cell? ⟨(pblk b_), (poff b_) + 2, none⟩ = some (Value.slice v10.ptr v10.len v10.cap) ∧ (((decide (i < ((v10.len : Nat) : Int))) = true → (IsAt b_ ∧ (∃ (v18 : Slc), w1.cell? ⟨(pblk b_), (poff b_) + 2, none⟩ = some (Value.slice v18.ptr v18.len v18.cap) ∧ (IsAt v18.ptr ∧ (0 ≤ i ∧ i < ((v18.len : Nat) : Int) ∧ (∃ (v21 : T_towpathlaw01_heldInt), CellsAt w1 (pblk v18.ptr) ((poff v18.ptr) + i.toNat * 3) [Value.slice v21.l.ptr v21.l.len v21.l.cap, Value.slice v21.long.ptr v21.long.len v21.long.cap, Value.int .i64 v21.n] ∧ (∀ b_1 w2, b_1 = w1.heap.size → w2 = w1.alloc (Obj.cells ([Value.slice none 0 0, Value.slice none 0 0, Value.int .i64 0]).toArray ty_towpathlaw01_heldInt (0, 0)) → (Writable w2 b_1 0 3 ∧ (∀ w3, w3 = World.puts b_1 0 [Value.slice v21.l.ptr v21.l.len v21.l.cap, Value.slice v21.long.ptr v21.long.len v21.long.cap, Value.int .i64 v21.n] w2 → (∃ (v23 : Slc), w3.cell? ⟨b_1, 1, none⟩ = some (Value.slice v23.ptr v23.len v23.cap) ∧ (∃ (v26 : Slc), w3.cell? ⟨b_1, 0, none⟩ = some (Value.slice v26.ptr v26.len v26.cap) ∧ (((((v23.len : Nat) : Int) != (IntKind.i64.wrap (((v26.len : Nat) : Int) + 70))) = true → (R false w3)) ∧
  ((((v23.len : Nat) : Int) != (IntKind.i64.wrap (((v26.len : Nat) : Int) + 70))) = false → (∃ (I : Int → World → Prop) (μ : Int → World → Nat), I 0 w3 ∧
  ∀ (k_ : Int) w, I k_ w → F_towpathlaw01_Book_lookInt_L1 R i again_ b_1 (fun (k_' : Int) w' => I k_' w' ∧ μ k_' w' < μ k_ w) k_ w)))))))))))))) ∧
  ((decide (i < ((v10.len : Nat) : Int))) = false → (R true w1))))

def F_towpathlaw01_Book_lookInt (b_ : Option Addr) (R : Bool → World → Prop) (w : World) : Prop :=
  ∃ (I : Int → World → Prop) (μ : Int → World → Nat), I 0 w ∧
  ∀ (i : Int) w, I i w → F_towpathlaw01_Book_lookInt_L0 b_ R (fun (i' : Int) w' => I i' w' ∧ μ i' w' < μ i w) i w

def F_towpathlaw01_Book_lookText_L0 (b_ : Option Addr) (R : Bool → World → Prop) (again_ : Int → World → Prop) (i : Int) (w1 : World) : Prop :=
  IsAt b_ ∧ (∃ (v10 : Slc), w1.cell? ⟨(pblk b_), (poff b_) + 3, none⟩ = some (Value.slice v10.ptr v10.len v10.cap) ∧ (((decide (i < ((v10.len : Nat) : Int))) = true → (False)) ∧
  ((decide (i < ((v10.len : Nat) : Int))) = false → (R true w1))))

def F_towpathlaw01_Book_lookText (b_ : Option Addr) (R : Bool → World → Prop) (w : World) : Prop :=
  ∃ (I : Int → World → Prop) (μ : Int → World → Nat), I 0 w ∧
  ∀ (i : Int) w, I i w → F_towpathlaw01_Book_lookText_L0 b_ R (fun (i' : Int) w' => I i' w' ∧ μ i' w' < μ i w) i w

def F_towpathlaw01_Book_lookWrite_L0 (b_ : Option Addr) (R : Bool → World → Prop) (again_ : Int → World → Prop) (i : Int) (w1 : World) : Prop :=
  IsAt b_ ∧ (∃ (v10 : Slc), w1.cell? ⟨(pblk b_), (poff b_) + 4, none⟩ = some (Value.slice v10.ptr v10.len v10.cap) ∧ (((decide (i < ((v10.len : Nat) : Int))) = true → (False)) ∧
  ((decide (i < ((v10.len : Nat) : Int))) = false → (R true w1))))

def F_towpathlaw01_Book_lookWrite (b_ : Option Addr) (R : Bool → World → Prop) (w : World) : Prop :=
  ∃ (I : Int → World → Prop) (μ : Int → World → Nat), I 0 w ∧
  ∀ (i : Int) w, I i w → F_towpathlaw01_Book_lookWrite_L0 b_ R (fun (i' : Int) w' => I i' w' ∧ μ i' w' < μ i w) i w

def F_towpathlaw01_Book_lookEntry_k2 (R : Bool → World → Prop) (k_ : Int) (again_1 : Int → World → Prop) (t63 : Bool) (w5 : World) : Prop :=
  (t63 = true → (R false w5)) ∧
  (t63 = false → (again_1 (IntKind.i64.wrap (k_ + 1)) w5))

def F_towpathlaw01_Book_lookEntry_L1 (R : Bool → World → Prop) (i : Int) (again_ : Int → World → Prop) (b_1 : Nat) (again_1 : Int → World → Prop) (k_ : Int) (w4 : World) : Prop :=
  ∃ (v32 : Slc), w4.cell? ⟨b_1, 1, none⟩ = some (Value.slice v32.ptr v32.len v32.cap) ∧ (((decide (k_ < ((v32.len : Nat) : Int))) = true → (∀ w6, (∃ k, w6 = w4.drewN k) → (∃ (v38 : Slc), w6.cell? ⟨b_1, 1, none⟩ = some (Value.slice v38.ptr v38.len v38.cap) ∧ (IsAt v38.ptr ∧ (0 ≤ k_ ∧ k_ < ((v38.len : Nat) : Int) ∧ (∃ (v41 : T_api_Entry), CellsAt w6 (pblk v38.ptr) ((poff v38.ptr) + k_.toNat * 2) [Value.string v41.Key, Value.string v41.Val] ∧ (∃ (v43 : Int), w6.cell? ⟨b_1, 2, none⟩ = some (Value.int .i64 v43) ∧ (C_towpathlaw01_isEntry v41 v43 w6 (fun (v44 : Bool) w7 => (((!v44) = true → (F_towpathlaw01_Book_lookEntry_k2 R k_ again_1 true w7)) ∧
  ((!v44) = false → (∃ (v49 : Slc), w7.cell? ⟨b_1, 0, none⟩ = some (Value.slice v49.ptr v49.len v49.cap) ∧ (((decide (k_ < ((v49.len : Nat) : Int))) = true → (∃ (v54 : Slc), w7.cell? ⟨b_1, 0, none⟩ = some (Value.slice v54.ptr v54.len v54.cap) ∧ (IsAt v54.ptr ∧ (0 ≤ k_ ∧ k_ < ((v54.len : Nat) : Int) ∧ (∃ (v57 : T_api_Entry), CellsAt w7 (pblk v54.ptr) ((poff v54.ptr) + k_.toNat * 2) [Value.string v57.Key, Value.string v57.Val] ∧ (∃ (v59 : Int), w7.cell? ⟨b_1, 2, none⟩ = some (Value.int .i64 v59) ∧ (C_towpathlaw01_isEntry v57 v59 w7 (fun (v60 : Bool) w8 => (F_towpathlaw01_Book_lookEntry_k2 R k_ again_1 (!v60) w8))))))))) ∧
  ((decide (k_ < ((v49.len : Nat) : Int))) = false → (F_towpathlaw01_Book_lookEntry_k2 R k_ again_1 false w7))))))))))))))) ∧
  ((decide (k_ < ((v32.len : Nat) : Int))) = false → (again_ (IntKind.i64.wrap (i + 1)) w4)))

def F_towpathlaw01_Book_lookEntry_L0 (b_ : Option Addr) (R : Bool → World → Prop) (again_ : Int → World → Prop) (i : Int) (w1 : World) : Prop :=
  IsAt b_ ∧ (∃ (v10 : Slc), w1.cell? ⟨(pblk b_), (poff b_) + 5, none⟩ = some (Value.slice v10.ptr v10.len v10.cap) ∧ (((decide (i < ((v10.len : Nat) : Int))) = true → (IsAt b_ ∧ (∃ (v18 : Slc), w1.cell? ⟨(pblk b_), (poff b_) + 5, none⟩ = some (Value.slice v18.ptr v18.len v18.cap) ∧ (IsAt v18.ptr ∧ (0 ≤ i ∧ i < ((v18.len : Nat) : Int) ∧ (∃ (v21 : T_towpathlaw01_heldEntry), CellsAt w1 (pblk v18.ptr) ((poff v18.ptr) + i.toNat * 3) [Value.slice v21.l.ptr v21.l.len v21.l.cap, Value.slice v21.long.ptr v21.long.len v21.long.cap, Value.int .i64 v21.n] ∧ (∀ b_1 w2, b_1 = w1.heap.size → w2 = w1.alloc (Obj.cells ([Value.slice none 0 0, Value.slice none 0 0, Value.int .i64 0]).toArray ty_towpathlaw01_heldEntry (0, 0)) → (Writable w2 b_1 0 3 ∧ (∀ w3, w3 = World.puts b_1 0 [Value.slice v21.l.ptr v21.l.len v21.l.cap, Value.slice v21.long.ptr v21.long.len v21.long.cap, Value.int .i64 v21.n] w2 → (∃ (v23 : Slc), w3.cell? ⟨b_1, 1, none⟩ = some (Value.slice v23.ptr v23.len v23.cap) ∧ (∃ (v26 : Slc), w3.cell? ⟨b_1, 0, none⟩ = some (Value.slice v26.ptr v26.len v26.cap) ∧ (((((v23.len : Nat) : Int) != (IntKind.i64.wrap (((v26.len : Nat) : Int) + 70))) = true → (R false w3)) ∧
  ((((v23.len : Nat) : Int) != (IntKind.i64.wrap (((v26.len : Nat) : Int) + 70))) = false → (∃ (I : Int → World → Prop) (μ : Int → World → Nat), I 0 w3 ∧
  ∀ (k_ : Int) w, I k_ w → F_towpathlaw01_Book_lookEntry_L1 R i again_ b_1 (fun (k_' : Int) w' => I k_' w' ∧ μ k_' w' < μ k_ w) k_ w)))))))))))))) ∧
  ((decide (i < ((v10.len : Nat) : Int))) = false → (R true w1))))

def F_towpathlaw01_Book_lookEntry (b_ : Option Addr) (R : Bool → World → Prop) (w : World) : Prop :=
  ∃ (I : Int → World → Prop) (μ : Int → World → Nat), I 0 w ∧
  ∀ (i : Int) w, I i w → F_towpathlaw01_Book_lookEntry_L0 b_ R (fun (i' : Int) w' => I i' w' ∧ μ i' w' < μ i w) i w

def F_towpathlaw01_Book_lookVersion_k2 (R : Bool → World → Prop) (k_ : Int) (again_1 : Int → World → Prop) (t63 : Bool) (w5 : World) : Prop :=
  (t63 = true → (R false w5)) ∧
  (t63 = false → (again_1 (IntKind.i64.wrap (k_ + 1)) w5))

def F_towpathlaw01_Book_lookVersion_L1 (R : Bool → World → Prop) (i : Int) (again_ : Int → World → Prop) (b_1 : Nat) (again_1 : Int → World → Prop) (k_ : Int) (w4 : World) : Prop :=
  ∃ (v32 : Slc), w4.cell? ⟨b_1, 1, none⟩ = some (Value.slice v32.ptr v32.len v32.cap) ∧ (((decide (k_ < ((v32.len : Nat) : Int))) = true → (∃ (v38 : Slc), w4.cell? ⟨b_1, 1, none⟩ = some (Value.slice v38.ptr v38.len v38.cap) ∧ (IsAt v38.ptr ∧ (0 ≤ k_ ∧ k_ < ((v38.len : Nat) : Int) ∧ (∃ (v41 : T_api_Version), CellsAt w4 (pblk v38.ptr) ((poff v38.ptr) + k_.toNat * 3) [Value.int .i64 v41.Number, Value.string v41.Val, Value.bool v41.Drop] ∧ (∃ (v43 : Int), w4.cell? ⟨b_1, 2, none⟩ = some (Value.int .i64 v43) ∧ (∃ (v44 : Bool), (∀ w', Ext w4 w' → C_towpathlaw01_isVersion v41 v43 w' (fun (v44' : Bool) w'' => v44' = v44 ∧ Ext w' w'')) ∧ (((!v44) = true → (∀ w7, Ext w4 w7 → (F_towpathlaw01_Book_lookVersion_k2 R k_ again_1 true w7))) ∧
  ((!v44) = false → (∃ (v49 : Slc), w4.cell? ⟨b_1, 0, none⟩ = some (Value.slice v49.ptr v49.len v49.cap) ∧ (((decide (k_ < ((v49.len : Nat) : Int))) = true → (∃ (v54 : Slc), w4.cell? ⟨b_1, 0, none⟩ = some (Value.slice v54.ptr v54.len v54.cap) ∧ (IsAt v54.ptr ∧ (0 ≤ k_ ∧ k_ < ((v54.len : Nat) : Int) ∧ (∃ (v57 : T_api_Version), CellsAt w4 (pblk v54.ptr) ((poff v54.ptr) + k_.toNat * 3) [Value.int .i64 v57.Number, Value.string v57.Val, Value.bool v57.Drop] ∧ (∃ (v59 : Int), w4.cell? ⟨b_1, 2, none⟩ = some (Value.int .i64 v59) ∧ (∃ (v60 : Bool), (∀ w', Ext w4 w' → C_towpathlaw01_isVersion v57 v59 w' (fun (v60' : Bool) w'' => v60' = v60 ∧ Ext w' w'')) ∧ (∀ w9, Ext w4 w9 → (F_towpathlaw01_Book_lookVersion_k2 R k_ again_1 (!v60) w9))))))))) ∧
  ((decide (k_ < ((v49.len : Nat) : Int))) = false → (∀ w10, Ext w4 w10 → (F_towpathlaw01_Book_lookVersion_k2 R k_ again_1 false w10)))))))))))))) ∧
  ((decide (k_ < ((v32.len : Nat) : Int))) = false → (again_ (IntKind.i64.wrap (i + 1)) w4)))

def F_towpathlaw01_Book_lookVersion_L0 (b_ : Option Addr) (R : Bool → World → Prop) (again_ : Int → World → Prop) (i : Int) (w1 : World) : Prop :=
  IsAt b_ ∧ (∃ (v10 : Slc), w1.cell? ⟨(pblk b_), (poff b_) + 6, none⟩ = some (Value.slice v10.ptr v10.len v10.cap) ∧ (((decide (i < ((v10.len : Nat) : Int))) = true → (IsAt b_ ∧ (∃ (v18 : Slc), w1.cell? ⟨(pblk b_), (poff b_) + 6, none⟩ = some (Value.slice v18.ptr v18.len v18.cap) ∧ (IsAt v18.ptr ∧ (0 ≤ i ∧ i < ((v18.len : Nat) : Int) ∧ (∃ (v21 : T_towpathlaw01_heldVersion), CellsAt w1 (pblk v18.ptr) ((poff v18.ptr) + i.toNat * 3) [Value.slice v21.l.ptr v21.l.len v21.l.cap, Value.slice v21.long.ptr v21.long.len v21.long.cap, Value.int .i64 v21.n] ∧ (∀ b_1 w2, b_1 = w1.heap.size → w2 = w1.alloc (Obj.cells ([Value.slice none 0 0, Value.slice none 0 0, Value.int .i64 0]).toArray ty_towpathlaw01_heldVersion (0, 0)) → (Writable w2 b_1 0 3 ∧ (∀ w3, w3 = World.puts b_1 0 [Value.slice v21.l.ptr v21.l.len v21.l.cap, Value.slice v21.long.ptr v21.long.len v21.long.cap, Value.int .i64 v21.n] w2 → (∃ (v23 : Slc), w3.cell? ⟨b_1, 1, none⟩ = some (Value.slice v23.ptr v23.len v23.cap) ∧ (∃ (v26 : Slc), w3.cell? ⟨b_1, 0, none⟩ = some (Value.slice v26.ptr v26.len v26.cap) ∧ (((((v23.len : Nat) : Int) != (IntKind.i64.wrap (((v26.len : Nat) : Int) + 70))) = true → (R false w3)) ∧
  ((((v23.len : Nat) : Int) != (IntKind.i64.wrap (((v26.len : Nat) : Int) + 70))) = false → (∃ (I : Int → World → Prop) (μ : Int → World → Nat), I 0 w3 ∧
  ∀ (k_ : Int) w, I k_ w → F_towpathlaw01_Book_lookVersion_L1 R i again_ b_1 (fun (k_' : Int) w' => I k_' w' ∧ μ k_' w' < μ k_ w) k_ w)))))))))))))) ∧
  ((decide (i < ((v10.len : Nat) : Int))) = false → (R true w1))))

def F_towpathlaw01_Book_lookVersion (b_ : Option Addr) (R : Bool → World → Prop) (w : World) : Prop :=
  ∃ (I : Int → World → Prop) (μ : Int → World → Nat), I 0 w ∧
  ∀ (i : Int) w, I i w → F_towpathlaw01_Book_lookVersion_L0 b_ R (fun (i' : Int) w' => I i' w' ∧ μ i' w' < μ i w) i w

def F_towpathlaw01_Book_lookTxn_L0 (b_ : Option Addr) (R : Bool → World → Prop) (again_ : Int → World → Prop) (i : Int) (w1 : World) : Prop :=
  IsAt b_ ∧ (∃ (v10 : Slc), w1.cell? ⟨(pblk b_), (poff b_) + 7, none⟩ = some (Value.slice v10.ptr v10.len v10.cap) ∧ (((decide (i < ((v10.len : Nat) : Int))) = true → (False)) ∧
  ((decide (i < ((v10.len : Nat) : Int))) = false → (R true w1))))

def F_towpathlaw01_Book_lookTxn (b_ : Option Addr) (R : Bool → World → Prop) (w : World) : Prop :=
  ∃ (I : Int → World → Prop) (μ : Int → World → Nat), I 0 w ∧
  ∀ (i : Int) w, I i w → F_towpathlaw01_Book_lookTxn_L0 b_ R (fun (i' : Int) w' => I i' w' ∧ μ i' w' < μ i w) i w

def F_towpathlaw01_Book_lookHeld_k2 (R : Bool → World → Prop) (k_ : Int) (again_1 : Int → World → Prop) (t63 : Bool) (w5 : World) : Prop :=
  (t63 = true → (R false w5)) ∧
  (t63 = false → (again_1 (IntKind.i64.wrap (k_ + 1)) w5))

def F_towpathlaw01_Book_lookHeld_L1 (R : Bool → World → Prop) (i : Int) (again_ : Int → World → Prop) (b_1 : Nat) (again_1 : Int → World → Prop) (k_ : Int) (w4 : World) : Prop :=
  ∃ (v32 : Slc), w4.cell? ⟨b_1, 1, none⟩ = some (Value.slice v32.ptr v32.len v32.cap) ∧ (((decide (k_ < ((v32.len : Nat) : Int))) = true → (∀ w6, (∃ k, w6 = w4.drewN k) → (∃ (v38 : Slc), w6.cell? ⟨b_1, 1, none⟩ = some (Value.slice v38.ptr v38.len v38.cap) ∧ (IsAt v38.ptr ∧ (0 ≤ k_ ∧ k_ < ((v38.len : Nat) : Int) ∧ (∃ (v41 : T_api_Held), CellsAt w6 (pblk v38.ptr) ((poff v38.ptr) + k_.toNat * 2) [Value.string v41.Key, Value.slice v41.Versions.ptr v41.Versions.len v41.Versions.cap] ∧ (∃ (v43 : Int), w6.cell? ⟨b_1, 2, none⟩ = some (Value.int .i64 v43) ∧ (C_towpathlaw01_isHeld v41 v43 w6 (fun (v44 : Bool) w7 => (((!v44) = true → (F_towpathlaw01_Book_lookHeld_k2 R k_ again_1 true w7)) ∧
  ((!v44) = false → (∃ (v49 : Slc), w7.cell? ⟨b_1, 0, none⟩ = some (Value.slice v49.ptr v49.len v49.cap) ∧ (((decide (k_ < ((v49.len : Nat) : Int))) = true → (∃ (v54 : Slc), w7.cell? ⟨b_1, 0, none⟩ = some (Value.slice v54.ptr v54.len v54.cap) ∧ (IsAt v54.ptr ∧ (0 ≤ k_ ∧ k_ < ((v54.len : Nat) : Int) ∧ (∃ (v57 : T_api_Held), CellsAt w7 (pblk v54.ptr) ((poff v54.ptr) + k_.toNat * 2) [Value.string v57.Key, Value.slice v57.Versions.ptr v57.Versions.len v57.Versions.cap] ∧ (∃ (v59 : Int), w7.cell? ⟨b_1, 2, none⟩ = some (Value.int .i64 v59) ∧ (C_towpathlaw01_isHeld v57 v59 w7 (fun (v60 : Bool) w8 => (F_towpathlaw01_Book_lookHeld_k2 R k_ again_1 (!v60) w8))))))))) ∧
  ((decide (k_ < ((v49.len : Nat) : Int))) = false → (F_towpathlaw01_Book_lookHeld_k2 R k_ again_1 false w7))))))))))))))) ∧
  ((decide (k_ < ((v32.len : Nat) : Int))) = false → (again_ (IntKind.i64.wrap (i + 1)) w4)))

def F_towpathlaw01_Book_lookHeld_L0 (b_ : Option Addr) (R : Bool → World → Prop) (again_ : Int → World → Prop) (i : Int) (w1 : World) : Prop :=
  IsAt b_ ∧ (∃ (v10 : Slc), w1.cell? ⟨(pblk b_), (poff b_) + 8, none⟩ = some (Value.slice v10.ptr v10.len v10.cap) ∧ (((decide (i < ((v10.len : Nat) : Int))) = true → (IsAt b_ ∧ (∃ (v18 : Slc), w1.cell? ⟨(pblk b_), (poff b_) + 8, none⟩ = some (Value.slice v18.ptr v18.len v18.cap) ∧ (IsAt v18.ptr ∧ (0 ≤ i ∧ i < ((v18.len : Nat) : Int) ∧ (∃ (v21 : T_towpathlaw01_heldHeld), CellsAt w1 (pblk v18.ptr) ((poff v18.ptr) + i.toNat * 3) [Value.slice v21.l.ptr v21.l.len v21.l.cap, Value.slice v21.long.ptr v21.long.len v21.long.cap, Value.int .i64 v21.n] ∧ (∀ b_1 w2, b_1 = w1.heap.size → w2 = w1.alloc (Obj.cells ([Value.slice none 0 0, Value.slice none 0 0, Value.int .i64 0]).toArray ty_towpathlaw01_heldHeld (0, 0)) → (Writable w2 b_1 0 3 ∧ (∀ w3, w3 = World.puts b_1 0 [Value.slice v21.l.ptr v21.l.len v21.l.cap, Value.slice v21.long.ptr v21.long.len v21.long.cap, Value.int .i64 v21.n] w2 → (∃ (v23 : Slc), w3.cell? ⟨b_1, 1, none⟩ = some (Value.slice v23.ptr v23.len v23.cap) ∧ (∃ (v26 : Slc), w3.cell? ⟨b_1, 0, none⟩ = some (Value.slice v26.ptr v26.len v26.cap) ∧ (((((v23.len : Nat) : Int) != (IntKind.i64.wrap (((v26.len : Nat) : Int) + 70))) = true → (R false w3)) ∧
  ((((v23.len : Nat) : Int) != (IntKind.i64.wrap (((v26.len : Nat) : Int) + 70))) = false → (∃ (I : Int → World → Prop) (μ : Int → World → Nat), I 0 w3 ∧
  ∀ (k_ : Int) w, I k_ w → F_towpathlaw01_Book_lookHeld_L1 R i again_ b_1 (fun (k_' : Int) w' => I k_' w' ∧ μ k_' w' < μ k_ w) k_ w)))))))))))))) ∧
  ((decide (i < ((v10.len : Nat) : Int))) = false → (R true w1))))

def F_towpathlaw01_Book_lookHeld (b_ : Option Addr) (R : Bool → World → Prop) (w : World) : Prop :=
  ∃ (I : Int → World → Prop) (μ : Int → World → Nat), I 0 w ∧
  ∀ (i : Int) w, I i w → F_towpathlaw01_Book_lookHeld_L0 b_ R (fun (i' : Int) w' => I i' w' ∧ μ i' w' < μ i w) i w

def F_towpathlaw01_Book_lookHeldList_L0 (b_ : Option Addr) (R : Bool → World → Prop) (again_ : Int → World → Prop) (i : Int) (w1 : World) : Prop :=
  IsAt b_ ∧ (∃ (v10 : Slc), w1.cell? ⟨(pblk b_), (poff b_) + 9, none⟩ = some (Value.slice v10.ptr v10.len v10.cap) ∧ (((decide (i < ((v10.len : Nat) : Int))) = true → (False)) ∧
  ((decide (i < ((v10.len : Nat) : Int))) = false → (R true w1))))

def F_towpathlaw01_Book_lookHeldList (b_ : Option Addr) (R : Bool → World → Prop) (w : World) : Prop :=
  ∃ (I : Int → World → Prop) (μ : Int → World → Nat), I 0 w ∧
  ∀ (i : Int) w, I i w → F_towpathlaw01_Book_lookHeldList_L0 b_ R (fun (i' : Int) w' => I i' w' ∧ μ i' w' < μ i w) i w

def F_towpathlaw01_Book_lookEvent_L0 (b_ : Option Addr) (R : Bool → World → Prop) (again_ : Int → World → Prop) (i : Int) (w1 : World) : Prop :=
  IsAt b_ ∧ (∃ (v10 : Slc), w1.cell? ⟨(pblk b_), (poff b_) + 10, none⟩ = some (Value.slice v10.ptr v10.len v10.cap) ∧ (((decide (i < ((v10.len : Nat) : Int))) = true → (False)) ∧
  ((decide (i < ((v10.len : Nat) : Int))) = false → (R true w1))))

def F_towpathlaw01_Book_lookEvent (b_ : Option Addr) (R : Bool → World → Prop) (w : World) : Prop :=
  ∃ (I : Int → World → Prop) (μ : Int → World → Nat), I 0 w ∧
  ∀ (i : Int) w, I i w → F_towpathlaw01_Book_lookEvent_L0 b_ R (fun (i' : Int) w' => I i' w' ∧ μ i' w' < μ i w) i w

def F_towpathlaw01_Book_lookAnswer_L0 (b_ : Option Addr) (R : Bool → World → Prop) (again_ : Int → World → Prop) (i : Int) (w1 : World) : Prop :=
  IsAt b_ ∧ (∃ (v10 : Slc), w1.cell? ⟨(pblk b_), (poff b_) + 11, none⟩ = some (Value.slice v10.ptr v10.len v10.cap) ∧ (((decide (i < ((v10.len : Nat) : Int))) = true → (False)) ∧
  ((decide (i < ((v10.len : Nat) : Int))) = false → (R true w1))))

def F_towpathlaw01_Book_lookAnswer (b_ : Option Addr) (R : Bool → World → Prop) (w : World) : Prop :=
  ∃ (I : Int → World → Prop) (μ : Int → World → Nat), I 0 w ∧
  ∀ (i : Int) w, I i w → F_towpathlaw01_Book_lookAnswer_L0 b_ R (fun (i' : Int) w' => I i' w' ∧ μ i' w' < μ i w) i w

def F_conf_Check_k1 (R : Int → World → Prop) (t19 : Int) (again_ : Int → World → Prop) (t32 : Bool) (w6 : World) : Prop :=
  (t32 = true → (R 7 w6)) ∧
  (t32 = false → (again_ (IntKind.i64.wrap (t19 + 1)) w6))

def F_conf_Check_L0 (R : Int → World → Prop) (b_1 : Nat) (again_ : Int → World → Prop) (t19 : Int) (w3 : World) : Prop :=
  ((decide (t19 < ((4 : Nat) : Int))) = true → (0 ≤ t19 ∧ t19 < (4 : Int) ∧ (∃ (v22 : Arr2_Int), CellsAt w3 b_1 (0 + t19.toNat * 2) [Value.int .i64 v22.e0, Value.int .i64 v22.e1] ∧ (∀ b_2 w4, b_2 = w3.heap.size → w4 = w3.alloc (Obj.cells ([Value.int .i64 0, Value.int .i64 0]).toArray ty_2_int (0, 0)) → (Writable w4 b_2 0 2 ∧ (∀ w5, w5 = World.puts b_2 0 [Value.int .i64 v22.e0, Value.int .i64 v22.e1] w4 → (0 ≤ (0 : Int) ∧ (0 : Int) < (2 : Int) ∧ (∃ (v24 : Int), w5.cell? ⟨b_2, 0, none⟩ = some (Value.int .i64 v24) ∧ (((decide (v24 < 1)) = true → (F_conf_Check_k1 R t19 again_ true w5)) ∧
  ((decide (v24 < 1)) = false → (0 ≤ (0 : Int) ∧ (0 : Int) < (2 : Int) ∧ (∃ (v28 : Int), w5.cell? ⟨b_2, 0, none⟩ = some (Value.int .i64 v28) ∧ (0 ≤ (1 : Int) ∧ (1 : Int) < (2 : Int) ∧ (∃ (v30 : Int), w5.cell? ⟨b_2, 1, none⟩ = some (Value.int .i64 v30) ∧ (F_conf_Check_k1 R t19 again_ (decide (v28 > v30)) w5))))))))))))))) ∧
  ((decide (t19 < ((4 : Nat) : Int))) = false → (R 0 w3))

def F_conf_Check (c : T_api_Config) (R : Int → World → Prop) (w : World) : Prop :=
  ∀ b_ w1, b_ = w.heap.size → w1 = w.alloc (Obj.cells ([Value.int .i64 c.Lanes, Value.int .i64 c.Shards, Value.int .i64 c.Window, Value.int .i64 c.Queue]).toArray ty_api_Config (0, 0)) → (∃ (v6 : Int), w1.cell? ⟨b_, 0, none⟩ = some (Value.int .i64 v6) ∧ (∃ (v9 : Int), w1.cell? ⟨b_, 1, none⟩ = some (Value.int .i64 v9) ∧ (∃ (v12 : Int), w1.cell? ⟨b_, 2, none⟩ = some (Value.int .i64 v12) ∧ (∃ (v15 : Int), w1.cell? ⟨b_, 3, none⟩ = some (Value.int .i64 v15) ∧ (∀ b_1 w2, b_1 = w1.heap.size → w2 = w1.alloc (Obj.cells ([Value.int .i64 v6, Value.int .i64 16, Value.int .i64 v9, Value.int .i64 16, Value.int .i64 v12, Value.int .i64 64, Value.int .i64 v15, Value.int .i64 16]).toArray ty_2_int (0, 0)) → (∃ (I : Int → World → Prop) (μ : Int → World → Nat), I 0 w2 ∧
  ∀ (t19 : Int) w, I t19 w → F_conf_Check_L0 R b_1 (fun (t19' : Int) w' => I t19' w' ∧ μ t19' w' < μ t19 w) t19 w))))))

def F_call_Check_k0 (R : Int → World → Prop) (ok : Bool) (w2 : World) : Prop :=
  ((!ok) = true → (R 1 w2)) ∧
  ((!ok) = false → (R 0 w2))

def F_call_Check_k1 (R : Int → World → Prop) (b_ : Nat) (t34 : Bool) (w3 : World) : Prop :=
  (t34 = true → (∃ (v38 : ByteArray), w3.cell? ⟨b_, 1, none⟩ = some (Value.string v38) ∧ (((v38.toList == ByteArray.empty.toList) = true → (∃ (v42 : ByteArray), w3.cell? ⟨b_, 2, none⟩ = some (Value.string v42) ∧ (F_call_Check_k0 R (v42.toList == ByteArray.empty.toList) w3))) ∧
  ((v38.toList == ByteArray.empty.toList) = false → (F_call_Check_k0 R false w3))))) ∧
  (t34 = false → (F_call_Check_k0 R false w3))

def F_call_Check (c : T_api_Call) (R : Int → World → Prop) (w : World) : Prop :=
  ∀ b_ w1, b_ = w.heap.size → w1 = w.alloc (Obj.cells ([Value.int .u8 c.Kind, Value.string c.Key, Value.string c.End]).toArray ty_api_Call (0, 0)) → (∃ (v5 : Int), w1.cell? ⟨b_, 0, none⟩ = some (Value.int .u8 v5) ∧ (((v5 == 1) = true → (∃ (v9 : ByteArray), w1.cell? ⟨b_, 1, none⟩ = some (Value.string v9) ∧ (((!(v9.toList == ByteArray.empty.toList)) = true → (∃ (v13 : ByteArray), w1.cell? ⟨b_, 1, none⟩ = some (Value.string v13) ∧ (((decide (((v13.size : Nat) : Int) ≤ 64)) = true → (∃ (v19 : ByteArray), w1.cell? ⟨b_, 2, none⟩ = some (Value.string v19) ∧ (F_call_Check_k0 R (v19.toList == ByteArray.empty.toList) w1))) ∧
  ((decide (((v13.size : Nat) : Int) ≤ 64)) = false → (F_call_Check_k0 R false w1))))) ∧
  ((!(v9.toList == ByteArray.empty.toList)) = false → (F_call_Check_k0 R false w1))))) ∧
  ((v5 == 1) = false → (((v5 == 2) = true → (∃ (v25 : ByteArray), w1.cell? ⟨b_, 1, none⟩ = some (Value.string v25) ∧ (((decide (((v25.size : Nat) : Int) ≤ 64)) = true → (∃ (v30 : ByteArray), w1.cell? ⟨b_, 2, none⟩ = some (Value.string v30) ∧ (F_call_Check_k0 R (decide (((v30.size : Nat) : Int) ≤ 64)) w1))) ∧
  ((decide (((v25.size : Nat) : Int) ≤ 64)) = false → (F_call_Check_k0 R false w1))))) ∧
  ((v5 == 2) = false → (((v5 == 3) = true → (F_call_Check_k1 R b_ (v5 == 3) w1)) ∧
  ((v5 == 3) = false → (F_call_Check_k1 R b_ (v5 == 4) w1))))))))

def F_call_Task_there (t_ : Option Addr) (R : Bool → World → Prop) (w : World) : Prop :=
  ((!t_.isNone) = true → (IsAt t_ ∧ (∃ (v9 : Int), w.cell? ⟨(pblk t_), (poff t_), none⟩ = some (Value.int .i64 v9) ∧ (R (v9 != 0) w)))) ∧
  ((!t_.isNone) = false → (R false w))

def F_call_may_L0 (l_ : Slc) (R : Bool → World → Prop) (again_ : Int → Int → World → Prop) (than1 : Int) (t9 : Int) (w1 : World) : Prop :=
  ((decide (t9 < ((l_.len : Nat) : Int))) = true → (IsAt l_.ptr ∧ (0 ≤ t9 ∧ t9 < ((l_.len : Nat) : Int) ∧ (∃ (n_ : Int), w1.cell? ⟨(pblk l_.ptr), (poff l_.ptr) + t9.toNat, none⟩ = some (Value.int .i64 n_) ∧ ((((decide (n_ ≤ than1)) || (decide (n_ > 65536))) = true → (R false w1)) ∧
  (((decide (n_ ≤ than1)) || (decide (n_ > 65536))) = false → (again_ n_ (IntKind.i64.wrap (t9 + 1)) w1))))))) ∧
  ((decide (t9 < ((l_.len : Nat) : Int))) = false → (R true w1))

def F_call_may (l_ : Slc) (than : Int) (R : Bool → World → Prop) (w : World) : Prop :=
  ∃ (I : Int → Int → World → Prop) (μ : Int → Int → World → Nat), I than 0 w ∧
  ∀ (than1 : Int) (t9 : Int) w, I than1 t9 w → F_call_may_L0 l_ R (fun (than1' : Int) (t9' : Int) w' => I than1' t9' w' ∧ μ than1' t9' w' < μ than1 t9 w) than1 t9 w

def F_call_Task_shards (t_ : Option Addr) (R : Value → World → Prop) (w : World) : Prop :=
  ∀ b_ w1, b_ = w.heap.size → w1 = w.alloc (Obj.cells ([Value.pointer t_]).toArray ty_ptr_call_Task (0, 0)) → (R (Value.func (.func 113) #[] #[Value.pointer (some ⟨b_, 0, none⟩)]) w1)

def F_slices_Clone_int_int (s : Slc) (R : Slc → World → Prop) (w : World) : Prop :=
  (s.ptr.isNone = true → (R (Slc.mk none 0 0) w)) ∧
  (s.ptr.isNone = false → (∀ b_ w1, b_ = w.heap.size → w1 = w.alloc (Obj.cells ([]).toArray ty_int (0, 0)) → (∃ src, SrcAt w1 s 1 src ∧ AppendW 1 8 ty_int [Value.int .i64 0] (Slc.mk (some ⟨b_, 0, none⟩) 0 0) src s.len w1 (fun v7 w2 => R v7 w2))))

def F_slices_Clone_api_Version_api_Version (s : Slc) (R : Slc → World → Prop) (w : World) : Prop :=
  (s.ptr.isNone = true → (R (Slc.mk none 0 0) w)) ∧
  (s.ptr.isNone = false → (∀ b_ w1, b_ = w.heap.size → w1 = w.alloc (Obj.cells ([]).toArray ty_api_Version (0, 0)) → (∃ src, SrcAt w1 s 3 src ∧ AppendW 3 32 ty_api_Version [Value.int .i64 0, Value.string ByteArray.empty, Value.bool false] (Slc.mk (some ⟨b_, 0, none⟩) 0 0) src s.len w1 (fun v7 w2 => R v7 w2))))

def F_slices_Clone_api_Entry_api_Entry (s : Slc) (R : Slc → World → Prop) (w : World) : Prop :=
  (s.ptr.isNone = true → (R (Slc.mk none 0 0) w)) ∧
  (s.ptr.isNone = false → (∀ b_ w1, b_ = w.heap.size → w1 = w.alloc (Obj.cells ([]).toArray ty_api_Entry (0, 0)) → (∃ src, SrcAt w1 s 2 src ∧ AppendW 2 32 ty_api_Entry [Value.string ByteArray.empty, Value.string ByteArray.empty] (Slc.mk (some ⟨b_, 0, none⟩) 0 0) src s.len w1 (fun v7 w2 => R v7 w2))))

def F_towpathlaw01_TwinEntries_L0 (l_ : Slc) (R : Slc → World → Prop) (again_ : Slc → Int → World → Prop) (t_ : Slc) (i : Int) (w2 : World) : Prop :=
  ((decide (i < ((l_.len : Nat) : Int))) = true → (IsAt l_.ptr ∧ (0 ≤ i ∧ i < ((l_.len : Nat) : Int) ∧ (∃ (v19 : T_api_Entry), CellsAt w2 (pblk l_.ptr) ((poff l_.ptr) + i.toNat * 2) [Value.string v19.Key, Value.string v19.Val] ∧ (∀ b_1 w3, b_1 = w2.heap.size → w3 = w2.alloc (Obj.cells ([Value.string v19.Key, Value.string v19.Val]).toArray ty_api_Entry (0, 0)) → (∃ src, SrcAt w3 (Slc.mk (some ⟨b_1, 0, none⟩) 1 1) 2 src ∧ AppendW 2 32 ty_api_Entry [Value.string ByteArray.empty, Value.string ByteArray.empty] t_ src 1 w3 (fun t_1 w4 => again_ t_1 (IntKind.i64.wrap (i + 1)) w4))))))) ∧
  ((decide (i < ((l_.len : Nat) : Int))) = false → (∀ b_2 w5, b_2 = w2.heap.size → w5 = w2.alloc (Obj.cells ([Value.string (ByteArray.mk #[115, 112, 97, 114, 101]), Value.string ByteArray.empty]).toArray ty_api_Entry (0, 0)) → (∃ src, SrcAt w5 (Slc.mk (some ⟨b_2, 0, none⟩) 1 1) 2 src ∧ AppendW 2 32 ty_api_Entry [Value.string ByteArray.empty, Value.string ByteArray.empty] t_ src 1 w5 (fun v25 w6 => 0 ≤ ((l_.len : Nat) : Int) ∧ ((l_.len : Nat) : Int) ≤ ((v25.cap : Nat) : Int) ∧ (R (Slc.mk v25.ptr (((l_.len : Nat) : Int).toNat) v25.cap) w6)))))

def F_towpathlaw01_TwinEntries (l_ : Slc) (R : Slc → World → Prop) (w : World) : Prop :=
  0 ≤ (0 : Int) ∧ (0 : Int) ≤ IntKind.i64.wrap (((l_.len : Nat) : Int) + 1) ∧ (32 : Int) * (IntKind.i64.wrap (((l_.len : Nat) : Int) + 1)) ≤ 281474976710656 ∧ (∀ b_ w1, b_ = w.heap.size → w1 = w.alloc (Obj.cells (repCells ((IntKind.i64.wrap (((l_.len : Nat) : Int) + 1)).toNat) [Value.string ByteArray.empty, Value.string ByteArray.empty]) ty_api_Entry (0, 0)) → (∃ (I : Slc → Int → World → Prop) (μ : Slc → Int → World → Nat), I (Slc.mk (some ⟨b_, 0, none⟩) 0 ((IntKind.i64.wrap (((l_.len : Nat) : Int) + 1)).toNat)) 0 w1 ∧
  ∀ (t_ : Slc) (i : Int) w, I t_ i w → F_towpathlaw01_TwinEntries_L0 l_ R (fun (t_' : Slc) (i' : Int) w' => I t_' i' w' ∧ μ t_' i' w' < μ t_ i w) t_ i w))

def F_towpathlaw01_TwinHelds_L0 (l_ : Slc) (R : Slc → World → Prop) (again_ : Slc → Int → World → Prop) (t_ : Slc) (i : Int) (w2 : World) : Prop :=
  ((decide (i < ((l_.len : Nat) : Int))) = true → (IsAt l_.ptr ∧ (0 ≤ i ∧ i < ((l_.len : Nat) : Int) ∧ (∃ (v19 : T_api_Held), CellsAt w2 (pblk l_.ptr) ((poff l_.ptr) + i.toNat * 2) [Value.string v19.Key, Value.slice v19.Versions.ptr v19.Versions.len v19.Versions.cap] ∧ (C_towpathlaw01_TwinHeld v19 w2 (fun (v20 : T_api_Held) w3 => ∀ b_1 w4, b_1 = w3.heap.size → w4 = w3.alloc (Obj.cells ([Value.string v20.Key, Value.slice v20.Versions.ptr v20.Versions.len v20.Versions.cap]).toArray ty_api_Held (0, 0)) → (∃ src, SrcAt w4 (Slc.mk (some ⟨b_1, 0, none⟩) 1 1) 2 src ∧ AppendW 2 40 ty_api_Held [Value.string ByteArray.empty, Value.slice none 0 0] t_ src 1 w4 (fun t_1 w5 => again_ t_1 (IntKind.i64.wrap (i + 1)) w5)))))))) ∧
  ((decide (i < ((l_.len : Nat) : Int))) = false → (∀ b_2 w6, b_2 = w2.heap.size → w6 = w2.alloc (Obj.cells ([Value.string (ByteArray.mk #[115, 112, 97, 114, 101]), Value.slice none 0 0]).toArray ty_api_Held (0, 0)) → (∃ src, SrcAt w6 (Slc.mk (some ⟨b_2, 0, none⟩) 1 1) 2 src ∧ AppendW 2 40 ty_api_Held [Value.string ByteArray.empty, Value.slice none 0 0] t_ src 1 w6 (fun v26 w7 => 0 ≤ ((l_.len : Nat) : Int) ∧ ((l_.len : Nat) : Int) ≤ ((v26.cap : Nat) : Int) ∧ (R (Slc.mk v26.ptr (((l_.len : Nat) : Int).toNat) v26.cap) w7)))))

def F_towpathlaw01_TwinHelds (l_ : Slc) (R : Slc → World → Prop) (w : World) : Prop :=
  0 ≤ (0 : Int) ∧ (0 : Int) ≤ IntKind.i64.wrap (((l_.len : Nat) : Int) + 1) ∧ (40 : Int) * (IntKind.i64.wrap (((l_.len : Nat) : Int) + 1)) ≤ 281474976710656 ∧ (∀ b_ w1, b_ = w.heap.size → w1 = w.alloc (Obj.cells (repCells ((IntKind.i64.wrap (((l_.len : Nat) : Int) + 1)).toNat) [Value.string ByteArray.empty, Value.slice none 0 0]) ty_api_Held (0, 0)) → (∃ (I : Slc → Int → World → Prop) (μ : Slc → Int → World → Nat), I (Slc.mk (some ⟨b_, 0, none⟩) 0 ((IntKind.i64.wrap (((l_.len : Nat) : Int) + 1)).toNat)) 0 w1 ∧
  ∀ (t_ : Slc) (i : Int) w, I t_ i w → F_towpathlaw01_TwinHelds_L0 l_ R (fun (t_' : Slc) (i' : Int) w' => I t_' i' w' ∧ μ t_' i' w' < μ t_ i w) t_ i w))

def F_call_Task_All (t_ : Option Addr) (R : Bool → World → Prop) (w : World) : Prop :=
  ∀ w1, (∃ k, w1 = w.drewN k) → (C_call_Task_there t_ w1 (fun (v4 : Bool) w2 => ((v4 = true → (IsAt t_ ∧ (∃ (v9 : Bool), w2.cell? ⟨(pblk t_), (poff t_) + 8, none⟩ = some (Value.bool v9) ∧ ((v9 = true → (IsAt t_ ∧ (∃ (v15 : Slc), w2.cell? ⟨(pblk t_), (poff t_) + 10, none⟩ = some (Value.slice v15.ptr v15.len v15.cap) ∧ (((((v15.len : Nat) : Int) == 0) = true → (IsAt t_ ∧ (∃ (v23 : Slc), w2.cell? ⟨(pblk t_), (poff t_) + 12, none⟩ = some (Value.slice v23.ptr v23.len v23.cap) ∧ (IsAt t_ ∧ (∃ (v28 : Int), w2.cell? ⟨(pblk t_), (poff t_) + 11, none⟩ = some (Value.int .i64 v28) ∧ (R (((v23.len : Nat) : Int) == v28) w2)))))) ∧
  ((((v15.len : Nat) : Int) == 0) = false → (R false w2)))))) ∧
  (v9 = false → (R false w2)))))) ∧
  (v4 = false → (R false w2)))))

def F_call_entries (l_ : Slc) (R : Slc → World → Prop) (w : World) : Prop :=
  C_slices_Concat_api_Entry_api_Entry l_ w (fun (v5 : Slc) w1 => C_slices_SortStableFunc_api_Entry_api_Entry v5 (Value.func (.func 118) #[] #[]) w1 (fun w2 => R v5 w2))

def F_slices_SortStableFunc_api_Held_api_Held (x : Slc) (cmp : Value) (R : World → Prop) (w : World) : Prop :=
  C_slices_stableCmpFunc_api_Held x ((x.len : Nat) : Int) cmp w (fun w1 => R w1)

def F_call_Task_Answer_1 (a_ : T_api_Held) (b_ : T_api_Held) (R : Int → World → Prop) (w : World) : Prop :=
  ∀ b_1 w1, b_1 = w.heap.size → w1 = w.alloc (Obj.cells ([Value.string a_.Key, Value.slice a_.Versions.ptr a_.Versions.len a_.Versions.cap]).toArray ty_api_Held (0, 0)) → (∀ b_2 w2, b_2 = w1.heap.size → w2 = w1.alloc (Obj.cells ([Value.string b_.Key, Value.slice b_.Versions.ptr b_.Versions.len b_.Versions.cap]).toArray ty_api_Held (0, 0)) → (∃ (v6 : ByteArray), w2.cell? ⟨b_1, 0, none⟩ = some (Value.string v6) ∧ (∃ (v8 : ByteArray), w2.cell? ⟨b_2, 0, none⟩ = some (Value.string v8) ∧ (C_strings_Compare v6 v8 w2 (fun (v9 : Int) w3 => R v9 w3)))))

def F_towpathlaw01_Book_Ints (b_ : Option Addr) (l_ : Slc) (R : World → Prop) (w : World) : Prop :=
  C_towpathlaw01_Book_keepInt b_ l_ w (fun w1 => R w1)

def F_towpathlaw01_Book_Entries (b_ : Option Addr) (l_ : Slc) (R : World → Prop) (w : World) : Prop :=
  C_towpathlaw01_Book_keepEntry b_ l_ w (fun w1 => R w1)

def F_towpathlaw01_Book_Versions (b_ : Option Addr) (l_ : Slc) (R : World → Prop) (w : World) : Prop :=
  C_towpathlaw01_Book_keepVersion b_ l_ w (fun w1 => R w1)

def F_towpathlaw01_Book_keepHeld (b_ : Option Addr) (l_ : Slc) (R : World → Prop) (w : World) : Prop :=
  IsAt b_ ∧ (∃ (v7 : Int), w.cell? ⟨(pblk b_), (poff b_), none⟩ = some (Value.int .i64 v7) ∧ (Writable w (pblk b_) (poff b_) 1 ∧ (∀ w1, w1 = World.puts (pblk b_) (poff b_) [Value.int .i64 (IntKind.i64.wrap (v7 + 1))] w → (∀ w2, (∃ k, w2 = w1.drewN k) → (IsAt b_ ∧ (∃ (v15 : Slc), w2.cell? ⟨(pblk b_), (poff b_) + 8, none⟩ = some (Value.slice v15.ptr v15.len v15.cap) ∧ (IsAt b_ ∧ (∃ (v20 : Int), w2.cell? ⟨(pblk b_), (poff b_), none⟩ = some (Value.int .i64 v20) ∧ (∀ b_1 w3, b_1 = w2.heap.size → w3 = w2.alloc (Obj.cells ([Value.slice l_.ptr l_.len l_.cap, Value.slice none 0 0, Value.int .i64 v20]).toArray ty_towpathlaw01_heldHeld (0, 0)) → (w3.cell? ⟨(pblk b_), (poff b_) + 8, none⟩ = some (Value.slice v15.ptr v15.len v15.cap) ∧ (∃ src, SrcAt w3 (Slc.mk (some ⟨b_1, 0, none⟩) 1 1) 3 src ∧ AppendW 3 56 ty_towpathlaw01_heldHeld [Value.slice none 0 0, Value.slice none 0 0, Value.int .i64 0] v15 src 1 w3 (fun v23 w4 => (IsAt b_ ∧ (Writable w4 (pblk b_) ((poff b_) + 8) 1 ∧ (∀ w5, w5 = World.puts (pblk b_) ((poff b_) + 8) [Value.slice v23.ptr v23.len v23.cap] w4 → ((R w5)))))))))))))))))

def F_towpathlaw01_markInt (n_ : Int) (R : Int → World → Prop) (w : World) : Prop :=
  R (IntKind.i64.wrap ((-1000) - n_)) w

def F_towpathlaw01_markEntry (n_ : Int) (R : T_api_Entry → World → Prop) (w : World) : Prop :=
  ∀ b_ w1, b_ = w.heap.size → w1 = w.alloc (Obj.cells ([Value.string ByteArray.empty, Value.string ByteArray.empty]).toArray ty_api_Entry (0, 0)) → (C_towpathlaw01_word n_ w1 (fun (v4 : ByteArray) w2 => Writable w2 b_ 0 2 ∧ (∀ w3, w3 = World.puts b_ 0 [Value.string v4, Value.string ByteArray.empty] w2 → (∃ (res : T_api_Entry), CellsAt w3 b_ 0 [Value.string res.Key, Value.string res.Val] ∧ (R res w3)))))

def F_towpathlaw01_markVersion (n_ : Int) (R : T_api_Version → World → Prop) (w : World) : Prop :=
  ∀ b_ w1, b_ = w.heap.size → w1 = w.alloc (Obj.cells ([Value.int .i64 0, Value.string ByteArray.empty, Value.bool false]).toArray ty_api_Version (0, 0)) → (Writable w1 b_ 0 3 ∧ (∀ w2, w2 = World.puts b_ 0 [Value.int .i64 (IntKind.i64.wrap ((-1000) - n_)), Value.string ByteArray.empty, Value.bool false] w1 → (∃ (res : T_api_Version), CellsAt w2 b_ 0 [Value.int .i64 res.Number, Value.string res.Val, Value.bool res.Drop] ∧ (R res w2))))

def F_towpathlaw01_markHeld (n_ : Int) (R : T_api_Held → World → Prop) (w : World) : Prop :=
  ∀ b_ w1, b_ = w.heap.size → w1 = w.alloc (Obj.cells ([Value.string ByteArray.empty, Value.slice none 0 0]).toArray ty_api_Held (0, 0)) → (C_towpathlaw01_word n_ w1 (fun (v4 : ByteArray) w2 => Writable w2 b_ 0 2 ∧ (∀ w3, w3 = World.puts b_ 0 [Value.string v4, Value.slice none 0 0] w2 → (∃ (res : T_api_Held), CellsAt w3 b_ 0 [Value.string res.Key, Value.slice res.Versions.ptr res.Versions.len res.Versions.cap] ∧ (R res w3)))))

def F_towpathlaw01_isInt (x : Int) (n_ : Int) (R : Bool → World → Prop) (w : World) : Prop :=
  R (x == (IntKind.i64.wrap ((-1000) - n_))) w

def F_towpathlaw01_isEntry (x : T_api_Entry) (n_ : Int) (R : Bool → World → Prop) (w : World) : Prop :=
  ∀ b_ w1, b_ = w.heap.size → w1 = w.alloc (Obj.cells ([Value.string x.Key, Value.string x.Val]).toArray ty_api_Entry (0, 0)) → (∀ w2, (∃ k, w2 = w1.drewN k) → (∃ (v5 : T_api_Entry), CellsAt w2 b_ 0 [Value.string v5.Key, Value.string v5.Val] ∧ (C_towpathlaw01_word n_ w2 (fun (v7 : ByteArray) w3 => CellsAt w3 b_ 0 [Value.string v5.Key, Value.string v5.Val] ∧ (R ((v5.Key == v7) && (v5.Val == ByteArray.empty)) w3)))))

def F_towpathlaw01_isVersion (x : T_api_Version) (n_ : Int) (R : Bool → World → Prop) (w : World) : Prop :=
  ∀ b_ w1, b_ = w.heap.size → w1 = w.alloc (Obj.cells ([Value.int .i64 x.Number, Value.string x.Val, Value.bool x.Drop]).toArray ty_api_Version (0, 0)) → (∃ (v5 : T_api_Version), CellsAt w1 b_ 0 [Value.int .i64 v5.Number, Value.string v5.Val, Value.bool v5.Drop] ∧ (R (((v5.Number == (IntKind.i64.wrap ((-1000) - n_))) && (v5.Val == ByteArray.empty)) && (v5.Drop == false)) w1))

def F_towpathlaw01_isHeld (x : T_api_Held) (n_ : Int) (R : Bool → World → Prop) (w : World) : Prop :=
  ∀ b_ w1, b_ = w.heap.size → w1 = w.alloc (Obj.cells ([Value.string x.Key, Value.slice x.Versions.ptr x.Versions.len x.Versions.cap]).toArray ty_api_Held (0, 0)) → (∀ w2, (∃ k, w2 = w1.drewN k) → (∃ (v6 : ByteArray), w2.cell? ⟨b_, 0, none⟩ = some (Value.string v6) ∧ (C_towpathlaw01_word n_ w2 (fun (v8 : ByteArray) w3 => w3.cell? ⟨b_, 0, none⟩ = some (Value.string v6) ∧ (((v6.toList == v8.toList) = true → (∃ (v12 : Slc), w3.cell? ⟨b_, 1, none⟩ = some (Value.slice v12.ptr v12.len v12.cap) ∧ (R (((v12.len : Nat) : Int) == 0) w3))) ∧
  ((v6.toList == v8.toList) = false → (R false w3)))))))

def F_call_Task_shards_1_L0 (yield : Value) (R : World → Prop) (v32 : Int) (again_ : Int → World → Prop) (t33 : Int) (w4 : World) : Prop :=
  ((decide (t33 < v32)) = true → (CallsY (P := Tryz.prog) yield #[Value.int .i64 t33] w4 (fun e' w5 => ∃ (v38 : Bool), e' = Ending.returned (Value.bool v38) ∧ (((!v38) = true → (R w5)) ∧
  ((!v38) = false → (again_ (IntKind.i64.wrap (t33 + 1)) w5)))))) ∧
  ((decide (t33 < v32)) = false → (R w4))

def F_call_Task_shards_1 (yield : Value) (t1 : Option Addr) (R : World → Prop) (w : World) : Prop :=
  IsAt t1 ∧ (∃ (v6 : Option Addr), w.cell? ⟨(pblk t1), (poff t1), none⟩ = some (Value.pointer v6) ∧ (IsAt v6 ∧ (∃ (v10 : Int), w.cell? ⟨(pblk v6), (poff v6) + 5, none⟩ = some (Value.int .u8 v10) ∧ (((v10 == 1) = true → (∀ w1, (∃ k, w1 = w.drewN k) → (IsAt t1 ∧ (∃ (v13 : Option Addr), w1.cell? ⟨(pblk t1), (poff t1), none⟩ = some (Value.pointer v13) ∧ (IsAt v13 ∧ (∃ (v16 : T_api_Config), CellsAt w1 (pblk v13) ((poff v13) + 1) [Value.int .i64 v16.Lanes, Value.int .i64 v16.Shards, Value.int .i64 v16.Window, Value.int .i64 v16.Queue] ∧ (∃ (v17 : Option Addr), w1.cell? ⟨(pblk t1), (poff t1), none⟩ = some (Value.pointer v17) ∧ (IsAt v17 ∧ (∃ (v21 : ByteArray), w1.cell? ⟨(pblk v17), (poff v17) + 6, none⟩ = some (Value.string v21) ∧ (C_conf_Shard v16 v21 w1 (fun (k_ : Int) (v22_1 : Int) w2 => (CallsY (P := Tryz.prog) yield #[Value.int .i64 k_] w2 (fun e' w3 => ∃ (v27 : Bool), e' = Ending.returned (Value.bool v27) ∧ (R w3)))))))))))))) ∧
  ((v10 == 1) = false → (IsAt t1 ∧ (∃ (v28 : Option Addr), w.cell? ⟨(pblk t1), (poff t1), none⟩ = some (Value.pointer v28) ∧ (IsAt v28 ∧ (∃ (v32 : Int), w.cell? ⟨(pblk v28), (poff v28) + 2, none⟩ = some (Value.int .i64 v32) ∧ (∃ (I : Int → World → Prop) (μ : Int → World → Nat), I 0 w ∧
  ∀ (t33 : Int) w, I t33 w → F_call_Task_shards_1_L0 yield R v32 (fun (t33' : Int) w' => I t33' w' ∧ μ t33' w' < μ t33 w) t33 w))))))))))

def F_conf_Shard (c : T_api_Config) (key : ByteArray) (R : Int → Int → World → Prop) (w : World) : Prop :=
  ∀ b_ w1, b_ = w.heap.size → w1 = w.alloc (Obj.cells ([Value.int .i64 c.Lanes, Value.int .i64 c.Shards, Value.int .i64 c.Window, Value.int .i64 c.Queue]).toArray ty_api_Config (0, 0)) → (∃ (v7 : T_api_Config), CellsAt w1 b_ 0 [Value.int .i64 v7.Lanes, Value.int .i64 v7.Shards, Value.int .i64 v7.Window, Value.int .i64 v7.Queue] ∧ (C_conf_Check v7 w1 (fun (v8 : Int) w2 => ((v8 != 0) = true → (R 0 v8 w2)) ∧
  ((v8 != 0) = false → ((((key.toList == ByteArray.empty.toList) || (decide (((key.size : Nat) : Int) > 64))) = true → (R 0 1 w2)) ∧
  (((key.toList == ByteArray.empty.toList) || (decide (((key.size : Nat) : Int) > 64))) = false → (∃ (v20 : Int), (∀ w', Ext w2 w' → C_sum_Hash key w' (fun (v20' : Int) w'' => v20' = v20 ∧ Ext w' w'')) ∧ (∃ (v22 : Int), w2.cell? ⟨b_, 1, none⟩ = some (Value.int .i64 v22) ∧ ((IntKind.u32.wrap v22) ≠ 0 ∧ (∀ w4, Ext w2 w4 → (R (IntKind.i64.wrap (Int.tmod v20 (IntKind.u32.wrap v22))) 0 w4)))))))))))

def F_towpathlaw01_TwinHeld (x : T_api_Held) (R : T_api_Held → World → Prop) (w : World) : Prop :=
  ∀ b_ w1, b_ = w.heap.size → w1 = w.alloc (Obj.cells ([Value.string x.Key, Value.slice x.Versions.ptr x.Versions.len x.Versions.cap]).toArray ty_api_Held (0, 0)) → (∀ b_1 w2, b_1 = w1.heap.size → w2 = w1.alloc (Obj.cells ([Value.string ByteArray.empty, Value.slice none 0 0]).toArray ty_api_Held (0, 0)) → (∀ w3, (∃ k, w3 = w2.drewN k) → (∃ (v4 : ByteArray), w3.cell? ⟨b_, 0, none⟩ = some (Value.string v4) ∧ (∃ (v6 : Slc), w3.cell? ⟨b_, 1, none⟩ = some (Value.slice v6.ptr v6.len v6.cap) ∧ (C_towpathlaw01_TwinVersions v6 w3 (fun (v7 : Slc) w4 => w4.cell? ⟨b_, 0, none⟩ = some (Value.string v4) ∧ (Writable w4 b_1 0 2 ∧ (∀ w5, w5 = World.puts b_1 0 [Value.string v4, Value.slice v7.ptr v7.len v7.cap] w4 → ((∃ (res : T_api_Held), CellsAt w5 b_1 0 [Value.string res.Key, Value.slice res.Versions.ptr res.Versions.len res.Versions.cap] ∧ (R res w5)))))))))))

def F_slices_Concat_api_Entry_api_Entry_L1 (slices : Slc) (R : Slc → World → Prop) (again_1 : Slc → Int → World → Prop) (newslice : Slc) (t27 : Int) (w3 : World) : Prop :=
  ((decide (t27 < ((slices.len : Nat) : Int))) = true → (IsAt slices.ptr ∧ (0 ≤ t27 ∧ t27 < ((slices.len : Nat) : Int) ∧ (∃ (s1 : Slc), w3.cell? ⟨(pblk slices.ptr), (poff slices.ptr) + t27.toNat, none⟩ = some (Value.slice s1.ptr s1.len s1.cap) ∧ (∃ src, SrcAt w3 s1 2 src ∧ AppendW 2 32 ty_api_Entry [Value.string ByteArray.empty, Value.string ByteArray.empty] newslice src s1.len w3 (fun newslice1 w4 => again_1 newslice1 (IntKind.i64.wrap (t27 + 1)) w4)))))) ∧
  ((decide (t27 < ((slices.len : Nat) : Int))) = false → (R newslice w3))

def F_slices_Concat_api_Entry_api_Entry_L0 (slices : Slc) (R : Slc → World → Prop) (again_ : Int → Int → World → Prop) (size : Int) (t11 : Int) (w1 : World) : Prop :=
  ((decide (t11 < ((slices.len : Nat) : Int))) = true → (IsAt slices.ptr ∧ (0 ≤ t11 ∧ t11 < ((slices.len : Nat) : Int) ∧ (∃ (s : Slc), w1.cell? ⟨(pblk slices.ptr), (poff slices.ptr) + t11.toNat, none⟩ = some (Value.slice s.ptr s.len s.cap) ∧ (((decide ((IntKind.i64.wrap (size + ((s.len : Nat) : Int))) < 0)) = true → (False)) ∧
  ((decide ((IntKind.i64.wrap (size + ((s.len : Nat) : Int))) < 0)) = false → (again_ (IntKind.i64.wrap (size + ((s.len : Nat) : Int))) (IntKind.i64.wrap (t11 + 1)) w1))))))) ∧
  ((decide (t11 < ((slices.len : Nat) : Int))) = false → (C_slices_Grow_api_Entry_api_Entry (Slc.mk none 0 0) size w1 (fun (v24 : Slc) w2 => ∃ (I : Slc → Int → World → Prop) (μ : Slc → Int → World → Nat), I v24 0 w2 ∧
  ∀ (newslice : Slc) (t27 : Int) w, I newslice t27 w → F_slices_Concat_api_Entry_api_Entry_L1 slices R (fun (newslice' : Slc) (t27' : Int) w' => I newslice' t27' w' ∧ μ newslice' t27' w' < μ newslice t27 w) newslice t27 w)))

def F_slices_Concat_api_Entry_api_Entry (slices : Slc) (R : Slc → World → Prop) (w : World) : Prop :=
  ∃ (I : Int → Int → World → Prop) (μ : Int → Int → World → Nat), I 0 0 w ∧
  ∀ (size : Int) (t11 : Int) w, I size t11 w → F_slices_Concat_api_Entry_api_Entry_L0 slices R (fun (size' : Int) (t11' : Int) w' => I size' t11' w' ∧ μ size' t11' w' < μ size t11 w) size t11 w

def F_slices_SortStableFunc_api_Entry_api_Entry (x : Slc) (cmp : Value) (R : World → Prop) (w : World) : Prop :=
  C_slices_stableCmpFunc_api_Entry x ((x.len : Nat) : Int) cmp w (fun w1 => R w1)

def F_call_entries_1 (a_ : T_api_Entry) (b_ : T_api_Entry) (R : Int → World → Prop) (w : World) : Prop :=
  ∀ b_1 w1, b_1 = w.heap.size → w1 = w.alloc (Obj.cells ([Value.string a_.Key, Value.string a_.Val]).toArray ty_api_Entry (0, 0)) → (∀ b_2 w2, b_2 = w1.heap.size → w2 = w1.alloc (Obj.cells ([Value.string b_.Key, Value.string b_.Val]).toArray ty_api_Entry (0, 0)) → (∃ (v6 : ByteArray), w2.cell? ⟨b_1, 0, none⟩ = some (Value.string v6) ∧ (∃ (v8 : ByteArray), w2.cell? ⟨b_2, 0, none⟩ = some (Value.string v8) ∧ (C_strings_Compare v6 v8 w2 (fun (v9 : Int) w3 => R v9 w3)))))

def F_slices_stableCmpFunc_api_Held_k3 (blockSize : Int) (again_1 : Int → World → Prop) (w7 : World) : Prop :=
  again_1 (IntKind.i64.wrap (blockSize * 2)) w7

def F_slices_stableCmpFunc_api_Held_L2 (data : Slc) (n_ : Int) (cmp : Value) (blockSize : Int) (again_1 : Int → World → Prop) (again_2 : Int → Int → World → Prop) (a_1 : Int) (b_1 : Int) (w5 : World) : Prop :=
  ((decide (b_1 ≤ n_)) = true → (C_slices_symMergeCmpFunc_api_Held data a_1 (IntKind.i64.wrap (a_1 + blockSize)) b_1 cmp w5 (fun w6 => again_2 b_1 (IntKind.i64.wrap (b_1 + (IntKind.i64.wrap (2 * blockSize)))) w6))) ∧
  ((decide (b_1 ≤ n_)) = false → (((decide ((IntKind.i64.wrap (a_1 + blockSize)) < n_)) = true → (C_slices_symMergeCmpFunc_api_Held data a_1 (IntKind.i64.wrap (a_1 + blockSize)) n_ cmp w5 (fun w8 => F_slices_stableCmpFunc_api_Held_k3 blockSize again_1 w8))) ∧
  ((decide ((IntKind.i64.wrap (a_1 + blockSize)) < n_)) = false → (F_slices_stableCmpFunc_api_Held_k3 blockSize again_1 w5))))

def F_slices_stableCmpFunc_api_Held_L1 (data : Slc) (n_ : Int) (cmp : Value) (R : World → Prop) (again_1 : Int → World → Prop) (blockSize : Int) (w4 : World) : Prop :=
  ((decide (blockSize < n_)) = true → (∃ (I : Int → Int → World → Prop) (μ : Int → Int → World → Nat), I 0 (IntKind.i64.wrap (2 * blockSize)) w4 ∧
  ∀ (a_1 : Int) (b_1 : Int) w, I a_1 b_1 w → F_slices_stableCmpFunc_api_Held_L2 data n_ cmp blockSize again_1 (fun (a_1' : Int) (b_1' : Int) w' => I a_1' b_1' w' ∧ μ a_1' b_1' w' < μ a_1 b_1 w) a_1 b_1 w)) ∧
  ((decide (blockSize < n_)) = false → (R w4))

def F_slices_stableCmpFunc_api_Held_L0 (data : Slc) (n_ : Int) (cmp : Value) (R : World → Prop) (again_ : Int → Int → World → Prop) (a_ : Int) (b_ : Int) (w1 : World) : Prop :=
  ((decide (b_ ≤ n_)) = true → (C_slices_insertionSortCmpFunc_api_Held data a_ b_ cmp w1 (fun w2 => again_ b_ (IntKind.i64.wrap (b_ + 20)) w2))) ∧
  ((decide (b_ ≤ n_)) = false → (C_slices_insertionSortCmpFunc_api_Held data a_ n_ cmp w1 (fun w3 => ∃ (I : Int → World → Prop) (μ : Int → World → Nat), I 20 w3 ∧
  ∀ (blockSize : Int) w, I blockSize w → F_slices_stableCmpFunc_api_Held_L1 data n_ cmp R (fun (blockSize' : Int) w' => I blockSize' w' ∧ μ blockSize' w' < μ blockSize w) blockSize w)))

def F_slices_stableCmpFunc_api_Held (data : Slc) (n_ : Int) (cmp : Value) (R : World → Prop) (w : World) : Prop :=
  ∃ (I : Int → Int → World → Prop) (μ : Int → Int → World → Nat), I 0 20 w ∧
  ∀ (a_ : Int) (b_ : Int) w, I a_ b_ w → F_slices_stableCmpFunc_api_Held_L0 data n_ cmp R (fun (a_' : Int) (b_' : Int) w' => I a_' b_' w' ∧ μ a_' b_' w' < μ a_ b_ w) a_ b_ w

def F_towpathlaw01_Book_keepInt (b_ : Option Addr) (l_ : Slc) (R : World → Prop) (w : World) : Prop :=
  IsAt b_ ∧ (∃ (v7 : Int), w.cell? ⟨(pblk b_), (poff b_), none⟩ = some (Value.int .i64 v7) ∧ (Writable w (pblk b_) (poff b_) 1 ∧ (∀ w1, w1 = World.puts (pblk b_) (poff b_) [Value.int .i64 (IntKind.i64.wrap (v7 + 1))] w → (∀ w2, (∃ k, w2 = w1.drewN k) → (IsAt b_ ∧ (∃ (v15 : Slc), w2.cell? ⟨(pblk b_), (poff b_) + 2, none⟩ = some (Value.slice v15.ptr v15.len v15.cap) ∧ (IsAt b_ ∧ (∃ (v20 : Int), w2.cell? ⟨(pblk b_), (poff b_), none⟩ = some (Value.int .i64 v20) ∧ (∀ b_1 w3, b_1 = w2.heap.size → w3 = w2.alloc (Obj.cells ([Value.slice l_.ptr l_.len l_.cap, Value.slice none 0 0, Value.int .i64 v20]).toArray ty_towpathlaw01_heldInt (0, 0)) → (w3.cell? ⟨(pblk b_), (poff b_) + 2, none⟩ = some (Value.slice v15.ptr v15.len v15.cap) ∧ (∃ src, SrcAt w3 (Slc.mk (some ⟨b_1, 0, none⟩) 1 1) 3 src ∧ AppendW 3 56 ty_towpathlaw01_heldInt [Value.slice none 0 0, Value.slice none 0 0, Value.int .i64 0] v15 src 1 w3 (fun v23 w4 => (IsAt b_ ∧ (Writable w4 (pblk b_) ((poff b_) + 2) 1 ∧ (∀ w5, w5 = World.puts (pblk b_) ((poff b_) + 2) [Value.slice v23.ptr v23.len v23.cap] w4 → ((R w5)))))))))))))))))

def F_towpathlaw01_Book_keepEntry (b_ : Option Addr) (l_ : Slc) (R : World → Prop) (w : World) : Prop :=
  IsAt b_ ∧ (∃ (v7 : Int), w.cell? ⟨(pblk b_), (poff b_), none⟩ = some (Value.int .i64 v7) ∧ (Writable w (pblk b_) (poff b_) 1 ∧ (∀ w1, w1 = World.puts (pblk b_) (poff b_) [Value.int .i64 (IntKind.i64.wrap (v7 + 1))] w → (∀ w2, (∃ k, w2 = w1.drewN k) → (IsAt b_ ∧ (∃ (v15 : Slc), w2.cell? ⟨(pblk b_), (poff b_) + 5, none⟩ = some (Value.slice v15.ptr v15.len v15.cap) ∧ (IsAt b_ ∧ (∃ (v20 : Int), w2.cell? ⟨(pblk b_), (poff b_), none⟩ = some (Value.int .i64 v20) ∧ (∀ b_1 w3, b_1 = w2.heap.size → w3 = w2.alloc (Obj.cells ([Value.slice l_.ptr l_.len l_.cap, Value.slice none 0 0, Value.int .i64 v20]).toArray ty_towpathlaw01_heldEntry (0, 0)) → (w3.cell? ⟨(pblk b_), (poff b_) + 5, none⟩ = some (Value.slice v15.ptr v15.len v15.cap) ∧ (∃ src, SrcAt w3 (Slc.mk (some ⟨b_1, 0, none⟩) 1 1) 3 src ∧ AppendW 3 56 ty_towpathlaw01_heldEntry [Value.slice none 0 0, Value.slice none 0 0, Value.int .i64 0] v15 src 1 w3 (fun v23 w4 => (IsAt b_ ∧ (Writable w4 (pblk b_) ((poff b_) + 5) 1 ∧ (∀ w5, w5 = World.puts (pblk b_) ((poff b_) + 5) [Value.slice v23.ptr v23.len v23.cap] w4 → ((R w5)))))))))))))))))

def F_towpathlaw01_Book_keepVersion (b_ : Option Addr) (l_ : Slc) (R : World → Prop) (w : World) : Prop :=
  IsAt b_ ∧ (∃ (v7 : Int), w.cell? ⟨(pblk b_), (poff b_), none⟩ = some (Value.int .i64 v7) ∧ (Writable w (pblk b_) (poff b_) 1 ∧ (∀ w1, w1 = World.puts (pblk b_) (poff b_) [Value.int .i64 (IntKind.i64.wrap (v7 + 1))] w → (∀ w2, (∃ k, w2 = w1.drewN k) → (IsAt b_ ∧ (∃ (v15 : Slc), w2.cell? ⟨(pblk b_), (poff b_) + 6, none⟩ = some (Value.slice v15.ptr v15.len v15.cap) ∧ (IsAt b_ ∧ (∃ (v20 : Int), w2.cell? ⟨(pblk b_), (poff b_), none⟩ = some (Value.int .i64 v20) ∧ (∀ b_1 w3, b_1 = w2.heap.size → w3 = w2.alloc (Obj.cells ([Value.slice l_.ptr l_.len l_.cap, Value.slice none 0 0, Value.int .i64 v20]).toArray ty_towpathlaw01_heldVersion (0, 0)) → (w3.cell? ⟨(pblk b_), (poff b_) + 6, none⟩ = some (Value.slice v15.ptr v15.len v15.cap) ∧ (∃ src, SrcAt w3 (Slc.mk (some ⟨b_1, 0, none⟩) 1 1) 3 src ∧ AppendW 3 56 ty_towpathlaw01_heldVersion [Value.slice none 0 0, Value.slice none 0 0, Value.int .i64 0] v15 src 1 w3 (fun v23 w4 => (IsAt b_ ∧ (Writable w4 (pblk b_) ((poff b_) + 6) 1 ∧ (∀ w5, w5 = World.puts (pblk b_) ((poff b_) + 6) [Value.slice v23.ptr v23.len v23.cap] w4 → ((R w5)))))))))))))))))

def F_towpathlaw01_word (n_ : Int) (R : ByteArray → World → Prop) (w : World) : Prop :=
  C_strconv_Itoa n_ w (fun (v4 : ByteArray) w1 => (((ByteArray.mk #[35]).size + v4.size : Nat) : Int) ≤ 9223372036854775807 ∧ (R ((ByteArray.mk #[35]) ++ v4) w1))

def F_sum_Hash_L0 (key : ByteArray) (R : Int → World → Prop) (again_ : Int → Int → World → Prop) (h_ : Int) (t7 : Int) (w1 : World) : Prop :=
  ((decide (t7 < ((key.size : Nat) : Int))) = true → (0 ≤ t7 ∧ t7 < ((key.size : Nat) : Int) ∧ (again_ (IntKind.u32.wrap ((bxor .u32 h_ (IntKind.u32.wrap (byteAt key t7))) * 16777619)) (IntKind.i64.wrap (t7 + 1)) w1))) ∧
  ((decide (t7 < ((key.size : Nat) : Int))) = false → (R h_ w1))

def F_sum_Hash (key : ByteArray) (R : Int → World → Prop) (w : World) : Prop :=
  ∃ (I : Int → Int → World → Prop) (μ : Int → Int → World → Nat), I 2166136261 0 w ∧
  ∀ (h_ : Int) (t7 : Int) w, I h_ t7 w → F_sum_Hash_L0 key R (fun (h_' : Int) (t7' : Int) w' => I h_' t7' w' ∧ μ h_' t7' w' < μ h_ t7 w) h_ t7 w

def F_towpathlaw01_TwinVersions_L0 (l_ : Slc) (R : Slc → World → Prop) (again_ : Slc → Int → World → Prop) (t_ : Slc) (i : Int) (w2 : World) : Prop :=
  ((decide (i < ((l_.len : Nat) : Int))) = true → (IsAt l_.ptr ∧ (0 ≤ i ∧ i < ((l_.len : Nat) : Int) ∧ (∃ (v19 : T_api_Version), CellsAt w2 (pblk l_.ptr) ((poff l_.ptr) + i.toNat * 3) [Value.int .i64 v19.Number, Value.string v19.Val, Value.bool v19.Drop] ∧ (∀ b_1 w3, b_1 = w2.heap.size → w3 = w2.alloc (Obj.cells ([Value.int .i64 v19.Number, Value.string v19.Val, Value.bool v19.Drop]).toArray ty_api_Version (0, 0)) → (∃ src, SrcAt w3 (Slc.mk (some ⟨b_1, 0, none⟩) 1 1) 3 src ∧ AppendW 3 32 ty_api_Version [Value.int .i64 0, Value.string ByteArray.empty, Value.bool false] t_ src 1 w3 (fun t_1 w4 => again_ t_1 (IntKind.i64.wrap (i + 1)) w4))))))) ∧
  ((decide (i < ((l_.len : Nat) : Int))) = false → (∀ b_2 w5, b_2 = w2.heap.size → w5 = w2.alloc (Obj.cells ([Value.int .i64 7777, Value.string ByteArray.empty, Value.bool false]).toArray ty_api_Version (0, 0)) → (∃ src, SrcAt w5 (Slc.mk (some ⟨b_2, 0, none⟩) 1 1) 3 src ∧ AppendW 3 32 ty_api_Version [Value.int .i64 0, Value.string ByteArray.empty, Value.bool false] t_ src 1 w5 (fun v25 w6 => 0 ≤ ((l_.len : Nat) : Int) ∧ ((l_.len : Nat) : Int) ≤ ((v25.cap : Nat) : Int) ∧ (R (Slc.mk v25.ptr (((l_.len : Nat) : Int).toNat) v25.cap) w6)))))

def F_towpathlaw01_TwinVersions (l_ : Slc) (R : Slc → World → Prop) (w : World) : Prop :=
  0 ≤ (0 : Int) ∧ (0 : Int) ≤ IntKind.i64.wrap (((l_.len : Nat) : Int) + 1) ∧ (32 : Int) * (IntKind.i64.wrap (((l_.len : Nat) : Int) + 1)) ≤ 281474976710656 ∧ (∀ b_ w1, b_ = w.heap.size → w1 = w.alloc (Obj.cells (repCells ((IntKind.i64.wrap (((l_.len : Nat) : Int) + 1)).toNat) [Value.int .i64 0, Value.string ByteArray.empty, Value.bool false]) ty_api_Version (0, 0)) → (∃ (I : Slc → Int → World → Prop) (μ : Slc → Int → World → Nat), I (Slc.mk (some ⟨b_, 0, none⟩) 0 ((IntKind.i64.wrap (((l_.len : Nat) : Int) + 1)).toNat)) 0 w1 ∧
  ∀ (t_ : Slc) (i : Int) w, I t_ i w → F_towpathlaw01_TwinVersions_L0 l_ R (fun (t_' : Slc) (i' : Int) w' => I t_' i' w' ∧ μ t_' i' w' < μ t_ i w) t_ i w))

def F_slices_Grow_api_Entry_api_Entry_k0 (R : Slc → World → Prop) (s1 : Slc) (w1 : World) : Prop :=
  R s1 w1

def F_slices_Grow_api_Entry_api_Entry (s : Slc) (n_ : Int) (R : Slc → World → Prop) (w : World) : Prop :=
  ((decide (n_ < 0)) = true → (False)) ∧
  ((decide (n_ < 0)) = false → (((decide ((IntKind.i64.wrap (n_ - (IntKind.i64.wrap (((s.cap : Nat) : Int) - ((s.len : Nat) : Int))))) > 0)) = true → (0 ≤ ((s.cap : Nat) : Int) ∧ ((s.cap : Nat) : Int) ≤ ((s.cap : Nat) : Int) ∧ (0 ≤ IntKind.i64.wrap (n_ - (IntKind.i64.wrap (((s.cap : Nat) : Int) - ((s.len : Nat) : Int)))) ∧ IntKind.i64.wrap (n_ - (IntKind.i64.wrap (((s.cap : Nat) : Int) - ((s.len : Nat) : Int)))) * (32 : Int) ≤ 281474976710656 ∧ AppendW 2 32 ty_api_Entry [Value.string ByteArray.empty, Value.string ByteArray.empty] (Slc.mk s.ptr (((s.cap : Nat) : Int).toNat) s.cap) (repCells ((IntKind.i64.wrap (n_ - (IntKind.i64.wrap (((s.cap : Nat) : Int) - ((s.len : Nat) : Int))))).toNat) [Value.string ByteArray.empty, Value.string ByteArray.empty]).toList ((IntKind.i64.wrap (n_ - (IntKind.i64.wrap (((s.cap : Nat) : Int) - ((s.len : Nat) : Int))))).toNat) w (fun v22 w2 => 0 ≤ ((s.len : Nat) : Int) ∧ ((s.len : Nat) : Int) ≤ ((v22.cap : Nat) : Int) ∧ (F_slices_Grow_api_Entry_api_Entry_k0 R (Slc.mk v22.ptr (((s.len : Nat) : Int).toNat) v22.cap) w2))))) ∧
  ((decide ((IntKind.i64.wrap (n_ - (IntKind.i64.wrap (((s.cap : Nat) : Int) - ((s.len : Nat) : Int))))) > 0)) = false → (F_slices_Grow_api_Entry_api_Entry_k0 R s w))))

def F_slices_stableCmpFunc_api_Entry_k3 (blockSize : Int) (again_1 : Int → World → Prop) (w7 : World) : Prop :=
  again_1 (IntKind.i64.wrap (blockSize * 2)) w7

def F_slices_stableCmpFunc_api_Entry_L2 (data : Slc) (n_ : Int) (cmp : Value) (blockSize : Int) (again_1 : Int → World → Prop) (again_2 : Int → Int → World → Prop) (a_1 : Int) (b_1 : Int) (w5 : World) : Prop :=
  ((decide (b_1 ≤ n_)) = true → (C_slices_symMergeCmpFunc_api_Entry data a_1 (IntKind.i64.wrap (a_1 + blockSize)) b_1 cmp w5 (fun w6 => again_2 b_1 (IntKind.i64.wrap (b_1 + (IntKind.i64.wrap (2 * blockSize)))) w6))) ∧
  ((decide (b_1 ≤ n_)) = false → (((decide ((IntKind.i64.wrap (a_1 + blockSize)) < n_)) = true → (C_slices_symMergeCmpFunc_api_Entry data a_1 (IntKind.i64.wrap (a_1 + blockSize)) n_ cmp w5 (fun w8 => F_slices_stableCmpFunc_api_Entry_k3 blockSize again_1 w8))) ∧
  ((decide ((IntKind.i64.wrap (a_1 + blockSize)) < n_)) = false → (F_slices_stableCmpFunc_api_Entry_k3 blockSize again_1 w5))))

def F_slices_stableCmpFunc_api_Entry_L1 (data : Slc) (n_ : Int) (cmp : Value) (R : World → Prop) (again_1 : Int → World → Prop) (blockSize : Int) (w4 : World) : Prop :=
  ((decide (blockSize < n_)) = true → (∃ (I : Int → Int → World → Prop) (μ : Int → Int → World → Nat), I 0 (IntKind.i64.wrap (2 * blockSize)) w4 ∧
  ∀ (a_1 : Int) (b_1 : Int) w, I a_1 b_1 w → F_slices_stableCmpFunc_api_Entry_L2 data n_ cmp blockSize again_1 (fun (a_1' : Int) (b_1' : Int) w' => I a_1' b_1' w' ∧ μ a_1' b_1' w' < μ a_1 b_1 w) a_1 b_1 w)) ∧
  ((decide (blockSize < n_)) = false → (R w4))

def F_slices_stableCmpFunc_api_Entry_L0 (data : Slc) (n_ : Int) (cmp : Value) (R : World → Prop) (again_ : Int → Int → World → Prop) (a_ : Int) (b_ : Int) (w1 : World) : Prop :=
  ((decide (b_ ≤ n_)) = true → (C_slices_insertionSortCmpFunc_api_Entry data a_ b_ cmp w1 (fun w2 => again_ b_ (IntKind.i64.wrap (b_ + 20)) w2))) ∧
  ((decide (b_ ≤ n_)) = false → (C_slices_insertionSortCmpFunc_api_Entry data a_ n_ cmp w1 (fun w3 => ∃ (I : Int → World → Prop) (μ : Int → World → Nat), I 20 w3 ∧
  ∀ (blockSize : Int) w, I blockSize w → F_slices_stableCmpFunc_api_Entry_L1 data n_ cmp R (fun (blockSize' : Int) w' => I blockSize' w' ∧ μ blockSize' w' < μ blockSize w) blockSize w)))

def F_slices_stableCmpFunc_api_Entry (data : Slc) (n_ : Int) (cmp : Value) (R : World → Prop) (w : World) : Prop :=
  ∃ (I : Int → Int → World → Prop) (μ : Int → Int → World → Nat), I 0 20 w ∧
  ∀ (a_ : Int) (b_ : Int) w, I a_ b_ w → F_slices_stableCmpFunc_api_Entry_L0 data n_ cmp R (fun (a_' : Int) (b_' : Int) w' => I a_' b_' w' ∧ μ a_' b_' w' < μ a_ b_ w) a_ b_ w

def F_slices_insertionSortCmpFunc_api_Held_k2 (data : Slc) (i : Int) (again_ : Int → World → Prop) (j : Int) (again_1 : Int → World → Prop) (t34 : Bool) (w3 : World) : Prop :=
  (t34 = true → (∀ w4, (∃ k, w4 = w3.drewN k) → (IsAt data.ptr ∧ (0 ≤ IntKind.i64.wrap (j - 1) ∧ IntKind.i64.wrap (j - 1) < ((data.len : Nat) : Int) ∧ (∃ (v46 : T_api_Held), CellsAt w4 (pblk data.ptr) ((poff data.ptr) + (IntKind.i64.wrap (j - 1)).toNat * 2) [Value.string v46.Key, Value.slice v46.Versions.ptr v46.Versions.len v46.Versions.cap] ∧ (IsAt data.ptr ∧ (0 ≤ j ∧ j < ((data.len : Nat) : Int) ∧ (∃ (v50 : T_api_Held), CellsAt w4 (pblk data.ptr) ((poff data.ptr) + j.toNat * 2) [Value.string v50.Key, Value.slice v50.Versions.ptr v50.Versions.len v50.Versions.cap] ∧ (IsAt data.ptr ∧ (0 ≤ j ∧ j < ((data.len : Nat) : Int) ∧ (Writable w4 (pblk data.ptr) ((poff data.ptr) + j.toNat * 2) 2 ∧ (∀ w5, w5 = World.puts (pblk data.ptr) ((poff data.ptr) + j.toNat * 2) [Value.string v46.Key, Value.slice v46.Versions.ptr v46.Versions.len v46.Versions.cap] w4 → ((IsAt data.ptr ∧ (0 ≤ IntKind.i64.wrap (j - 1) ∧ IntKind.i64.wrap (j - 1) < ((data.len : Nat) : Int) ∧ (Writable w5 (pblk data.ptr) ((poff data.ptr) + (IntKind.i64.wrap (j - 1)).toNat * 2) 2 ∧ (∀ w6, w6 = World.puts (pblk data.ptr) ((poff data.ptr) + (IntKind.i64.wrap (j - 1)).toNat * 2) [Value.string v50.Key, Value.slice v50.Versions.ptr v50.Versions.len v50.Versions.cap] w5 → ((again_1 (IntKind.i64.wrap (j - 1)) w6))))))))))))))))))) ∧
  (t34 = false → (again_ (IntKind.i64.wrap (i + 1)) w3))

def F_slices_insertionSortCmpFunc_api_Held_L1 (data : Slc) (a_ : Int) (cmp : Value) (i : Int) (again_ : Int → World → Prop) (again_1 : Int → World → Prop) (j : Int) (w2 : World) : Prop :=
  ∀ w7, (∃ k, w7 = w2.drewN k) → (((decide (j > a_)) = true → (IsAt data.ptr ∧ (0 ≤ j ∧ j < ((data.len : Nat) : Int) ∧ (∃ (v26 : T_api_Held), CellsAt w7 (pblk data.ptr) ((poff data.ptr) + j.toNat * 2) [Value.string v26.Key, Value.slice v26.Versions.ptr v26.Versions.len v26.Versions.cap] ∧ (IsAt data.ptr ∧ (0 ≤ IntKind.i64.wrap (j - 1) ∧ IntKind.i64.wrap (j - 1) < ((data.len : Nat) : Int) ∧ (∃ (v31 : T_api_Held), CellsAt w7 (pblk data.ptr) ((poff data.ptr) + (IntKind.i64.wrap (j - 1)).toNat * 2) [Value.string v31.Key, Value.slice v31.Versions.ptr v31.Versions.len v31.Versions.cap] ∧ (CallsV (P := Tryz.prog) cmp #[Value.agg #[Value.string v26.Key, Value.slice v26.Versions.ptr v26.Versions.len v26.Versions.cap], Value.agg #[Value.string v31.Key, Value.slice v31.Versions.ptr v31.Versions.len v31.Versions.cap]] w7 (fun e' w8 => ∃ (v32 : Int), e' = Ending.returned (Value.int .i64 v32) ∧ (F_slices_insertionSortCmpFunc_api_Held_k2 data i again_ j again_1 (decide (v32 < 0)) w8)))))))))) ∧
  ((decide (j > a_)) = false → (F_slices_insertionSortCmpFunc_api_Held_k2 data i again_ j again_1 false w7)))

def F_slices_insertionSortCmpFunc_api_Held_L0 (data : Slc) (a_ : Int) (b_ : Int) (cmp : Value) (R : World → Prop) (again_ : Int → World → Prop) (i : Int) (w1 : World) : Prop :=
  ((decide (i < b_)) = true → (∃ (I : Int → World → Prop) (μ : Int → World → Nat), I i w1 ∧
  ∀ (j : Int) w, I j w → F_slices_insertionSortCmpFunc_api_Held_L1 data a_ cmp i again_ (fun (j' : Int) w' => I j' w' ∧ μ j' w' < μ j w) j w)) ∧
  ((decide (i < b_)) = false → (R w1))

def F_slices_insertionSortCmpFunc_api_Held (data : Slc) (a_ : Int) (b_ : Int) (cmp : Value) (R : World → Prop) (w : World) : Prop :=
  ∃ (I : Int → World → Prop) (μ : Int → World → Nat), I (IntKind.i64.wrap (a_ + 1)) w ∧
  ∀ (i : Int) w, I i w → F_slices_insertionSortCmpFunc_api_Held_L0 data a_ b_ cmp R (fun (i' : Int) w' => I i' w' ∧ μ i' w' < μ i w) i w

def F_slices_symMergeCmpFunc_api_Held_L1 (data : Slc) (R : World → Prop) (i : Int) (again_1 : Int → World → Prop) (k_ : Int) (w4 : World) : Prop :=
  ((decide (k_ < (IntKind.i64.wrap (i - 1)))) = true → (∀ w5, (∃ k, w5 = w4.drewN k) → (IsAt data.ptr ∧ (0 ≤ IntKind.i64.wrap (k_ + 1) ∧ IntKind.i64.wrap (k_ + 1) < ((data.len : Nat) : Int) ∧ (∃ (v70 : T_api_Held), CellsAt w5 (pblk data.ptr) ((poff data.ptr) + (IntKind.i64.wrap (k_ + 1)).toNat * 2) [Value.string v70.Key, Value.slice v70.Versions.ptr v70.Versions.len v70.Versions.cap] ∧ (IsAt data.ptr ∧ (0 ≤ k_ ∧ k_ < ((data.len : Nat) : Int) ∧ (∃ (v74 : T_api_Held), CellsAt w5 (pblk data.ptr) ((poff data.ptr) + k_.toNat * 2) [Value.string v74.Key, Value.slice v74.Versions.ptr v74.Versions.len v74.Versions.cap] ∧ (IsAt data.ptr ∧ (0 ≤ k_ ∧ k_ < ((data.len : Nat) : Int) ∧ (Writable w5 (pblk data.ptr) ((poff data.ptr) + k_.toNat * 2) 2 ∧ (∀ w6, w6 = World.puts (pblk data.ptr) ((poff data.ptr) + k_.toNat * 2) [Value.string v70.Key, Value.slice v70.Versions.ptr v70.Versions.len v70.Versions.cap] w5 → ((IsAt data.ptr ∧ (0 ≤ IntKind.i64.wrap (k_ + 1) ∧ IntKind.i64.wrap (k_ + 1) < ((data.len : Nat) : Int) ∧ (Writable w6 (pblk data.ptr) ((poff data.ptr) + (IntKind.i64.wrap (k_ + 1)).toNat * 2) 2 ∧ (∀ w7, w7 = World.puts (pblk data.ptr) ((poff data.ptr) + (IntKind.i64.wrap (k_ + 1)).toNat * 2) [Value.string v74.Key, Value.slice v74.Versions.ptr v74.Versions.len v74.Versions.cap] w6 → ((again_1 (IntKind.i64.wrap (k_ + 1)) w7))))))))))))))))))) ∧
  ((decide (k_ < (IntKind.i64.wrap (i - 1)))) = false → (R w4))

def F_slices_symMergeCmpFunc_api_Held_L0 (data : Slc) (a_ : Int) (cmp : Value) (R : World → Prop) (again_ : Int → Int → World → Prop) (i : Int) (j : Int) (w1 : World) : Prop :=
  ((decide (i < j)) = true → (∀ w2, (∃ k, w2 = w1.drewN k) → (IsAt data.ptr ∧ (0 ≤ IntKind.i64.wrap (Int.fdiv (IntKind.u64.wrap (IntKind.i64.wrap (i + j))) (2 ^ 1)) ∧ IntKind.i64.wrap (Int.fdiv (IntKind.u64.wrap (IntKind.i64.wrap (i + j))) (2 ^ 1)) < ((data.len : Nat) : Int) ∧ (∃ (v44 : T_api_Held), CellsAt w2 (pblk data.ptr) ((poff data.ptr) + (IntKind.i64.wrap (Int.fdiv (IntKind.u64.wrap (IntKind.i64.wrap (i + j))) (2 ^ 1))).toNat * 2) [Value.string v44.Key, Value.slice v44.Versions.ptr v44.Versions.len v44.Versions.cap] ∧ (IsAt data.ptr ∧ (0 ≤ a_ ∧ a_ < ((data.len : Nat) : Int) ∧ (∃ (v48 : T_api_Held), CellsAt w2 (pblk data.ptr) ((poff data.ptr) + a_.toNat * 2) [Value.string v48.Key, Value.slice v48.Versions.ptr v48.Versions.len v48.Versions.cap] ∧ (CallsV (P := Tryz.prog) cmp #[Value.agg #[Value.string v44.Key, Value.slice v44.Versions.ptr v44.Versions.len v44.Versions.cap], Value.agg #[Value.string v48.Key, Value.slice v48.Versions.ptr v48.Versions.len v48.Versions.cap]] w2 (fun e' w3 => ∃ (v49 : Int), e' = Ending.returned (Value.int .i64 v49) ∧ (((decide (v49 < 0)) = true → (again_ (IntKind.i64.wrap ((IntKind.i64.wrap (Int.fdiv (IntKind.u64.wrap (IntKind.i64.wrap (i + j))) (2 ^ 1))) + 1)) j w3)) ∧
  ((decide (v49 < 0)) = false → (again_ i (IntKind.i64.wrap (Int.fdiv (IntKind.u64.wrap (IntKind.i64.wrap (i + j))) (2 ^ 1))) w3))))))))))))) ∧
  ((decide (i < j)) = false → (∃ (I : Int → World → Prop) (μ : Int → World → Nat), I a_ w1 ∧
  ∀ (k_ : Int) w, I k_ w → F_slices_symMergeCmpFunc_api_Held_L1 data R i (fun (k_' : Int) w' => I k_' w' ∧ μ k_' w' < μ k_ w) k_ w))

def F_slices_symMergeCmpFunc_api_Held_L3 (data : Slc) (R : World → Prop) (i1 : Int) (again_3 : Int → World → Prop) (k_1 : Int) (w11 : World) : Prop :=
  ((decide (k_1 > i1)) = true → (∀ w12, (∃ k, w12 = w11.drewN k) → (IsAt data.ptr ∧ (0 ≤ IntKind.i64.wrap (k_1 - 1) ∧ IntKind.i64.wrap (k_1 - 1) < ((data.len : Nat) : Int) ∧ (∃ (v122 : T_api_Held), CellsAt w12 (pblk data.ptr) ((poff data.ptr) + (IntKind.i64.wrap (k_1 - 1)).toNat * 2) [Value.string v122.Key, Value.slice v122.Versions.ptr v122.Versions.len v122.Versions.cap] ∧ (IsAt data.ptr ∧ (0 ≤ k_1 ∧ k_1 < ((data.len : Nat) : Int) ∧ (∃ (v126 : T_api_Held), CellsAt w12 (pblk data.ptr) ((poff data.ptr) + k_1.toNat * 2) [Value.string v126.Key, Value.slice v126.Versions.ptr v126.Versions.len v126.Versions.cap] ∧ (IsAt data.ptr ∧ (0 ≤ k_1 ∧ k_1 < ((data.len : Nat) : Int) ∧ (Writable w12 (pblk data.ptr) ((poff data.ptr) + k_1.toNat * 2) 2 ∧ (∀ w13, w13 = World.puts (pblk data.ptr) ((poff data.ptr) + k_1.toNat * 2) [Value.string v122.Key, Value.slice v122.Versions.ptr v122.Versions.len v122.Versions.cap] w12 → ((IsAt data.ptr ∧ (0 ≤ IntKind.i64.wrap (k_1 - 1) ∧ IntKind.i64.wrap (k_1 - 1) < ((data.len : Nat) : Int) ∧ (Writable w13 (pblk data.ptr) ((poff data.ptr) + (IntKind.i64.wrap (k_1 - 1)).toNat * 2) 2 ∧ (∀ w14, w14 = World.puts (pblk data.ptr) ((poff data.ptr) + (IntKind.i64.wrap (k_1 - 1)).toNat * 2) [Value.string v126.Key, Value.slice v126.Versions.ptr v126.Versions.len v126.Versions.cap] w13 → ((again_3 (IntKind.i64.wrap (k_1 - 1)) w14))))))))))))))))))) ∧
  ((decide (k_1 > i1)) = false → (R w11))

def F_slices_symMergeCmpFunc_api_Held_L2 (data : Slc) (m_ : Int) (cmp : Value) (R : World → Prop) (again_2 : Int → Int → World → Prop) (i1 : Int) (j1 : Int) (w8 : World) : Prop :=
  ((decide (i1 < j1)) = true → (∀ w9, (∃ k, w9 = w8.drewN k) → (IsAt data.ptr ∧ (0 ≤ m_ ∧ m_ < ((data.len : Nat) : Int) ∧ (∃ (v96 : T_api_Held), CellsAt w9 (pblk data.ptr) ((poff data.ptr) + m_.toNat * 2) [Value.string v96.Key, Value.slice v96.Versions.ptr v96.Versions.len v96.Versions.cap] ∧ (IsAt data.ptr ∧ (0 ≤ IntKind.i64.wrap (Int.fdiv (IntKind.u64.wrap (IntKind.i64.wrap (i1 + j1))) (2 ^ 1)) ∧ IntKind.i64.wrap (Int.fdiv (IntKind.u64.wrap (IntKind.i64.wrap (i1 + j1))) (2 ^ 1)) < ((data.len : Nat) : Int) ∧ (∃ (v100 : T_api_Held), CellsAt w9 (pblk data.ptr) ((poff data.ptr) + (IntKind.i64.wrap (Int.fdiv (IntKind.u64.wrap (IntKind.i64.wrap (i1 + j1))) (2 ^ 1))).toNat * 2) [Value.string v100.Key, Value.slice v100.Versions.ptr v100.Versions.len v100.Versions.cap] ∧ (CallsV (P := Tryz.prog) cmp #[Value.agg #[Value.string v96.Key, Value.slice v96.Versions.ptr v96.Versions.len v96.Versions.cap], Value.agg #[Value.string v100.Key, Value.slice v100.Versions.ptr v100.Versions.len v100.Versions.cap]] w9 (fun e' w10 => ∃ (v101 : Int), e' = Ending.returned (Value.int .i64 v101) ∧ (((!(decide (v101 < 0))) = true → (again_2 (IntKind.i64.wrap ((IntKind.i64.wrap (Int.fdiv (IntKind.u64.wrap (IntKind.i64.wrap (i1 + j1))) (2 ^ 1))) + 1)) j1 w10)) ∧
  ((!(decide (v101 < 0))) = false → (again_2 i1 (IntKind.i64.wrap (Int.fdiv (IntKind.u64.wrap (IntKind.i64.wrap (i1 + j1))) (2 ^ 1))) w10))))))))))))) ∧
  ((decide (i1 < j1)) = false → (∃ (I : Int → World → Prop) (μ : Int → World → Nat), I m_ w8 ∧
  ∀ (k_1 : Int) w, I k_1 w → F_slices_symMergeCmpFunc_api_Held_L3 data R i1 (fun (k_1' : Int) w' => I k_1' w' ∧ μ k_1' w' < μ k_1 w) k_1 w))

def F_slices_symMergeCmpFunc_api_Held_k7 (data : Slc) (a_ : Int) (m_ : Int) (b_ : Int) (cmp : Value) (R : World → Prop) (start1 : Int) (w20 : World) : Prop :=
  (((decide ((IntKind.i64.wrap (Int.fdiv (IntKind.u64.wrap (IntKind.i64.wrap (a_ + b_))) (2 ^ 1))) < (IntKind.i64.wrap ((IntKind.i64.wrap ((IntKind.i64.wrap (Int.fdiv (IntKind.u64.wrap (IntKind.i64.wrap (a_ + b_))) (2 ^ 1))) + m_)) - start1)))) && (decide ((IntKind.i64.wrap ((IntKind.i64.wrap ((IntKind.i64.wrap (Int.fdiv (IntKind.u64.wrap (IntKind.i64.wrap (a_ + b_))) (2 ^ 1))) + m_)) - start1)) < b_))) = true → (C_slices_symMergeCmpFunc_api_Held data (IntKind.i64.wrap (Int.fdiv (IntKind.u64.wrap (IntKind.i64.wrap (a_ + b_))) (2 ^ 1))) (IntKind.i64.wrap ((IntKind.i64.wrap ((IntKind.i64.wrap (Int.fdiv (IntKind.u64.wrap (IntKind.i64.wrap (a_ + b_))) (2 ^ 1))) + m_)) - start1)) b_ cmp w20 (fun w21 => R w21))) ∧
  (((decide ((IntKind.i64.wrap (Int.fdiv (IntKind.u64.wrap (IntKind.i64.wrap (a_ + b_))) (2 ^ 1))) < (IntKind.i64.wrap ((IntKind.i64.wrap ((IntKind.i64.wrap (Int.fdiv (IntKind.u64.wrap (IntKind.i64.wrap (a_ + b_))) (2 ^ 1))) + m_)) - start1)))) && (decide ((IntKind.i64.wrap ((IntKind.i64.wrap ((IntKind.i64.wrap (Int.fdiv (IntKind.u64.wrap (IntKind.i64.wrap (a_ + b_))) (2 ^ 1))) + m_)) - start1)) < b_))) = false → (R w20))

def F_slices_symMergeCmpFunc_api_Held_k6 (data : Slc) (a_ : Int) (m_ : Int) (b_ : Int) (cmp : Value) (R : World → Prop) (start1 : Int) (w19 : World) : Prop :=
  (((decide (a_ < start1)) && (decide (start1 < (IntKind.i64.wrap (Int.fdiv (IntKind.u64.wrap (IntKind.i64.wrap (a_ + b_))) (2 ^ 1)))))) = true → (C_slices_symMergeCmpFunc_api_Held data a_ start1 (IntKind.i64.wrap (Int.fdiv (IntKind.u64.wrap (IntKind.i64.wrap (a_ + b_))) (2 ^ 1))) cmp w19 (fun w22 => F_slices_symMergeCmpFunc_api_Held_k7 data a_ m_ b_ cmp R start1 w22))) ∧
  (((decide (a_ < start1)) && (decide (start1 < (IntKind.i64.wrap (Int.fdiv (IntKind.u64.wrap (IntKind.i64.wrap (a_ + b_))) (2 ^ 1)))))) = false → (F_slices_symMergeCmpFunc_api_Held_k7 data a_ m_ b_ cmp R start1 w19))

def F_slices_symMergeCmpFunc_api_Held_L5 (data : Slc) (a_ : Int) (m_ : Int) (b_ : Int) (cmp : Value) (R : World → Prop) (again_4 : Int → Int → World → Prop) (start1 : Int) (r1 : Int) (w16 : World) : Prop :=
  ((decide (start1 < r1)) = true → (∀ w17, (∃ k, w17 = w16.drewN k) → (IsAt data.ptr ∧ (0 ≤ IntKind.i64.wrap ((IntKind.i64.wrap ((IntKind.i64.wrap ((IntKind.i64.wrap (Int.fdiv (IntKind.u64.wrap (IntKind.i64.wrap (a_ + b_))) (2 ^ 1))) + m_)) - 1)) - (IntKind.i64.wrap (Int.fdiv (IntKind.u64.wrap (IntKind.i64.wrap (start1 + r1))) (2 ^ 1)))) ∧ IntKind.i64.wrap ((IntKind.i64.wrap ((IntKind.i64.wrap ((IntKind.i64.wrap (Int.fdiv (IntKind.u64.wrap (IntKind.i64.wrap (a_ + b_))) (2 ^ 1))) + m_)) - 1)) - (IntKind.i64.wrap (Int.fdiv (IntKind.u64.wrap (IntKind.i64.wrap (start1 + r1))) (2 ^ 1)))) < ((data.len : Nat) : Int) ∧ (∃ (v164 : T_api_Held), CellsAt w17 (pblk data.ptr) ((poff data.ptr) + (IntKind.i64.wrap ((IntKind.i64.wrap ((IntKind.i64.wrap ((IntKind.i64.wrap (Int.fdiv (IntKind.u64.wrap (IntKind.i64.wrap (a_ + b_))) (2 ^ 1))) + m_)) - 1)) - (IntKind.i64.wrap (Int.fdiv (IntKind.u64.wrap (IntKind.i64.wrap (start1 + r1))) (2 ^ 1))))).toNat * 2) [Value.string v164.Key, Value.slice v164.Versions.ptr v164.Versions.len v164.Versions.cap] ∧ (IsAt data.ptr ∧ (0 ≤ IntKind.i64.wrap (Int.fdiv (IntKind.u64.wrap (IntKind.i64.wrap (start1 + r1))) (2 ^ 1)) ∧ IntKind.i64.wrap (Int.fdiv (IntKind.u64.wrap (IntKind.i64.wrap (start1 + r1))) (2 ^ 1)) < ((data.len : Nat) : Int) ∧ (∃ (v168 : T_api_Held), CellsAt w17 (pblk data.ptr) ((poff data.ptr) + (IntKind.i64.wrap (Int.fdiv (IntKind.u64.wrap (IntKind.i64.wrap (start1 + r1))) (2 ^ 1))).toNat * 2) [Value.string v168.Key, Value.slice v168.Versions.ptr v168.Versions.len v168.Versions.cap] ∧ (CallsV (P := Tryz.prog) cmp #[Value.agg #[Value.string v164.Key, Value.slice v164.Versions.ptr v164.Versions.len v164.Versions.cap], Value.agg #[Value.string v168.Key, Value.slice v168.Versions.ptr v168.Versions.len v168.Versions.cap]] w17 (fun e' w18 => ∃ (v169 : Int), e' = Ending.returned (Value.int .i64 v169) ∧ (((!(decide (v169 < 0))) = true → (again_4 (IntKind.i64.wrap ((IntKind.i64.wrap (Int.fdiv (IntKind.u64.wrap (IntKind.i64.wrap (start1 + r1))) (2 ^ 1))) + 1)) r1 w18)) ∧
  ((!(decide (v169 < 0))) = false → (again_4 start1 (IntKind.i64.wrap (Int.fdiv (IntKind.u64.wrap (IntKind.i64.wrap (start1 + r1))) (2 ^ 1))) w18))))))))))))) ∧
  ((decide (start1 < r1)) = false → ((((decide (start1 < m_)) && (decide (m_ < (IntKind.i64.wrap ((IntKind.i64.wrap ((IntKind.i64.wrap (Int.fdiv (IntKind.u64.wrap (IntKind.i64.wrap (a_ + b_))) (2 ^ 1))) + m_)) - start1))))) = true → (C_slices_rotateCmpFunc_api_Held data start1 m_ (IntKind.i64.wrap ((IntKind.i64.wrap ((IntKind.i64.wrap (Int.fdiv (IntKind.u64.wrap (IntKind.i64.wrap (a_ + b_))) (2 ^ 1))) + m_)) - start1)) cmp w16 (fun w23 => F_slices_symMergeCmpFunc_api_Held_k6 data a_ m_ b_ cmp R start1 w23))) ∧
  (((decide (start1 < m_)) && (decide (m_ < (IntKind.i64.wrap ((IntKind.i64.wrap ((IntKind.i64.wrap (Int.fdiv (IntKind.u64.wrap (IntKind.i64.wrap (a_ + b_))) (2 ^ 1))) + m_)) - start1))))) = false → (F_slices_symMergeCmpFunc_api_Held_k6 data a_ m_ b_ cmp R start1 w16))))

def F_slices_symMergeCmpFunc_api_Held_k4 (data : Slc) (a_ : Int) (m_ : Int) (b_ : Int) (cmp : Value) (R : World → Prop) (start : Int) (r : Int) (w15 : World) : Prop :=
  ∃ (I : Int → Int → World → Prop) (μ : Int → Int → World → Nat), I start r w15 ∧
  ∀ (start1 : Int) (r1 : Int) w, I start1 r1 w → F_slices_symMergeCmpFunc_api_Held_L5 data a_ m_ b_ cmp R (fun (start1' : Int) (r1' : Int) w' => I start1' r1' w' ∧ μ start1' r1' w' < μ start1 r1 w) start1 r1 w

def F_slices_symMergeCmpFunc_api_Held (data : Slc) (a_ : Int) (m_ : Int) (b_ : Int) (cmp : Value) (R : World → Prop) (w : World) : Prop :=
  (((IntKind.i64.wrap (m_ - a_)) == 1) = true → (∃ (I : Int → Int → World → Prop) (μ : Int → Int → World → Nat), I m_ b_ w ∧
  ∀ (i : Int) (j : Int) w, I i j w → F_slices_symMergeCmpFunc_api_Held_L0 data a_ cmp R (fun (i' : Int) (j' : Int) w' => I i' j' w' ∧ μ i' j' w' < μ i j w) i j w)) ∧
  (((IntKind.i64.wrap (m_ - a_)) == 1) = false → ((((IntKind.i64.wrap (b_ - m_)) == 1) = true → (∃ (I : Int → Int → World → Prop) (μ : Int → Int → World → Nat), I a_ m_ w ∧
  ∀ (i1 : Int) (j1 : Int) w, I i1 j1 w → F_slices_symMergeCmpFunc_api_Held_L2 data m_ cmp R (fun (i1' : Int) (j1' : Int) w' => I i1' j1' w' ∧ μ i1' j1' w' < μ i1 j1 w) i1 j1 w)) ∧
  (((IntKind.i64.wrap (b_ - m_)) == 1) = false → (((decide (m_ > (IntKind.i64.wrap (Int.fdiv (IntKind.u64.wrap (IntKind.i64.wrap (a_ + b_))) (2 ^ 1))))) = true → (F_slices_symMergeCmpFunc_api_Held_k4 data a_ m_ b_ cmp R (IntKind.i64.wrap ((IntKind.i64.wrap ((IntKind.i64.wrap (Int.fdiv (IntKind.u64.wrap (IntKind.i64.wrap (a_ + b_))) (2 ^ 1))) + m_)) - b_)) (IntKind.i64.wrap (Int.fdiv (IntKind.u64.wrap (IntKind.i64.wrap (a_ + b_))) (2 ^ 1))) w)) ∧
  ((decide (m_ > (IntKind.i64.wrap (Int.fdiv (IntKind.u64.wrap (IntKind.i64.wrap (a_ + b_))) (2 ^ 1))))) = false → (F_slices_symMergeCmpFunc_api_Held_k4 data a_ m_ b_ cmp R a_ m_ w))))))

def F_slices_insertionSortCmpFunc_api_Entry_k2 (data : Slc) (i : Int) (again_ : Int → World → Prop) (j : Int) (again_1 : Int → World → Prop) (t34 : Bool) (w3 : World) : Prop :=
  (t34 = true → (∀ w4, (∃ k, w4 = w3.drewN k) → (IsAt data.ptr ∧ (0 ≤ IntKind.i64.wrap (j - 1) ∧ IntKind.i64.wrap (j - 1) < ((data.len : Nat) : Int) ∧ (∃ (v46 : T_api_Entry), CellsAt w4 (pblk data.ptr) ((poff data.ptr) + (IntKind.i64.wrap (j - 1)).toNat * 2) [Value.string v46.Key, Value.string v46.Val] ∧ (IsAt data.ptr ∧ (0 ≤ j ∧ j < ((data.len : Nat) : Int) ∧ (∃ (v50 : T_api_Entry), CellsAt w4 (pblk data.ptr) ((poff data.ptr) + j.toNat * 2) [Value.string v50.Key, Value.string v50.Val] ∧ (IsAt data.ptr ∧ (0 ≤ j ∧ j < ((data.len : Nat) : Int) ∧ (Writable w4 (pblk data.ptr) ((poff data.ptr) + j.toNat * 2) 2 ∧ (∀ w5, w5 = World.puts (pblk data.ptr) ((poff data.ptr) + j.toNat * 2) [Value.string v46.Key, Value.string v46.Val] w4 → ((IsAt data.ptr ∧ (0 ≤ IntKind.i64.wrap (j - 1) ∧ IntKind.i64.wrap (j - 1) < ((data.len : Nat) : Int) ∧ (Writable w5 (pblk data.ptr) ((poff data.ptr) + (IntKind.i64.wrap (j - 1)).toNat * 2) 2 ∧ (∀ w6, w6 = World.puts (pblk data.ptr) ((poff data.ptr) + (IntKind.i64.wrap (j - 1)).toNat * 2) [Value.string v50.Key, Value.string v50.Val] w5 → ((again_1 (IntKind.i64.wrap (j - 1)) w6))))))))))))))))))) ∧
  (t34 = false → (again_ (IntKind.i64.wrap (i + 1)) w3))

def F_slices_insertionSortCmpFunc_api_Entry_L1 (data : Slc) (a_ : Int) (cmp : Value) (i : Int) (again_ : Int → World → Prop) (again_1 : Int → World → Prop) (j : Int) (w2 : World) : Prop :=
  ∀ w7, (∃ k, w7 = w2.drewN k) → (((decide (j > a_)) = true → (IsAt data.ptr ∧ (0 ≤ j ∧ j < ((data.len : Nat) : Int) ∧ (∃ (v26 : T_api_Entry), CellsAt w7 (pblk data.ptr) ((poff data.ptr) + j.toNat * 2) [Value.string v26.Key, Value.string v26.Val] ∧ (IsAt data.ptr ∧ (0 ≤ IntKind.i64.wrap (j - 1) ∧ IntKind.i64.wrap (j - 1) < ((data.len : Nat) : Int) ∧ (∃ (v31 : T_api_Entry), CellsAt w7 (pblk data.ptr) ((poff data.ptr) + (IntKind.i64.wrap (j - 1)).toNat * 2) [Value.string v31.Key, Value.string v31.Val] ∧ (CallsV (P := Tryz.prog) cmp #[Value.agg #[Value.string v26.Key, Value.string v26.Val], Value.agg #[Value.string v31.Key, Value.string v31.Val]] w7 (fun e' w8 => ∃ (v32 : Int), e' = Ending.returned (Value.int .i64 v32) ∧ (F_slices_insertionSortCmpFunc_api_Entry_k2 data i again_ j again_1 (decide (v32 < 0)) w8)))))))))) ∧
  ((decide (j > a_)) = false → (F_slices_insertionSortCmpFunc_api_Entry_k2 data i again_ j again_1 false w7)))

def F_slices_insertionSortCmpFunc_api_Entry_L0 (data : Slc) (a_ : Int) (b_ : Int) (cmp : Value) (R : World → Prop) (again_ : Int → World → Prop) (i : Int) (w1 : World) : Prop :=
  ((decide (i < b_)) = true → (∃ (I : Int → World → Prop) (μ : Int → World → Nat), I i w1 ∧
  ∀ (j : Int) w, I j w → F_slices_insertionSortCmpFunc_api_Entry_L1 data a_ cmp i again_ (fun (j' : Int) w' => I j' w' ∧ μ j' w' < μ j w) j w)) ∧
  ((decide (i < b_)) = false → (R w1))

def F_slices_insertionSortCmpFunc_api_Entry (data : Slc) (a_ : Int) (b_ : Int) (cmp : Value) (R : World → Prop) (w : World) : Prop :=
  ∃ (I : Int → World → Prop) (μ : Int → World → Nat), I (IntKind.i64.wrap (a_ + 1)) w ∧
  ∀ (i : Int) w, I i w → F_slices_insertionSortCmpFunc_api_Entry_L0 data a_ b_ cmp R (fun (i' : Int) w' => I i' w' ∧ μ i' w' < μ i w) i w

def F_slices_symMergeCmpFunc_api_Entry_L1 (data : Slc) (R : World → Prop) (i : Int) (again_1 : Int → World → Prop) (k_ : Int) (w4 : World) : Prop :=
  ((decide (k_ < (IntKind.i64.wrap (i - 1)))) = true → (∀ w5, (∃ k, w5 = w4.drewN k) → (IsAt data.ptr ∧ (0 ≤ IntKind.i64.wrap (k_ + 1) ∧ IntKind.i64.wrap (k_ + 1) < ((data.len : Nat) : Int) ∧ (∃ (v70 : T_api_Entry), CellsAt w5 (pblk data.ptr) ((poff data.ptr) + (IntKind.i64.wrap (k_ + 1)).toNat * 2) [Value.string v70.Key, Value.string v70.Val] ∧ (IsAt data.ptr ∧ (0 ≤ k_ ∧ k_ < ((data.len : Nat) : Int) ∧ (∃ (v74 : T_api_Entry), CellsAt w5 (pblk data.ptr) ((poff data.ptr) + k_.toNat * 2) [Value.string v74.Key, Value.string v74.Val] ∧ (IsAt data.ptr ∧ (0 ≤ k_ ∧ k_ < ((data.len : Nat) : Int) ∧ (Writable w5 (pblk data.ptr) ((poff data.ptr) + k_.toNat * 2) 2 ∧ (∀ w6, w6 = World.puts (pblk data.ptr) ((poff data.ptr) + k_.toNat * 2) [Value.string v70.Key, Value.string v70.Val] w5 → ((IsAt data.ptr ∧ (0 ≤ IntKind.i64.wrap (k_ + 1) ∧ IntKind.i64.wrap (k_ + 1) < ((data.len : Nat) : Int) ∧ (Writable w6 (pblk data.ptr) ((poff data.ptr) + (IntKind.i64.wrap (k_ + 1)).toNat * 2) 2 ∧ (∀ w7, w7 = World.puts (pblk data.ptr) ((poff data.ptr) + (IntKind.i64.wrap (k_ + 1)).toNat * 2) [Value.string v74.Key, Value.string v74.Val] w6 → ((again_1 (IntKind.i64.wrap (k_ + 1)) w7))))))))))))))))))) ∧
  ((decide (k_ < (IntKind.i64.wrap (i - 1)))) = false → (R w4))

def F_slices_symMergeCmpFunc_api_Entry_L0 (data : Slc) (a_ : Int) (cmp : Value) (R : World → Prop) (again_ : Int → Int → World → Prop) (i : Int) (j : Int) (w1 : World) : Prop :=
  ((decide (i < j)) = true → (∀ w2, (∃ k, w2 = w1.drewN k) → (IsAt data.ptr ∧ (0 ≤ IntKind.i64.wrap (Int.fdiv (IntKind.u64.wrap (IntKind.i64.wrap (i + j))) (2 ^ 1)) ∧ IntKind.i64.wrap (Int.fdiv (IntKind.u64.wrap (IntKind.i64.wrap (i + j))) (2 ^ 1)) < ((data.len : Nat) : Int) ∧ (∃ (v44 : T_api_Entry), CellsAt w2 (pblk data.ptr) ((poff data.ptr) + (IntKind.i64.wrap (Int.fdiv (IntKind.u64.wrap (IntKind.i64.wrap (i + j))) (2 ^ 1))).toNat * 2) [Value.string v44.Key, Value.string v44.Val] ∧ (IsAt data.ptr ∧ (0 ≤ a_ ∧ a_ < ((data.len : Nat) : Int) ∧ (∃ (v48 : T_api_Entry), CellsAt w2 (pblk data.ptr) ((poff data.ptr) + a_.toNat * 2) [Value.string v48.Key, Value.string v48.Val] ∧ (CallsV (P := Tryz.prog) cmp #[Value.agg #[Value.string v44.Key, Value.string v44.Val], Value.agg #[Value.string v48.Key, Value.string v48.Val]] w2 (fun e' w3 => ∃ (v49 : Int), e' = Ending.returned (Value.int .i64 v49) ∧ (((decide (v49 < 0)) = true → (again_ (IntKind.i64.wrap ((IntKind.i64.wrap (Int.fdiv (IntKind.u64.wrap (IntKind.i64.wrap (i + j))) (2 ^ 1))) + 1)) j w3)) ∧
  ((decide (v49 < 0)) = false → (again_ i (IntKind.i64.wrap (Int.fdiv (IntKind.u64.wrap (IntKind.i64.wrap (i + j))) (2 ^ 1))) w3))))))))))))) ∧
  ((decide (i < j)) = false → (∃ (I : Int → World → Prop) (μ : Int → World → Nat), I a_ w1 ∧
  ∀ (k_ : Int) w, I k_ w → F_slices_symMergeCmpFunc_api_Entry_L1 data R i (fun (k_' : Int) w' => I k_' w' ∧ μ k_' w' < μ k_ w) k_ w))

def F_slices_symMergeCmpFunc_api_Entry_L3 (data : Slc) (R : World → Prop) (i1 : Int) (again_3 : Int → World → Prop) (k_1 : Int) (w11 : World) : Prop :=
  ((decide (k_1 > i1)) = true → (∀ w12, (∃ k, w12 = w11.drewN k) → (IsAt data.ptr ∧ (0 ≤ IntKind.i64.wrap (k_1 - 1) ∧ IntKind.i64.wrap (k_1 - 1) < ((data.len : Nat) : Int) ∧ (∃ (v122 : T_api_Entry), CellsAt w12 (pblk data.ptr) ((poff data.ptr) + (IntKind.i64.wrap (k_1 - 1)).toNat * 2) [Value.string v122.Key, Value.string v122.Val] ∧ (IsAt data.ptr ∧ (0 ≤ k_1 ∧ k_1 < ((data.len : Nat) : Int) ∧ (∃ (v126 : T_api_Entry), CellsAt w12 (pblk data.ptr) ((poff data.ptr) + k_1.toNat * 2) [Value.string v126.Key, Value.string v126.Val] ∧ (IsAt data.ptr ∧ (0 ≤ k_1 ∧ k_1 < ((data.len : Nat) : Int) ∧ (Writable w12 (pblk data.ptr) ((poff data.ptr) + k_1.toNat * 2) 2 ∧ (∀ w13, w13 = World.puts (pblk data.ptr) ((poff data.ptr) + k_1.toNat * 2) [Value.string v122.Key, Value.string v122.Val] w12 → ((IsAt data.ptr ∧ (0 ≤ IntKind.i64.wrap (k_1 - 1) ∧ IntKind.i64.wrap (k_1 - 1) < ((data.len : Nat) : Int) ∧ (Writable w13 (pblk data.ptr) ((poff data.ptr) + (IntKind.i64.wrap (k_1 - 1)).toNat * 2) 2 ∧ (∀ w14, w14 = World.puts (pblk data.ptr) ((poff data.ptr) + (IntKind.i64.wrap (k_1 - 1)).toNat * 2) [Value.string v126.Key, Value.string v126.Val] w13 → ((again_3 (IntKind.i64.wrap (k_1 - 1)) w14))))))))))))))))))) ∧
  ((decide (k_1 > i1)) = false → (R w11))

def F_slices_symMergeCmpFunc_api_Entry_L2 (data : Slc) (m_ : Int) (cmp : Value) (R : World → Prop) (again_2 : Int → Int → World → Prop) (i1 : Int) (j1 : Int) (w8 : World) : Prop :=
  ((decide (i1 < j1)) = true → (∀ w9, (∃ k, w9 = w8.drewN k) → (IsAt data.ptr ∧ (0 ≤ m_ ∧ m_ < ((data.len : Nat) : Int) ∧ (∃ (v96 : T_api_Entry), CellsAt w9 (pblk data.ptr) ((poff data.ptr) + m_.toNat * 2) [Value.string v96.Key, Value.string v96.Val] ∧ (IsAt data.ptr ∧ (0 ≤ IntKind.i64.wrap (Int.fdiv (IntKind.u64.wrap (IntKind.i64.wrap (i1 + j1))) (2 ^ 1)) ∧ IntKind.i64.wrap (Int.fdiv (IntKind.u64.wrap (IntKind.i64.wrap (i1 + j1))) (2 ^ 1)) < ((data.len : Nat) : Int) ∧ (∃ (v100 : T_api_Entry), CellsAt w9 (pblk data.ptr) ((poff data.ptr) + (IntKind.i64.wrap (Int.fdiv (IntKind.u64.wrap (IntKind.i64.wrap (i1 + j1))) (2 ^ 1))).toNat * 2) [Value.string v100.Key, Value.string v100.Val] ∧ (CallsV (P := Tryz.prog) cmp #[Value.agg #[Value.string v96.Key, Value.string v96.Val], Value.agg #[Value.string v100.Key, Value.string v100.Val]] w9 (fun e' w10 => ∃ (v101 : Int), e' = Ending.returned (Value.int .i64 v101) ∧ (((!(decide (v101 < 0))) = true → (again_2 (IntKind.i64.wrap ((IntKind.i64.wrap (Int.fdiv (IntKind.u64.wrap (IntKind.i64.wrap (i1 + j1))) (2 ^ 1))) + 1)) j1 w10)) ∧
  ((!(decide (v101 < 0))) = false → (again_2 i1 (IntKind.i64.wrap (Int.fdiv (IntKind.u64.wrap (IntKind.i64.wrap (i1 + j1))) (2 ^ 1))) w10))))))))))))) ∧
  ((decide (i1 < j1)) = false → (∃ (I : Int → World → Prop) (μ : Int → World → Nat), I m_ w8 ∧
  ∀ (k_1 : Int) w, I k_1 w → F_slices_symMergeCmpFunc_api_Entry_L3 data R i1 (fun (k_1' : Int) w' => I k_1' w' ∧ μ k_1' w' < μ k_1 w) k_1 w))

def F_slices_symMergeCmpFunc_api_Entry_k7 (data : Slc) (a_ : Int) (m_ : Int) (b_ : Int) (cmp : Value) (R : World → Prop) (start1 : Int) (w20 : World) : Prop :=
  (((decide ((IntKind.i64.wrap (Int.fdiv (IntKind.u64.wrap (IntKind.i64.wrap (a_ + b_))) (2 ^ 1))) < (IntKind.i64.wrap ((IntKind.i64.wrap ((IntKind.i64.wrap (Int.fdiv (IntKind.u64.wrap (IntKind.i64.wrap (a_ + b_))) (2 ^ 1))) + m_)) - start1)))) && (decide ((IntKind.i64.wrap ((IntKind.i64.wrap ((IntKind.i64.wrap (Int.fdiv (IntKind.u64.wrap (IntKind.i64.wrap (a_ + b_))) (2 ^ 1))) + m_)) - start1)) < b_))) = true → (C_slices_symMergeCmpFunc_api_Entry data (IntKind.i64.wrap (Int.fdiv (IntKind.u64.wrap (IntKind.i64.wrap (a_ + b_))) (2 ^ 1))) (IntKind.i64.wrap ((IntKind.i64.wrap ((IntKind.i64.wrap (Int.fdiv (IntKind.u64.wrap (IntKind.i64.wrap (a_ + b_))) (2 ^ 1))) + m_)) - start1)) b_ cmp w20 (fun w21 => R w21))) ∧
  (((decide ((IntKind.i64.wrap (Int.fdiv (IntKind.u64.wrap (IntKind.i64.wrap (a_ + b_))) (2 ^ 1))) < (IntKind.i64.wrap ((IntKind.i64.wrap ((IntKind.i64.wrap (Int.fdiv (IntKind.u64.wrap (IntKind.i64.wrap (a_ + b_))) (2 ^ 1))) + m_)) - start1)))) && (decide ((IntKind.i64.wrap ((IntKind.i64.wrap ((IntKind.i64.wrap (Int.fdiv (IntKind.u64.wrap (IntKind.i64.wrap (a_ + b_))) (2 ^ 1))) + m_)) - start1)) < b_))) = false → (R w20))

def F_slices_symMergeCmpFunc_api_Entry_k6 (data : Slc) (a_ : Int) (m_ : Int) (b_ : Int) (cmp : Value) (R : World → Prop) (start1 : Int) (w19 : World) : Prop :=
  (((decide (a_ < start1)) && (decide (start1 < (IntKind.i64.wrap (Int.fdiv (IntKind.u64.wrap (IntKind.i64.wrap (a_ + b_))) (2 ^ 1)))))) = true → (C_slices_symMergeCmpFunc_api_Entry data a_ start1 (IntKind.i64.wrap (Int.fdiv (IntKind.u64.wrap (IntKind.i64.wrap (a_ + b_))) (2 ^ 1))) cmp w19 (fun w22 => F_slices_symMergeCmpFunc_api_Entry_k7 data a_ m_ b_ cmp R start1 w22))) ∧
  (((decide (a_ < start1)) && (decide (start1 < (IntKind.i64.wrap (Int.fdiv (IntKind.u64.wrap (IntKind.i64.wrap (a_ + b_))) (2 ^ 1)))))) = false → (F_slices_symMergeCmpFunc_api_Entry_k7 data a_ m_ b_ cmp R start1 w19))

def F_slices_symMergeCmpFunc_api_Entry_L5 (data : Slc) (a_ : Int) (m_ : Int) (b_ : Int) (cmp : Value) (R : World → Prop) (again_4 : Int → Int → World → Prop) (start1 : Int) (r1 : Int) (w16 : World) : Prop :=
  ((decide (start1 < r1)) = true → (∀ w17, (∃ k, w17 = w16.drewN k) → (IsAt data.ptr ∧ (0 ≤ IntKind.i64.wrap ((IntKind.i64.wrap ((IntKind.i64.wrap ((IntKind.i64.wrap (Int.fdiv (IntKind.u64.wrap (IntKind.i64.wrap (a_ + b_))) (2 ^ 1))) + m_)) - 1)) - (IntKind.i64.wrap (Int.fdiv (IntKind.u64.wrap (IntKind.i64.wrap (start1 + r1))) (2 ^ 1)))) ∧ IntKind.i64.wrap ((IntKind.i64.wrap ((IntKind.i64.wrap ((IntKind.i64.wrap (Int.fdiv (IntKind.u64.wrap (IntKind.i64.wrap (a_ + b_))) (2 ^ 1))) + m_)) - 1)) - (IntKind.i64.wrap (Int.fdiv (IntKind.u64.wrap (IntKind.i64.wrap (start1 + r1))) (2 ^ 1)))) < ((data.len : Nat) : Int) ∧ (∃ (v164 : T_api_Entry), CellsAt w17 (pblk data.ptr) ((poff data.ptr) + (IntKind.i64.wrap ((IntKind.i64.wrap ((IntKind.i64.wrap ((IntKind.i64.wrap (Int.fdiv (IntKind.u64.wrap (IntKind.i64.wrap (a_ + b_))) (2 ^ 1))) + m_)) - 1)) - (IntKind.i64.wrap (Int.fdiv (IntKind.u64.wrap (IntKind.i64.wrap (start1 + r1))) (2 ^ 1))))).toNat * 2) [Value.string v164.Key, Value.string v164.Val] ∧ (IsAt data.ptr ∧ (0 ≤ IntKind.i64.wrap (Int.fdiv (IntKind.u64.wrap (IntKind.i64.wrap (start1 + r1))) (2 ^ 1)) ∧ IntKind.i64.wrap (Int.fdiv (IntKind.u64.wrap (IntKind.i64.wrap (start1 + r1))) (2 ^ 1)) < ((data.len : Nat) : Int) ∧ (∃ (v168 : T_api_Entry), CellsAt w17 (pblk data.ptr) ((poff data.ptr) + (IntKind.i64.wrap (Int.fdiv (IntKind.u64.wrap (IntKind.i64.wrap (start1 + r1))) (2 ^ 1))).toNat * 2) [Value.string v168.Key, Value.string v168.Val] ∧ (CallsV (P := Tryz.prog) cmp #[Value.agg #[Value.string v164.Key, Value.string v164.Val], Value.agg #[Value.string v168.Key, Value.string v168.Val]] w17 (fun e' w18 => ∃ (v169 : Int), e' = Ending.returned (Value.int .i64 v169) ∧ (((!(decide (v169 < 0))) = true → (again_4 (IntKind.i64.wrap ((IntKind.i64.wrap (Int.fdiv (IntKind.u64.wrap (IntKind.i64.wrap (start1 + r1))) (2 ^ 1))) + 1)) r1 w18)) ∧
  ((!(decide (v169 < 0))) = false → (again_4 start1 (IntKind.i64.wrap (Int.fdiv (IntKind.u64.wrap (IntKind.i64.wrap (start1 + r1))) (2 ^ 1))) w18))))))))))))) ∧
  ((decide (start1 < r1)) = false → ((((decide (start1 < m_)) && (decide (m_ < (IntKind.i64.wrap ((IntKind.i64.wrap ((IntKind.i64.wrap (Int.fdiv (IntKind.u64.wrap (IntKind.i64.wrap (a_ + b_))) (2 ^ 1))) + m_)) - start1))))) = true → (C_slices_rotateCmpFunc_api_Entry data start1 m_ (IntKind.i64.wrap ((IntKind.i64.wrap ((IntKind.i64.wrap (Int.fdiv (IntKind.u64.wrap (IntKind.i64.wrap (a_ + b_))) (2 ^ 1))) + m_)) - start1)) cmp w16 (fun w23 => F_slices_symMergeCmpFunc_api_Entry_k6 data a_ m_ b_ cmp R start1 w23))) ∧
  (((decide (start1 < m_)) && (decide (m_ < (IntKind.i64.wrap ((IntKind.i64.wrap ((IntKind.i64.wrap (Int.fdiv (IntKind.u64.wrap (IntKind.i64.wrap (a_ + b_))) (2 ^ 1))) + m_)) - start1))))) = false → (F_slices_symMergeCmpFunc_api_Entry_k6 data a_ m_ b_ cmp R start1 w16))))

def F_slices_symMergeCmpFunc_api_Entry_k4 (data : Slc) (a_ : Int) (m_ : Int) (b_ : Int) (cmp : Value) (R : World → Prop) (start : Int) (r : Int) (w15 : World) : Prop :=
  ∃ (I : Int → Int → World → Prop) (μ : Int → Int → World → Nat), I start r w15 ∧
  ∀ (start1 : Int) (r1 : Int) w, I start1 r1 w → F_slices_symMergeCmpFunc_api_Entry_L5 data a_ m_ b_ cmp R (fun (start1' : Int) (r1' : Int) w' => I start1' r1' w' ∧ μ start1' r1' w' < μ start1 r1 w) start1 r1 w

def F_slices_symMergeCmpFunc_api_Entry (data : Slc) (a_ : Int) (m_ : Int) (b_ : Int) (cmp : Value) (R : World → Prop) (w : World) : Prop :=
  (((IntKind.i64.wrap (m_ - a_)) == 1) = true → (∃ (I : Int → Int → World → Prop) (μ : Int → Int → World → Nat), I m_ b_ w ∧
  ∀ (i : Int) (j : Int) w, I i j w → F_slices_symMergeCmpFunc_api_Entry_L0 data a_ cmp R (fun (i' : Int) (j' : Int) w' => I i' j' w' ∧ μ i' j' w' < μ i j w) i j w)) ∧
  (((IntKind.i64.wrap (m_ - a_)) == 1) = false → ((((IntKind.i64.wrap (b_ - m_)) == 1) = true → (∃ (I : Int → Int → World → Prop) (μ : Int → Int → World → Nat), I a_ m_ w ∧
  ∀ (i1 : Int) (j1 : Int) w, I i1 j1 w → F_slices_symMergeCmpFunc_api_Entry_L2 data m_ cmp R (fun (i1' : Int) (j1' : Int) w' => I i1' j1' w' ∧ μ i1' j1' w' < μ i1 j1 w) i1 j1 w)) ∧
  (((IntKind.i64.wrap (b_ - m_)) == 1) = false → (((decide (m_ > (IntKind.i64.wrap (Int.fdiv (IntKind.u64.wrap (IntKind.i64.wrap (a_ + b_))) (2 ^ 1))))) = true → (F_slices_symMergeCmpFunc_api_Entry_k4 data a_ m_ b_ cmp R (IntKind.i64.wrap ((IntKind.i64.wrap ((IntKind.i64.wrap (Int.fdiv (IntKind.u64.wrap (IntKind.i64.wrap (a_ + b_))) (2 ^ 1))) + m_)) - b_)) (IntKind.i64.wrap (Int.fdiv (IntKind.u64.wrap (IntKind.i64.wrap (a_ + b_))) (2 ^ 1))) w)) ∧
  ((decide (m_ > (IntKind.i64.wrap (Int.fdiv (IntKind.u64.wrap (IntKind.i64.wrap (a_ + b_))) (2 ^ 1))))) = false → (F_slices_symMergeCmpFunc_api_Entry_k4 data a_ m_ b_ cmp R a_ m_ w))))))

def F_slices_rotateCmpFunc_api_Held_L0 (data : Slc) (m_ : Int) (cmp : Value) (R : World → Prop) (again_ : Int → Int → World → Prop) (i : Int) (j : Int) (w1 : World) : Prop :=
  ((i != j) = true → (((decide (i > j)) = true → (C_slices_swapRangeCmpFunc_api_Held data (IntKind.i64.wrap (m_ - i)) m_ j cmp w1 (fun w2 => again_ (IntKind.i64.wrap (i - j)) j w2))) ∧
  ((decide (i > j)) = false → (C_slices_swapRangeCmpFunc_api_Held data (IntKind.i64.wrap (m_ - i)) (IntKind.i64.wrap ((IntKind.i64.wrap (m_ + j)) - i)) i cmp w1 (fun w3 => again_ i (IntKind.i64.wrap (j - i)) w3))))) ∧
  ((i != j) = false → (C_slices_swapRangeCmpFunc_api_Held data (IntKind.i64.wrap (m_ - i)) m_ i cmp w1 (fun w4 => R w4)))

def F_slices_rotateCmpFunc_api_Held (data : Slc) (a_ : Int) (m_ : Int) (b_ : Int) (cmp : Value) (R : World → Prop) (w : World) : Prop :=
  ∃ (I : Int → Int → World → Prop) (μ : Int → Int → World → Nat), I (IntKind.i64.wrap (m_ - a_)) (IntKind.i64.wrap (b_ - m_)) w ∧
  ∀ (i : Int) (j : Int) w, I i j w → F_slices_rotateCmpFunc_api_Held_L0 data m_ cmp R (fun (i' : Int) (j' : Int) w' => I i' j' w' ∧ μ i' j' w' < μ i j w) i j w

def F_slices_rotateCmpFunc_api_Entry_L0 (data : Slc) (m_ : Int) (cmp : Value) (R : World → Prop) (again_ : Int → Int → World → Prop) (i : Int) (j : Int) (w1 : World) : Prop :=
  ((i != j) = true → (((decide (i > j)) = true → (C_slices_swapRangeCmpFunc_api_Entry data (IntKind.i64.wrap (m_ - i)) m_ j cmp w1 (fun w2 => again_ (IntKind.i64.wrap (i - j)) j w2))) ∧
  ((decide (i > j)) = false → (C_slices_swapRangeCmpFunc_api_Entry data (IntKind.i64.wrap (m_ - i)) (IntKind.i64.wrap ((IntKind.i64.wrap (m_ + j)) - i)) i cmp w1 (fun w3 => again_ i (IntKind.i64.wrap (j - i)) w3))))) ∧
  ((i != j) = false → (C_slices_swapRangeCmpFunc_api_Entry data (IntKind.i64.wrap (m_ - i)) m_ i cmp w1 (fun w4 => R w4)))

def F_slices_rotateCmpFunc_api_Entry (data : Slc) (a_ : Int) (m_ : Int) (b_ : Int) (cmp : Value) (R : World → Prop) (w : World) : Prop :=
  ∃ (I : Int → Int → World → Prop) (μ : Int → Int → World → Nat), I (IntKind.i64.wrap (m_ - a_)) (IntKind.i64.wrap (b_ - m_)) w ∧
  ∀ (i : Int) (j : Int) w, I i j w → F_slices_rotateCmpFunc_api_Entry_L0 data m_ cmp R (fun (i' : Int) (j' : Int) w' => I i' j' w' ∧ μ i' j' w' < μ i j w) i j w

def F_slices_swapRangeCmpFunc_api_Held_L0 (data : Slc) (a_ : Int) (b_ : Int) (n_ : Int) (R : World → Prop) (again_ : Int → World → Prop) (i : Int) (w1 : World) : Prop :=
  ((decide (i < n_)) = true → (∀ w2, (∃ k, w2 = w1.drewN k) → (IsAt data.ptr ∧ (0 ≤ IntKind.i64.wrap (b_ + i) ∧ IntKind.i64.wrap (b_ + i) < ((data.len : Nat) : Int) ∧ (∃ (v29 : T_api_Held), CellsAt w2 (pblk data.ptr) ((poff data.ptr) + (IntKind.i64.wrap (b_ + i)).toNat * 2) [Value.string v29.Key, Value.slice v29.Versions.ptr v29.Versions.len v29.Versions.cap] ∧ (IsAt data.ptr ∧ (0 ≤ IntKind.i64.wrap (a_ + i) ∧ IntKind.i64.wrap (a_ + i) < ((data.len : Nat) : Int) ∧ (∃ (v35 : T_api_Held), CellsAt w2 (pblk data.ptr) ((poff data.ptr) + (IntKind.i64.wrap (a_ + i)).toNat * 2) [Value.string v35.Key, Value.slice v35.Versions.ptr v35.Versions.len v35.Versions.cap] ∧ (IsAt data.ptr ∧ (0 ≤ IntKind.i64.wrap (a_ + i) ∧ IntKind.i64.wrap (a_ + i) < ((data.len : Nat) : Int) ∧ (Writable w2 (pblk data.ptr) ((poff data.ptr) + (IntKind.i64.wrap (a_ + i)).toNat * 2) 2 ∧ (∀ w3, w3 = World.puts (pblk data.ptr) ((poff data.ptr) + (IntKind.i64.wrap (a_ + i)).toNat * 2) [Value.string v29.Key, Value.slice v29.Versions.ptr v29.Versions.len v29.Versions.cap] w2 → ((IsAt data.ptr ∧ (0 ≤ IntKind.i64.wrap (b_ + i) ∧ IntKind.i64.wrap (b_ + i) < ((data.len : Nat) : Int) ∧ (Writable w3 (pblk data.ptr) ((poff data.ptr) + (IntKind.i64.wrap (b_ + i)).toNat * 2) 2 ∧ (∀ w4, w4 = World.puts (pblk data.ptr) ((poff data.ptr) + (IntKind.i64.wrap (b_ + i)).toNat * 2) [Value.string v35.Key, Value.slice v35.Versions.ptr v35.Versions.len v35.Versions.cap] w3 → ((again_ (IntKind.i64.wrap (i + 1)) w4))))))))))))))))))) ∧
  ((decide (i < n_)) = false → (R w1))

def F_slices_swapRangeCmpFunc_api_Held (data : Slc) (a_ : Int) (b_ : Int) (n_ : Int) (cmp : Value) (R : World → Prop) (w : World) : Prop :=
  ∃ (I : Int → World → Prop) (μ : Int → World → Nat), I 0 w ∧
  ∀ (i : Int) w, I i w → F_slices_swapRangeCmpFunc_api_Held_L0 data a_ b_ n_ R (fun (i' : Int) w' => I i' w' ∧ μ i' w' < μ i w) i w

def F_slices_swapRangeCmpFunc_api_Entry_L0 (data : Slc) (a_ : Int) (b_ : Int) (n_ : Int) (R : World → Prop) (again_ : Int → World → Prop) (i : Int) (w1 : World) : Prop :=
  ((decide (i < n_)) = true → (∀ w2, (∃ k, w2 = w1.drewN k) → (IsAt data.ptr ∧ (0 ≤ IntKind.i64.wrap (b_ + i) ∧ IntKind.i64.wrap (b_ + i) < ((data.len : Nat) : Int) ∧ (∃ (v29 : T_api_Entry), CellsAt w2 (pblk data.ptr) ((poff data.ptr) + (IntKind.i64.wrap (b_ + i)).toNat * 2) [Value.string v29.Key, Value.string v29.Val] ∧ (IsAt data.ptr ∧ (0 ≤ IntKind.i64.wrap (a_ + i) ∧ IntKind.i64.wrap (a_ + i) < ((data.len : Nat) : Int) ∧ (∃ (v35 : T_api_Entry), CellsAt w2 (pblk data.ptr) ((poff data.ptr) + (IntKind.i64.wrap (a_ + i)).toNat * 2) [Value.string v35.Key, Value.string v35.Val] ∧ (IsAt data.ptr ∧ (0 ≤ IntKind.i64.wrap (a_ + i) ∧ IntKind.i64.wrap (a_ + i) < ((data.len : Nat) : Int) ∧ (Writable w2 (pblk data.ptr) ((poff data.ptr) + (IntKind.i64.wrap (a_ + i)).toNat * 2) 2 ∧ (∀ w3, w3 = World.puts (pblk data.ptr) ((poff data.ptr) + (IntKind.i64.wrap (a_ + i)).toNat * 2) [Value.string v29.Key, Value.string v29.Val] w2 → ((IsAt data.ptr ∧ (0 ≤ IntKind.i64.wrap (b_ + i) ∧ IntKind.i64.wrap (b_ + i) < ((data.len : Nat) : Int) ∧ (Writable w3 (pblk data.ptr) ((poff data.ptr) + (IntKind.i64.wrap (b_ + i)).toNat * 2) 2 ∧ (∀ w4, w4 = World.puts (pblk data.ptr) ((poff data.ptr) + (IntKind.i64.wrap (b_ + i)).toNat * 2) [Value.string v35.Key, Value.string v35.Val] w3 → ((again_ (IntKind.i64.wrap (i + 1)) w4))))))))))))))))))) ∧
  ((decide (i < n_)) = false → (R w1))

def F_slices_swapRangeCmpFunc_api_Entry (data : Slc) (a_ : Int) (b_ : Int) (n_ : Int) (cmp : Value) (R : World → Prop) (w : World) : Prop :=
  ∃ (I : Int → World → Prop) (μ : Int → World → Nat), I 0 w ∧
  ∀ (i : Int) w, I i w → F_slices_swapRangeCmpFunc_api_Entry_L0 data a_ b_ n_ R (fun (i' : Int) w' => I i' w' ∧ μ i' w' < μ i w) i w

def Ok_T_api_Config (w : World) (x : T_api_Config) : Prop := ((-9223372036854775808) ≤ x.Lanes ∧ x.Lanes ≤ 9223372036854775807) ∧ ((-9223372036854775808) ≤ x.Shards ∧ x.Shards ≤ 9223372036854775807) ∧ ((-9223372036854775808) ≤ x.Window ∧ x.Window ≤ 9223372036854775807) ∧ ((-9223372036854775808) ≤ x.Queue ∧ x.Queue ≤ 9223372036854775807)

def Ok_T_api_Call (w : World) (x : T_api_Call) : Prop := (0 ≤ x.Kind ∧ x.Kind ≤ 255) ∧ (x.Key.size ≤ 140737488351232) ∧ (x.End.size ≤ 140737488351232)

def Ok_T_towpathlaw17_Made (w : World) (x : T_towpathlaw17_Made) : Prop := ((-9223372036854775808) ≤ x.Number ∧ x.Number ≤ 9223372036854775807) ∧ (Ok_T_api_Config w x.Config) ∧ (Ok_T_api_Call w x.Call)

def Ok_T_api_Entry (w : World) (x : T_api_Entry) : Prop := (x.Key.size ≤ 140737488351232) ∧ (x.Val.size ≤ 140737488351232)

def Ok_T_api_Version (w : World) (x : T_api_Version) : Prop := ((-9223372036854775808) ≤ x.Number ∧ x.Number ≤ 9223372036854775807) ∧ (x.Val.size ≤ 140737488351232) ∧ True

def Ok_T_api_Held (w : World) (x : T_api_Held) : Prop := (x.Key.size ≤ 140737488351232) ∧ (OkSlU w x.Versions 3 32 (fun es => ∃ e_ : T_api_Version, es = [Value.int .i64 e_.Number, Value.string e_.Val, Value.bool e_.Drop] ∧ (Ok_T_api_Version w e_)))

def Ok_T_api_Resp (w : World) (x : T_api_Resp) : Prop := ((-9223372036854775808) ≤ x.To ∧ x.To ≤ 9223372036854775807) ∧ True ∧ (OkSlU w x.Entries 2 32 (fun es => ∃ e_ : T_api_Entry, es = [Value.string e_.Key, Value.string e_.Val] ∧ (Ok_T_api_Entry w e_))) ∧ (OkSlU w x.Held 2 40 (fun es => ∃ e_ : T_api_Held, es = [Value.string e_.Key, Value.slice e_.Versions.ptr e_.Versions.len e_.Versions.cap] ∧ (Ok_T_api_Held w e_))) ∧ ((-9223372036854775808) ≤ x.Count ∧ x.Count ≤ 9223372036854775807)

def Ok_T_towpathlaw17_Ask (w : World) (x : T_towpathlaw17_Ask) : Prop := (0 ≤ x.Kind ∧ x.Kind ≤ 255) ∧ ((-9223372036854775808) ≤ x.Mark ∧ x.Mark ≤ 9223372036854775807) ∧ ((-9223372036854775808) ≤ x.Least ∧ x.Least ≤ 9223372036854775807) ∧ (OkSlU w x.Beyond 1 8 (fun es => ∃ e_ : Int, es = [Value.int .i64 e_] ∧ ((-9223372036854775808) ≤ e_ ∧ e_ ≤ 9223372036854775807))) ∧ (Ok_T_api_Resp w x.Resp)

end Go.Proofs.YtpedclhflmhakaaGreatDoor
