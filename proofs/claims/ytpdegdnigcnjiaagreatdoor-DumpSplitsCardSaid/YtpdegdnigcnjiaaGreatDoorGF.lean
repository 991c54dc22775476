/- WRITTEN BY PROGRAM (dec.py): for each Go function the clean formula F, the call's contract C, and the proof S that F gives C. -/
import Derived.Test.YtpdegdnigcnjiaaGreatDoorRows
import Derived.Test.YtpdegdnigcnjiaaGreatDoorCore
namespace Go.Proofs.YtpdegdnigcnjiaaGreatDoor
open Go
set_option linter.unusedVariables false


abbrev ty_int : TypeId := 3

abbrev ty_towpathlaw01_Book : TypeId := 47

abbrev ty_api_Config : TypeId := 65

abbrev ty_sl_api_Held : TypeId := 66

abbrev ty_api_Saved : TypeId := 68

abbrev ty_api_Held : TypeId := 104

abbrev ty_api_Version : TypeId := 109

abbrev ty_towpathlaw01_heldInt : TypeId := 146

abbrev ty_towpathlaw01_heldVersion : TypeId := 162

abbrev ty_towpathlaw01_heldHeld : TypeId := 166

abbrev ty_towpathlaw01_heldHeldList : TypeId := 169

abbrev ty_2_int : TypeId := 197

abbrev ty_shard_Shard : TypeId := 234

structure T_api_Config where
  Lanes : Int
  Shards : Int
  Window : Int
  Queue : Int

structure T_api_Saved where
  Mark : Int
  Beyond : Slc
  Held : Slc

structure T_api_Held where
  Key : ByteArray
  Versions : Slc

structure T_towpathlaw01_heldVersion where
  l : Slc
  long : Slc
  n : Int

structure T_api_Version where
  Number : Int
  Val : ByteArray
  Drop : Bool

structure T_towpathlaw01_heldHeld where
  l : Slc
  long : Slc
  n : Int

structure T_towpathlaw01_heldHeldList where
  l : Slc
  long : Slc
  n : Int

structure T_towpathlaw01_heldInt where
  l : Slc
  long : Slc
  n : Int

structure Arr2_Int where
  e0 : Int
  e1 : Int

def C_towpathlaw18_DumpSplits (c : T_api_Config) (s : T_api_Saved) (w : World) (R : Bool → World → Prop) : Prop :=
  Calls Tryz.prog 4 #[Value.agg #[Value.int .i64 c.Lanes, Value.int .i64 c.Shards, Value.int .i64 c.Window, Value.int .i64 c.Queue], Value.agg #[Value.int .i64 s.Mark, Value.slice s.Beyond.ptr s.Beyond.len s.Beyond.cap, Value.slice s.Held.ptr s.Held.len s.Held.cap]] w (fun e w' => ∃ (r0 : Bool), e = .returned (Value.bool r0) ∧ R r0 w')

def C_towpathlaw01_Beyond (l_ : Slc) (w : World) (R : Bool → World → Prop) : Prop :=
  Calls Tryz.prog 7 #[Value.slice l_.ptr l_.len l_.cap] w (fun e w' => ∃ (r0 : Bool), e = .returned (Value.bool r0) ∧ R r0 w')

def C_towpathlaw01_Book_Apart (b_ : Option Addr) (w : World) (R : Bool → World → Prop) : Prop :=
  Calls Tryz.prog 14 #[Value.pointer b_] w (fun e w' => ∃ (r0 : Bool), e = .returned (Value.bool r0) ∧ R r0 w')

def C_towpathlaw01_Book_Ints (b_ : Option Addr) (l_ : Slc) (w : World) (R : World → Prop) : Prop :=
  Calls Tryz.prog 21 #[Value.pointer b_, Value.slice l_.ptr l_.len l_.cap] w (fun e w' => e = .returned (Value.tuple #[]) ∧ R w')

def C_towpathlaw01_SavedSize (s : T_api_Saved) (w : World) (R : Int → World → Prop) : Prop :=
  Calls Tryz.prog 25 #[Value.agg #[Value.int .i64 s.Mark, Value.slice s.Beyond.ptr s.Beyond.len s.Beyond.cap, Value.slice s.Held.ptr s.Held.len s.Held.cap]] w (fun e w' => ∃ (r0 : Int), e = .returned (Value.int .i64 r0) ∧ R r0 w')

def C_towpathlaw01_TwinSaved (x : T_api_Saved) (w : World) (R : T_api_Saved → World → Prop) : Prop :=
  Calls Tryz.prog 26 #[Value.agg #[Value.int .i64 x.Mark, Value.slice x.Beyond.ptr x.Beyond.len x.Beyond.cap, Value.slice x.Held.ptr x.Held.len x.Held.cap]] w (fun e w' => ∃ (r0 : T_api_Saved), e = .returned (Value.agg #[Value.int .i64 r0.Mark, Value.slice r0.Beyond.ptr r0.Beyond.len r0.Beyond.cap, Value.slice r0.Held.ptr r0.Held.len r0.Held.cap]) ∧ R r0 w')

def C_dump_Split (c : T_api_Config) (s : T_api_Saved) (w : World) (R : Slc → Int → World → Prop) : Prop :=
  Calls Tryz.prog 27 #[Value.agg #[Value.int .i64 c.Lanes, Value.int .i64 c.Shards, Value.int .i64 c.Window, Value.int .i64 c.Queue], Value.agg #[Value.int .i64 s.Mark, Value.slice s.Beyond.ptr s.Beyond.len s.Beyond.cap, Value.slice s.Held.ptr s.Held.len s.Held.cap]] w (fun e w' => ∃ (r0 : Slc) (r1 : Int), e = .returned (Value.tuple #[Value.slice r0.ptr r0.len r0.cap, Value.int .i64 r1]) ∧ R r0 r1 w')

def C_towpathref18_Split (c : T_api_Config) (s : T_api_Saved) (w : World) (R : Slc → Int → World → Prop) : Prop :=
  Calls Tryz.prog 28 #[Value.agg #[Value.int .i64 c.Lanes, Value.int .i64 c.Shards, Value.int .i64 c.Window, Value.int .i64 c.Queue], Value.agg #[Value.int .i64 s.Mark, Value.slice s.Beyond.ptr s.Beyond.len s.Beyond.cap, Value.slice s.Held.ptr s.Held.len s.Held.cap]] w (fun e w' => ∃ (r0 : Slc) (r1 : Int), e = .returned (Value.tuple #[Value.slice r0.ptr r0.len r0.cap, Value.int .i64 r1]) ∧ R r0 r1 w')

def C_towpathlaw01_SameHeldLists (a_ : Slc) (b_ : Slc) (w : World) (R : Bool → World → Prop) : Prop :=
  Calls Tryz.prog 29 #[Value.slice a_.ptr a_.len a_.cap, Value.slice b_.ptr b_.len b_.cap] w (fun e w' => ∃ (r0 : Bool), e = .returned (Value.bool r0) ∧ R r0 w')

def C_towpathlaw01_LeftSaved (t_ : T_api_Saved) (x : T_api_Saved) (w : World) (R : Bool → World → Prop) : Prop :=
  Calls Tryz.prog 30 #[Value.agg #[Value.int .i64 t_.Mark, Value.slice t_.Beyond.ptr t_.Beyond.len t_.Beyond.cap, Value.slice t_.Held.ptr t_.Held.len t_.Held.cap], Value.agg #[Value.int .i64 x.Mark, Value.slice x.Beyond.ptr x.Beyond.len x.Beyond.cap, Value.slice x.Held.ptr x.Held.len x.Held.cap]] w (fun e w' => ∃ (r0 : Bool), e = .returned (Value.bool r0) ∧ R r0 w')

def C_towpathlaw01_Book_Saved (b_ : Option Addr) (s : T_api_Saved) (w : World) (R : World → Prop) : Prop :=
  Calls Tryz.prog 31 #[Value.pointer b_, Value.agg #[Value.int .i64 s.Mark, Value.slice s.Beyond.ptr s.Beyond.len s.Beyond.cap, Value.slice s.Held.ptr s.Held.len s.Held.cap]] w (fun e w' => e = .returned (Value.tuple #[]) ∧ R w')

def C_towpathlaw01_Book_HeldLists (b_ : Option Addr) (l_ : Slc) (w : World) (R : World → Prop) : Prop :=
  Calls Tryz.prog 32 #[Value.pointer b_, Value.slice l_.ptr l_.len l_.cap] w (fun e w' => e = .returned (Value.tuple #[]) ∧ R w')

def C_towpathlaw01_Book_fillByte (b_ : Option Addr) (w : World) (R : World → Prop) : Prop :=
  Calls Tryz.prog 50 #[Value.pointer b_] w (fun e w' => e = .returned (Value.tuple #[]) ∧ R w')

def C_towpathlaw01_Book_fillInt (b_ : Option Addr) (w : World) (R : World → Prop) : Prop :=
  Calls Tryz.prog 51 #[Value.pointer b_] w (fun e w' => e = .returned (Value.tuple #[]) ∧ R w')

def C_towpathlaw01_Book_fillText (b_ : Option Addr) (w : World) (R : World → Prop) : Prop :=
  Calls Tryz.prog 52 #[Value.pointer b_] w (fun e w' => e = .returned (Value.tuple #[]) ∧ R w')

def C_towpathlaw01_Book_fillWrite (b_ : Option Addr) (w : World) (R : World → Prop) : Prop :=
  Calls Tryz.prog 53 #[Value.pointer b_] w (fun e w' => e = .returned (Value.tuple #[]) ∧ R w')

def C_towpathlaw01_Book_fillEntry (b_ : Option Addr) (w : World) (R : World → Prop) : Prop :=
  Calls Tryz.prog 54 #[Value.pointer b_] w (fun e w' => e = .returned (Value.tuple #[]) ∧ R w')

def C_towpathlaw01_Book_fillVersion (b_ : Option Addr) (w : World) (R : World → Prop) : Prop :=
  Calls Tryz.prog 55 #[Value.pointer b_] w (fun e w' => e = .returned (Value.tuple #[]) ∧ R w')

def C_towpathlaw01_Book_fillTxn (b_ : Option Addr) (w : World) (R : World → Prop) : Prop :=
  Calls Tryz.prog 56 #[Value.pointer b_] w (fun e w' => e = .returned (Value.tuple #[]) ∧ R w')

def C_towpathlaw01_Book_fillHeld (b_ : Option Addr) (w : World) (R : World → Prop) : Prop :=
  Calls Tryz.prog 57 #[Value.pointer b_] w (fun e w' => e = .returned (Value.tuple #[]) ∧ R w')

def C_towpathlaw01_Book_fillHeldList (b_ : Option Addr) (w : World) (R : World → Prop) : Prop :=
  Calls Tryz.prog 58 #[Value.pointer b_] w (fun e w' => e = .returned (Value.tuple #[]) ∧ R w')

def C_towpathlaw01_Book_fillEvent (b_ : Option Addr) (w : World) (R : World → Prop) : Prop :=
  Calls Tryz.prog 59 #[Value.pointer b_] w (fun e w' => e = .returned (Value.tuple #[]) ∧ R w')

def C_towpathlaw01_Book_fillAnswer (b_ : Option Addr) (w : World) (R : World → Prop) : Prop :=
  Calls Tryz.prog 60 #[Value.pointer b_] w (fun e w' => e = .returned (Value.tuple #[]) ∧ R w')

def C_towpathlaw01_Book_growByte (b_ : Option Addr) (w : World) (R : World → Prop) : Prop :=
  Calls Tryz.prog 61 #[Value.pointer b_] w (fun e w' => e = .returned (Value.tuple #[]) ∧ R w')

def C_towpathlaw01_Book_growInt (b_ : Option Addr) (w : World) (R : World → Prop) : Prop :=
  Calls Tryz.prog 62 #[Value.pointer b_] w (fun e w' => e = .returned (Value.tuple #[]) ∧ R w')

def C_towpathlaw01_Book_growText (b_ : Option Addr) (w : World) (R : World → Prop) : Prop :=
  Calls Tryz.prog 63 #[Value.pointer b_] w (fun e w' => e = .returned (Value.tuple #[]) ∧ R w')

def C_towpathlaw01_Book_growWrite (b_ : Option Addr) (w : World) (R : World → Prop) : Prop :=
  Calls Tryz.prog 64 #[Value.pointer b_] w (fun e w' => e = .returned (Value.tuple #[]) ∧ R w')

def C_towpathlaw01_Book_growEntry (b_ : Option Addr) (w : World) (R : World → Prop) : Prop :=
  Calls Tryz.prog 65 #[Value.pointer b_] w (fun e w' => e = .returned (Value.tuple #[]) ∧ R w')

def C_towpathlaw01_Book_growVersion (b_ : Option Addr) (w : World) (R : World → Prop) : Prop :=
  Calls Tryz.prog 66 #[Value.pointer b_] w (fun e w' => e = .returned (Value.tuple #[]) ∧ R w')

def C_towpathlaw01_Book_growTxn (b_ : Option Addr) (w : World) (R : World → Prop) : Prop :=
  Calls Tryz.prog 67 #[Value.pointer b_] w (fun e w' => e = .returned (Value.tuple #[]) ∧ R w')

def C_towpathlaw01_Book_growHeld (b_ : Option Addr) (w : World) (R : World → Prop) : Prop :=
  Calls Tryz.prog 68 #[Value.pointer b_] w (fun e w' => e = .returned (Value.tuple #[]) ∧ R w')

def C_towpathlaw01_Book_growHeldList (b_ : Option Addr) (w : World) (R : World → Prop) : Prop :=
  Calls Tryz.prog 69 #[Value.pointer b_] w (fun e w' => e = .returned (Value.tuple #[]) ∧ R w')

def C_towpathlaw01_Book_growEvent (b_ : Option Addr) (w : World) (R : World → Prop) : Prop :=
  Calls Tryz.prog 70 #[Value.pointer b_] w (fun e w' => e = .returned (Value.tuple #[]) ∧ R w')

def C_towpathlaw01_Book_growAnswer (b_ : Option Addr) (w : World) (R : World → Prop) : Prop :=
  Calls Tryz.prog 71 #[Value.pointer b_] w (fun e w' => e = .returned (Value.tuple #[]) ∧ R w')

def C_towpathlaw01_Book_lookByte (b_ : Option Addr) (w : World) (R : Bool → World → Prop) : Prop :=
  Calls Tryz.prog 72 #[Value.pointer b_] w (fun e w' => ∃ (r0 : Bool), e = .returned (Value.bool r0) ∧ R r0 w')

def C_towpathlaw01_Book_lookInt (b_ : Option Addr) (w : World) (R : Bool → World → Prop) : Prop :=
  Calls Tryz.prog 73 #[Value.pointer b_] w (fun e w' => ∃ (r0 : Bool), e = .returned (Value.bool r0) ∧ R r0 w')

def C_towpathlaw01_Book_lookText (b_ : Option Addr) (w : World) (R : Bool → World → Prop) : Prop :=
  Calls Tryz.prog 74 #[Value.pointer b_] w (fun e w' => ∃ (r0 : Bool), e = .returned (Value.bool r0) ∧ R r0 w')

def C_towpathlaw01_Book_lookWrite (b_ : Option Addr) (w : World) (R : Bool → World → Prop) : Prop :=
  Calls Tryz.prog 75 #[Value.pointer b_] w (fun e w' => ∃ (r0 : Bool), e = .returned (Value.bool r0) ∧ R r0 w')

def C_towpathlaw01_Book_lookEntry (b_ : Option Addr) (w : World) (R : Bool → World → Prop) : Prop :=
  Calls Tryz.prog 76 #[Value.pointer b_] w (fun e w' => ∃ (r0 : Bool), e = .returned (Value.bool r0) ∧ R r0 w')

def C_towpathlaw01_Book_lookVersion (b_ : Option Addr) (w : World) (R : Bool → World → Prop) : Prop :=
  Calls Tryz.prog 77 #[Value.pointer b_] w (fun e w' => ∃ (r0 : Bool), e = .returned (Value.bool r0) ∧ R r0 w')

def C_towpathlaw01_Book_lookTxn (b_ : Option Addr) (w : World) (R : Bool → World → Prop) : Prop :=
  Calls Tryz.prog 78 #[Value.pointer b_] w (fun e w' => ∃ (r0 : Bool), e = .returned (Value.bool r0) ∧ R r0 w')

def C_towpathlaw01_Book_lookHeld (b_ : Option Addr) (w : World) (R : Bool → World → Prop) : Prop :=
  Calls Tryz.prog 79 #[Value.pointer b_] w (fun e w' => ∃ (r0 : Bool), e = .returned (Value.bool r0) ∧ R r0 w')

def C_towpathlaw01_Book_lookHeldList (b_ : Option Addr) (w : World) (R : Bool → World → Prop) : Prop :=
  Calls Tryz.prog 80 #[Value.pointer b_] w (fun e w' => ∃ (r0 : Bool), e = .returned (Value.bool r0) ∧ R r0 w')

def C_towpathlaw01_Book_lookEvent (b_ : Option Addr) (w : World) (R : Bool → World → Prop) : Prop :=
  Calls Tryz.prog 81 #[Value.pointer b_] w (fun e w' => ∃ (r0 : Bool), e = .returned (Value.bool r0) ∧ R r0 w')

def C_towpathlaw01_Book_lookAnswer (b_ : Option Addr) (w : World) (R : Bool → World → Prop) : Prop :=
  Calls Tryz.prog 82 #[Value.pointer b_] w (fun e w' => ∃ (r0 : Bool), e = .returned (Value.bool r0) ∧ R r0 w')

def C_towpathlaw01_Book_keepInt (b_ : Option Addr) (l_ : Slc) (w : World) (R : World → Prop) : Prop :=
  Calls Tryz.prog 85 #[Value.pointer b_, Value.slice l_.ptr l_.len l_.cap] w (fun e w' => e = .returned (Value.tuple #[]) ∧ R w')

def C_towpathlaw01_HeldsSize (l_ : Slc) (w : World) (R : Int → World → Prop) : Prop :=
  Calls Tryz.prog 87 #[Value.slice l_.ptr l_.len l_.cap] w (fun e w' => ∃ (r0 : Int), e = .returned (Value.int .i64 r0) ∧ R r0 w')

def C_towpathlaw01_TwinInts (l_ : Slc) (w : World) (R : Slc → World → Prop) : Prop :=
  Calls Tryz.prog 88 #[Value.slice l_.ptr l_.len l_.cap] w (fun e w' => ∃ (r0 : Slc), e = .returned (Value.slice r0.ptr r0.len r0.cap) ∧ R r0 w')

def C_towpathlaw01_TwinHelds (l_ : Slc) (w : World) (R : Slc → World → Prop) : Prop :=
  Calls Tryz.prog 89 #[Value.slice l_.ptr l_.len l_.cap] w (fun e w' => ∃ (r0 : Slc), e = .returned (Value.slice r0.ptr r0.len r0.cap) ∧ R r0 w')

def C_conf_Check (c : T_api_Config) (w : World) (R : Int → World → Prop) : Prop :=
  Calls Tryz.prog 90 #[Value.agg #[Value.int .i64 c.Lanes, Value.int .i64 c.Shards, Value.int .i64 c.Window, Value.int .i64 c.Queue]] w (fun e w' => ∃ (r0 : Int), e = .returned (Value.int .i64 r0) ∧ R r0 w')

def C_dump_Check (s : T_api_Saved) (w : World) (R : Int → World → Prop) : Prop :=
  Calls Tryz.prog 91 #[Value.agg #[Value.int .i64 s.Mark, Value.slice s.Beyond.ptr s.Beyond.len s.Beyond.cap, Value.slice s.Held.ptr s.Held.len s.Held.cap]] w (fun e w' => ∃ (r0 : Int), e = .returned (Value.int .i64 r0) ∧ R r0 w')

def C_conf_Shard (c : T_api_Config) (key : ByteArray) (w : World) (R : Int → Int → World → Prop) : Prop :=
  Calls Tryz.prog 92 #[Value.agg #[Value.int .i64 c.Lanes, Value.int .i64 c.Shards, Value.int .i64 c.Window, Value.int .i64 c.Queue], Value.string key] w (fun e w' => ∃ (r0 : Int) (r1 : Int), e = .returned (Value.tuple #[Value.int .i64 r0, Value.int .i64 r1]) ∧ R r0 r1 w')

def C_slices_Clone_api_Version_api_Version (s : Slc) (w : World) (R : Slc → World → Prop) : Prop :=
  Calls Tryz.prog 93 #[Value.slice s.ptr s.len s.cap] w (fun e w' => ∃ (r0 : Slc), e = .returned (Value.slice r0.ptr r0.len r0.cap) ∧ R r0 w')

def C_towpathref13_Check (c : T_api_Config) (w : World) (R : Int → World → Prop) : Prop :=
  Calls Tryz.prog 94 #[Value.agg #[Value.int .i64 c.Lanes, Value.int .i64 c.Shards, Value.int .i64 c.Window, Value.int .i64 c.Queue]] w (fun e w' => ∃ (r0 : Int), e = .returned (Value.int .i64 r0) ∧ R r0 w')

def C_towpathref18_Check (s : T_api_Saved) (w : World) (R : Int → World → Prop) : Prop :=
  Calls Tryz.prog 95 #[Value.agg #[Value.int .i64 s.Mark, Value.slice s.Beyond.ptr s.Beyond.len s.Beyond.cap, Value.slice s.Held.ptr s.Held.len s.Held.cap]] w (fun e w' => ∃ (r0 : Int), e = .returned (Value.int .i64 r0) ∧ R r0 w')

def C_towpathref13_Shard (c : T_api_Config) (key : ByteArray) (w : World) (R : Int → Int → World → Prop) : Prop :=
  Calls Tryz.prog 96 #[Value.agg #[Value.int .i64 c.Lanes, Value.int .i64 c.Shards, Value.int .i64 c.Window, Value.int .i64 c.Queue], Value.string key] w (fun e w' => ∃ (r0 : Int) (r1 : Int), e = .returned (Value.tuple #[Value.int .i64 r0, Value.int .i64 r1]) ∧ R r0 r1 w')

def C_towpathref09_Own (l_ : Slc) (w : World) (R : Slc → World → Prop) : Prop :=
  Calls Tryz.prog 97 #[Value.slice l_.ptr l_.len l_.cap] w (fun e w' => ∃ (r0 : Slc), e = .returned (Value.slice r0.ptr r0.len r0.cap) ∧ R r0 w')

def C_towpathlaw01_SameHelds (a_ : Slc) (b_ : Slc) (w : World) (R : Bool → World → Prop) : Prop :=
  Calls Tryz.prog 98 #[Value.slice a_.ptr a_.len a_.cap, Value.slice b_.ptr b_.len b_.cap] w (fun e w' => ∃ (r0 : Bool), e = .returned (Value.bool r0) ∧ R r0 w')

def C_towpathlaw01_LeftInts (t_ : Slc) (l_ : Slc) (w : World) (R : Bool → World → Prop) : Prop :=
  Calls Tryz.prog 99 #[Value.slice t_.ptr t_.len t_.cap, Value.slice l_.ptr l_.len l_.cap] w (fun e w' => ∃ (r0 : Bool), e = .returned (Value.bool r0) ∧ R r0 w')

def C_towpathlaw01_LeftHelds (t_ : Slc) (l_ : Slc) (w : World) (R : Bool → World → Prop) : Prop :=
  Calls Tryz.prog 100 #[Value.slice t_.ptr t_.len t_.cap, Value.slice l_.ptr l_.len l_.cap] w (fun e w' => ∃ (r0 : Bool), e = .returned (Value.bool r0) ∧ R r0 w')

def C_towpathlaw01_Book_Helds (b_ : Option Addr) (l_ : Slc) (w : World) (R : World → Prop) : Prop :=
  Calls Tryz.prog 101 #[Value.pointer b_, Value.slice l_.ptr l_.len l_.cap] w (fun e w' => e = .returned (Value.tuple #[]) ∧ R w')

def C_towpathlaw01_Book_keepHeldList (b_ : Option Addr) (l_ : Slc) (w : World) (R : World → Prop) : Prop :=
  Calls Tryz.prog 102 #[Value.pointer b_, Value.slice l_.ptr l_.len l_.cap] w (fun e w' => e = .returned (Value.tuple #[]) ∧ R w')

def C_towpathlaw01_markInt (n_ : Int) (w : World) (R : Int → World → Prop) : Prop :=
  Calls Tryz.prog 126 #[Value.int .i64 n_] w (fun e w' => ∃ (r0 : Int), e = .returned (Value.int .i64 r0) ∧ R r0 w')

def C_towpathlaw01_markVersion (n_ : Int) (w : World) (R : T_api_Version → World → Prop) : Prop :=
  Calls Tryz.prog 130 #[Value.int .i64 n_] w (fun e w' => ∃ (r0 : T_api_Version), e = .returned (Value.agg #[Value.int .i64 r0.Number, Value.string r0.Val, Value.bool r0.Drop]) ∧ R r0 w')

def C_towpathlaw01_markHeld (n_ : Int) (w : World) (R : T_api_Held → World → Prop) : Prop :=
  Calls Tryz.prog 132 #[Value.int .i64 n_] w (fun e w' => ∃ (r0 : T_api_Held), e = .returned (Value.agg #[Value.string r0.Key, Value.slice r0.Versions.ptr r0.Versions.len r0.Versions.cap]) ∧ R r0 w')

def C_towpathlaw01_markHeldList (n_ : Int) (w : World) (R : Slc → World → Prop) : Prop :=
  Calls Tryz.prog 133 #[Value.int .i64 n_] w (fun e w' => ∃ (r0 : Slc), e = .returned (Value.slice r0.ptr r0.len r0.cap) ∧ R r0 w')

def C_towpathlaw01_isInt (x : Int) (n_ : Int) (w : World) (R : Bool → World → Prop) : Prop :=
  Calls Tryz.prog 137 #[Value.int .i64 x, Value.int .i64 n_] w (fun e w' => ∃ (r0 : Bool), e = .returned (Value.bool r0) ∧ R r0 w')

def C_towpathlaw01_isVersion (x : T_api_Version) (n_ : Int) (w : World) (R : Bool → World → Prop) : Prop :=
  Calls Tryz.prog 141 #[Value.agg #[Value.int .i64 x.Number, Value.string x.Val, Value.bool x.Drop], Value.int .i64 n_] w (fun e w' => ∃ (r0 : Bool), e = .returned (Value.bool r0) ∧ R r0 w')

def C_towpathlaw01_isHeld (x : T_api_Held) (n_ : Int) (w : World) (R : Bool → World → Prop) : Prop :=
  Calls Tryz.prog 143 #[Value.agg #[Value.string x.Key, Value.slice x.Versions.ptr x.Versions.len x.Versions.cap], Value.int .i64 n_] w (fun e w' => ∃ (r0 : Bool), e = .returned (Value.bool r0) ∧ R r0 w')

def C_towpathlaw01_isHeldList (x : Slc) (n_ : Int) (w : World) (R : Bool → World → Prop) : Prop :=
  Calls Tryz.prog 144 #[Value.slice x.ptr x.len x.cap, Value.int .i64 n_] w (fun e w' => ∃ (r0 : Bool), e = .returned (Value.bool r0) ∧ R r0 w')

def C_towpathlaw01_VersionsSize (l_ : Slc) (w : World) (R : Int → World → Prop) : Prop :=
  Calls Tryz.prog 148 #[Value.slice l_.ptr l_.len l_.cap] w (fun e w' => ∃ (r0 : Int), e = .returned (Value.int .i64 r0) ∧ R r0 w')

def C_towpathlaw01_TwinHeld (x : T_api_Held) (w : World) (R : T_api_Held → World → Prop) : Prop :=
  Calls Tryz.prog 149 #[Value.agg #[Value.string x.Key, Value.slice x.Versions.ptr x.Versions.len x.Versions.cap]] w (fun e w' => ∃ (r0 : T_api_Held), e = .returned (Value.agg #[Value.string r0.Key, Value.slice r0.Versions.ptr r0.Versions.len r0.Versions.cap]) ∧ R r0 w')

def C_shard_Load (l_ : Slc) (w : World) (R : Option Addr → Int → World → Prop) : Prop :=
  Calls Tryz.prog 150 #[Value.slice l_.ptr l_.len l_.cap] w (fun e w' => ∃ (r0 : Option Addr) (r1 : Int), e = .returned (Value.tuple #[Value.pointer r0, Value.int .i64 r1]) ∧ R r0 r1 w')

def C_slices_BinarySearch_int_int (x : Slc) (target : Int) (w : World) (R : Int → Bool → World → Prop) : Prop :=
  Calls Tryz.prog 151 #[Value.slice x.ptr x.len x.cap, Value.int .i64 target] w (fun e w' => ∃ (r0 : Int) (r1 : Bool), e = .returned (Value.tuple #[Value.int .i64 r0, Value.bool r1]) ∧ R r0 r1 w')

def C_sum_Hash (key : ByteArray) (w : World) (R : Int → World → Prop) : Prop :=
  Calls Tryz.prog 152 #[Value.string key] w (fun e w' => ∃ (r0 : Int), e = .returned (Value.int .u32 r0) ∧ R r0 w')

def C_towpathref13_in (n_ : Int) (most : Int) (w : World) (R : Bool → World → Prop) : Prop :=
  Calls Tryz.prog 153 #[Value.int .i64 n_, Value.int .i64 most] w (fun e w' => ∃ (r0 : Bool), e = .returned (Value.bool r0) ∧ R r0 w')

def C_towpathref12_May (mark : Int) (beyond : Slc) (w : World) (R : Bool → World → Prop) : Prop :=
  Calls Tryz.prog 154 #[Value.int .i64 mark, Value.slice beyond.ptr beyond.len beyond.cap] w (fun e w' => ∃ (r0 : Bool), e = .returned (Value.bool r0) ∧ R r0 w')

def C_towpathref09_May (l_ : Slc) (w : World) (R : Bool → World → Prop) : Prop :=
  Calls Tryz.prog 155 #[Value.slice l_.ptr l_.len l_.cap] w (fun e w' => ∃ (r0 : Bool), e = .returned (Value.bool r0) ∧ R r0 w')

def C_towpathref18_among (l_ : Slc) (n_ : Int) (w : World) (R : Bool → World → Prop) : Prop :=
  Calls Tryz.prog 156 #[Value.slice l_.ptr l_.len l_.cap, Value.int .i64 n_] w (fun e w' => ∃ (r0 : Bool), e = .returned (Value.bool r0) ∧ R r0 w')

def C_towpathref05_Key (s : ByteArray) (w : World) (R : Bool → World → Prop) : Prop :=
  Calls Tryz.prog 157 #[Value.string s] w (fun e w' => ∃ (r0 : Bool), e = .returned (Value.bool r0) ∧ R r0 w')

def C_towpathref03_Hash (key : ByteArray) (w : World) (R : Int → World → Prop) : Prop :=
  Calls Tryz.prog 158 #[Value.string key] w (fun e w' => ∃ (r0 : Int), e = .returned (Value.int .u32 r0) ∧ R r0 w')

def C_towpathlaw01_SameHeld (a_ : T_api_Held) (b_ : T_api_Held) (w : World) (R : Bool → World → Prop) : Prop :=
  Calls Tryz.prog 159 #[Value.agg #[Value.string a_.Key, Value.slice a_.Versions.ptr a_.Versions.len a_.Versions.cap], Value.agg #[Value.string b_.Key, Value.slice b_.Versions.ptr b_.Versions.len b_.Versions.cap]] w (fun e w' => ∃ (r0 : Bool), e = .returned (Value.bool r0) ∧ R r0 w')

def C_towpathlaw01_LeftHeld (t_ : T_api_Held) (x : T_api_Held) (w : World) (R : Bool → World → Prop) : Prop :=
  Calls Tryz.prog 160 #[Value.agg #[Value.string t_.Key, Value.slice t_.Versions.ptr t_.Versions.len t_.Versions.cap], Value.agg #[Value.string x.Key, Value.slice x.Versions.ptr x.Versions.len x.Versions.cap]] w (fun e w' => ∃ (r0 : Bool), e = .returned (Value.bool r0) ∧ R r0 w')

def C_towpathlaw01_Book_Versions (b_ : Option Addr) (l_ : Slc) (w : World) (R : World → Prop) : Prop :=
  Calls Tryz.prog 161 #[Value.pointer b_, Value.slice l_.ptr l_.len l_.cap] w (fun e w' => e = .returned (Value.tuple #[]) ∧ R w')

def C_towpathlaw01_Book_keepHeld (b_ : Option Addr) (l_ : Slc) (w : World) (R : World → Prop) : Prop :=
  Calls Tryz.prog 162 #[Value.pointer b_, Value.slice l_.ptr l_.len l_.cap] w (fun e w' => e = .returned (Value.tuple #[]) ∧ R w')

def C_towpathlaw01_word (n_ : Int) (w : World) (R : ByteArray → World → Prop) : Prop :=
  Calls Tryz.prog 186 #[Value.int .i64 n_] w (fun e w' => ∃ (r0 : ByteArray), e = .returned (Value.string r0) ∧ R r0 w')

def C_towpathlaw01_TwinVersions (l_ : Slc) (w : World) (R : Slc → World → Prop) : Prop :=
  Calls Tryz.prog 187 #[Value.slice l_.ptr l_.len l_.cap] w (fun e w' => ∃ (r0 : Slc), e = .returned (Value.slice r0.ptr r0.len r0.cap) ∧ R r0 w')

def C_shard_New (w : World) (R : Option Addr → World → Prop) : Prop :=
  Calls Tryz.prog 188 #[] w (fun e w' => ∃ (r0 : Option Addr), e = .returned (Value.pointer r0) ∧ R r0 w')

def C_shard_may (key : ByteArray) (w : World) (R : Bool → World → Prop) : Prop :=
  Calls Tryz.prog 189 #[Value.string key] w (fun e w' => ∃ (r0 : Bool), e = .returned (Value.bool r0) ∧ R r0 w')

def C_chain_Check (l_ : Slc) (w : World) (R : Int → World → Prop) : Prop :=
  Calls Tryz.prog 190 #[Value.slice l_.ptr l_.len l_.cap] w (fun e w' => ∃ (r0 : Int), e = .returned (Value.int .i64 r0) ∧ R r0 w')

def C_cmp_Less_int (x : Int) (y : Int) (w : World) (R : Bool → World → Prop) : Prop :=
  Calls Tryz.prog 191 #[Value.int .i64 x, Value.int .i64 y] w (fun e w' => ∃ (r0 : Bool), e = .returned (Value.bool r0) ∧ R r0 w')

def C_slices_isNaN_int (x : Int) (w : World) (R : Bool → World → Prop) : Prop :=
  Calls Tryz.prog 192 #[Value.int .i64 x] w (fun e w' => ∃ (r0 : Bool), e = .returned (Value.bool r0) ∧ R r0 w')

def C_towpathref08_Check (l_ : Slc) (w : World) (R : Int → World → Prop) : Prop :=
  Calls Tryz.prog 193 #[Value.slice l_.ptr l_.len l_.cap] w (fun e w' => ∃ (r0 : Int), e = .returned (Value.int .i64 r0) ∧ R r0 w')

def C_towpathlaw01_SameVersions (a_ : Slc) (b_ : Slc) (w : World) (R : Bool → World → Prop) : Prop :=
  Calls Tryz.prog 194 #[Value.slice a_.ptr a_.len a_.cap, Value.slice b_.ptr b_.len b_.cap] w (fun e w' => ∃ (r0 : Bool), e = .returned (Value.bool r0) ∧ R r0 w')

def C_towpathlaw01_LeftVersions (t_ : Slc) (l_ : Slc) (w : World) (R : Bool → World → Prop) : Prop :=
  Calls Tryz.prog 195 #[Value.slice t_.ptr t_.len t_.cap, Value.slice l_.ptr l_.len l_.cap] w (fun e w' => ∃ (r0 : Bool), e = .returned (Value.bool r0) ∧ R r0 w')

def C_towpathlaw01_Book_keepVersion (b_ : Option Addr) (l_ : Slc) (w : World) (R : World → Prop) : Prop :=
  Calls Tryz.prog 196 #[Value.pointer b_, Value.slice l_.ptr l_.len l_.cap] w (fun e w' => e = .returned (Value.tuple #[]) ∧ R w')

def C_strconv_Itoa (i : Int) (w : World) (R : ByteArray → World → Prop) : Prop :=
  Calls Tryz.prog 207 #[Value.int .i64 i] w (fun e w' => ∃ (r0 : ByteArray), e = .returned (Value.string r0) ∧ R r0 w')

def C_cmp_isNaN_int (x : Int) (w : World) (R : Bool → World → Prop) : Prop :=
  Calls Tryz.prog 208 #[Value.int .i64 x] w (fun e w' => ∃ (r0 : Bool), e = .returned (Value.bool r0) ∧ R r0 w')

def C_towpathref08_May (v : T_api_Version) (w : World) (R : Bool → World → Prop) : Prop :=
  Calls Tryz.prog 209 #[Value.agg #[Value.int .i64 v.Number, Value.string v.Val, Value.bool v.Drop]] w (fun e w' => ∃ (r0 : Bool), e = .returned (Value.bool r0) ∧ R r0 w')

def F_towpathlaw18_DumpSplits_k0 (R : Bool → World → Prop) (b_3 : Nat) (l_ : Slc) (t43 : Bool) (w11 : World) : Prop :=
  (t43 = true → (R false w11)) ∧
  (t43 = false → (∀ b_4 w12, b_4 = w11.heap.size → w12 = w11.alloc (Obj.cells ([Value.int .i64 0, Value.slice none 0 0, Value.slice none 0 0, Value.slice none 0 0, Value.slice none 0 0, Value.slice none 0 0, Value.slice none 0 0, Value.slice none 0 0, Value.slice none 0 0, Value.slice none 0 0, Value.slice none 0 0, Value.slice none 0 0]).toArray ty_towpathlaw01_Book (0, 0)) → (Writable w12 b_4 0 12 ∧ (∀ w13, w13 = World.puts b_4 0 [Value.int .i64 0, Value.slice none 0 0, Value.slice none 0 0, Value.slice none 0 0, Value.slice none 0 0, Value.slice none 0 0, Value.slice none 0 0, Value.slice none 0 0, Value.slice none 0 0, Value.slice none 0 0, Value.slice none 0 0, Value.slice none 0 0] w12 → (∃ (v45 : T_api_Saved), CellsAt w13 b_3 0 [Value.int .i64 v45.Mark, Value.slice v45.Beyond.ptr v45.Beyond.len v45.Beyond.cap, Value.slice v45.Held.ptr v45.Held.len v45.Held.cap] ∧ (C_towpathlaw01_Book_Saved (some ⟨b_4, 0, none⟩) v45 w13 (fun w14 => C_towpathlaw01_Book_HeldLists (some ⟨b_4, 0, none⟩) l_ w14 (fun w15 => C_towpathlaw01_Book_Apart (some ⟨b_4, 0, none⟩) w15 (fun (v49 : Bool) w16 => R v49 w16)))))))))

def F_towpathlaw18_DumpSplits (c : T_api_Config) (s : T_api_Saved) (R : Bool → World → Prop) (w : World) : Prop :=
  ∀ b_ w1, b_ = w.heap.size → w1 = w.alloc (Obj.cells ([Value.int .i64 c.Lanes, Value.int .i64 c.Shards, Value.int .i64 c.Window, Value.int .i64 c.Queue]).toArray ty_api_Config (0, 0)) → (∀ b_1 w2, b_1 = w1.heap.size → w2 = w1.alloc (Obj.cells ([Value.int .i64 s.Mark, Value.slice s.Beyond.ptr s.Beyond.len s.Beyond.cap, Value.slice s.Held.ptr s.Held.len s.Held.cap]).toArray ty_api_Saved (0, 0)) → (∃ (v11 : T_api_Saved), CellsAt w2 b_1 0 [Value.int .i64 v11.Mark, Value.slice v11.Beyond.ptr v11.Beyond.len v11.Beyond.cap, Value.slice v11.Held.ptr v11.Held.len v11.Held.cap] ∧ (C_towpathlaw01_SavedSize v11 w2 (fun (v12 : Int) w3 => ∀ b_2 w4, b_2 = w3.heap.size → w4 = w3.alloc (Obj.cells ([Value.int .i64 v12]).toArray ty_int (0, 0)) → (C_towpathlaw01_Beyond (Slc.mk (some ⟨b_2, 0, none⟩) 1 1) w4 (fun (v14 : Bool) w5 => (v14 = true → (R true w5)) ∧
  (v14 = false → (∃ (v15 : T_api_Saved), CellsAt w5 b_1 0 [Value.int .i64 v15.Mark, Value.slice v15.Beyond.ptr v15.Beyond.len v15.Beyond.cap, Value.slice v15.Held.ptr v15.Held.len v15.Held.cap] ∧ (C_towpathlaw01_TwinSaved v15 w5 (fun (v16 : T_api_Saved) w6 => ∀ b_3 w7, b_3 = w6.heap.size → w7 = w6.alloc (Obj.cells ([Value.int .i64 0, Value.slice none 0 0, Value.slice none 0 0]).toArray ty_api_Saved (0, 0)) → (Writable w7 b_3 0 3 ∧ (∀ w8, w8 = World.puts b_3 0 [Value.int .i64 v16.Mark, Value.slice v16.Beyond.ptr v16.Beyond.len v16.Beyond.cap, Value.slice v16.Held.ptr v16.Held.len v16.Held.cap] w7 → (∃ (v18 : T_api_Config), CellsAt w8 b_ 0 [Value.int .i64 v18.Lanes, Value.int .i64 v18.Shards, Value.int .i64 v18.Window, Value.int .i64 v18.Queue] ∧ (∃ (v19 : T_api_Saved), CellsAt w8 b_3 0 [Value.int .i64 v19.Mark, Value.slice v19.Beyond.ptr v19.Beyond.len v19.Beyond.cap, Value.slice v19.Held.ptr v19.Held.len v19.Held.cap] ∧ (C_dump_Split v18 v19 w8 (fun (l_ : Slc) (e : Int) w9 => ∃ (v24 : T_api_Config), CellsAt w9 b_ 0 [Value.int .i64 v24.Lanes, Value.int .i64 v24.Shards, Value.int .i64 v24.Window, Value.int .i64 v24.Queue] ∧ (∃ (v25 : T_api_Saved), CellsAt w9 b_1 0 [Value.int .i64 v25.Mark, Value.slice v25.Beyond.ptr v25.Beyond.len v25.Beyond.cap, Value.slice v25.Held.ptr v25.Held.len v25.Held.cap] ∧ (C_towpathref18_Split v24 v25 w9 (fun (want : Slc) (f : Int) w10 => ((e != f) = true → (F_towpathlaw18_DumpSplits_k0 R b_3 l_ true w10)) ∧
  ((e != f) = false → (C_towpathlaw01_SameHeldLists l_ want w10 (fun (v35 : Bool) w17 => ((!v35) = true → (F_towpathlaw18_DumpSplits_k0 R b_3 l_ true w17)) ∧
  ((!v35) = false → (∃ (v39 : T_api_Saved), CellsAt w17 b_3 0 [Value.int .i64 v39.Mark, Value.slice v39.Beyond.ptr v39.Beyond.len v39.Beyond.cap, Value.slice v39.Held.ptr v39.Held.len v39.Held.cap] ∧ (∃ (v40 : T_api_Saved), CellsAt w17 b_1 0 [Value.int .i64 v40.Mark, Value.slice v40.Beyond.ptr v40.Beyond.len v40.Beyond.cap, Value.slice v40.Held.ptr v40.Held.len v40.Held.cap] ∧ (C_towpathlaw01_LeftSaved v39 v40 w17 (fun (v41 : Bool) w18 => F_towpathlaw18_DumpSplits_k0 R b_3 l_ (!v41) w18)))))))))))))))))))))))))))

def F_towpathlaw01_Beyond_L0 (l_ : Slc) (R : Bool → World → Prop) (again_ : Int → Int → World → Prop) (n_ : Int) (i : Int) (w1 : World) : Prop :=
  ((decide (i < ((l_.len : Nat) : Int))) = true → (IsAt l_.ptr ∧ (0 ≤ i ∧ i < ((l_.len : Nat) : Int) ∧ (∃ (v15 : Int), w1.cell? ⟨(pblk l_.ptr), (poff l_.ptr) + i.toNat, none⟩ = some (Value.int .i64 v15) ∧ (((decide ((IntKind.i64.wrap (n_ + v15)) > 1048576)) = true → (R true w1)) ∧
  ((decide ((IntKind.i64.wrap (n_ + v15)) > 1048576)) = false → (again_ (IntKind.i64.wrap (n_ + v15)) (IntKind.i64.wrap (i + 1)) w1))))))) ∧
  ((decide (i < ((l_.len : Nat) : Int))) = false → (R false w1))

def F_towpathlaw01_Beyond (l_ : Slc) (R : Bool → World → Prop) (w : World) : Prop :=
  ∃ (I : Int → Int → World → Prop) (μ : Int → Int → World → Nat), I 0 0 w ∧
  ∀ (n_ : Int) (i : Int) w, I n_ i w → F_towpathlaw01_Beyond_L0 l_ R (fun (n_' : Int) (i' : Int) w' => I n_' i' w' ∧ μ n_' i' w' < μ n_ i w) n_ i w

def F_towpathlaw01_Book_Apart (b_ : Option Addr) (R : Bool → World → Prop) (w : World) : Prop :=
  C_towpathlaw01_Book_fillByte b_ w (fun w1 => C_towpathlaw01_Book_fillInt b_ w1 (fun w2 => C_towpathlaw01_Book_fillText b_ w2 (fun w3 => C_towpathlaw01_Book_fillWrite b_ w3 (fun w4 => C_towpathlaw01_Book_fillEntry b_ w4 (fun w5 => C_towpathlaw01_Book_fillVersion b_ w5 (fun w6 => C_towpathlaw01_Book_fillTxn b_ w6 (fun w7 => C_towpathlaw01_Book_fillHeld b_ w7 (fun w8 => C_towpathlaw01_Book_fillHeldList b_ w8 (fun w9 => C_towpathlaw01_Book_fillEvent b_ w9 (fun w10 => C_towpathlaw01_Book_fillAnswer b_ w10 (fun w11 => C_towpathlaw01_Book_growByte b_ w11 (fun w12 => C_towpathlaw01_Book_growInt b_ w12 (fun w13 => C_towpathlaw01_Book_growText b_ w13 (fun w14 => C_towpathlaw01_Book_growWrite b_ w14 (fun w15 => C_towpathlaw01_Book_growEntry b_ w15 (fun w16 => C_towpathlaw01_Book_growVersion b_ w16 (fun w17 => C_towpathlaw01_Book_growTxn b_ w17 (fun w18 => C_towpathlaw01_Book_growHeld b_ w18 (fun w19 => C_towpathlaw01_Book_growHeldList b_ w19 (fun w20 => C_towpathlaw01_Book_growEvent b_ w20 (fun w21 => C_towpathlaw01_Book_growAnswer b_ w21 (fun w22 => C_towpathlaw01_Book_lookByte b_ w22 (fun (v48 : Bool) w23 => (v48 = true → (C_towpathlaw01_Book_lookInt b_ w23 (fun (v51 : Bool) w24 => (v51 = true → (C_towpathlaw01_Book_lookText b_ w24 (fun (v55 : Bool) w25 => (v55 = true → (C_towpathlaw01_Book_lookWrite b_ w25 (fun (v59 : Bool) w26 => (v59 = true → (C_towpathlaw01_Book_lookEntry b_ w26 (fun (v63 : Bool) w27 => (v63 = true → (C_towpathlaw01_Book_lookVersion b_ w27 (fun (v67 : Bool) w28 => (v67 = true → (C_towpathlaw01_Book_lookTxn b_ w28 (fun (v71 : Bool) w29 => (v71 = true → (C_towpathlaw01_Book_lookHeld b_ w29 (fun (v75 : Bool) w30 => (v75 = true → (C_towpathlaw01_Book_lookHeldList b_ w30 (fun (v79 : Bool) w31 => (v79 = true → (C_towpathlaw01_Book_lookEvent b_ w31 (fun (v83 : Bool) w32 => (v83 = true → (C_towpathlaw01_Book_lookAnswer b_ w32 (fun (v87 : Bool) w33 => R v87 w33))) ∧
  (v83 = false → (R false w32))))) ∧
  (v79 = false → (R false w31))))) ∧
  (v75 = false → (R false w30))))) ∧
  (v71 = false → (R false w29))))) ∧
  (v67 = false → (R false w28))))) ∧
  (v63 = false → (R false w27))))) ∧
  (v59 = false → (R false w26))))) ∧
  (v55 = false → (R false w25))))) ∧
  (v51 = false → (R false w24))))) ∧
  (v48 = false → (R false w23)))))))))))))))))))))))))

def F_towpathlaw01_Book_Ints (b_ : Option Addr) (l_ : Slc) (R : World → Prop) (w : World) : Prop :=
  C_towpathlaw01_Book_keepInt b_ l_ w (fun w1 => R w1)

def F_towpathlaw01_SavedSize (s : T_api_Saved) (R : Int → World → Prop) (w : World) : Prop :=
  ∀ b_ w1, b_ = w.heap.size → w1 = w.alloc (Obj.cells ([Value.int .i64 s.Mark, Value.slice s.Beyond.ptr s.Beyond.len s.Beyond.cap, Value.slice s.Held.ptr s.Held.len s.Held.cap]).toArray ty_api_Saved (0, 0)) → (∃ (v4 : Slc), w1.cell? ⟨b_, 1, none⟩ = some (Value.slice v4.ptr v4.len v4.cap) ∧ (∃ (v7 : Slc), w1.cell? ⟨b_, 2, none⟩ = some (Value.slice v7.ptr v7.len v7.cap) ∧ (∃ (v8 : Int), (∀ w', Ext w1 w' → C_towpathlaw01_HeldsSize v7 w' (fun (v8' : Int) w'' => v8' = v8 ∧ Ext w' w'')) ∧ (∀ w3, Ext w1 w3 → (R (IntKind.i64.wrap (((v4.len : Nat) : Int) + v8)) w3)))))

def F_towpathlaw01_TwinSaved (x : T_api_Saved) (R : T_api_Saved → World → Prop) (w : World) : Prop :=
  ∀ b_ w1, b_ = w.heap.size → w1 = w.alloc (Obj.cells ([Value.int .i64 x.Mark, Value.slice x.Beyond.ptr x.Beyond.len x.Beyond.cap, Value.slice x.Held.ptr x.Held.len x.Held.cap]).toArray ty_api_Saved (0, 0)) → (∀ b_1 w2, b_1 = w1.heap.size → w2 = w1.alloc (Obj.cells ([Value.int .i64 0, Value.slice none 0 0, Value.slice none 0 0]).toArray ty_api_Saved (0, 0)) → (∀ w3, (∃ k, w3 = w2.drewN k) → (∃ (v4 : Int), w3.cell? ⟨b_, 0, none⟩ = some (Value.int .i64 v4) ∧ (∃ (v6 : Slc), w3.cell? ⟨b_, 1, none⟩ = some (Value.slice v6.ptr v6.len v6.cap) ∧ (∃ (v9 : Slc), w3.cell? ⟨b_, 2, none⟩ = some (Value.slice v9.ptr v9.len v9.cap) ∧ (C_towpathlaw01_TwinInts v6 w3 (fun (v7 : Slc) w4 => w4.cell? ⟨b_, 2, none⟩ = some (Value.slice v9.ptr v9.len v9.cap) ∧ w4.cell? ⟨b_, 0, none⟩ = some (Value.int .i64 v4) ∧ (C_towpathlaw01_TwinHelds v9 w4 (fun (v10 : Slc) w5 => w5.cell? ⟨b_, 0, none⟩ = some (Value.int .i64 v4) ∧ (Writable w5 b_1 0 3 ∧ (∀ w6, w6 = World.puts b_1 0 [Value.int .i64 v4, Value.slice v7.ptr v7.len v7.cap, Value.slice v10.ptr v10.len v10.cap] w5 → ((∃ (res : T_api_Saved), CellsAt w6 b_1 0 [Value.int .i64 res.Mark, Value.slice res.Beyond.ptr res.Beyond.len res.Beyond.cap, Value.slice res.Held.ptr res.Held.len res.Held.cap] ∧ (R res w6))))))))))))))

def F_dump_Split_L0 (R : Slc → Int → World → Prop) (b_ : Nat) (b_1 : Nat) (v24 : Int) (b_2 : Nat) (v27 : Slc) (again_ : Int → World → Prop) (t29 : Int) (w6 : World) : Prop :=
  ((decide (t29 < ((v27.len : Nat) : Int))) = true → (∃ (v33 : Slc), w6.cell? ⟨b_1, 2, none⟩ = some (Value.slice v33.ptr v33.len v33.cap) ∧ (IsAt v33.ptr ∧ (0 ≤ t29 ∧ t29 < ((v33.len : Nat) : Int) ∧ (∃ (v36 : T_api_Held), CellsAt w6 (pblk v33.ptr) ((poff v33.ptr) + t29.toNat * 2) [Value.string v36.Key, Value.slice v36.Versions.ptr v36.Versions.len v36.Versions.cap] ∧ (∀ b_3 w7, b_3 = w6.heap.size → w7 = w6.alloc (Obj.cells ([Value.string ByteArray.empty, Value.slice none 0 0]).toArray ty_api_Held (0, 0)) → (Writable w7 b_3 0 2 ∧ (∀ w8, w8 = World.puts b_3 0 [Value.string v36.Key, Value.slice v36.Versions.ptr v36.Versions.len v36.Versions.cap] w7 → (∃ (v38 : T_api_Config), CellsAt w8 b_ 0 [Value.int .i64 v38.Lanes, Value.int .i64 v38.Shards, Value.int .i64 v38.Window, Value.int .i64 v38.Queue] ∧ (∃ (v40 : ByteArray), w8.cell? ⟨b_3, 0, none⟩ = some (Value.string v40) ∧ (C_conf_Shard v38 v40 w8 (fun (n_ : Int) (v41_1 : Int) w9 => ∀ w10, (∃ k, w10 = w9.drewN k) → (0 ≤ n_ ∧ n_ < ((v24.toNat : Nat) : Int) ∧ (∃ (v49 : Slc), w10.cell? ⟨b_2, 0 + n_.toNat, none⟩ = some (Value.slice v49.ptr v49.len v49.cap) ∧ (∃ (v51 : ByteArray), w10.cell? ⟨b_3, 0, none⟩ = some (Value.string v51) ∧ (∃ (v53 : Slc), w10.cell? ⟨b_3, 1, none⟩ = some (Value.slice v53.ptr v53.len v53.cap) ∧ (C_slices_Clone_api_Version_api_Version v53 w10 (fun (v54 : Slc) w11 => w11.cell? ⟨b_3, 0, none⟩ = some (Value.string v51) ∧ w11.cell? ⟨b_2, 0 + n_.toNat, none⟩ = some (Value.slice v49.ptr v49.len v49.cap) ∧ (∀ b_4 w12, b_4 = w11.heap.size → w12 = w11.alloc (Obj.cells ([Value.string v51, Value.slice v54.ptr v54.len v54.cap]).toArray ty_api_Held (0, 0)) → (w12.cell? ⟨b_2, 0 + n_.toNat, none⟩ = some (Value.slice v49.ptr v49.len v49.cap) ∧ (∃ src, SrcAt w12 (Slc.mk (some ⟨b_4, 0, none⟩) 1 1) 2 src ∧ AppendW 2 40 ty_api_Held [Value.string ByteArray.empty, Value.slice none 0 0] v49 src 1 w12 (fun v57 w13 => (0 ≤ n_ ∧ n_ < ((v24.toNat : Nat) : Int) ∧ (Writable w13 b_2 (0 + n_.toNat) 1 ∧ (∀ w14, w14 = World.puts b_2 (0 + n_.toNat) [Value.slice v57.ptr v57.len v57.cap] w13 → ((again_ (IntKind.i64.wrap (t29 + 1)) w14))))))))))))))))))))))))))) ∧
  ((decide (t29 < ((v27.len : Nat) : Int))) = false → (R (Slc.mk (some ⟨b_2, 0, none⟩) v24.toNat v24.toNat) 0 w6))

def F_dump_Split (c : T_api_Config) (s : T_api_Saved) (R : Slc → Int → World → Prop) (w : World) : Prop :=
  ∀ b_ w1, b_ = w.heap.size → w1 = w.alloc (Obj.cells ([Value.int .i64 c.Lanes, Value.int .i64 c.Shards, Value.int .i64 c.Window, Value.int .i64 c.Queue]).toArray ty_api_Config (0, 0)) → (∀ b_1 w2, b_1 = w1.heap.size → w2 = w1.alloc (Obj.cells ([Value.int .i64 s.Mark, Value.slice s.Beyond.ptr s.Beyond.len s.Beyond.cap, Value.slice s.Held.ptr s.Held.len s.Held.cap]).toArray ty_api_Saved (0, 0)) → (∃ (v13 : T_api_Config), CellsAt w2 b_ 0 [Value.int .i64 v13.Lanes, Value.int .i64 v13.Shards, Value.int .i64 v13.Window, Value.int .i64 v13.Queue] ∧ (C_conf_Check v13 w2 (fun (v14 : Int) w3 => ((v14 != 0) = true → (R (Slc.mk none 0 0) v14 w3)) ∧
  ((v14 != 0) = false → (∃ (v18 : T_api_Saved), CellsAt w3 b_1 0 [Value.int .i64 v18.Mark, Value.slice v18.Beyond.ptr v18.Beyond.len v18.Beyond.cap, Value.slice v18.Held.ptr v18.Held.len v18.Held.cap] ∧ (C_dump_Check v18 w3 (fun (v19 : Int) w4 => ((v19 != 0) = true → (R (Slc.mk none 0 0) v19 w4)) ∧
  ((v19 != 0) = false → (∃ (v24 : Int), w4.cell? ⟨b_, 1, none⟩ = some (Value.int .i64 v24) ∧ (0 ≤ v24 ∧ v24 ≤ v24 ∧ (24 : Int) * v24 ≤ 281474976710656 ∧ (∀ b_2 w5, b_2 = w4.heap.size → w5 = w4.alloc (Obj.cells (repCells v24.toNat [Value.slice none 0 0]) ty_sl_api_Held (0, 0)) → (∃ (v27 : Slc), w5.cell? ⟨b_1, 2, none⟩ = some (Value.slice v27.ptr v27.len v27.cap) ∧ (∃ (I : Int → World → Prop) (μ : Int → World → Nat), I 0 w5 ∧
  ∀ (t29 : Int) w, I t29 w → F_dump_Split_L0 R b_ b_1 v24 b_2 v27 (fun (t29' : Int) w' => I t29' w' ∧ μ t29' w' < μ t29 w) t29 w))))))))))))))

def F_towpathref18_Split_k2 (i : Int) (again_1 : Slc → Int → World → Prop) (l_1 : Slc) (w7 : World) : Prop :=
  again_1 l_1 (IntKind.i64.wrap (i + 1)) w7

def F_towpathref18_Split_L1 (b_ : Nat) (b_1 : Nat) (out : Slc) (n_ : Int) (again_ : Slc → Int → World → Prop) (again_1 : Slc → Int → World → Prop) (l_ : Slc) (i : Int) (w6 : World) : Prop :=
  ∃ (v26 : Slc), w6.cell? ⟨b_1, 2, none⟩ = some (Value.slice v26.ptr v26.len v26.cap) ∧ (((decide (i < ((v26.len : Nat) : Int))) = true → (∀ w8, (∃ k, w8 = w6.drewN k) → (∃ (v32 : T_api_Config), CellsAt w8 b_ 0 [Value.int .i64 v32.Lanes, Value.int .i64 v32.Shards, Value.int .i64 v32.Window, Value.int .i64 v32.Queue] ∧ (∃ (v34 : Slc), w8.cell? ⟨b_1, 2, none⟩ = some (Value.slice v34.ptr v34.len v34.cap) ∧ (IsAt v34.ptr ∧ (0 ≤ i ∧ i < ((v34.len : Nat) : Int) ∧ (∃ (v38 : ByteArray), w8.cell? ⟨(pblk v34.ptr), (poff v34.ptr) + i.toNat * 2, none⟩ = some (Value.string v38) ∧ (C_towpathref13_Shard v32 v38 w8 (fun (shard : Int) (v39_1 : Int) w9 => (((shard == n_) = true → (∃ (v47 : Slc), w9.cell? ⟨b_1, 2, none⟩ = some (Value.slice v47.ptr v47.len v47.cap) ∧ (IsAt v47.ptr ∧ (0 ≤ i ∧ i < ((v47.len : Nat) : Int) ∧ (∃ (v50 : T_api_Held), CellsAt w9 (pblk v47.ptr) ((poff v47.ptr) + i.toNat * 2) [Value.string v50.Key, Value.slice v50.Versions.ptr v50.Versions.len v50.Versions.cap] ∧ (∀ b_2 w10, b_2 = w9.heap.size → w10 = w9.alloc (Obj.cells ([Value.string v50.Key, Value.slice v50.Versions.ptr v50.Versions.len v50.Versions.cap]).toArray ty_api_Held (0, 0)) → (∃ src, SrcAt w10 (Slc.mk (some ⟨b_2, 0, none⟩) 1 1) 2 src ∧ AppendW 2 40 ty_api_Held [Value.string ByteArray.empty, Value.slice none 0 0] l_ src 1 w10 (fun l_2 w11 => F_towpathref18_Split_k2 i again_1 l_2 w11)))))))) ∧
  ((shard == n_) = false → (F_towpathref18_Split_k2 i again_1 l_ w9)))))))))))) ∧
  ((decide (i < ((v26.len : Nat) : Int))) = false → (C_towpathref09_Own l_ w6 (fun (v55 : Slc) w12 => ∀ b_3 w13, b_3 = w12.heap.size → w13 = w12.alloc (Obj.cells ([Value.slice v55.ptr v55.len v55.cap]).toArray ty_sl_api_Held (0, 0)) → (∃ src, SrcAt w13 (Slc.mk (some ⟨b_3, 0, none⟩) 1 1) 1 src ∧ AppendW 1 24 ty_sl_api_Held [Value.slice none 0 0] out src 1 w13 (fun out1 w14 => again_ out1 (IntKind.i64.wrap (n_ + 1)) w14))))))

def F_towpathref18_Split_L0 (R : Slc → Int → World → Prop) (b_ : Nat) (b_1 : Nat) (again_ : Slc → Int → World → Prop) (out : Slc) (n_ : Int) (w5 : World) : Prop :=
  ∃ (v20 : Int), w5.cell? ⟨b_, 1, none⟩ = some (Value.int .i64 v20) ∧ (((decide (n_ < v20)) = true → (∃ (I : Slc → Int → World → Prop) (μ : Slc → Int → World → Nat), I (Slc.mk none 0 0) 0 w5 ∧
  ∀ (l_ : Slc) (i : Int) w, I l_ i w → F_towpathref18_Split_L1 b_ b_1 out n_ again_ (fun (l_' : Slc) (i' : Int) w' => I l_' i' w' ∧ μ l_' i' w' < μ l_ i w) l_ i w)) ∧
  ((decide (n_ < v20)) = false → (R out 0 w5)))

def F_towpathref18_Split (c : T_api_Config) (s : T_api_Saved) (R : Slc → Int → World → Prop) (w : World) : Prop :=
  ∀ b_ w1, b_ = w.heap.size → w1 = w.alloc (Obj.cells ([Value.int .i64 c.Lanes, Value.int .i64 c.Shards, Value.int .i64 c.Window, Value.int .i64 c.Queue]).toArray ty_api_Config (0, 0)) → (∀ b_1 w2, b_1 = w1.heap.size → w2 = w1.alloc (Obj.cells ([Value.int .i64 s.Mark, Value.slice s.Beyond.ptr s.Beyond.len s.Beyond.cap, Value.slice s.Held.ptr s.Held.len s.Held.cap]).toArray ty_api_Saved (0, 0)) → (∃ (v12 : T_api_Config), CellsAt w2 b_ 0 [Value.int .i64 v12.Lanes, Value.int .i64 v12.Shards, Value.int .i64 v12.Window, Value.int .i64 v12.Queue] ∧ (C_towpathref13_Check v12 w2 (fun (v13 : Int) w3 => ((v13 != 0) = true → (R (Slc.mk none 0 0) 7 w3)) ∧
  ((v13 != 0) = false → (∃ (v15 : T_api_Saved), CellsAt w3 b_1 0 [Value.int .i64 v15.Mark, Value.slice v15.Beyond.ptr v15.Beyond.len v15.Beyond.cap, Value.slice v15.Held.ptr v15.Held.len v15.Held.cap] ∧ (C_towpathref18_Check v15 w3 (fun (v16 : Int) w4 => ((v16 != 0) = true → (R (Slc.mk none 0 0) 1 w4)) ∧
  ((v16 != 0) = false → (∃ (I : Slc → Int → World → Prop) (μ : Slc → Int → World → Nat), I (Slc.mk none 0 0) 0 w4 ∧
  ∀ (out : Slc) (n_ : Int) w, I out n_ w → F_towpathref18_Split_L0 R b_ b_1 (fun (out' : Slc) (n_' : Int) w' => I out' n_' w' ∧ μ out' n_' w' < μ out n_ w) out n_ w))))))))))

def F_towpathlaw01_SameHeldLists_L0 (a_ : Slc) (b_ : Slc) (R : Bool → World → Prop) (again_ : Int → World → Prop) (i : Int) (w1 : World) : Prop :=
  ((decide (i < ((a_.len : Nat) : Int))) = true → (IsAt a_.ptr ∧ (0 ≤ i ∧ i < ((a_.len : Nat) : Int) ∧ (∃ (v20 : Slc), w1.cell? ⟨(pblk a_.ptr), (poff a_.ptr) + i.toNat, none⟩ = some (Value.slice v20.ptr v20.len v20.cap) ∧ (IsAt b_.ptr ∧ (0 ≤ i ∧ i < ((b_.len : Nat) : Int) ∧ (∃ (v24 : Slc), w1.cell? ⟨(pblk b_.ptr), (poff b_.ptr) + i.toNat, none⟩ = some (Value.slice v24.ptr v24.len v24.cap) ∧ (∃ (v25 : Bool), (∀ w', Ext w1 w' → C_towpathlaw01_SameHelds v20 v24 w' (fun (v25' : Bool) w'' => v25' = v25 ∧ Ext w' w'')) ∧ (∀ w3, Ext w1 w3 → (((!v25) = true → (R false w3)) ∧
  ((!v25) = false → (again_ (IntKind.i64.wrap (i + 1)) w3)))))))))))) ∧
  ((decide (i < ((a_.len : Nat) : Int))) = false → (R true w1))

def F_towpathlaw01_SameHeldLists (a_ : Slc) (b_ : Slc) (R : Bool → World → Prop) (w : World) : Prop :=
  ((((a_.len : Nat) : Int) != ((b_.len : Nat) : Int)) = true → (R false w)) ∧
  ((((a_.len : Nat) : Int) != ((b_.len : Nat) : Int)) = false → (∃ (I : Int → World → Prop) (μ : Int → World → Nat), I 0 w ∧
  ∀ (i : Int) w, I i w → F_towpathlaw01_SameHeldLists_L0 a_ b_ R (fun (i' : Int) w' => I i' w' ∧ μ i' w' < μ i w) i w))

def F_towpathlaw01_LeftSaved (t_ : T_api_Saved) (x : T_api_Saved) (R : Bool → World → Prop) (w : World) : Prop :=
  ∀ b_ w1, b_ = w.heap.size → w1 = w.alloc (Obj.cells ([Value.int .i64 t_.Mark, Value.slice t_.Beyond.ptr t_.Beyond.len t_.Beyond.cap, Value.slice t_.Held.ptr t_.Held.len t_.Held.cap]).toArray ty_api_Saved (0, 0)) → (∀ b_1 w2, b_1 = w1.heap.size → w2 = w1.alloc (Obj.cells ([Value.int .i64 x.Mark, Value.slice x.Beyond.ptr x.Beyond.len x.Beyond.cap, Value.slice x.Held.ptr x.Held.len x.Held.cap]).toArray ty_api_Saved (0, 0)) → (∃ (v6 : Int), w2.cell? ⟨b_, 0, none⟩ = some (Value.int .i64 v6) ∧ (∃ (v8 : Int), w2.cell? ⟨b_1, 0, none⟩ = some (Value.int .i64 v8) ∧ (((v6 == v8) = true → (∃ (v12 : Slc), w2.cell? ⟨b_, 1, none⟩ = some (Value.slice v12.ptr v12.len v12.cap) ∧ (∃ (v14 : Slc), w2.cell? ⟨b_1, 1, none⟩ = some (Value.slice v14.ptr v14.len v14.cap) ∧ (C_towpathlaw01_LeftInts v12 v14 w2 (fun (v15 : Bool) w3 => (v15 = true → (∃ (v19 : Slc), w3.cell? ⟨b_, 2, none⟩ = some (Value.slice v19.ptr v19.len v19.cap) ∧ (∃ (v21 : Slc), w3.cell? ⟨b_1, 2, none⟩ = some (Value.slice v21.ptr v21.len v21.cap) ∧ (C_towpathlaw01_LeftHelds v19 v21 w3 (fun (v22 : Bool) w4 => R v22 w4))))) ∧
  (v15 = false → (R false w3))))))) ∧
  ((v6 == v8) = false → (R false w2))))))

def F_towpathlaw01_Book_Saved (b_ : Option Addr) (s : T_api_Saved) (R : World → Prop) (w : World) : Prop :=
  ∀ b_1 w1, b_1 = w.heap.size → w1 = w.alloc (Obj.cells ([Value.int .i64 s.Mark, Value.slice s.Beyond.ptr s.Beyond.len s.Beyond.cap, Value.slice s.Held.ptr s.Held.len s.Held.cap]).toArray ty_api_Saved (0, 0)) → (∃ (v6 : Slc), w1.cell? ⟨b_1, 1, none⟩ = some (Value.slice v6.ptr v6.len v6.cap) ∧ (C_towpathlaw01_Book_Ints b_ v6 w1 (fun w2 => ∃ (v10 : Slc), w2.cell? ⟨b_1, 2, none⟩ = some (Value.slice v10.ptr v10.len v10.cap) ∧ (C_towpathlaw01_Book_Helds b_ v10 w2 (fun w3 => R w3)))))

def F_towpathlaw01_Book_HeldLists_L0 (b_ : Option Addr) (l_ : Slc) (R : World → Prop) (again_ : Int → World → Prop) (i : Int) (w1 : World) : Prop :=
  ((decide (i < ((l_.len : Nat) : Int))) = true → (IsAt l_.ptr ∧ (0 ≤ i ∧ i < ((l_.len : Nat) : Int) ∧ (∃ (v15 : Slc), w1.cell? ⟨(pblk l_.ptr), (poff l_.ptr) + i.toNat, none⟩ = some (Value.slice v15.ptr v15.len v15.cap) ∧ (C_towpathlaw01_Book_Helds b_ v15 w1 (fun w2 => again_ (IntKind.i64.wrap (i + 1)) w2)))))) ∧
  ((decide (i < ((l_.len : Nat) : Int))) = false → (C_towpathlaw01_Book_keepHeldList b_ l_ w1 (fun w3 => R w3)))

def F_towpathlaw01_Book_HeldLists (b_ : Option Addr) (l_ : Slc) (R : World → Prop) (w : World) : Prop :=
  ∃ (I : Int → World → Prop) (μ : Int → World → Nat), I 0 w ∧
  ∀ (i : Int) w, I i w → F_towpathlaw01_Book_HeldLists_L0 b_ l_ R (fun (i' : Int) w' => I i' w' ∧ μ i' w' < μ i w) i w

def F_towpathlaw01_Book_fillByte_L0 (b_ : Option Addr) (R : World → Prop) (again_ : Int → World → Prop) (i : Int) (w1 : World) : Prop :=
  IsAt b_ ∧ (∃ (v9 : Slc), w1.cell? ⟨(pblk b_), (poff b_) + 1, none⟩ = some (Value.slice v9.ptr v9.len v9.cap) ∧ (((decide (i < ((v9.len : Nat) : Int))) = true → (False)) ∧
  ((decide (i < ((v9.len : Nat) : Int))) = false → (R w1))))

def F_towpathlaw01_Book_fillByte (b_ : Option Addr) (R : World → Prop) (w : World) : Prop :=
  ∃ (I : Int → World → Prop) (μ : Int → World → Nat), I 0 w ∧
  ∀ (i : Int) w, I i w → F_towpathlaw01_Book_fillByte_L0 b_ R (fun (i' : Int) w' => I i' w' ∧ μ i' w' < μ i w) i w

def F_towpathlaw01_Book_fillInt_L1 (i : Int) (again_ : Int → World → Prop) (b_1 : Nat) (again_1 : Int → World → Prop) (k_ : Int) (w4 : World) : Prop :=
  ∃ (v23 : Slc), w4.cell? ⟨b_1, 0, none⟩ = some (Value.slice v23.ptr v23.len v23.cap) ∧ (((decide (k_ < ((v23.len : Nat) : Int))) = true → (∀ w5, (∃ k, w5 = w4.drewN k) → (∃ (v29 : Slc), w5.cell? ⟨b_1, 0, none⟩ = some (Value.slice v29.ptr v29.len v29.cap) ∧ (∃ (v32 : Int), w5.cell? ⟨b_1, 2, none⟩ = some (Value.int .i64 v32) ∧ (C_towpathlaw01_markInt v32 w5 (fun (v33 : Int) w6 => w6.cell? ⟨b_1, 0, none⟩ = some (Value.slice v29.ptr v29.len v29.cap) ∧ (IsAt v29.ptr ∧ (0 ≤ k_ ∧ k_ < ((v29.len : Nat) : Int) ∧ (Writable w6 (pblk v29.ptr) ((poff v29.ptr) + k_.toNat) 1 ∧ (∀ w7, w7 = World.puts (pblk v29.ptr) ((poff v29.ptr) + k_.toNat) [Value.int .i64 v33] w6 → ((again_1 (IntKind.i64.wrap (k_ + 1)) w7)))))))))))) ∧
  ((decide (k_ < ((v23.len : Nat) : Int))) = false → (again_ (IntKind.i64.wrap (i + 1)) w4)))

def F_towpathlaw01_Book_fillInt_L0 (b_ : Option Addr) (R : World → Prop) (again_ : Int → World → Prop) (i : Int) (w1 : World) : Prop :=
  IsAt b_ ∧ (∃ (v9 : Slc), w1.cell? ⟨(pblk b_), (poff b_) + 2, none⟩ = some (Value.slice v9.ptr v9.len v9.cap) ∧ (((decide (i < ((v9.len : Nat) : Int))) = true → (IsAt b_ ∧ (∃ (v17 : Slc), w1.cell? ⟨(pblk b_), (poff b_) + 2, none⟩ = some (Value.slice v17.ptr v17.len v17.cap) ∧ (IsAt v17.ptr ∧ (0 ≤ i ∧ i < ((v17.len : Nat) : Int) ∧ (∃ (v20 : T_towpathlaw01_heldInt), CellsAt w1 (pblk v17.ptr) ((poff v17.ptr) + i.toNat * 3) [Value.slice v20.l.ptr v20.l.len v20.l.cap, Value.slice v20.long.ptr v20.long.len v20.long.cap, Value.int .i64 v20.n] ∧ (∀ b_1 w2, b_1 = w1.heap.size → w2 = w1.alloc (Obj.cells ([Value.slice none 0 0, Value.slice none 0 0, Value.int .i64 0]).toArray ty_towpathlaw01_heldInt (0, 0)) → (Writable w2 b_1 0 3 ∧ (∀ w3, w3 = World.puts b_1 0 [Value.slice v20.l.ptr v20.l.len v20.l.cap, Value.slice v20.long.ptr v20.long.len v20.long.cap, Value.int .i64 v20.n] w2 → (∃ (I : Int → World → Prop) (μ : Int → World → Nat), I 0 w3 ∧
  ∀ (k_ : Int) w, I k_ w → F_towpathlaw01_Book_fillInt_L1 i again_ b_1 (fun (k_' : Int) w' => I k_' w' ∧ μ k_' w' < μ k_ w) k_ w)))))))))) ∧
  ((decide (i < ((v9.len : Nat) : Int))) = false → (R w1))))

def F_towpathlaw01_Book_fillInt (b_ : Option Addr) (R : World → Prop) (w : World) : Prop :=
  ∃ (I : Int → World → Prop) (μ : Int → World → Nat), I 0 w ∧
  ∀ (i : Int) w, I i w → F_towpathlaw01_Book_fillInt_L0 b_ R (fun (i' : Int) w' => I i' w' ∧ μ i' w' < μ i w) i w

def F_towpathlaw01_Book_fillText_L0 (b_ : Option Addr) (R : World → Prop) (again_ : Int → World → Prop) (i : Int) (w1 : World) : Prop :=
  IsAt b_ ∧ (∃ (v9 : Slc), w1.cell? ⟨(pblk b_), (poff b_) + 3, none⟩ = some (Value.slice v9.ptr v9.len v9.cap) ∧ (((decide (i < ((v9.len : Nat) : Int))) = true → (False)) ∧
  ((decide (i < ((v9.len : Nat) : Int))) = false → (R w1))))

def F_towpathlaw01_Book_fillText (b_ : Option Addr) (R : World → Prop) (w : World) : Prop :=
  ∃ (I : Int → World → Prop) (μ : Int → World → Nat), I 0 w ∧
  ∀ (i : Int) w, I i w → F_towpathlaw01_Book_fillText_L0 b_ R (fun (i' : Int) w' => I i' w' ∧ μ i' w' < μ i w) i w

def F_towpathlaw01_Book_fillWrite_L0 (b_ : Option Addr) (R : World → Prop) (again_ : Int → World → Prop) (i : Int) (w1 : World) : Prop :=
  IsAt b_ ∧ (∃ (v9 : Slc), w1.cell? ⟨(pblk b_), (poff b_) + 4, none⟩ = some (Value.slice v9.ptr v9.len v9.cap) ∧ (((decide (i < ((v9.len : Nat) : Int))) = true → (False)) ∧
  ((decide (i < ((v9.len : Nat) : Int))) = false → (R w1))))

def F_towpathlaw01_Book_fillWrite (b_ : Option Addr) (R : World → Prop) (w : World) : Prop :=
  ∃ (I : Int → World → Prop) (μ : Int → World → Nat), I 0 w ∧
  ∀ (i : Int) w, I i w → F_towpathlaw01_Book_fillWrite_L0 b_ R (fun (i' : Int) w' => I i' w' ∧ μ i' w' < μ i w) i w

def F_towpathlaw01_Book_fillEntry_L0 (b_ : Option Addr) (R : World → Prop) (again_ : Int → World → Prop) (i : Int) (w1 : World) : Prop :=
  IsAt b_ ∧ (∃ (v9 : Slc), w1.cell? ⟨(pblk b_), (poff b_) + 5, none⟩ = some (Value.slice v9.ptr v9.len v9.cap) ∧ (((decide (i < ((v9.len : Nat) : Int))) = true → (False)) ∧
  ((decide (i < ((v9.len : Nat) : Int))) = false → (R w1))))

def F_towpathlaw01_Book_fillEntry (b_ : Option Addr) (R : World → Prop) (w : World) : Prop :=
  ∃ (I : Int → World → Prop) (μ : Int → World → Nat), I 0 w ∧
  ∀ (i : Int) w, I i w → F_towpathlaw01_Book_fillEntry_L0 b_ R (fun (i' : Int) w' => I i' w' ∧ μ i' w' < μ i w) i w

def F_towpathlaw01_Book_fillVersion_L1 (i : Int) (again_ : Int → World → Prop) (b_1 : Nat) (again_1 : Int → World → Prop) (k_ : Int) (w4 : World) : Prop :=
  ∃ (v23 : Slc), w4.cell? ⟨b_1, 0, none⟩ = some (Value.slice v23.ptr v23.len v23.cap) ∧ (((decide (k_ < ((v23.len : Nat) : Int))) = true → (∀ w5, (∃ k, w5 = w4.drewN k) → (∃ (v29 : Slc), w5.cell? ⟨b_1, 0, none⟩ = some (Value.slice v29.ptr v29.len v29.cap) ∧ (∃ (v32 : Int), w5.cell? ⟨b_1, 2, none⟩ = some (Value.int .i64 v32) ∧ (C_towpathlaw01_markVersion v32 w5 (fun (v33 : T_api_Version) w6 => w6.cell? ⟨b_1, 0, none⟩ = some (Value.slice v29.ptr v29.len v29.cap) ∧ (IsAt v29.ptr ∧ (0 ≤ k_ ∧ k_ < ((v29.len : Nat) : Int) ∧ (Writable w6 (pblk v29.ptr) ((poff v29.ptr) + k_.toNat * 3) 3 ∧ (∀ w7, w7 = World.puts (pblk v29.ptr) ((poff v29.ptr) + k_.toNat * 3) [Value.int .i64 v33.Number, Value.string v33.Val, Value.bool v33.Drop] w6 → ((again_1 (IntKind.i64.wrap (k_ + 1)) w7)))))))))))) ∧
  ((decide (k_ < ((v23.len : Nat) : Int))) = false → (again_ (IntKind.i64.wrap (i + 1)) w4)))

def F_towpathlaw01_Book_fillVersion_L0 (b_ : Option Addr) (R : World → Prop) (again_ : Int → World → Prop) (i : Int) (w1 : World) : Prop :=
  IsAt b_ ∧ (∃ (v9 : Slc), w1.cell? ⟨(pblk b_), (poff b_) + 6, none⟩ = some (Value.slice v9.ptr v9.len v9.cap) ∧ (((decide (i < ((v9.len : Nat) : Int))) = true → (IsAt b_ ∧ (∃ (v17 : Slc), w1.cell? ⟨(pblk b_), (poff b_) + 6, none⟩ = some (Value.slice v17.ptr v17.len v17.cap) ∧ (IsAt v17.ptr ∧ (0 ≤ i ∧ i < ((v17.len : Nat) : Int) ∧ (∃ (v20 : T_towpathlaw01_heldVersion), CellsAt w1 (pblk v17.ptr) ((poff v17.ptr) + i.toNat * 3) [Value.slice v20.l.ptr v20.l.len v20.l.cap, Value.slice v20.long.ptr v20.long.len v20.long.cap, Value.int .i64 v20.n] ∧ (∀ b_1 w2, b_1 = w1.heap.size → w2 = w1.alloc (Obj.cells ([Value.slice none 0 0, Value.slice none 0 0, Value.int .i64 0]).toArray ty_towpathlaw01_heldVersion (0, 0)) → (Writable w2 b_1 0 3 ∧ (∀ w3, w3 = World.puts b_1 0 [Value.slice v20.l.ptr v20.l.len v20.l.cap, Value.slice v20.long.ptr v20.long.len v20.long.cap, Value.int .i64 v20.n] w2 → (∃ (I : Int → World → Prop) (μ : Int → World → Nat), I 0 w3 ∧
  ∀ (k_ : Int) w, I k_ w → F_towpathlaw01_Book_fillVersion_L1 i again_ b_1 (fun (k_' : Int) w' => I k_' w' ∧ μ k_' w' < μ k_ w) k_ w)))))))))) ∧
  ((decide (i < ((v9.len : Nat) : Int))) = false → (R w1))))

def F_towpathlaw01_Book_fillVersion (b_ : Option Addr) (R : World → Prop) (w : World) : Prop :=
  ∃ (I : Int → World → Prop) (μ : Int → World → Nat), I 0 w ∧
  ∀ (i : Int) w, I i w → F_towpathlaw01_Book_fillVersion_L0 b_ R (fun (i' : Int) w' => I i' w' ∧ μ i' w' < μ i w) i w

def F_towpathlaw01_Book_fillTxn_L0 (b_ : Option Addr) (R : World → Prop) (again_ : Int → World → Prop) (i : Int) (w1 : World) : Prop :=
  IsAt b_ ∧ (∃ (v9 : Slc), w1.cell? ⟨(pblk b_), (poff b_) + 7, none⟩ = some (Value.slice v9.ptr v9.len v9.cap) ∧ (((decide (i < ((v9.len : Nat) : Int))) = true → (False)) ∧
  ((decide (i < ((v9.len : Nat) : Int))) = false → (R w1))))

def F_towpathlaw01_Book_fillTxn (b_ : Option Addr) (R : World → Prop) (w : World) : Prop :=
  ∃ (I : Int → World → Prop) (μ : Int → World → Nat), I 0 w ∧
  ∀ (i : Int) w, I i w → F_towpathlaw01_Book_fillTxn_L0 b_ R (fun (i' : Int) w' => I i' w' ∧ μ i' w' < μ i w) i w

def F_towpathlaw01_Book_fillHeld_L1 (i : Int) (again_ : Int → World → Prop) (b_1 : Nat) (again_1 : Int → World → Prop) (k_ : Int) (w4 : World) : Prop :=
  ∃ (v23 : Slc), w4.cell? ⟨b_1, 0, none⟩ = some (Value.slice v23.ptr v23.len v23.cap) ∧ (((decide (k_ < ((v23.len : Nat) : Int))) = true → (∀ w5, (∃ k, w5 = w4.drewN k) → (∃ (v29 : Slc), w5.cell? ⟨b_1, 0, none⟩ = some (Value.slice v29.ptr v29.len v29.cap) ∧ (∃ (v32 : Int), w5.cell? ⟨b_1, 2, none⟩ = some (Value.int .i64 v32) ∧ (C_towpathlaw01_markHeld v32 w5 (fun (v33 : T_api_Held) w6 => w6.cell? ⟨b_1, 0, none⟩ = some (Value.slice v29.ptr v29.len v29.cap) ∧ (IsAt v29.ptr ∧ (0 ≤ k_ ∧ k_ < ((v29.len : Nat) : Int) ∧ (Writable w6 (pblk v29.ptr) ((poff v29.ptr) + k_.toNat * 2) 2 ∧ (∀ w7, w7 = World.puts (pblk v29.ptr) ((poff v29.ptr) + k_.toNat * 2) [Value.string v33.Key, Value.slice v33.Versions.ptr v33.Versions.len v33.Versions.cap] w6 → ((again_1 (IntKind.i64.wrap (k_ + 1)) w7)))))))))))) ∧
  ((decide (k_ < ((v23.len : Nat) : Int))) = false → (again_ (IntKind.i64.wrap (i + 1)) w4)))

def F_towpathlaw01_Book_fillHeld_L0 (b_ : Option Addr) (R : World → Prop) (again_ : Int → World → Prop) (i : Int) (w1 : World) : Prop :=
  IsAt b_ ∧ (∃ (v9 : Slc), w1.cell? ⟨(pblk b_), (poff b_) + 8, none⟩ = some (Value.slice v9.ptr v9.len v9.cap) ∧ (((decide (i < ((v9.len : Nat) : Int))) = true → (IsAt b_ ∧ (∃ (v17 : Slc), w1.cell? ⟨(pblk b_), (poff b_) + 8, none⟩ = some (Value.slice v17.ptr v17.len v17.cap) ∧ (IsAt v17.ptr ∧ (0 ≤ i ∧ i < ((v17.len : Nat) : Int) ∧ (∃ (v20 : T_towpathlaw01_heldHeld), CellsAt w1 (pblk v17.ptr) ((poff v17.ptr) + i.toNat * 3) [Value.slice v20.l.ptr v20.l.len v20.l.cap, Value.slice v20.long.ptr v20.long.len v20.long.cap, Value.int .i64 v20.n] ∧ (∀ b_1 w2, b_1 = w1.heap.size → w2 = w1.alloc (Obj.cells ([Value.slice none 0 0, Value.slice none 0 0, Value.int .i64 0]).toArray ty_towpathlaw01_heldHeld (0, 0)) → (Writable w2 b_1 0 3 ∧ (∀ w3, w3 = World.puts b_1 0 [Value.slice v20.l.ptr v20.l.len v20.l.cap, Value.slice v20.long.ptr v20.long.len v20.long.cap, Value.int .i64 v20.n] w2 → (∃ (I : Int → World → Prop) (μ : Int → World → Nat), I 0 w3 ∧
  ∀ (k_ : Int) w, I k_ w → F_towpathlaw01_Book_fillHeld_L1 i again_ b_1 (fun (k_' : Int) w' => I k_' w' ∧ μ k_' w' < μ k_ w) k_ w)))))))))) ∧
  ((decide (i < ((v9.len : Nat) : Int))) = false → (R w1))))

def F_towpathlaw01_Book_fillHeld (b_ : Option Addr) (R : World → Prop) (w : World) : Prop :=
  ∃ (I : Int → World → Prop) (μ : Int → World → Nat), I 0 w ∧
  ∀ (i : Int) w, I i w → F_towpathlaw01_Book_fillHeld_L0 b_ R (fun (i' : Int) w' => I i' w' ∧ μ i' w' < μ i w) i w

def F_towpathlaw01_Book_fillHeldList_L1 (i : Int) (again_ : Int → World → Prop) (b_1 : Nat) (again_1 : Int → World → Prop) (k_ : Int) (w4 : World) : Prop :=
  ∃ (v23 : Slc), w4.cell? ⟨b_1, 0, none⟩ = some (Value.slice v23.ptr v23.len v23.cap) ∧ (((decide (k_ < ((v23.len : Nat) : Int))) = true → (∀ w5, (∃ k, w5 = w4.drewN k) → (∃ (v29 : Slc), w5.cell? ⟨b_1, 0, none⟩ = some (Value.slice v29.ptr v29.len v29.cap) ∧ (∃ (v32 : Int), w5.cell? ⟨b_1, 2, none⟩ = some (Value.int .i64 v32) ∧ (C_towpathlaw01_markHeldList v32 w5 (fun (v33 : Slc) w6 => w6.cell? ⟨b_1, 0, none⟩ = some (Value.slice v29.ptr v29.len v29.cap) ∧ (IsAt v29.ptr ∧ (0 ≤ k_ ∧ k_ < ((v29.len : Nat) : Int) ∧ (Writable w6 (pblk v29.ptr) ((poff v29.ptr) + k_.toNat) 1 ∧ (∀ w7, w7 = World.puts (pblk v29.ptr) ((poff v29.ptr) + k_.toNat) [Value.slice v33.ptr v33.len v33.cap] w6 → ((again_1 (IntKind.i64.wrap (k_ + 1)) w7)))))))))))) ∧
  ((decide (k_ < ((v23.len : Nat) : Int))) = false → (again_ (IntKind.i64.wrap (i + 1)) w4)))

def F_towpathlaw01_Book_fillHeldList_L0 (b_ : Option Addr) (R : World → Prop) (again_ : Int → World → Prop) (i : Int) (w1 : World) : Prop :=
  IsAt b_ ∧ (∃ (v9 : Slc), w1.cell? ⟨(pblk b_), (poff b_) + 9, none⟩ = some (Value.slice v9.ptr v9.len v9.cap) ∧ (((decide (i < ((v9.len : Nat) : Int))) = true → (IsAt b_ ∧ (∃ (v17 : Slc), w1.cell? ⟨(pblk b_), (poff b_) + 9, none⟩ = some (Value.slice v17.ptr v17.len v17.cap) ∧ (IsAt v17.ptr ∧ (0 ≤ i ∧ i < ((v17.len : Nat) : Int) ∧ (∃ (v20 : T_towpathlaw01_heldHeldList), CellsAt w1 (pblk v17.ptr) ((poff v17.ptr) + i.toNat * 3) [Value.slice v20.l.ptr v20.l.len v20.l.cap, Value.slice v20.long.ptr v20.long.len v20.long.cap, Value.int .i64 v20.n] ∧ (∀ b_1 w2, b_1 = w1.heap.size → w2 = w1.alloc (Obj.cells ([Value.slice none 0 0, Value.slice none 0 0, Value.int .i64 0]).toArray ty_towpathlaw01_heldHeldList (0, 0)) → (Writable w2 b_1 0 3 ∧ (∀ w3, w3 = World.puts b_1 0 [Value.slice v20.l.ptr v20.l.len v20.l.cap, Value.slice v20.long.ptr v20.long.len v20.long.cap, Value.int .i64 v20.n] w2 → (∃ (I : Int → World → Prop) (μ : Int → World → Nat), I 0 w3 ∧
  ∀ (k_ : Int) w, I k_ w → F_towpathlaw01_Book_fillHeldList_L1 i again_ b_1 (fun (k_' : Int) w' => I k_' w' ∧ μ k_' w' < μ k_ w) k_ w)))))))))) ∧
  ((decide (i < ((v9.len : Nat) : Int))) = false → (R w1))))

def F_towpathlaw01_Book_fillHeldList (b_ : Option Addr) (R : World → Prop) (w : World) : Prop :=
  ∃ (I : Int → World → Prop) (μ : Int → World → Nat), I 0 w ∧
  ∀ (i : Int) w, I i w → F_towpathlaw01_Book_fillHeldList_L0 b_ R (fun (i' : Int) w' => I i' w' ∧ μ i' w' < μ i w) i w

def F_towpathlaw01_Book_fillEvent_L0 (b_ : Option Addr) (R : World → Prop) (again_ : Int → World → Prop) (i : Int) (w1 : World) : Prop :=
  IsAt b_ ∧ (∃ (v9 : Slc), w1.cell? ⟨(pblk b_), (poff b_) + 10, none⟩ = some (Value.slice v9.ptr v9.len v9.cap) ∧ (((decide (i < ((v9.len : Nat) : Int))) = true → (False)) ∧
  ((decide (i < ((v9.len : Nat) : Int))) = false → (R w1))))

def F_towpathlaw01_Book_fillEvent (b_ : Option Addr) (R : World → Prop) (w : World) : Prop :=
  ∃ (I : Int → World → Prop) (μ : Int → World → Nat), I 0 w ∧
  ∀ (i : Int) w, I i w → F_towpathlaw01_Book_fillEvent_L0 b_ R (fun (i' : Int) w' => I i' w' ∧ μ i' w' < μ i w) i w

def F_towpathlaw01_Book_fillAnswer_L0 (b_ : Option Addr) (R : World → Prop) (again_ : Int → World → Prop) (i : Int) (w1 : World) : Prop :=
  IsAt b_ ∧ (∃ (v9 : Slc), w1.cell? ⟨(pblk b_), (poff b_) + 11, none⟩ = some (Value.slice v9.ptr v9.len v9.cap) ∧ (((decide (i < ((v9.len : Nat) : Int))) = true → (False)) ∧
  ((decide (i < ((v9.len : Nat) : Int))) = false → (R w1))))

def F_towpathlaw01_Book_fillAnswer (b_ : Option Addr) (R : World → Prop) (w : World) : Prop :=
  ∃ (I : Int → World → Prop) (μ : Int → World → Nat), I 0 w ∧
  ∀ (i : Int) w, I i w → F_towpathlaw01_Book_fillAnswer_L0 b_ R (fun (i' : Int) w' => I i' w' ∧ μ i' w' < μ i w) i w

def F_towpathlaw01_Book_growByte_L0 (b_ : Option Addr) (R : World → Prop) (again_ : Int → World → Prop) (i : Int) (w1 : World) : Prop :=
  IsAt b_ ∧ (∃ (v10 : Slc), w1.cell? ⟨(pblk b_), (poff b_) + 1, none⟩ = some (Value.slice v10.ptr v10.len v10.cap) ∧ (((decide (i < ((v10.len : Nat) : Int))) = true → (False)) ∧
  ((decide (i < ((v10.len : Nat) : Int))) = false → (R w1))))

def F_towpathlaw01_Book_growByte (b_ : Option Addr) (R : World → Prop) (w : World) : Prop :=
  ∃ (I : Int → World → Prop) (μ : Int → World → Nat), I 0 w ∧
  ∀ (i : Int) w, I i w → F_towpathlaw01_Book_growByte_L0 b_ R (fun (i' : Int) w' => I i' w' ∧ μ i' w' < μ i w) i w

def F_towpathlaw01_Book_growInt_L1 (b_ : Option Addr) (i : Int) (again_ : Int → World → Prop) (b_1 : Nat) (again_1 : Slc → Int → World → Prop) (long1 : Slc) (k_ : Int) (w4 : World) : Prop :=
  ((decide (k_ < 70)) = true → (∃ (v30 : Int), w4.cell? ⟨b_1, 2, none⟩ = some (Value.int .i64 v30) ∧ (C_towpathlaw01_markInt v30 w4 (fun (v31 : Int) w5 => ∀ b_2 w6, b_2 = w5.heap.size → w6 = w5.alloc (Obj.cells ([Value.int .i64 v31]).toArray ty_int (0, 0)) → (∃ src, SrcAt w6 (Slc.mk (some ⟨b_2, 0, none⟩) 1 1) 1 src ∧ AppendW 1 8 ty_int [Value.int .i64 0] long1 src 1 w6 (fun long2 w7 => again_1 long2 (IntKind.i64.wrap (k_ + 1)) w7)))))) ∧
  ((decide (k_ < 70)) = false → (IsAt b_ ∧ (∃ (v37 : Slc), w4.cell? ⟨(pblk b_), (poff b_) + 2, none⟩ = some (Value.slice v37.ptr v37.len v37.cap) ∧ (IsAt v37.ptr ∧ (0 ≤ i ∧ i < ((v37.len : Nat) : Int) ∧ (Writable w4 (pblk v37.ptr) (((poff v37.ptr) + i.toNat * 3) + 1) 1 ∧ (∀ w8, w8 = World.puts (pblk v37.ptr) (((poff v37.ptr) + i.toNat * 3) + 1) [Value.slice long1.ptr long1.len long1.cap] w4 → (again_ (IntKind.i64.wrap (i + 1)) w8))))))))

def F_towpathlaw01_Book_growInt_L0 (b_ : Option Addr) (R : World → Prop) (again_ : Int → World → Prop) (i : Int) (w1 : World) : Prop :=
  IsAt b_ ∧ (∃ (v10 : Slc), w1.cell? ⟨(pblk b_), (poff b_) + 2, none⟩ = some (Value.slice v10.ptr v10.len v10.cap) ∧ (((decide (i < ((v10.len : Nat) : Int))) = true → (IsAt b_ ∧ (∃ (v18 : Slc), w1.cell? ⟨(pblk b_), (poff b_) + 2, none⟩ = some (Value.slice v18.ptr v18.len v18.cap) ∧ (IsAt v18.ptr ∧ (0 ≤ i ∧ i < ((v18.len : Nat) : Int) ∧ (∃ (v21 : T_towpathlaw01_heldInt), CellsAt w1 (pblk v18.ptr) ((poff v18.ptr) + i.toNat * 3) [Value.slice v21.l.ptr v21.l.len v21.l.cap, Value.slice v21.long.ptr v21.long.len v21.long.cap, Value.int .i64 v21.n] ∧ (∀ b_1 w2, b_1 = w1.heap.size → w2 = w1.alloc (Obj.cells ([Value.slice none 0 0, Value.slice none 0 0, Value.int .i64 0]).toArray ty_towpathlaw01_heldInt (0, 0)) → (Writable w2 b_1 0 3 ∧ (∀ w3, w3 = World.puts b_1 0 [Value.slice v21.l.ptr v21.l.len v21.l.cap, Value.slice v21.long.ptr v21.long.len v21.long.cap, Value.int .i64 v21.n] w2 → (∃ (long : Slc), w3.cell? ⟨b_1, 0, none⟩ = some (Value.slice long.ptr long.len long.cap) ∧ (∃ (I : Slc → Int → World → Prop) (μ : Slc → Int → World → Nat), I long 0 w3 ∧
  ∀ (long1 : Slc) (k_ : Int) w, I long1 k_ w → F_towpathlaw01_Book_growInt_L1 b_ i again_ b_1 (fun (long1' : Slc) (k_' : Int) w' => I long1' k_' w' ∧ μ long1' k_' w' < μ long1 k_ w) long1 k_ w))))))))))) ∧
  ((decide (i < ((v10.len : Nat) : Int))) = false → (R w1))))

def F_towpathlaw01_Book_growInt (b_ : Option Addr) (R : World → Prop) (w : World) : Prop :=
  ∃ (I : Int → World → Prop) (μ : Int → World → Nat), I 0 w ∧
  ∀ (i : Int) w, I i w → F_towpathlaw01_Book_growInt_L0 b_ R (fun (i' : Int) w' => I i' w' ∧ μ i' w' < μ i w) i w

def F_towpathlaw01_Book_growText_L0 (b_ : Option Addr) (R : World → Prop) (again_ : Int → World → Prop) (i : Int) (w1 : World) : Prop :=
  IsAt b_ ∧ (∃ (v10 : Slc), w1.cell? ⟨(pblk b_), (poff b_) + 3, none⟩ = some (Value.slice v10.ptr v10.len v10.cap) ∧ (((decide (i < ((v10.len : Nat) : Int))) = true → (False)) ∧
  ((decide (i < ((v10.len : Nat) : Int))) = false → (R w1))))

def F_towpathlaw01_Book_growText (b_ : Option Addr) (R : World → Prop) (w : World) : Prop :=
  ∃ (I : Int → World → Prop) (μ : Int → World → Nat), I 0 w ∧
  ∀ (i : Int) w, I i w → F_towpathlaw01_Book_growText_L0 b_ R (fun (i' : Int) w' => I i' w' ∧ μ i' w' < μ i w) i w

def F_towpathlaw01_Book_growWrite_L0 (b_ : Option Addr) (R : World → Prop) (again_ : Int → World → Prop) (i : Int) (w1 : World) : Prop :=
  IsAt b_ ∧ (∃ (v10 : Slc), w1.cell? ⟨(pblk b_), (poff b_) + 4, none⟩ = some (Value.slice v10.ptr v10.len v10.cap) ∧ (((decide (i < ((v10.len : Nat) : Int))) = true → (False)) ∧
  ((decide (i < ((v10.len : Nat) : Int))) = false → (R w1))))

def F_towpathlaw01_Book_growWrite (b_ : Option Addr) (R : World → Prop) (w : World) : Prop :=
  ∃ (I : Int → World → Prop) (μ : Int → World → Nat), I 0 w ∧
  ∀ (i : Int) w, I i w → F_towpathlaw01_Book_growWrite_L0 b_ R (fun (i' : Int) w' => I i' w' ∧ μ i' w' < μ i w) i w

def F_towpathlaw01_Book_growEntry_L0 (b_ : Option Addr) (R : World → Prop) (again_ : Int → World → Prop) (i : Int) (w1 : World) : Prop :=
  IsAt b_ ∧ (∃ (v10 : Slc), w1.cell? ⟨(pblk b_), (poff b_) + 5, none⟩ = some (Value.slice v10.ptr v10.len v10.cap) ∧ (((decide (i < ((v10.len : Nat) : Int))) = true → (False)) ∧
  ((decide (i < ((v10.len : Nat) : Int))) = false → (R w1))))

def F_towpathlaw01_Book_growEntry (b_ : Option Addr) (R : World → Prop) (w : World) : Prop :=
  ∃ (I : Int → World → Prop) (μ : Int → World → Nat), I 0 w ∧
  ∀ (i : Int) w, I i w → F_towpathlaw01_Book_growEntry_L0 b_ R (fun (i' : Int) w' => I i' w' ∧ μ i' w' < μ i w) i w

def F_towpathlaw01_Book_growVersion_L1 (b_ : Option Addr) (i : Int) (again_ : Int → World → Prop) (b_1 : Nat) (again_1 : Slc → Int → World → Prop) (long1 : Slc) (k_ : Int) (w4 : World) : Prop :=
  ((decide (k_ < 70)) = true → (∃ (v30 : Int), w4.cell? ⟨b_1, 2, none⟩ = some (Value.int .i64 v30) ∧ (C_towpathlaw01_markVersion v30 w4 (fun (v31 : T_api_Version) w5 => ∀ b_2 w6, b_2 = w5.heap.size → w6 = w5.alloc (Obj.cells ([Value.int .i64 v31.Number, Value.string v31.Val, Value.bool v31.Drop]).toArray ty_api_Version (0, 0)) → (∃ src, SrcAt w6 (Slc.mk (some ⟨b_2, 0, none⟩) 1 1) 3 src ∧ AppendW 3 32 ty_api_Version [Value.int .i64 0, Value.string ByteArray.empty, Value.bool false] long1 src 1 w6 (fun long2 w7 => again_1 long2 (IntKind.i64.wrap (k_ + 1)) w7)))))) ∧
  ((decide (k_ < 70)) = false → (IsAt b_ ∧ (∃ (v37 : Slc), w4.cell? ⟨(pblk b_), (poff b_) + 6, none⟩ = some (Value.slice v37.ptr v37.len v37.cap) ∧ (IsAt v37.ptr ∧ (0 ≤ i ∧ i < ((v37.len : Nat) : Int) ∧ (Writable w4 (pblk v37.ptr) (((poff v37.ptr) + i.toNat * 3) + 1) 1 ∧ (∀ w8, w8 = World.puts (pblk v37.ptr) (((poff v37.ptr) + i.toNat * 3) + 1) [Value.slice long1.ptr long1.len long1.cap] w4 → (again_ (IntKind.i64.wrap (i + 1)) w8))))))))

def F_towpathlaw01_Book_growVersion_L0 (b_ : Option Addr) (R : World → Prop) (again_ : Int → World → Prop) (i : Int) (w1 : World) : Prop :=
  IsAt b_ ∧ (∃ (v10 : Slc), w1.cell? ⟨(pblk b_), (poff b_) + 6, none⟩ = some (Value.slice v10.ptr v10.len v10.cap) ∧ (((decide (i < ((v10.len : Nat) : Int))) = true → (IsAt b_ ∧ (∃ (v18 : Slc), w1.cell? ⟨(pblk b_), (poff b_) + 6, none⟩ = some (Value.slice v18.ptr v18.len v18.cap) ∧ (IsAt v18.ptr ∧ (0 ≤ i ∧ i < ((v18.len : Nat) : Int) ∧ (∃ (v21 : T_towpathlaw01_heldVersion), CellsAt w1 (pblk v18.ptr) ((poff v18.ptr) + i.toNat * 3) [Value.slice v21.l.ptr v21.l.len v21.l.cap, Value.slice v21.long.ptr v21.long.len v21.long.cap, Value.int .i64 v21.n] ∧ (∀ b_1 w2, b_1 = w1.heap.size → w2 = w1.alloc (Obj.cells ([Value.slice none 0 0, Value.slice none 0 0, Value.int .i64 0]).toArray ty_towpathlaw01_heldVersion (0, 0)) → (Writable w2 b_1 0 3 ∧ (∀ w3, w3 = World.puts b_1 0 [Value.slice v21.l.ptr v21.l.len v21.l.cap, Value.slice v21.long.ptr v21.long.len v21.long.cap, Value.int .i64 v21.n] w2 → (∃ (long : Slc), w3.cell? ⟨b_1, 0, none⟩ = some (Value.slice long.ptr long.len long.cap) ∧ (∃ (I : Slc → Int → World → Prop) (μ : Slc → Int → World → Nat), I long 0 w3 ∧
  ∀ (long1 : Slc) (k_ : Int) w, I long1 k_ w → F_towpathlaw01_Book_growVersion_L1 b_ i again_ b_1 (fun (long1' : Slc) (k_' : Int) w' => I long1' k_' w' ∧ μ long1' k_' w' < μ long1 k_ w) long1 k_ w))))))))))) ∧
  ((decide (i < ((v10.len : Nat) : Int))) = false → (R w1))))

def F_towpathlaw01_Book_growVersion (b_ : Option Addr) (R : World → Prop) (w : World) : Prop :=
  ∃ (I : Int → World → Prop) (μ : Int → World → Nat), I 0 w ∧
  ∀ (i : Int) w, I i w → F_towpathlaw01_Book_growVersion_L0 b_ R (fun (i' : Int) w' => I i' w' ∧ μ i' w' < μ i w) i w

def F_towpathlaw01_Book_growTxn_L0 (b_ : Option Addr) (R : World → Prop) (again_ : Int → World → Prop) (i : Int) (w1 : World) : Prop :=
  IsAt b_ ∧ (∃ (v10 : Slc), w1.cell? ⟨(pblk b_), (poff b_) + 7, none⟩ = some (Value.slice v10.ptr v10.len v10.cap) ∧ (((decide (i < ((v10.len : Nat) : Int))) = true → (False)) ∧
  ((decide (i < ((v10.len : Nat) : Int))) = false → (R w1))))

def F_towpathlaw01_Book_growTxn (b_ : Option Addr) (R : World → Prop) (w : World) : Prop :=
  ∃ (I : Int → World → Prop) (μ : Int → World → Nat), I 0 w ∧
  ∀ (i : Int) w, I i w → F_towpathlaw01_Book_growTxn_L0 b_ R (fun (i' : Int) w' => I i' w' ∧ μ i' w' < μ i w) i w

def F_towpathlaw01_Book_growHeld_L1 (b_ : Option Addr) (i : Int) (again_ : Int → World → Prop) (b_1 : Nat) (again_1 : Slc → Int → World → Prop) (long1 : Slc) (k_ : Int) (w4 : World) : Prop :=
  ((decide (k_ < 70)) = true → (∃ (v30 : Int), w4.cell? ⟨b_1, 2, none⟩ = some (Value.int .i64 v30) ∧ (C_towpathlaw01_markHeld v30 w4 (fun (v31 : T_api_Held) w5 => ∀ b_2 w6, b_2 = w5.heap.size → w6 = w5.alloc (Obj.cells ([Value.string v31.Key, Value.slice v31.Versions.ptr v31.Versions.len v31.Versions.cap]).toArray ty_api_Held (0, 0)) → (∃ src, SrcAt w6 (Slc.mk (some ⟨b_2, 0, none⟩) 1 1) 2 src ∧ AppendW 2 40 ty_api_Held [Value.string ByteArray.empty, Value.slice none 0 0] long1 src 1 w6 (fun long2 w7 => again_1 long2 (IntKind.i64.wrap (k_ + 1)) w7)))))) ∧
  ((decide (k_ < 70)) = false → (IsAt b_ ∧ (∃ (v37 : Slc), w4.cell? ⟨(pblk b_), (poff b_) + 8, none⟩ = some (Value.slice v37.ptr v37.len v37.cap) ∧ (IsAt v37.ptr ∧ (0 ≤ i ∧ i < ((v37.len : Nat) : Int) ∧ (Writable w4 (pblk v37.ptr) (((poff v37.ptr) + i.toNat * 3) + 1) 1 ∧ (∀ w8, w8 = World.puts (pblk v37.ptr) (((poff v37.ptr) + i.toNat * 3) + 1) [Value.slice long1.ptr long1.len long1.cap] w4 → (again_ (IntKind.i64.wrap (i + 1)) w8))))))))

def F_towpathlaw01_Book_growHeld_L0 (b_ : Option Addr) (R : World → Prop) (again_ : Int → World → Prop) (i : Int) (w1 : World) : Prop :=
  IsAt b_ ∧ (∃ (v10 : Slc), w1.cell? ⟨(pblk b_), (poff b_) + 8, none⟩ = some (Value.slice v10.ptr v10.len v10.cap) ∧ (((decide (i < ((v10.len : Nat) : Int))) = true → (IsAt b_ ∧ (∃ (v18 : Slc), w1.cell? ⟨(pblk b_), (poff b_) + 8, none⟩ = some (Value.slice v18.ptr v18.len v18.cap) ∧ (IsAt v18.ptr ∧ (0 ≤ i ∧ i < ((v18.len : Nat) : Int) ∧ (∃ (v21 : T_towpathlaw01_heldHeld), CellsAt w1 (pblk v18.ptr) ((poff v18.ptr) + i.toNat * 3) [Value.slice v21.l.ptr v21.l.len v21.l.cap, Value.slice v21.long.ptr v21.long.len v21.long.cap, Value.int .i64 v21.n] ∧ (∀ b_1 w2, b_1 = w1.heap.size → w2 = w1.alloc (Obj.cells ([Value.slice none 0 0, Value.slice none 0 0, Value.int .i64 0]).toArray ty_towpathlaw01_heldHeld (0, 0)) → (Writable w2 b_1 0 3 ∧ (∀ w3, w3 = World.puts b_1 0 [Value.slice v21.l.ptr v21.l.len v21.l.cap, Value.slice v21.long.ptr v21.long.len v21.long.cap, Value.int .i64 v21.n] w2 → (∃ (long : Slc), w3.cell? ⟨b_1, 0, none⟩ = some (Value.slice long.ptr long.len long.cap) ∧ (∃ (I : Slc → Int → World → Prop) (μ : Slc → Int → World → Nat), I long 0 w3 ∧
  ∀ (long1 : Slc) (k_ : Int) w, I long1 k_ w → F_towpathlaw01_Book_growHeld_L1 b_ i again_ b_1 (fun (long1' : Slc) (k_' : Int) w' => I long1' k_' w' ∧ μ long1' k_' w' < μ long1 k_ w) long1 k_ w))))))))))) ∧
  ((decide (i < ((v10.len : Nat) : Int))) = false → (R w1))))

def F_towpathlaw01_Book_growHeld (b_ : Option Addr) (R : World → Prop) (w : World) : Prop :=
  ∃ (I : Int → World → Prop) (μ : Int → World → Nat), I 0 w ∧
  ∀ (i : Int) w, I i w → F_towpathlaw01_Book_growHeld_L0 b_ R (fun (i' : Int) w' => I i' w' ∧ μ i' w' < μ i w) i w

def F_towpathlaw01_Book_growHeldList_L1 (b_ : Option Addr) (i : Int) (again_ : Int → World → Prop) (b_1 : Nat) (again_1 : Slc → Int → World → Prop) (long1 : Slc) (k_ : Int) (w4 : World) : Prop :=
  ((decide (k_ < 70)) = true → (∃ (v30 : Int), w4.cell? ⟨b_1, 2, none⟩ = some (Value.int .i64 v30) ∧ (C_towpathlaw01_markHeldList v30 w4 (fun (v31 : Slc) w5 => ∀ b_2 w6, b_2 = w5.heap.size → w6 = w5.alloc (Obj.cells ([Value.slice v31.ptr v31.len v31.cap]).toArray ty_sl_api_Held (0, 0)) → (∃ src, SrcAt w6 (Slc.mk (some ⟨b_2, 0, none⟩) 1 1) 1 src ∧ AppendW 1 24 ty_sl_api_Held [Value.slice none 0 0] long1 src 1 w6 (fun long2 w7 => again_1 long2 (IntKind.i64.wrap (k_ + 1)) w7)))))) ∧
  ((decide (k_ < 70)) = false → (IsAt b_ ∧ (∃ (v37 : Slc), w4.cell? ⟨(pblk b_), (poff b_) + 9, none⟩ = some (Value.slice v37.ptr v37.len v37.cap) ∧ (IsAt v37.ptr ∧ (0 ≤ i ∧ i < ((v37.len : Nat) : Int) ∧ (Writable w4 (pblk v37.ptr) (((poff v37.ptr) + i.toNat * 3) + 1) 1 ∧ (∀ w8, w8 = World.puts (pblk v37.ptr) (((poff v37.ptr) + i.toNat * 3) + 1) [Value.slice long1.ptr long1.len long1.cap] w4 → (again_ (IntKind.i64.wrap (i + 1)) w8))))))))

def F_towpathlaw01_Book_growHeldList_L0 (b_ : Option Addr) (R : World → Prop) (again_ : Int → World → Prop) (i : Int) (w1 : World) : Prop :=
  IsAt b_ ∧ (∃ (v10 : Slc), w1.cell? ⟨(pblk b_), (poff b_) + 9, none⟩ = some (Value.slice v10.ptr v10.len v10.cap) ∧ (((decide (i < ((v10.len : Nat) : Int))) = true → (IsAt b_ ∧ (∃ (v18 : Slc), w1.cell? ⟨(pblk b_), (poff b_) + 9, none⟩ = some (Value.slice v18.ptr v18.len v18.cap) ∧ (IsAt v18.ptr ∧ (0 ≤ i ∧ i < ((v18.len : Nat) : Int) ∧ (∃ (v21 : T_towpathlaw01_heldHeldList), CellsAt w1 (pblk v18.ptr) ((poff v18.ptr) + i.toNat * 3) [Value.slice v21.l.ptr v21.l.len v21.l.cap, Value.slice v21.long.ptr v21.long.len v21.long.cap, Value.int .i64 v21.n] ∧ (∀ b_1 w2, b_1 = w1.heap.size → w2 = w1.alloc (Obj.cells ([Value.slice none 0 0, Value.slice none 0 0, Value.int .i64 0]).toArray ty_towpathlaw01_heldHeldList (0, 0)) → (Writable w2 b_1 0 3 ∧ (∀ w3, w3 = World.puts b_1 0 [Value.slice v21.l.ptr v21.l.len v21.l.cap, Value.slice v21.long.ptr v21.long.len v21.long.cap, Value.int .i64 v21.n] w2 → (∃ (long : Slc), w3.cell? ⟨b_1, 0, none⟩ = some (Value.slice long.ptr long.len long.cap) ∧ (∃ (I : Slc → Int → World → Prop) (μ : Slc → Int → World → Nat), I long 0 w3 ∧
  ∀ (long1 : Slc) (k_ : Int) w, I long1 k_ w → F_towpathlaw01_Book_growHeldList_L1 b_ i again_ b_1 (fun (long1' : Slc) (k_' : Int) w' => I long1' k_' w' ∧ μ long1' k_' w' < μ long1 k_ w) long1 k_ w))))))))))) ∧
  ((decide (i < ((v10.len : Nat) : Int))) = false → (R w1))))

def F_towpathlaw01_Book_growHeldList (b_ : Option Addr) (R : World → Prop) (w : World) : Prop :=
  ∃ (I : Int → World → Prop) (μ : Int → World → Nat), I 0 w ∧
  ∀ (i : Int) w, I i w → F_towpathlaw01_Book_growHeldList_L0 b_ R (fun (i' : Int) w' => I i' w' ∧ μ i' w' < μ i w) i w

def F_towpathlaw01_Book_growEvent_L0 (b_ : Option Addr) (R : World → Prop) (again_ : Int → World → Prop) (i : Int) (w1 : World) : Prop :=
  IsAt b_ ∧ (∃ (v10 : Slc), w1.cell? ⟨(pblk b_), (poff b_) + 10, none⟩ = some (Value.slice v10.ptr v10.len v10.cap) ∧ (((decide (i < ((v10.len : Nat) : Int))) = true → (False)) ∧
  ((decide (i < ((v10.len : Nat) : Int))) = false → (R w1))))

def F_towpathlaw01_Book_growEvent (b_ : Option Addr) (R : World → Prop) (w : World) : Prop :=
  ∃ (I : Int → World → Prop) (μ : Int → World → Nat), I 0 w ∧
  ∀ (i : Int) w, I i w → F_towpathlaw01_Book_growEvent_L0 b_ R (fun (i' : Int) w' => I i' w' ∧ μ i' w' < μ i w) i w

def F_towpathlaw01_Book_growAnswer_L0 (b_ : Option Addr) (R : World → Prop) (again_ : Int → World → Prop) (i : Int) (w1 : World) : Prop :=
  IsAt b_ ∧ (∃ (v10 : Slc), w1.cell? ⟨(pblk b_), (poff b_) + 11, none⟩ = some (Value.slice v10.ptr v10.len v10.cap) ∧ (((decide (i < ((v10.len : Nat) : Int))) = true → (False)) ∧
  ((decide (i < ((v10.len : Nat) : Int))) = false → (R w1))))

def F_towpathlaw01_Book_growAnswer (b_ : Option Addr) (R : World → Prop) (w : World) : Prop :=
  ∃ (I : Int → World → Prop) (μ : Int → World → Nat), I 0 w ∧
  ∀ (i : Int) w, I i w → F_towpathlaw01_Book_growAnswer_L0 b_ R (fun (i' : Int) w' => I i' w' ∧ μ i' w' < μ i w) i w

def F_towpathlaw01_Book_lookByte_L0 (b_ : Option Addr) (R : Bool → World → Prop) (again_ : Int → World → Prop) (i : Int) (w1 : World) : Prop :=
  IsAt b_ ∧ (∃ (v10 : Slc), w1.cell? ⟨(pblk b_), (poff b_) + 1, none⟩ = some (Value.slice v10.ptr v10.len v10.cap) ∧ (((decide (i < ((v10.len : Nat) : Int))) = true → (False)) ∧
  ((decide (i < ((v10.len : Nat) : Int))) = false → (R true w1))))

def F_towpathlaw01_Book_lookByte (b_ : Option Addr) (R : Bool → World → Prop) (w : World) : Prop :=
  ∃ (I : Int → World → Prop) (μ : Int → World → Nat), I 0 w ∧
  ∀ (i : Int) w, I i w → F_towpathlaw01_Book_lookByte_L0 b_ R (fun (i' : Int) w' => I i' w' ∧ μ i' w' < μ i w) i w

def F_towpathlaw01_Book_lookInt_k2 (R : Bool → World → Prop) (k_ : Int) (again_1 : Int → World → Prop) (t63 : Bool) (w5 : World) : Prop :=
  (t63 = true → (R false w5)) ∧
  (t63 = false → (again_1 (IntKind.i64.wrap (k_ + 1)) w5))

def F_towpathlaw01_Book_lookInt_L1 (R : Bool → World → Prop) (i : Int) (again_ : Int → World → Prop) (b_1 : Nat) (again_1 : Int → World → Prop) (k_ : Int) (w4 : World) : Prop :=
  ∃ (v32 : Slc), w4.cell? ⟨b_1, 1, none⟩ = some (Value.slice v32.ptr v32.len v32.cap) ∧ (((decide (k_ < ((v32.len : Nat) : Int))) = true → (∃ (v38 : Slc), w4.cell? ⟨b_1, 1, none⟩ = some (Value.slice v38.ptr v38.len v38.cap) ∧ (IsAt v38.ptr ∧ (0 ≤ k_ ∧ k_ < ((v38.len : Nat) : Int) ∧ (∃ (v41 : Int), w4.cell? ⟨(pblk v38.ptr), (poff v38.ptr) + k_.toNat, none⟩ = some (Value.int .i64 v41) ∧ (∃ (v43 : Int), w4.cell? ⟨b_1, 2, none⟩ = some (Value.int .i64 v43) ∧ (∃ (v44 : Bool), (∀ w', Ext w4 w' → C_towpathlaw01_isInt v41 v43 w' (fun (v44' : Bool) w'' => v44' = v44 ∧ Ext w' w'')) ∧ (((!v44) = true → (∀ w7, Ext w4 w7 → (F_towpathlaw01_Book_lookInt_k2 R k_ again_1 true w7))) ∧
  ((!v44) = false → (∃ (v49 : Slc), w4.cell? ⟨b_1, 0, none⟩ = some (Value.slice v49.ptr v49.len v49.cap) ∧ (((decide (k_ < ((v49.len : Nat) : Int))) = true → (∃ (v54 : Slc), w4.cell? ⟨b_1, 0, none⟩ = some (Value.slice v54.ptr v54.len v54.cap) ∧ (IsAt v54.ptr ∧ (0 ≤ k_ ∧ k_ < ((v54.len : Nat) : Int) ∧ (∃ (v57 : Int), w4.cell? ⟨(pblk v54.ptr), (poff v54.ptr) + k_.toNat, none⟩ = some (Value.int .i64 v57) ∧ (∃ (v59 : Int), w4.cell? ⟨b_1, 2, none⟩ = some (Value.int .i64 v59) ∧ (∃ (v60 : Bool), (∀ w', Ext w4 w' → C_towpathlaw01_isInt v57 v59 w' (fun (v60' : Bool) w'' => v60' = v60 ∧ Ext w' w'')) ∧ (∀ w9, Ext w4 w9 → (F_towpathlaw01_Book_lookInt_k2 R k_ again_1 (!v60) w9))))))))) ∧
  ((decide (k_ < ((v49.len : Nat) : Int))) = false → (∀ w10, Ext w4 w10 → (F_towpathlaw01_Book_lookInt_k2 R k_ again_1 false w10)))))))))))))) ∧
  ((decide (k_ < ((v32.len : Nat) : Int))) = false → (again_ (IntKind.i64.wrap (i + 1)) w4)))

def F_towpathlaw01_Book_lookInt_L0 (b_ : Option Addr) (R : Bool → World → Prop) (again_ : Int → World → Prop) (i : Int) (w1 : World) : Prop :=
  IsAt b_ ∧ (∃ (v10 : Slc), w1.cell? ⟨(pblk b_), (poff b_) + 2, none⟩ = some (Value.slice v10.ptr v10.len v10.cap) ∧ (((decide (i < ((v10.len : Nat) : Int))) = true → (IsAt b_ ∧ (∃ (v18 : Slc), w1.cell? ⟨(pblk b_), (poff b_) + 2, none⟩ = some (Value.slice v18.ptr v18.len v18.cap) ∧ (IsAt v18.ptr ∧ (0 ≤ i ∧ i < ((v18.len : Nat) : Int) ∧ (∃ (v21 : T_towpathlaw01_heldInt), CellsAt w1 (pblk v18.ptr) ((poff v18.ptr) + i.toNat * 3) [Value.slice v21.l.ptr v21.l.len v21.l.cap, Value.slice v21.long.ptr v21.long.len v21.long.cap, Value.int .i64 v21.n] ∧ (∀ b_1 w2, b_1 = w1.heap.size → w2 = w1.alloc (Obj.cells ([Value.slice none 0 0, Value.slice none 0 0, Value.int .i64 0]).toArray ty_towpathlaw01_heldInt (0, 0)) → (Writable w2 b_1 0 3 ∧ (∀ w3, w3 = World.puts b_1 0 [Value.slice v21.l.ptr v21.l.len v21.l.cap, Value.slice v21.long.ptr v21.long.len v21.long.cap, Value.int .i64 v21.n] w2 → (∃ (v23 : Slc), w3.cell? ⟨b_1, 1, none⟩ = some (Value.slice v23.ptr v23.len v23.cap) ∧ (∃ (v26 : Slc), w3.cell? ⟨b_1, 0, none⟩ = some (Value.slice v26.ptr v26.len v26.cap) ∧ (((((v23.len : Nat) : Int) != (IntKind.i64.wrap (((v26.len : Nat) : Int) + 70))) = true → (R false w3)) ∧
  ((((v23.len : Nat) : Int) != (IntKind.i64.wrap (((v26.len : Nat) : Int) + 70))) = false → (∃ (I : Int → World → Prop) (μ : Int → World → Nat), I 0 w3 ∧
  ∀ (k_ : Int) w, I k_ w → F_towpathlaw01_Book_lookInt_L1 R i again_ b_1 (fun (k_' : Int) w' => I k_' w' ∧ μ k_' w' < μ k_ w) k_ w)))))))))))))) ∧
  ((decide (i < ((v10.len : Nat) : Int))) = false → (R true w1))))

def F_towpathlaw01_Book_lookInt (b_ : Option Addr) (R : Bool → World → Prop) (w : World) : Prop :=
  ∃ (I : Int → World → Prop) (μ : Int → World → Nat), I 0 w ∧
  ∀ (i : Int) w, I i w → F_towpathlaw01_Book_lookInt_L0 b_ R (fun (i' : Int) w' => I i' w' ∧ μ i' w' < μ i w) i w

def F_towpathlaw01_Book_lookText_L0 (b_ : Option Addr) (R : Bool → World → Prop) (again_ : Int → World → Prop) (i : Int) (w1 : World) : Prop :=
  IsAt b_ ∧ (∃ (v10 : Slc), w1.cell? ⟨(pblk b_), (poff b_) + 3, none⟩ = some (Value.slice v10.ptr v10.len v10.cap) ∧ (((decide (i < ((v10.len : Nat) : Int))) = true → (False)) ∧
  ((decide (i < ((v10.len : Nat) : Int))) = false → (R true w1))))

def F_towpathlaw01_Book_lookText (b_ : Option Addr) (R : Bool → World → Prop) (w : World) : Prop :=
  ∃ (I : Int → World → Prop) (μ : Int → World → Nat), I 0 w ∧
  ∀ (i : Int) w, I i w → F_towpathlaw01_Book_lookText_L0 b_ R (fun (i' : Int) w' => I i' w' ∧ μ i' w' < μ i w) i w

def F_towpathlaw01_Book_lookWrite_L0 (b_ : Option Addr) (R : Bool → World → Prop) (again_ : Int → World → Prop) (i : Int) (w1 : World) : Prop :=
  IsAt b_ ∧ (∃ (v10 : Slc), w1.cell? ⟨(pblk b_), (poff b_) + 4, none⟩ = some (Value.slice v10.ptr v10.len v10.cap) ∧ (((decide (i < ((v10.len : Nat) : Int))) = true → (False)) ∧
  ((decide (i < ((v10.len : Nat) : Int))) = false → (R true w1))))

def F_towpathlaw01_Book_lookWrite (b_ : Option Addr) (R : Bool → World → Prop) (w : World) : Prop :=
  ∃ (I : Int → World → Prop) (μ : Int → World → Nat), I 0 w ∧
  ∀ (i : Int) w, I i w → F_towpathlaw01_Book_lookWrite_L0 b_ R (fun (i' : Int) w' => I i' w' ∧ μ i' w' < μ i w) i w

def F_towpathlaw01_Book_lookEntry_L0 (b_ : Option Addr) (R : Bool → World → Prop) (again_ : Int → World → Prop) (i : Int) (w1 : World) : Prop :=
  IsAt b_ ∧ (∃ (v10 : Slc), w1.cell? ⟨(pblk b_), (poff b_) + 5, none⟩ = some (Value.slice v10.ptr v10.len v10.cap) ∧ (((decide (i < ((v10.len : Nat) : Int))) = true → (False)) ∧
  ((decide (i < ((v10.len : Nat) : Int))) = false → (R true w1))))

def F_towpathlaw01_Book_lookEntry (b_ : Option Addr) (R : Bool → World → Prop) (w : World) : Prop :=
  ∃ (I : Int → World → Prop) (μ : Int → World → Nat), I 0 w ∧
  ∀ (i : Int) w, I i w → F_towpathlaw01_Book_lookEntry_L0 b_ R (fun (i' : Int) w' => I i' w' ∧ μ i' w' < μ i w) i w

def F_towpathlaw01_Book_lookVersion_k2 (R : Bool → World → Prop) (k_ : Int) (again_1 : Int → World → Prop) (t63 : Bool) (w5 : World) : Prop :=
  (t63 = true → (R false w5)) ∧
  (t63 = false → (again_1 (IntKind.i64.wrap (k_ + 1)) w5))

def F_towpathlaw01_Book_lookVersion_L1 (R : Bool → World → Prop) (i : Int) (again_ : Int → World → Prop) (b_1 : Nat) (again_1 : Int → World → Prop) (k_ : Int) (w4 : World) : Prop :=
  ∃ (v32 : Slc), w4.cell? ⟨b_1, 1, none⟩ = some (Value.slice v32.ptr v32.len v32.cap) ∧ (((decide (k_ < ((v32.len : Nat) : Int))) = true → (∃ (v38 : Slc), w4.cell? ⟨b_1, 1, none⟩ = some (Value.slice v38.ptr v38.len v38.cap) ∧ (IsAt v38.ptr ∧ (0 ≤ k_ ∧ k_ < ((v38.len : Nat) : Int) ∧ (∃ (v41 : T_api_Version), CellsAt w4 (pblk v38.ptr) ((poff v38.ptr) + k_.toNat * 3) [Value.int .i64 v41.Number, Value.string v41.Val, Value.bool v41.Drop] ∧ (∃ (v43 : Int), w4.cell? ⟨b_1, 2, none⟩ = some (Value.int .i64 v43) ∧ (∃ (v44 : Bool), (∀ w', Ext w4 w' → C_towpathlaw01_isVersion v41 v43 w' (fun (v44' : Bool) w'' => v44' = v44 ∧ Ext w' w'')) ∧ (((!v44) = true → (∀ w7, Ext w4 w7 → (F_towpathlaw01_Book_lookVersion_k2 R k_ again_1 true w7))) ∧
  ((!v44) = false → (∃ (v49 : Slc), w4.cell? ⟨b_1, 0, none⟩ = some (Value.slice v49.ptr v49.len v49.cap) ∧ (((decide (k_ < ((v49.len : Nat) : Int))) = true → (∃ (v54 : Slc), w4.cell? ⟨b_1, 0, none⟩ = some (Value.slice v54.ptr v54.len v54.cap) ∧ (IsAt v54.ptr ∧ (0 ≤ k_ ∧ k_ < ((v54.len : Nat) : Int) ∧ (∃ (v57 : T_api_Version), CellsAt w4 (pblk v54.ptr) ((poff v54.ptr) + k_.toNat * 3) [Value.int .i64 v57.Number, Value.string v57.Val, Value.bool v57.Drop] ∧ (∃ (v59 : Int), w4.cell? ⟨b_1, 2, none⟩ = some (Value.int .i64 v59) ∧ (∃ (v60 : Bool), (∀ w', Ext w4 w' → C_towpathlaw01_isVersion v57 v59 w' (fun (v60' : Bool) w'' => v60' = v60 ∧ Ext w' w'')) ∧ (∀ w9, Ext w4 w9 → (F_towpathlaw01_Book_lookVersion_k2 R k_ again_1 (!v60) w9))))))))) ∧
  ((decide (k_ < ((v49.len : Nat) : Int))) = false → (∀ w10, Ext w4 w10 → (F_towpathlaw01_Book_lookVersion_k2 R k_ again_1 false w10)))))))))))))) ∧
  ((decide (k_ < ((v32.len : Nat) : Int))) = false → (again_ (IntKind.i64.wrap (i + 1)) w4)))

def F_towpathlaw01_Book_lookVersion_L0 (b_ : Option Addr) (R : Bool → World → Prop) (again_ : Int → World → Prop) (i : Int) (w1 : World) : Prop :=
  IsAt b_ ∧ (∃ (v10 : Slc), w1.cell? ⟨(pblk b_), (poff b_) + 6, none⟩ = some (Value.slice v10.ptr v10.len v10.cap) ∧ (((decide (i < ((v10.len : Nat) : Int))) = true → (IsAt b_ ∧ (∃ (v18 : Slc), w1.cell? ⟨(pblk b_), (poff b_) + 6, none⟩ = some (Value.slice v18.ptr v18.len v18.cap) ∧ (IsAt v18.ptr ∧ (0 ≤ i ∧ i < ((v18.len : Nat) : Int) ∧ (∃ (v21 : T_towpathlaw01_heldVersion), CellsAt w1 (pblk v18.ptr) ((poff v18.ptr) + i.toNat * 3) [Value.slice v21.l.ptr v21.l.len v21.l.cap, Value.slice v21.long.ptr v21.long.len v21.long.cap, Value.int .i64 v21.n] ∧ (∀ b_1 w2, b_1 = w1.heap.size → w2 = w1.alloc (Obj.cells ([Value.slice none 0 0, Value.slice none 0 0, Value.int .i64 0]).toArray ty_towpathlaw01_heldVersion (0, 0)) → (Writable w2 b_1 0 3 ∧ (∀ w3, w3 = World.puts b_1 0 [Value.slice v21.l.ptr v21.l.len v21.l.cap, Value.slice v21.long.ptr v21.long.len v21.long.cap, Value.int .i64 v21.n] w2 → (∃ (v23 : Slc), w3.cell? ⟨b_1, 1, none⟩ = some (Value.slice v23.ptr v23.len v23.cap) ∧ (∃ (v26 : Slc), w3.cell? ⟨b_1, 0, none⟩ = some (Value.slice v26.ptr v26.len v26.cap) ∧ (((((v23.len : Nat) : Int) != (IntKind.i64.wrap (((v26.len : Nat) : Int) + 70))) = true → (R false w3)) ∧
  ((((v23.len : Nat) : Int) != (IntKind.i64.wrap (((v26.len : Nat) : Int) + 70))) = false → (∃ (I : Int → World → Prop) (μ : Int → World → Nat), I 0 w3 ∧
  ∀ (k_ : Int) w, I k_ w → F_towpathlaw01_Book_lookVersion_L1 R i again_ b_1 (fun (k_' : Int) w' => I k_' w' ∧ μ k_' w' < μ k_ w) k_ w)))))))))))))) ∧
  ((decide (i < ((v10.len : Nat) : Int))) = false → (R true w1))))

def F_towpathlaw01_Book_lookVersion (b_ : Option Addr) (R : Bool → World → Prop) (w : World) : Prop :=
  ∃ (I : Int → World → Prop) (μ : Int → World → Nat), I 0 w ∧
  ∀ (i : Int) w, I i w → F_towpathlaw01_Book_lookVersion_L0 b_ R (fun (i' : Int) w' => I i' w' ∧ μ i' w' < μ i w) i w

def F_towpathlaw01_Book_lookTxn_L0 (b_ : Option Addr) (R : Bool → World → Prop) (again_ : Int → World → Prop) (i : Int) (w1 : World) : Prop :=
  IsAt b_ ∧ (∃ (v10 : Slc), w1.cell? ⟨(pblk b_), (poff b_) + 7, none⟩ = some (Value.slice v10.ptr v10.len v10.cap) ∧ (((decide (i < ((v10.len : Nat) : Int))) = true → (False)) ∧
  ((decide (i < ((v10.len : Nat) : Int))) = false → (R true w1))))

def F_towpathlaw01_Book_lookTxn (b_ : Option Addr) (R : Bool → World → Prop) (w : World) : Prop :=
  ∃ (I : Int → World → Prop) (μ : Int → World → Nat), I 0 w ∧
  ∀ (i : Int) w, I i w → F_towpathlaw01_Book_lookTxn_L0 b_ R (fun (i' : Int) w' => I i' w' ∧ μ i' w' < μ i w) i w

def F_towpathlaw01_Book_lookHeld_k2 (R : Bool → World → Prop) (k_ : Int) (again_1 : Int → World → Prop) (t63 : Bool) (w5 : World) : Prop :=
  (t63 = true → (R false w5)) ∧
  (t63 = false → (again_1 (IntKind.i64.wrap (k_ + 1)) w5))

def F_towpathlaw01_Book_lookHeld_L1 (R : Bool → World → Prop) (i : Int) (again_ : Int → World → Prop) (b_1 : Nat) (again_1 : Int → World → Prop) (k_ : Int) (w4 : World) : Prop :=
  ∃ (v32 : Slc), w4.cell? ⟨b_1, 1, none⟩ = some (Value.slice v32.ptr v32.len v32.cap) ∧ (((decide (k_ < ((v32.len : Nat) : Int))) = true → (∀ w6, (∃ k, w6 = w4.drewN k) → (∃ (v38 : Slc), w6.cell? ⟨b_1, 1, none⟩ = some (Value.slice v38.ptr v38.len v38.cap) ∧ (IsAt v38.ptr ∧ (0 ≤ k_ ∧ k_ < ((v38.len : Nat) : Int) ∧ (∃ (v41 : T_api_Held), CellsAt w6 (pblk v38.ptr) ((poff v38.ptr) + k_.toNat * 2) [Value.string v41.Key, Value.slice v41.Versions.ptr v41.Versions.len v41.Versions.cap] ∧ (∃ (v43 : Int), w6.cell? ⟨b_1, 2, none⟩ = some (Value.int .i64 v43) ∧ (C_towpathlaw01_isHeld v41 v43 w6 (fun (v44 : Bool) w7 => (((!v44) = true → (F_towpathlaw01_Book_lookHeld_k2 R k_ again_1 true w7)) ∧
  ((!v44) = false → (∃ (v49 : Slc), w7.cell? ⟨b_1, 0, none⟩ = some (Value.slice v49.ptr v49.len v49.cap) ∧ (((decide (k_ < ((v49.len : Nat) : Int))) = true → (∃ (v54 : Slc), w7.cell? ⟨b_1, 0, none⟩ = some (Value.slice v54.ptr v54.len v54.cap) ∧ (IsAt v54.ptr ∧ (0 ≤ k_ ∧ k_ < ((v54.len : Nat) : Int) ∧ (∃ (v57 : T_api_Held), CellsAt w7 (pblk v54.ptr) ((poff v54.ptr) + k_.toNat * 2) [Value.string v57.Key, Value.slice v57.Versions.ptr v57.Versions.len v57.Versions.cap] ∧ (∃ (v59 : Int), w7.cell? ⟨b_1, 2, none⟩ = some (Value.int .i64 v59) ∧ (C_towpathlaw01_isHeld v57 v59 w7 (fun (v60 : Bool) w8 => (F_towpathlaw01_Book_lookHeld_k2 R k_ again_1 (!v60) w8))))))))) ∧
  ((decide (k_ < ((v49.len : Nat) : Int))) = false → (F_towpathlaw01_Book_lookHeld_k2 R k_ again_1 false w7))))))))))))))) ∧
  ((decide (k_ < ((v32.len : Nat) : Int))) = false → (again_ (IntKind.i64.wrap (i + 1)) w4)))

def F_towpathlaw01_Book_lookHeld_L0 (b_ : Option Addr) (R : Bool → World → Prop) (again_ : Int → World → Prop) (i : Int) (w1 : World) : Prop :=
  IsAt b_ ∧ (∃ (v10 : Slc), w1.cell? ⟨(pblk b_), (poff b_) + 8, none⟩ = some (Value.slice v10.ptr v10.len v10.cap) ∧ (((decide (i < ((v10.len : Nat) : Int))) = true → (IsAt b_ ∧ (∃ (v18 : Slc), w1.cell? ⟨(pblk b_), (poff b_) + 8, none⟩ = some (Value.slice v18.ptr v18.len v18.cap) ∧ (IsAt v18.ptr ∧ (0 ≤ i ∧ i < ((v18.len : Nat) : Int) ∧ (∃ (v21 : T_towpathlaw01_heldHeld), CellsAt w1 (pblk v18.ptr) ((poff v18.ptr) + i.toNat * 3) [Value.slice v21.l.ptr v21.l.len v21.l.cap, Value.slice v21.long.ptr v21.long.len v21.long.cap, Value.int .i64 v21.n] ∧ (∀ b_1 w2, b_1 = w1.heap.size → w2 = w1.alloc (Obj.cells ([Value.slice none 0 0, Value.slice none 0 0, Value.int .i64 0]).toArray ty_towpathlaw01_heldHeld (0, 0)) → (Writable w2 b_1 0 3 ∧ (∀ w3, w3 = World.puts b_1 0 [Value.slice v21.l.ptr v21.l.len v21.l.cap, Value.slice v21.long.ptr v21.long.len v21.long.cap, Value.int .i64 v21.n] w2 → (∃ (v23 : Slc), w3.cell? ⟨b_1, 1, none⟩ = some (Value.slice v23.ptr v23.len v23.cap) ∧ (∃ (v26 : Slc), w3.cell? ⟨b_1, 0, none⟩ = some (Value.slice v26.ptr v26.len v26.cap) ∧ (((((v23.len : Nat) : Int) != (IntKind.i64.wrap (((v26.len : Nat) : Int) + 70))) = true → (R false w3)) ∧
  ((((v23.len : Nat) : Int) != (IntKind.i64.wrap (((v26.len : Nat) : Int) + 70))) = false → (∃ (I : Int → World → Prop) (μ : Int → World → Nat), I 0 w3 ∧
  ∀ (k_ : Int) w, I k_ w → F_towpathlaw01_Book_lookHeld_L1 R i again_ b_1 (fun (k_' : Int) w' => I k_' w' ∧ μ k_' w' < μ k_ w) k_ w)))))))))))))) ∧
  ((decide (i < ((v10.len : Nat) : Int))) = false → (R true w1))))

def F_towpathlaw01_Book_lookHeld (b_ : Option Addr) (R : Bool → World → Prop) (w : World) : Prop :=
  ∃ (I : Int → World → Prop) (μ : Int → World → Nat), I 0 w ∧
  ∀ (i : Int) w, I i w → F_towpathlaw01_Book_lookHeld_L0 b_ R (fun (i' : Int) w' => I i' w' ∧ μ i' w' < μ i w) i w

def F_towpathlaw01_Book_lookHeldList_k2 (R : Bool → World → Prop) (k_ : Int) (again_1 : Int → World → Prop) (t63 : Bool) (w5 : World) : Prop :=
  (t63 = true → (R false w5)) ∧
  (t63 = false → (again_1 (IntKind.i64.wrap (k_ + 1)) w5))

def F_towpathlaw01_Book_lookHeldList_L1 (R : Bool → World → Prop) (i : Int) (again_ : Int → World → Prop) (b_1 : Nat) (again_1 : Int → World → Prop) (k_ : Int) (w4 : World) : Prop :=
  ∃ (v32 : Slc), w4.cell? ⟨b_1, 1, none⟩ = some (Value.slice v32.ptr v32.len v32.cap) ∧ (((decide (k_ < ((v32.len : Nat) : Int))) = true → (∀ w6, (∃ k, w6 = w4.drewN k) → (∃ (v38 : Slc), w6.cell? ⟨b_1, 1, none⟩ = some (Value.slice v38.ptr v38.len v38.cap) ∧ (IsAt v38.ptr ∧ (0 ≤ k_ ∧ k_ < ((v38.len : Nat) : Int) ∧ (∃ (v41 : Slc), w6.cell? ⟨(pblk v38.ptr), (poff v38.ptr) + k_.toNat, none⟩ = some (Value.slice v41.ptr v41.len v41.cap) ∧ (∃ (v43 : Int), w6.cell? ⟨b_1, 2, none⟩ = some (Value.int .i64 v43) ∧ (C_towpathlaw01_isHeldList v41 v43 w6 (fun (v44 : Bool) w7 => (((!v44) = true → (F_towpathlaw01_Book_lookHeldList_k2 R k_ again_1 true w7)) ∧
  ((!v44) = false → (∃ (v49 : Slc), w7.cell? ⟨b_1, 0, none⟩ = some (Value.slice v49.ptr v49.len v49.cap) ∧ (((decide (k_ < ((v49.len : Nat) : Int))) = true → (∃ (v54 : Slc), w7.cell? ⟨b_1, 0, none⟩ = some (Value.slice v54.ptr v54.len v54.cap) ∧ (IsAt v54.ptr ∧ (0 ≤ k_ ∧ k_ < ((v54.len : Nat) : Int) ∧ (∃ (v57 : Slc), w7.cell? ⟨(pblk v54.ptr), (poff v54.ptr) + k_.toNat, none⟩ = some (Value.slice v57.ptr v57.len v57.cap) ∧ (∃ (v59 : Int), w7.cell? ⟨b_1, 2, none⟩ = some (Value.int .i64 v59) ∧ (C_towpathlaw01_isHeldList v57 v59 w7 (fun (v60 : Bool) w8 => (F_towpathlaw01_Book_lookHeldList_k2 R k_ again_1 (!v60) w8))))))))) ∧
  ((decide (k_ < ((v49.len : Nat) : Int))) = false → (F_towpathlaw01_Book_lookHeldList_k2 R k_ again_1 false w7))))))))))))))) ∧
  ((decide (k_ < ((v32.len : Nat) : Int))) = false → (again_ (IntKind.i64.wrap (i + 1)) w4)))

def F_towpathlaw01_Book_lookHeldList_L0 (b_ : Option Addr) (R : Bool → World → Prop) (again_ : Int → World → Prop) (i : Int) (w1 : World) : Prop :=
  IsAt b_ ∧ (∃ (v10 : Slc), w1.cell? ⟨(pblk b_), (poff b_) + 9, none⟩ = some (Value.slice v10.ptr v10.len v10.cap) ∧ (((decide (i < ((v10.len : Nat) : Int))) = true → (IsAt b_ ∧ (∃ (v18 : Slc), w1.cell? ⟨(pblk b_), (poff b_) + 9, none⟩ = some (Value.slice v18.ptr v18.len v18.cap) ∧ (IsAt v18.ptr ∧ (0 ≤ i ∧ i < ((v18.len : Nat) : Int) ∧ (∃ (v21 : T_towpathlaw01_heldHeldList), CellsAt w1 (pblk v18.ptr) ((poff v18.ptr) + i.toNat * 3) [Value.slice v21.l.ptr v21.l.len v21.l.cap, Value.slice v21.long.ptr v21.long.len v21.long.cap, Value.int .i64 v21.n] ∧ (∀ b_1 w2, b_1 = w1.heap.size → w2 = w1.alloc (Obj.cells ([Value.slice none 0 0, Value.slice none 0 0, Value.int .i64 0]).toArray ty_towpathlaw01_heldHeldList (0, 0)) → (Writable w2 b_1 0 3 ∧ (∀ w3, w3 = World.puts b_1 0 [Value.slice v21.l.ptr v21.l.len v21.l.cap, Value.slice v21.long.ptr v21.long.len v21.long.cap, Value.int .i64 v21.n] w2 → (∃ (v23 : Slc), w3.cell? ⟨b_1, 1, none⟩ = some (Value.slice v23.ptr v23.len v23.cap) ∧ (∃ (v26 : Slc), w3.cell? ⟨b_1, 0, none⟩ = some (Value.slice v26.ptr v26.len v26.cap) ∧ (((((v23.len : Nat) : Int) != (IntKind.i64.wrap (((v26.len : Nat) : Int) + 70))) = true → (R false w3)) ∧
  ((((v23.len : Nat) : Int) != (IntKind.i64.wrap (((v26.len : Nat) : Int) + 70))) = false → (∃ (I : Int → World → Prop) (μ : Int → World → Nat), I 0 w3 ∧
  ∀ (k_ : Int) w, I k_ w → F_towpathlaw01_Book_lookHeldList_L1 R i again_ b_1 (fun (k_' : Int) w' => I k_' w' ∧ μ k_' w' < μ k_ w) k_ w)))))))))))))) ∧
  ((decide (i < ((v10.len : Nat) : Int))) = false → (R true w1))))

def F_towpathlaw01_Book_lookHeldList (b_ : Option Addr) (R : Bool → World → Prop) (w : World) : Prop :=
  ∃ (I : Int → World → Prop) (μ : Int → World → Nat), I 0 w ∧
  ∀ (i : Int) w, I i w → F_towpathlaw01_Book_lookHeldList_L0 b_ R (fun (i' : Int) w' => I i' w' ∧ μ i' w' < μ i w) i w

def F_towpathlaw01_Book_lookEvent_L0 (b_ : Option Addr) (R : Bool → World → Prop) (again_ : Int → World → Prop) (i : Int) (w1 : World) : Prop :=
  IsAt b_ ∧ (∃ (v10 : Slc), w1.cell? ⟨(pblk b_), (poff b_) + 10, none⟩ = some (Value.slice v10.ptr v10.len v10.cap) ∧ (((decide (i < ((v10.len : Nat) : Int))) = true → (False)) ∧
  ((decide (i < ((v10.len : Nat) : Int))) = false → (R true w1))))

def F_towpathlaw01_Book_lookEvent (b_ : Option Addr) (R : Bool → World → Prop) (w : World) : Prop :=
  ∃ (I : Int → World → Prop) (μ : Int → World → Nat), I 0 w ∧
  ∀ (i : Int) w, I i w → F_towpathlaw01_Book_lookEvent_L0 b_ R (fun (i' : Int) w' => I i' w' ∧ μ i' w' < μ i w) i w

def F_towpathlaw01_Book_lookAnswer_L0 (b_ : Option Addr) (R : Bool → World → Prop) (again_ : Int → World → Prop) (i : Int) (w1 : World) : Prop :=
  IsAt b_ ∧ (∃ (v10 : Slc), w1.cell? ⟨(pblk b_), (poff b_) + 11, none⟩ = some (Value.slice v10.ptr v10.len v10.cap) ∧ (((decide (i < ((v10.len : Nat) : Int))) = true → (False)) ∧
  ((decide (i < ((v10.len : Nat) : Int))) = false → (R true w1))))

def F_towpathlaw01_Book_lookAnswer (b_ : Option Addr) (R : Bool → World → Prop) (w : World) : Prop :=
  ∃ (I : Int → World → Prop) (μ : Int → World → Nat), I 0 w ∧
  ∀ (i : Int) w, I i w → F_towpathlaw01_Book_lookAnswer_L0 b_ R (fun (i' : Int) w' => I i' w' ∧ μ i' w' < μ i w) i w

def F_towpathlaw01_Book_keepInt (b_ : Option Addr) (l_ : Slc) (R : World → Prop) (w : World) : Prop :=
  IsAt b_ ∧ (∃ (v7 : Int), w.cell? ⟨(pblk b_), (poff b_), none⟩ = some (Value.int .i64 v7) ∧ (Writable w (pblk b_) (poff b_) 1 ∧ (∀ w1, w1 = World.puts (pblk b_) (poff b_) [Value.int .i64 (IntKind.i64.wrap (v7 + 1))] w → (∀ w2, (∃ k, w2 = w1.drewN k) → (IsAt b_ ∧ (∃ (v15 : Slc), w2.cell? ⟨(pblk b_), (poff b_) + 2, none⟩ = some (Value.slice v15.ptr v15.len v15.cap) ∧ (IsAt b_ ∧ (∃ (v20 : Int), w2.cell? ⟨(pblk b_), (poff b_), none⟩ = some (Value.int .i64 v20) ∧ (∀ b_1 w3, b_1 = w2.heap.size → w3 = w2.alloc (Obj.cells ([Value.slice l_.ptr l_.len l_.cap, Value.slice none 0 0, Value.int .i64 v20]).toArray ty_towpathlaw01_heldInt (0, 0)) → (w3.cell? ⟨(pblk b_), (poff b_) + 2, none⟩ = some (Value.slice v15.ptr v15.len v15.cap) ∧ (∃ src, SrcAt w3 (Slc.mk (some ⟨b_1, 0, none⟩) 1 1) 3 src ∧ AppendW 3 56 ty_towpathlaw01_heldInt [Value.slice none 0 0, Value.slice none 0 0, Value.int .i64 0] v15 src 1 w3 (fun v23 w4 => (IsAt b_ ∧ (Writable w4 (pblk b_) ((poff b_) + 2) 1 ∧ (∀ w5, w5 = World.puts (pblk b_) ((poff b_) + 2) [Value.slice v23.ptr v23.len v23.cap] w4 → ((R w5)))))))))))))))))

def F_towpathlaw01_HeldsSize_L0 (l_ : Slc) (R : Int → World → Prop) (again_ : Int → Int → World → Prop) (n_ : Int) (i : Int) (w1 : World) : Prop :=
  (((decide (i < ((l_.len : Nat) : Int))) && (decide (n_ ≤ 1048576))) = true → (IsAt l_.ptr ∧ (0 ≤ i ∧ i < ((l_.len : Nat) : Int) ∧ (∃ (v22 : ByteArray), w1.cell? ⟨(pblk l_.ptr), (poff l_.ptr) + i.toNat * 2, none⟩ = some (Value.string v22) ∧ (IsAt l_.ptr ∧ (0 ≤ i ∧ i < ((l_.len : Nat) : Int) ∧ (∃ (v29 : Slc), w1.cell? ⟨(pblk l_.ptr), ((poff l_.ptr) + i.toNat * 2) + 1, none⟩ = some (Value.slice v29.ptr v29.len v29.cap) ∧ (∃ (v30 : Int), (∀ w', Ext w1 w' → C_towpathlaw01_VersionsSize v29 w' (fun (v30' : Int) w'' => v30' = v30 ∧ Ext w' w'')) ∧ (∀ w3, Ext w1 w3 → (again_ (IntKind.i64.wrap ((IntKind.i64.wrap (n_ + ((v22.size : Nat) : Int))) + v30)) (IntKind.i64.wrap (i + 1)) w3)))))))))) ∧
  (((decide (i < ((l_.len : Nat) : Int))) && (decide (n_ ≤ 1048576))) = false → (R n_ w1))

def F_towpathlaw01_HeldsSize (l_ : Slc) (R : Int → World → Prop) (w : World) : Prop :=
  ∃ (I : Int → Int → World → Prop) (μ : Int → Int → World → Nat), I ((l_.len : Nat) : Int) 0 w ∧
  ∀ (n_ : Int) (i : Int) w, I n_ i w → F_towpathlaw01_HeldsSize_L0 l_ R (fun (n_' : Int) (i' : Int) w' => I n_' i' w' ∧ μ n_' i' w' < μ n_ i w) n_ i w

def F_towpathlaw01_TwinInts_L0 (l_ : Slc) (R : Slc → World → Prop) (again_ : Slc → Int → World → Prop) (t_ : Slc) (i : Int) (w2 : World) : Prop :=
  ((decide (i < ((l_.len : Nat) : Int))) = true → (IsAt l_.ptr ∧ (0 ≤ i ∧ i < ((l_.len : Nat) : Int) ∧ (∃ (v19 : Int), w2.cell? ⟨(pblk l_.ptr), (poff l_.ptr) + i.toNat, none⟩ = some (Value.int .i64 v19) ∧ (∀ b_1 w3, b_1 = w2.heap.size → w3 = w2.alloc (Obj.cells ([Value.int .i64 v19]).toArray ty_int (0, 0)) → (∃ src, SrcAt w3 (Slc.mk (some ⟨b_1, 0, none⟩) 1 1) 1 src ∧ AppendW 1 8 ty_int [Value.int .i64 0] t_ src 1 w3 (fun t_1 w4 => again_ t_1 (IntKind.i64.wrap (i + 1)) w4))))))) ∧
  ((decide (i < ((l_.len : Nat) : Int))) = false → (∀ b_2 w5, b_2 = w2.heap.size → w5 = w2.alloc (Obj.cells ([Value.int .i64 7777]).toArray ty_int (0, 0)) → (∃ src, SrcAt w5 (Slc.mk (some ⟨b_2, 0, none⟩) 1 1) 1 src ∧ AppendW 1 8 ty_int [Value.int .i64 0] t_ src 1 w5 (fun v24 w6 => 0 ≤ ((l_.len : Nat) : Int) ∧ ((l_.len : Nat) : Int) ≤ ((v24.cap : Nat) : Int) ∧ (R (Slc.mk v24.ptr (((l_.len : Nat) : Int).toNat) v24.cap) w6)))))

def F_towpathlaw01_TwinInts (l_ : Slc) (R : Slc → World → Prop) (w : World) : Prop :=
  0 ≤ (0 : Int) ∧ (0 : Int) ≤ IntKind.i64.wrap (((l_.len : Nat) : Int) + 1) ∧ (8 : Int) * (IntKind.i64.wrap (((l_.len : Nat) : Int) + 1)) ≤ 281474976710656 ∧ (∀ b_ w1, b_ = w.heap.size → w1 = w.alloc (Obj.cells (repCells ((IntKind.i64.wrap (((l_.len : Nat) : Int) + 1)).toNat) [Value.int .i64 0]) ty_int (0, 0)) → (∃ (I : Slc → Int → World → Prop) (μ : Slc → Int → World → Nat), I (Slc.mk (some ⟨b_, 0, none⟩) 0 ((IntKind.i64.wrap (((l_.len : Nat) : Int) + 1)).toNat)) 0 w1 ∧
  ∀ (t_ : Slc) (i : Int) w, I t_ i w → F_towpathlaw01_TwinInts_L0 l_ R (fun (t_' : Slc) (i' : Int) w' => I t_' i' w' ∧ μ t_' i' w' < μ t_ i w) t_ i w))

def F_towpathlaw01_TwinHelds_L0 (l_ : Slc) (R : Slc → World → Prop) (again_ : Slc → Int → World → Prop) (t_ : Slc) (i : Int) (w2 : World) : Prop :=
  ((decide (i < ((l_.len : Nat) : Int))) = true → (IsAt l_.ptr ∧ (0 ≤ i ∧ i < ((l_.len : Nat) : Int) ∧ (∃ (v19 : T_api_Held), CellsAt w2 (pblk l_.ptr) ((poff l_.ptr) + i.toNat * 2) [Value.string v19.Key, Value.slice v19.Versions.ptr v19.Versions.len v19.Versions.cap] ∧ (C_towpathlaw01_TwinHeld v19 w2 (fun (v20 : T_api_Held) w3 => ∀ b_1 w4, b_1 = w3.heap.size → w4 = w3.alloc (Obj.cells ([Value.string v20.Key, Value.slice v20.Versions.ptr v20.Versions.len v20.Versions.cap]).toArray ty_api_Held (0, 0)) → (∃ src, SrcAt w4 (Slc.mk (some ⟨b_1, 0, none⟩) 1 1) 2 src ∧ AppendW 2 40 ty_api_Held [Value.string ByteArray.empty, Value.slice none 0 0] t_ src 1 w4 (fun t_1 w5 => again_ t_1 (IntKind.i64.wrap (i + 1)) w5)))))))) ∧
  ((decide (i < ((l_.len : Nat) : Int))) = false → (∀ b_2 w6, b_2 = w2.heap.size → w6 = w2.alloc (Obj.cells ([Value.string (ByteArray.mk #[115, 112, 97, 114, 101]), Value.slice none 0 0]).toArray ty_api_Held (0, 0)) → (∃ src, SrcAt w6 (Slc.mk (some ⟨b_2, 0, none⟩) 1 1) 2 src ∧ AppendW 2 40 ty_api_Held [Value.string ByteArray.empty, Value.slice none 0 0] t_ src 1 w6 (fun v26 w7 => 0 ≤ ((l_.len : Nat) : Int) ∧ ((l_.len : Nat) : Int) ≤ ((v26.cap : Nat) : Int) ∧ (R (Slc.mk v26.ptr (((l_.len : Nat) : Int).toNat) v26.cap) w7)))))

def F_towpathlaw01_TwinHelds (l_ : Slc) (R : Slc → World → Prop) (w : World) : Prop :=
  0 ≤ (0 : Int) ∧ (0 : Int) ≤ IntKind.i64.wrap (((l_.len : Nat) : Int) + 1) ∧ (40 : Int) * (IntKind.i64.wrap (((l_.len : Nat) : Int) + 1)) ≤ 281474976710656 ∧ (∀ b_ w1, b_ = w.heap.size → w1 = w.alloc (Obj.cells (repCells ((IntKind.i64.wrap (((l_.len : Nat) : Int) + 1)).toNat) [Value.string ByteArray.empty, Value.slice none 0 0]) ty_api_Held (0, 0)) → (∃ (I : Slc → Int → World → Prop) (μ : Slc → Int → World → Nat), I (Slc.mk (some ⟨b_, 0, none⟩) 0 ((IntKind.i64.wrap (((l_.len : Nat) : Int) + 1)).toNat)) 0 w1 ∧
  ∀ (t_ : Slc) (i : Int) w, I t_ i w → F_towpathlaw01_TwinHelds_L0 l_ R (fun (t_' : Slc) (i' : Int) w' => I t_' i' w' ∧ μ t_' i' w' < μ t_ i w) t_ i w))

def F_conf_Check_k1 (R : Int → World → Prop) (t19 : Int) (again_ : Int → World → Prop) (t32 : Bool) (w6 : World) : Prop :=
  (t32 = true → (R 7 w6)) ∧
  (t32 = false → (again_ (IntKind.i64.wrap (t19 + 1)) w6))

def F_conf_Check_L0 (R : Int → World → Prop) (b_1 : Nat) (again_ : Int → World → Prop) (t19 : Int) (w3 : World) : Prop :=
  ((decide (t19 < ((4 : Nat) : Int))) = true → (0 ≤ t19 ∧ t19 < (4 : Int) ∧ (∃ (v22 : Arr2_Int), CellsAt w3 b_1 (0 + t19.toNat * 2) [Value.int .i64 v22.e0, Value.int .i64 v22.e1] ∧ (∀ b_2 w4, b_2 = w3.heap.size → w4 = w3.alloc (Obj.cells ([Value.int .i64 0, Value.int .i64 0]).toArray ty_2_int (0, 0)) → (Writable w4 b_2 0 2 ∧ (∀ w5, w5 = World.puts b_2 0 [Value.int .i64 v22.e0, Value.int .i64 v22.e1] w4 → (0 ≤ (0 : Int) ∧ (0 : Int) < (2 : Int) ∧ (∃ (v24 : Int), w5.cell? ⟨b_2, 0, none⟩ = some (Value.int .i64 v24) ∧ (((decide (v24 < 1)) = true → (F_conf_Check_k1 R t19 again_ true w5)) ∧
  ((decide (v24 < 1)) = false → (0 ≤ (0 : Int) ∧ (0 : Int) < (2 : Int) ∧ (∃ (v28 : Int), w5.cell? ⟨b_2, 0, none⟩ = some (Value.int .i64 v28) ∧ (0 ≤ (1 : Int) ∧ (1 : Int) < (2 : Int) ∧ (∃ (v30 : Int), w5.cell? ⟨b_2, 1, none⟩ = some (Value.int .i64 v30) ∧ (F_conf_Check_k1 R t19 again_ (decide (v28 > v30)) w5))))))))))))))) ∧
  ((decide (t19 < ((4 : Nat) : Int))) = false → (R 0 w3))

def F_conf_Check (c : T_api_Config) (R : Int → World → Prop) (w : World) : Prop :=
  ∀ b_ w1, b_ = w.heap.size → w1 = w.alloc (Obj.cells ([Value.int .i64 c.Lanes, Value.int .i64 c.Shards, Value.int .i64 c.Window, Value.int .i64 c.Queue]).toArray ty_api_Config (0, 0)) → (∃ (v6 : Int), w1.cell? ⟨b_, 0, none⟩ = some (Value.int .i64 v6) ∧ (∃ (v9 : Int), w1.cell? ⟨b_, 1, none⟩ = some (Value.int .i64 v9) ∧ (∃ (v12 : Int), w1.cell? ⟨b_, 2, none⟩ = some (Value.int .i64 v12) ∧ (∃ (v15 : Int), w1.cell? ⟨b_, 3, none⟩ = some (Value.int .i64 v15) ∧ (∀ b_1 w2, b_1 = w1.heap.size → w2 = w1.alloc (Obj.cells ([Value.int .i64 v6, Value.int .i64 16, Value.int .i64 v9, Value.int .i64 16, Value.int .i64 v12, Value.int .i64 64, Value.int .i64 v15, Value.int .i64 16]).toArray ty_2_int (0, 0)) → (∃ (I : Int → World → Prop) (μ : Int → World → Nat), I 0 w2 ∧
  ∀ (t19 : Int) w, I t19 w → F_conf_Check_L0 R b_1 (fun (t19' : Int) w' => I t19' w' ∧ μ t19' w' < μ t19 w) t19 w))))))

def F_dump_Check_k4 (R : Int → World → Prop) (b_ : Nat) (t60 : Int) (again_2 : Int → World → Prop) (b_2 : Nat) (t77 : Bool) (w11 : World) : Prop :=
  (t77 = true → (R 1 w11)) ∧
  (t77 = false → (∃ (v80 : Slc), w11.cell? ⟨b_, 1, none⟩ = some (Value.slice v80.ptr v80.len v80.cap) ∧ (∃ (v82 : Int), w11.cell? ⟨b_2, 0, none⟩ = some (Value.int .i64 v82) ∧ (C_slices_BinarySearch_int_int v80 v82 w11 (fun (v83 : Int) (ok : Bool) w12 => ∃ (v87 : Int), w12.cell? ⟨b_2, 0, none⟩ = some (Value.int .i64 v87) ∧ (∃ (v89 : Int), w12.cell? ⟨b_, 0, none⟩ = some (Value.int .i64 v89) ∧ ((((decide (v87 > v89)) && (!ok)) = true → (R 1 w12)) ∧
  (((decide (v87 > v89)) && (!ok)) = false → (again_2 (IntKind.i64.wrap (t60 + 1)) w12)))))))))

def F_dump_Check_L3 (R : Int → World → Prop) (b_ : Nat) (t53 : Int) (again_1 : Int → World → Prop) (v58 : Slc) (again_2 : Int → World → Prop) (t60 : Int) (w8 : World) : Prop :=
  ((decide (t60 < ((v58.len : Nat) : Int))) = true → (IsAt v58.ptr ∧ (0 ≤ t60 ∧ t60 < ((v58.len : Nat) : Int) ∧ (∃ (v64 : T_api_Version), CellsAt w8 (pblk v58.ptr) ((poff v58.ptr) + t60.toNat * 3) [Value.int .i64 v64.Number, Value.string v64.Val, Value.bool v64.Drop] ∧ (∀ b_2 w9, b_2 = w8.heap.size → w9 = w8.alloc (Obj.cells ([Value.int .i64 0, Value.string ByteArray.empty, Value.bool false]).toArray ty_api_Version (0, 0)) → (Writable w9 b_2 0 3 ∧ (∀ w10, w10 = World.puts b_2 0 [Value.int .i64 v64.Number, Value.string v64.Val, Value.bool v64.Drop] w9 → (∃ (v66 : Int), w10.cell? ⟨b_2, 0, none⟩ = some (Value.int .i64 v66) ∧ (∃ (v68 : Int), w10.cell? ⟨b_, 0, none⟩ = some (Value.int .i64 v68) ∧ (((decide (v66 ≤ v68)) = true → (((decide (t60 > 0)) = true → (F_dump_Check_k4 R b_ t60 again_2 b_2 true w10)) ∧
  ((decide (t60 > 0)) = false → (∃ (v75 : Bool), w10.cell? ⟨b_2, 2, none⟩ = some (Value.bool v75) ∧ (F_dump_Check_k4 R b_ t60 again_2 b_2 v75 w10))))) ∧
  ((decide (v66 ≤ v68)) = false → (F_dump_Check_k4 R b_ t60 again_2 b_2 false w10)))))))))))) ∧
  ((decide (t60 < ((v58.len : Nat) : Int))) = false → (again_1 (IntKind.i64.wrap (t53 + 1)) w8))

def F_dump_Check_L2 (R : Int → World → Prop) (b_ : Nat) (v51 : Slc) (again_1 : Int → World → Prop) (t53 : Int) (w5 : World) : Prop :=
  ((decide (t53 < ((v51.len : Nat) : Int))) = true → (IsAt v51.ptr ∧ (0 ≤ t53 ∧ t53 < ((v51.len : Nat) : Int) ∧ (∃ (v56 : T_api_Held), CellsAt w5 (pblk v51.ptr) ((poff v51.ptr) + t53.toNat * 2) [Value.string v56.Key, Value.slice v56.Versions.ptr v56.Versions.len v56.Versions.cap] ∧ (∀ b_1 w6, b_1 = w5.heap.size → w6 = w5.alloc (Obj.cells ([Value.string ByteArray.empty, Value.slice none 0 0]).toArray ty_api_Held (0, 0)) → (Writable w6 b_1 0 2 ∧ (∀ w7, w7 = World.puts b_1 0 [Value.string v56.Key, Value.slice v56.Versions.ptr v56.Versions.len v56.Versions.cap] w6 → (∃ (v58 : Slc), w7.cell? ⟨b_1, 1, none⟩ = some (Value.slice v58.ptr v58.len v58.cap) ∧ (∃ (I : Int → World → Prop) (μ : Int → World → Nat), I 0 w7 ∧
  ∀ (t60 : Int) w, I t60 w → F_dump_Check_L3 R b_ t53 again_1 v58 (fun (t60' : Int) w' => I t60' w' ∧ μ t60' w' < μ t60 w) t60 w))))))))) ∧
  ((decide (t53 < ((v51.len : Nat) : Int))) = false → (R 0 w5))

def F_dump_Check_L1 (R : Int → World → Prop) (b_ : Nat) (v26 : Slc) (again_ : Int → Int → World → Prop) (least : Int) (t28 : Int) (w3 : World) : Prop :=
  ((decide (t28 < ((v26.len : Nat) : Int))) = true → (IsAt v26.ptr ∧ (0 ≤ t28 ∧ t28 < ((v26.len : Nat) : Int) ∧ (∃ (n_ : Int), w3.cell? ⟨(pblk v26.ptr), (poff v26.ptr) + t28.toNat, none⟩ = some (Value.int .i64 n_) ∧ ((((decide (n_ < least)) || (decide (n_ > 65536))) = true → (R 1 w3)) ∧
  (((decide (n_ < least)) || (decide (n_ > 65536))) = false → (again_ (IntKind.i64.wrap (n_ + 1)) (IntKind.i64.wrap (t28 + 1)) w3))))))) ∧
  ((decide (t28 < ((v26.len : Nat) : Int))) = false → (∃ (v44 : Slc), w3.cell? ⟨b_, 2, none⟩ = some (Value.slice v44.ptr v44.len v44.cap) ∧ (C_shard_Load v44 w3 (fun (v45 : Option Addr) (e : Int) w4 => ((e != 0) = true → (R 1 w4)) ∧
  ((e != 0) = false → (∃ (v51 : Slc), w4.cell? ⟨b_, 2, none⟩ = some (Value.slice v51.ptr v51.len v51.cap) ∧ (∃ (I : Int → World → Prop) (μ : Int → World → Nat), I 0 w4 ∧
  ∀ (t53 : Int) w, I t53 w → F_dump_Check_L2 R b_ v51 (fun (t53' : Int) w' => I t53' w' ∧ μ t53' w' < μ t53 w) t53 w)))))))

def F_dump_Check_k0 (R : Int → World → Prop) (b_ : Nat) (t21 : Bool) (w2 : World) : Prop :=
  (t21 = true → (R 1 w2)) ∧
  (t21 = false → (∃ (v23 : Int), w2.cell? ⟨b_, 0, none⟩ = some (Value.int .i64 v23) ∧ (∃ (v26 : Slc), w2.cell? ⟨b_, 1, none⟩ = some (Value.slice v26.ptr v26.len v26.cap) ∧ (∃ (I : Int → Int → World → Prop) (μ : Int → Int → World → Nat), I (IntKind.i64.wrap (v23 + 2)) 0 w2 ∧
  ∀ (least : Int) (t28 : Int) w, I least t28 w → F_dump_Check_L1 R b_ v26 (fun (least' : Int) (t28' : Int) w' => I least' t28' w' ∧ μ least' t28' w' < μ least t28 w) least t28 w))))

def F_dump_Check (s : T_api_Saved) (R : Int → World → Prop) (w : World) : Prop :=
  ∀ b_ w1, b_ = w.heap.size → w1 = w.alloc (Obj.cells ([Value.int .i64 s.Mark, Value.slice s.Beyond.ptr s.Beyond.len s.Beyond.cap, Value.slice s.Held.ptr s.Held.len s.Held.cap]).toArray ty_api_Saved (0, 0)) → (∃ (v15 : Int), w1.cell? ⟨b_, 0, none⟩ = some (Value.int .i64 v15) ∧ (((decide (v15 < 0)) = true → (F_dump_Check_k0 R b_ true w1)) ∧
  ((decide (v15 < 0)) = false → (∃ (v19 : Int), w1.cell? ⟨b_, 0, none⟩ = some (Value.int .i64 v19) ∧ (F_dump_Check_k0 R b_ (decide (v19 > 65536)) w1)))))

def F_conf_Shard (c : T_api_Config) (key : ByteArray) (R : Int → Int → World → Prop) (w : World) : Prop :=
  ∀ b_ w1, b_ = w.heap.size → w1 = w.alloc (Obj.cells ([Value.int .i64 c.Lanes, Value.int .i64 c.Shards, Value.int .i64 c.Window, Value.int .i64 c.Queue]).toArray ty_api_Config (0, 0)) → (∃ (v7 : T_api_Config), CellsAt w1 b_ 0 [Value.int .i64 v7.Lanes, Value.int .i64 v7.Shards, Value.int .i64 v7.Window, Value.int .i64 v7.Queue] ∧ (C_conf_Check v7 w1 (fun (v8 : Int) w2 => ((v8 != 0) = true → (R 0 v8 w2)) ∧
  ((v8 != 0) = false → ((((key.toList == ByteArray.empty.toList) || (decide (((key.size : Nat) : Int) > 64))) = true → (R 0 1 w2)) ∧
  (((key.toList == ByteArray.empty.toList) || (decide (((key.size : Nat) : Int) > 64))) = false → (∃ (v20 : Int), (∀ w', Ext w2 w' → C_sum_Hash key w' (fun (v20' : Int) w'' => v20' = v20 ∧ Ext w' w'')) ∧ (∃ (v22 : Int), w2.cell? ⟨b_, 1, none⟩ = some (Value.int .i64 v22) ∧ ((IntKind.u32.wrap v22) ≠ 0 ∧ (∀ w4, Ext w2 w4 → (R (IntKind.i64.wrap (Int.tmod v20 (IntKind.u32.wrap v22))) 0 w4)))))))))))

def F_slices_Clone_api_Version_api_Version (s : Slc) (R : Slc → World → Prop) (w : World) : Prop :=
  (s.ptr.isNone = true → (R (Slc.mk none 0 0) w)) ∧
  (s.ptr.isNone = false → (∀ b_ w1, b_ = w.heap.size → w1 = w.alloc (Obj.cells ([]).toArray ty_api_Version (0, 0)) → (∃ src, SrcAt w1 s 3 src ∧ AppendW 3 32 ty_api_Version [Value.int .i64 0, Value.string ByteArray.empty, Value.bool false] (Slc.mk (some ⟨b_, 0, none⟩) 0 0) src s.len w1 (fun v7 w2 => R v7 w2))))

def F_towpathref13_Check_k0 (R : Int → World → Prop) (t24 : Bool) (w2 : World) : Prop :=
  (t24 = true → (R 7 w2)) ∧
  (t24 = false → (R 0 w2))

def F_towpathref13_Check (c : T_api_Config) (R : Int → World → Prop) (w : World) : Prop :=
  ∀ b_ w1, b_ = w.heap.size → w1 = w.alloc (Obj.cells ([Value.int .i64 c.Lanes, Value.int .i64 c.Shards, Value.int .i64 c.Window, Value.int .i64 c.Queue]).toArray ty_api_Config (0, 0)) → (∃ (v4 : Int), w1.cell? ⟨b_, 0, none⟩ = some (Value.int .i64 v4) ∧ (C_towpathref13_in v4 16 w1 (fun (v5 : Bool) w3 => ((!v5) = true → (F_towpathref13_Check_k0 R true w3)) ∧
  ((!v5) = false → (∃ (v9 : Int), w3.cell? ⟨b_, 1, none⟩ = some (Value.int .i64 v9) ∧ (C_towpathref13_in v9 16 w3 (fun (v10 : Bool) w4 => ((!v10) = true → (F_towpathref13_Check_k0 R true w4)) ∧
  ((!v10) = false → (∃ (v15 : Int), w4.cell? ⟨b_, 2, none⟩ = some (Value.int .i64 v15) ∧ (C_towpathref13_in v15 64 w4 (fun (v16 : Bool) w5 => ((!v16) = true → (F_towpathref13_Check_k0 R true w5)) ∧
  ((!v16) = false → (∃ (v21 : Int), w5.cell? ⟨b_, 3, none⟩ = some (Value.int .i64 v21) ∧ (C_towpathref13_in v21 16 w5 (fun (v22 : Bool) w6 => F_towpathref13_Check_k0 R (!v22) w6)))))))))))))))

def F_towpathref18_Check_k3 (k_ : Int) (again_1 : Int → World → Prop) (w5 : World) : Prop :=
  again_1 (IntKind.i64.wrap (k_ + 1)) w5

def F_towpathref18_Check_k4 (R : Int → World → Prop) (k_ : Int) (again_1 : Int → World → Prop) (t53 : Bool) (w7 : World) : Prop :=
  (t53 = true → (R 1 w7)) ∧
  (t53 = false → (F_towpathref18_Check_k3 k_ again_1 w7))

def F_towpathref18_Check_L2 (R : Int → World → Prop) (b_ : Nat) (i : Int) (again_ : Int → World → Prop) (v : Slc) (again_1 : Int → World → Prop) (k_ : Int) (w4 : World) : Prop :=
  ((decide (k_ < ((v.len : Nat) : Int))) = true → (IsAt v.ptr ∧ (0 ≤ k_ ∧ k_ < ((v.len : Nat) : Int) ∧ (∃ (v41 : Int), w4.cell? ⟨(pblk v.ptr), (poff v.ptr) + k_.toNat * 3, none⟩ = some (Value.int .i64 v41) ∧ (∃ (v43 : Int), w4.cell? ⟨b_, 0, none⟩ = some (Value.int .i64 v43) ∧ (∀ w6, Ext w4 w6 → (((decide (v41 ≤ v43)) = true → (((decide (k_ > 0)) = true → (F_towpathref18_Check_k4 R k_ again_1 true w6)) ∧
  ((decide (k_ > 0)) = false → (IsAt v.ptr ∧ (0 ≤ k_ ∧ k_ < ((v.len : Nat) : Int) ∧ (∃ (v52 : Bool), w6.cell? ⟨(pblk v.ptr), ((poff v.ptr) + k_.toNat * 3) + 2, none⟩ = some (Value.bool v52) ∧ (F_towpathref18_Check_k4 R k_ again_1 v52 w6))))))) ∧
  ((decide (v41 ≤ v43)) = false → (∀ w8, (∃ k, w8 = w6.drewN k) → (∃ (v55 : Slc), w8.cell? ⟨b_, 1, none⟩ = some (Value.slice v55.ptr v55.len v55.cap) ∧ (IsAt v.ptr ∧ (0 ≤ k_ ∧ k_ < ((v.len : Nat) : Int) ∧ (∃ (v60 : Int), w8.cell? ⟨(pblk v.ptr), (poff v.ptr) + k_.toNat * 3, none⟩ = some (Value.int .i64 v60) ∧ (C_towpathref18_among v55 v60 w8 (fun (v61 : Bool) w9 => (((!v61) = true → (R 1 w9)) ∧
  ((!v61) = false → (F_towpathref18_Check_k3 k_ again_1 w9)))))))))))))))))) ∧
  ((decide (k_ < ((v.len : Nat) : Int))) = false → (again_ (IntKind.i64.wrap (i + 1)) w4))

def F_towpathref18_Check_L1 (R : Int → World → Prop) (b_ : Nat) (again_ : Int → World → Prop) (i : Int) (w3 : World) : Prop :=
  ∃ (v20 : Slc), w3.cell? ⟨b_, 2, none⟩ = some (Value.slice v20.ptr v20.len v20.cap) ∧ (((decide (i < ((v20.len : Nat) : Int))) = true → (∃ (v26 : Slc), w3.cell? ⟨b_, 2, none⟩ = some (Value.slice v26.ptr v26.len v26.cap) ∧ (IsAt v26.ptr ∧ (0 ≤ i ∧ i < ((v26.len : Nat) : Int) ∧ (∃ (v : Slc), w3.cell? ⟨(pblk v26.ptr), ((poff v26.ptr) + i.toNat * 2) + 1, none⟩ = some (Value.slice v.ptr v.len v.cap) ∧ (∃ (I : Int → World → Prop) (μ : Int → World → Nat), I 0 w3 ∧
  ∀ (k_ : Int) w, I k_ w → F_towpathref18_Check_L2 R b_ i again_ v (fun (k_' : Int) w' => I k_' w' ∧ μ k_' w' < μ k_ w) k_ w)))))) ∧
  ((decide (i < ((v20.len : Nat) : Int))) = false → (R 0 w3)))

def F_towpathref18_Check_k0 (R : Int → World → Prop) (b_ : Nat) (t17 : Bool) (w2 : World) : Prop :=
  (t17 = true → (R 1 w2)) ∧
  (t17 = false → (∃ (I : Int → World → Prop) (μ : Int → World → Nat), I 0 w2 ∧
  ∀ (i : Int) w, I i w → F_towpathref18_Check_L1 R b_ (fun (i' : Int) w' => I i' w' ∧ μ i' w' < μ i w) i w))

def F_towpathref18_Check (s : T_api_Saved) (R : Int → World → Prop) (w : World) : Prop :=
  ∀ b_ w1, b_ = w.heap.size → w1 = w.alloc (Obj.cells ([Value.int .i64 s.Mark, Value.slice s.Beyond.ptr s.Beyond.len s.Beyond.cap, Value.slice s.Held.ptr s.Held.len s.Held.cap]).toArray ty_api_Saved (0, 0)) → (∃ (v7 : Int), w1.cell? ⟨b_, 0, none⟩ = some (Value.int .i64 v7) ∧ (∃ (v9 : Slc), w1.cell? ⟨b_, 1, none⟩ = some (Value.slice v9.ptr v9.len v9.cap) ∧ (C_towpathref12_May v7 v9 w1 (fun (v10 : Bool) w10 => ((!v10) = true → (F_towpathref18_Check_k0 R b_ true w10)) ∧
  ((!v10) = false → (∃ (v14 : Slc), w10.cell? ⟨b_, 2, none⟩ = some (Value.slice v14.ptr v14.len v14.cap) ∧ (C_towpathref09_May v14 w10 (fun (v15 : Bool) w11 => F_towpathref18_Check_k0 R b_ (!v15) w11))))))))

def F_towpathref13_Shard (c : T_api_Config) (key : ByteArray) (R : Int → Int → World → Prop) (w : World) : Prop :=
  ∀ b_ w1, b_ = w.heap.size → w1 = w.alloc (Obj.cells ([Value.int .i64 c.Lanes, Value.int .i64 c.Shards, Value.int .i64 c.Window, Value.int .i64 c.Queue]).toArray ty_api_Config (0, 0)) → (∃ (v7 : T_api_Config), CellsAt w1 b_ 0 [Value.int .i64 v7.Lanes, Value.int .i64 v7.Shards, Value.int .i64 v7.Window, Value.int .i64 v7.Queue] ∧ (C_towpathref13_Check v7 w1 (fun (v8 : Int) w2 => ((v8 != 0) = true → (R 0 v8 w2)) ∧
  ((v8 != 0) = false → (C_towpathref05_Key key w2 (fun (v13 : Bool) w3 => ((!v13) = true → (R 0 1 w3)) ∧
  ((!v13) = false → (∃ (v16 : Int), (∀ w', Ext w3 w' → C_towpathref03_Hash key w' (fun (v16' : Int) w'' => v16' = v16 ∧ Ext w' w'')) ∧ (∃ (v18 : Int), w3.cell? ⟨b_, 1, none⟩ = some (Value.int .i64 v18) ∧ ((IntKind.u32.wrap v18) ≠ 0 ∧ (∀ w5, Ext w3 w5 → (R (IntKind.i64.wrap (Int.tmod v16 (IntKind.u32.wrap v18))) 0 w5))))))))))))

def F_towpathref09_Own_L0 (l_ : Slc) (R : Slc → World → Prop) (again_ : Slc → Int → World → Prop) (out : Slc) (i : Int) (w1 : World) : Prop :=
  ((decide (i < ((l_.len : Nat) : Int))) = true → (IsAt l_.ptr ∧ (0 ≤ i ∧ i < ((l_.len : Nat) : Int) ∧ (∃ (v17 : Slc), w1.cell? ⟨(pblk l_.ptr), ((poff l_.ptr) + i.toNat * 2) + 1, none⟩ = some (Value.slice v17.ptr v17.len v17.cap) ∧ (∃ src, SrcAt w1 v17 3 src ∧ AppendW 3 32 ty_api_Version [Value.int .i64 0, Value.string ByteArray.empty, Value.bool false] (Slc.mk none 0 0) src v17.len w1 (fun v w2 => IsAt l_.ptr ∧ (0 ≤ i ∧ i < ((l_.len : Nat) : Int) ∧ (∃ (v24 : ByteArray), w2.cell? ⟨(pblk l_.ptr), (poff l_.ptr) + i.toNat * 2, none⟩ = some (Value.string v24) ∧ (∀ b_ w3, b_ = w2.heap.size → w3 = w2.alloc (Obj.cells ([Value.string v24, Value.slice v.ptr v.len v.cap]).toArray ty_api_Held (0, 0)) → (∃ src, SrcAt w3 (Slc.mk (some ⟨b_, 0, none⟩) 1 1) 2 src ∧ AppendW 2 40 ty_api_Held [Value.string ByteArray.empty, Value.slice none 0 0] out src 1 w3 (fun out1 w4 => again_ out1 (IntKind.i64.wrap (i + 1)) w4))))))))))) ∧
  ((decide (i < ((l_.len : Nat) : Int))) = false → (R out w1))

def F_towpathref09_Own (l_ : Slc) (R : Slc → World → Prop) (w : World) : Prop :=
  ∃ (I : Slc → Int → World → Prop) (μ : Slc → Int → World → Nat), I (Slc.mk none 0 0) 0 w ∧
  ∀ (out : Slc) (i : Int) w, I out i w → F_towpathref09_Own_L0 l_ R (fun (out' : Slc) (i' : Int) w' => I out' i' w' ∧ μ out' i' w' < μ out i w) out i w

def F_towpathlaw01_SameHelds_L0 (a_ : Slc) (b_ : Slc) (R : Bool → World → Prop) (again_ : Int → World → Prop) (i : Int) (w1 : World) : Prop :=
  ((decide (i < ((a_.len : Nat) : Int))) = true → (IsAt a_.ptr ∧ (0 ≤ i ∧ i < ((a_.len : Nat) : Int) ∧ (∃ (v20 : T_api_Held), CellsAt w1 (pblk a_.ptr) ((poff a_.ptr) + i.toNat * 2) [Value.string v20.Key, Value.slice v20.Versions.ptr v20.Versions.len v20.Versions.cap] ∧ (IsAt b_.ptr ∧ (0 ≤ i ∧ i < ((b_.len : Nat) : Int) ∧ (∃ (v24 : T_api_Held), CellsAt w1 (pblk b_.ptr) ((poff b_.ptr) + i.toNat * 2) [Value.string v24.Key, Value.slice v24.Versions.ptr v24.Versions.len v24.Versions.cap] ∧ (∃ (v25 : Bool), (∀ w', Ext w1 w' → C_towpathlaw01_SameHeld v20 v24 w' (fun (v25' : Bool) w'' => v25' = v25 ∧ Ext w' w'')) ∧ (∀ w3, Ext w1 w3 → (((!v25) = true → (R false w3)) ∧
  ((!v25) = false → (again_ (IntKind.i64.wrap (i + 1)) w3)))))))))))) ∧
  ((decide (i < ((a_.len : Nat) : Int))) = false → (R true w1))

def F_towpathlaw01_SameHelds (a_ : Slc) (b_ : Slc) (R : Bool → World → Prop) (w : World) : Prop :=
  ((((a_.len : Nat) : Int) != ((b_.len : Nat) : Int)) = true → (R false w)) ∧
  ((((a_.len : Nat) : Int) != ((b_.len : Nat) : Int)) = false → (∃ (I : Int → World → Prop) (μ : Int → World → Nat), I 0 w ∧
  ∀ (i : Int) w, I i w → F_towpathlaw01_SameHelds_L0 a_ b_ R (fun (i' : Int) w' => I i' w' ∧ μ i' w' < μ i w) i w))

def F_towpathlaw01_LeftInts_L0 (t_ : Slc) (l_ : Slc) (R : Bool → World → Prop) (again_ : Int → World → Prop) (i : Int) (w1 : World) : Prop :=
  ((decide (i < ((l_.len : Nat) : Int))) = true → (IsAt t_.ptr ∧ (0 ≤ i ∧ i < ((t_.len : Nat) : Int) ∧ (∃ (v28 : Int), w1.cell? ⟨(pblk t_.ptr), (poff t_.ptr) + i.toNat, none⟩ = some (Value.int .i64 v28) ∧ (IsAt l_.ptr ∧ (0 ≤ i ∧ i < ((l_.len : Nat) : Int) ∧ (∃ (v32 : Int), w1.cell? ⟨(pblk l_.ptr), (poff l_.ptr) + i.toNat, none⟩ = some (Value.int .i64 v32) ∧ (∀ w2, Ext w1 w2 → (((v28 != v32) = true → (R false w2)) ∧
  ((v28 != v32) = false → (again_ (IntKind.i64.wrap (i + 1)) w2))))))))))) ∧
  ((decide (i < ((l_.len : Nat) : Int))) = false → (0 ≤ IntKind.i64.wrap (((l_.len : Nat) : Int) + 1) ∧ IntKind.i64.wrap (((l_.len : Nat) : Int) + 1) ≤ ((t_.cap : Nat) : Int) ∧ (IsAt t_.ptr ∧ (0 ≤ ((l_.len : Nat) : Int) ∧ ((l_.len : Nat) : Int) < (((IntKind.i64.wrap (((l_.len : Nat) : Int) + 1)).toNat : Nat) : Int) ∧ (∃ (x : Int), w1.cell? ⟨(pblk t_.ptr), (poff t_.ptr) + ((l_.len : Nat) : Int).toNat, none⟩ = some (Value.int .i64 x) ∧ (R (x == 7777) w1))))))

def F_towpathlaw01_LeftInts (t_ : Slc) (l_ : Slc) (R : Bool → World → Prop) (w : World) : Prop :=
  (((((t_.len : Nat) : Int) != ((l_.len : Nat) : Int)) || (decide (((t_.cap : Nat) : Int) ≤ ((l_.len : Nat) : Int)))) = true → (R false w)) ∧
  (((((t_.len : Nat) : Int) != ((l_.len : Nat) : Int)) || (decide (((t_.cap : Nat) : Int) ≤ ((l_.len : Nat) : Int)))) = false → (∃ (I : Int → World → Prop) (μ : Int → World → Nat), I 0 w ∧
  ∀ (i : Int) w, I i w → F_towpathlaw01_LeftInts_L0 t_ l_ R (fun (i' : Int) w' => I i' w' ∧ μ i' w' < μ i w) i w))

def F_towpathlaw01_LeftHelds_L0 (t_ : Slc) (l_ : Slc) (R : Bool → World → Prop) (again_ : Int → World → Prop) (i : Int) (w1 : World) : Prop :=
  ((decide (i < ((l_.len : Nat) : Int))) = true → (IsAt t_.ptr ∧ (0 ≤ i ∧ i < ((t_.len : Nat) : Int) ∧ (∃ (v28 : T_api_Held), CellsAt w1 (pblk t_.ptr) ((poff t_.ptr) + i.toNat * 2) [Value.string v28.Key, Value.slice v28.Versions.ptr v28.Versions.len v28.Versions.cap] ∧ (IsAt l_.ptr ∧ (0 ≤ i ∧ i < ((l_.len : Nat) : Int) ∧ (∃ (v32 : T_api_Held), CellsAt w1 (pblk l_.ptr) ((poff l_.ptr) + i.toNat * 2) [Value.string v32.Key, Value.slice v32.Versions.ptr v32.Versions.len v32.Versions.cap] ∧ (∃ (v33 : Bool), (∀ w', Ext w1 w' → C_towpathlaw01_LeftHeld v28 v32 w' (fun (v33' : Bool) w'' => v33' = v33 ∧ Ext w' w'')) ∧ (∀ w3, Ext w1 w3 → (((!v33) = true → (R false w3)) ∧
  ((!v33) = false → (again_ (IntKind.i64.wrap (i + 1)) w3)))))))))))) ∧
  ((decide (i < ((l_.len : Nat) : Int))) = false → (0 ≤ IntKind.i64.wrap (((l_.len : Nat) : Int) + 1) ∧ IntKind.i64.wrap (((l_.len : Nat) : Int) + 1) ≤ ((t_.cap : Nat) : Int) ∧ (IsAt t_.ptr ∧ (0 ≤ ((l_.len : Nat) : Int) ∧ ((l_.len : Nat) : Int) < (((IntKind.i64.wrap (((l_.len : Nat) : Int) + 1)).toNat : Nat) : Int) ∧ (∃ (v43 : T_api_Held), CellsAt w1 (pblk t_.ptr) ((poff t_.ptr) + ((l_.len : Nat) : Int).toNat * 2) [Value.string v43.Key, Value.slice v43.Versions.ptr v43.Versions.len v43.Versions.cap] ∧ (∀ b_ w4, b_ = w1.heap.size → w4 = w1.alloc (Obj.cells ([Value.string ByteArray.empty, Value.slice none 0 0]).toArray ty_api_Held (0, 0)) → (Writable w4 b_ 0 2 ∧ (∀ w5, w5 = World.puts b_ 0 [Value.string v43.Key, Value.slice v43.Versions.ptr v43.Versions.len v43.Versions.cap] w4 → (∃ (v45 : ByteArray), w5.cell? ⟨b_, 0, none⟩ = some (Value.string v45) ∧ (R (v45.toList == (ByteArray.mk #[115, 112, 97, 114, 101]).toList) w5))))))))))

def F_towpathlaw01_LeftHelds (t_ : Slc) (l_ : Slc) (R : Bool → World → Prop) (w : World) : Prop :=
  (((((t_.len : Nat) : Int) != ((l_.len : Nat) : Int)) || (decide (((t_.cap : Nat) : Int) ≤ ((l_.len : Nat) : Int)))) = true → (R false w)) ∧
  (((((t_.len : Nat) : Int) != ((l_.len : Nat) : Int)) || (decide (((t_.cap : Nat) : Int) ≤ ((l_.len : Nat) : Int)))) = false → (∃ (I : Int → World → Prop) (μ : Int → World → Nat), I 0 w ∧
  ∀ (i : Int) w, I i w → F_towpathlaw01_LeftHelds_L0 t_ l_ R (fun (i' : Int) w' => I i' w' ∧ μ i' w' < μ i w) i w))

def F_towpathlaw01_Book_Helds_L0 (b_ : Option Addr) (l_ : Slc) (R : World → Prop) (again_ : Int → World → Prop) (i : Int) (w1 : World) : Prop :=
  ((decide (i < ((l_.len : Nat) : Int))) = true → (IsAt l_.ptr ∧ (0 ≤ i ∧ i < ((l_.len : Nat) : Int) ∧ (∃ (v16 : Slc), w1.cell? ⟨(pblk l_.ptr), ((poff l_.ptr) + i.toNat * 2) + 1, none⟩ = some (Value.slice v16.ptr v16.len v16.cap) ∧ (C_towpathlaw01_Book_Versions b_ v16 w1 (fun w2 => again_ (IntKind.i64.wrap (i + 1)) w2)))))) ∧
  ((decide (i < ((l_.len : Nat) : Int))) = false → (C_towpathlaw01_Book_keepHeld b_ l_ w1 (fun w3 => R w3)))

def F_towpathlaw01_Book_Helds (b_ : Option Addr) (l_ : Slc) (R : World → Prop) (w : World) : Prop :=
  ∃ (I : Int → World → Prop) (μ : Int → World → Nat), I 0 w ∧
  ∀ (i : Int) w, I i w → F_towpathlaw01_Book_Helds_L0 b_ l_ R (fun (i' : Int) w' => I i' w' ∧ μ i' w' < μ i w) i w

def F_towpathlaw01_Book_keepHeldList (b_ : Option Addr) (l_ : Slc) (R : World → Prop) (w : World) : Prop :=
  IsAt b_ ∧ (∃ (v7 : Int), w.cell? ⟨(pblk b_), (poff b_), none⟩ = some (Value.int .i64 v7) ∧ (Writable w (pblk b_) (poff b_) 1 ∧ (∀ w1, w1 = World.puts (pblk b_) (poff b_) [Value.int .i64 (IntKind.i64.wrap (v7 + 1))] w → (∀ w2, (∃ k, w2 = w1.drewN k) → (IsAt b_ ∧ (∃ (v15 : Slc), w2.cell? ⟨(pblk b_), (poff b_) + 9, none⟩ = some (Value.slice v15.ptr v15.len v15.cap) ∧ (IsAt b_ ∧ (∃ (v20 : Int), w2.cell? ⟨(pblk b_), (poff b_), none⟩ = some (Value.int .i64 v20) ∧ (∀ b_1 w3, b_1 = w2.heap.size → w3 = w2.alloc (Obj.cells ([Value.slice l_.ptr l_.len l_.cap, Value.slice none 0 0, Value.int .i64 v20]).toArray ty_towpathlaw01_heldHeldList (0, 0)) → (w3.cell? ⟨(pblk b_), (poff b_) + 9, none⟩ = some (Value.slice v15.ptr v15.len v15.cap) ∧ (∃ src, SrcAt w3 (Slc.mk (some ⟨b_1, 0, none⟩) 1 1) 3 src ∧ AppendW 3 56 ty_towpathlaw01_heldHeldList [Value.slice none 0 0, Value.slice none 0 0, Value.int .i64 0] v15 src 1 w3 (fun v23 w4 => (IsAt b_ ∧ (Writable w4 (pblk b_) ((poff b_) + 9) 1 ∧ (∀ w5, w5 = World.puts (pblk b_) ((poff b_) + 9) [Value.slice v23.ptr v23.len v23.cap] w4 → ((R w5)))))))))))))))))

def F_towpathlaw01_markInt (n_ : Int) (R : Int → World → Prop) (w : World) : Prop :=
  R (IntKind.i64.wrap ((-1000) - n_)) w

def F_towpathlaw01_markVersion (n_ : Int) (R : T_api_Version → World → Prop) (w : World) : Prop :=
  ∀ b_ w1, b_ = w.heap.size → w1 = w.alloc (Obj.cells ([Value.int .i64 0, Value.string ByteArray.empty, Value.bool false]).toArray ty_api_Version (0, 0)) → (Writable w1 b_ 0 3 ∧ (∀ w2, w2 = World.puts b_ 0 [Value.int .i64 (IntKind.i64.wrap ((-1000) - n_)), Value.string ByteArray.empty, Value.bool false] w1 → (∃ (res : T_api_Version), CellsAt w2 b_ 0 [Value.int .i64 res.Number, Value.string res.Val, Value.bool res.Drop] ∧ (R res w2))))

def F_towpathlaw01_markHeld (n_ : Int) (R : T_api_Held → World → Prop) (w : World) : Prop :=
  ∀ b_ w1, b_ = w.heap.size → w1 = w.alloc (Obj.cells ([Value.string ByteArray.empty, Value.slice none 0 0]).toArray ty_api_Held (0, 0)) → (C_towpathlaw01_word n_ w1 (fun (v4 : ByteArray) w2 => Writable w2 b_ 0 2 ∧ (∀ w3, w3 = World.puts b_ 0 [Value.string v4, Value.slice none 0 0] w2 → (∃ (res : T_api_Held), CellsAt w3 b_ 0 [Value.string res.Key, Value.slice res.Versions.ptr res.Versions.len res.Versions.cap] ∧ (R res w3)))))

def F_towpathlaw01_markHeldList (n_ : Int) (R : Slc → World → Prop) (w : World) : Prop :=
  C_towpathlaw01_word n_ w (fun (v4 : ByteArray) w1 => ∀ b_ w2, b_ = w1.heap.size → w2 = w1.alloc (Obj.cells ([Value.string v4, Value.slice none 0 0]).toArray ty_api_Held (0, 0)) → (R (Slc.mk (some ⟨b_, 0, none⟩) 1 1) w2))

def F_towpathlaw01_isInt (x : Int) (n_ : Int) (R : Bool → World → Prop) (w : World) : Prop :=
  R (x == (IntKind.i64.wrap ((-1000) - n_))) w

def F_towpathlaw01_isVersion (x : T_api_Version) (n_ : Int) (R : Bool → World → Prop) (w : World) : Prop :=
  ∀ b_ w1, b_ = w.heap.size → w1 = w.alloc (Obj.cells ([Value.int .i64 x.Number, Value.string x.Val, Value.bool x.Drop]).toArray ty_api_Version (0, 0)) → (∃ (v5 : T_api_Version), CellsAt w1 b_ 0 [Value.int .i64 v5.Number, Value.string v5.Val, Value.bool v5.Drop] ∧ (R (((v5.Number == (IntKind.i64.wrap ((-1000) - n_))) && (v5.Val == ByteArray.empty)) && (v5.Drop == false)) w1))

def F_towpathlaw01_isHeld (x : T_api_Held) (n_ : Int) (R : Bool → World → Prop) (w : World) : Prop :=
  ∀ b_ w1, b_ = w.heap.size → w1 = w.alloc (Obj.cells ([Value.string x.Key, Value.slice x.Versions.ptr x.Versions.len x.Versions.cap]).toArray ty_api_Held (0, 0)) → (∀ w2, (∃ k, w2 = w1.drewN k) → (∃ (v6 : ByteArray), w2.cell? ⟨b_, 0, none⟩ = some (Value.string v6) ∧ (C_towpathlaw01_word n_ w2 (fun (v8 : ByteArray) w3 => w3.cell? ⟨b_, 0, none⟩ = some (Value.string v6) ∧ (((v6.toList == v8.toList) = true → (∃ (v12 : Slc), w3.cell? ⟨b_, 1, none⟩ = some (Value.slice v12.ptr v12.len v12.cap) ∧ (R (((v12.len : Nat) : Int) == 0) w3))) ∧
  ((v6.toList == v8.toList) = false → (R false w3)))))))

def F_towpathlaw01_isHeldList (x : Slc) (n_ : Int) (R : Bool → World → Prop) (w : World) : Prop :=
  ∀ w1, (∃ k, w1 = w.drewN k) → (((((x.len : Nat) : Int) == 1) = true → (IsAt x.ptr ∧ (0 ≤ (0 : Int) ∧ (0 : Int) < ((x.len : Nat) : Int) ∧ (∃ (v12 : ByteArray), w1.cell? ⟨(pblk x.ptr), (poff x.ptr), none⟩ = some (Value.string v12) ∧ (C_towpathlaw01_word n_ w1 (fun (v14 : ByteArray) w2 => w2.cell? ⟨(pblk x.ptr), (poff x.ptr), none⟩ = some (Value.string v12) ∧ (R (v12.toList == v14.toList) w2))))))) ∧
  ((((x.len : Nat) : Int) == 1) = false → (R false w1)))

def F_towpathlaw01_VersionsSize_L0 (l_ : Slc) (R : Int → World → Prop) (again_ : Int → Int → World → Prop) (n_ : Int) (i : Int) (w1 : World) : Prop :=
  (((decide (i < ((l_.len : Nat) : Int))) && (decide (n_ ≤ 1048576))) = true → (IsAt l_.ptr ∧ (0 ≤ i ∧ i < ((l_.len : Nat) : Int) ∧ (∃ (v22 : ByteArray), w1.cell? ⟨(pblk l_.ptr), ((poff l_.ptr) + i.toNat * 3) + 1, none⟩ = some (Value.string v22) ∧ (again_ (IntKind.i64.wrap (n_ + ((v22.size : Nat) : Int))) (IntKind.i64.wrap (i + 1)) w1))))) ∧
  (((decide (i < ((l_.len : Nat) : Int))) && (decide (n_ ≤ 1048576))) = false → (R n_ w1))

def F_towpathlaw01_VersionsSize (l_ : Slc) (R : Int → World → Prop) (w : World) : Prop :=
  ∃ (I : Int → Int → World → Prop) (μ : Int → Int → World → Nat), I ((l_.len : Nat) : Int) 0 w ∧
  ∀ (n_ : Int) (i : Int) w, I n_ i w → F_towpathlaw01_VersionsSize_L0 l_ R (fun (n_' : Int) (i' : Int) w' => I n_' i' w' ∧ μ n_' i' w' < μ n_ i w) n_ i w

def F_towpathlaw01_TwinHeld (x : T_api_Held) (R : T_api_Held → World → Prop) (w : World) : Prop :=
  ∀ b_ w1, b_ = w.heap.size → w1 = w.alloc (Obj.cells ([Value.string x.Key, Value.slice x.Versions.ptr x.Versions.len x.Versions.cap]).toArray ty_api_Held (0, 0)) → (∀ b_1 w2, b_1 = w1.heap.size → w2 = w1.alloc (Obj.cells ([Value.string ByteArray.empty, Value.slice none 0 0]).toArray ty_api_Held (0, 0)) → (∀ w3, (∃ k, w3 = w2.drewN k) → (∃ (v4 : ByteArray), w3.cell? ⟨b_, 0, none⟩ = some (Value.string v4) ∧ (∃ (v6 : Slc), w3.cell? ⟨b_, 1, none⟩ = some (Value.slice v6.ptr v6.len v6.cap) ∧ (C_towpathlaw01_TwinVersions v6 w3 (fun (v7 : Slc) w4 => w4.cell? ⟨b_, 0, none⟩ = some (Value.string v4) ∧ (Writable w4 b_1 0 2 ∧ (∀ w5, w5 = World.puts b_1 0 [Value.string v4, Value.slice v7.ptr v7.len v7.cap] w4 → ((∃ (res : T_api_Held), CellsAt w5 b_1 0 [Value.string res.Key, Value.slice res.Versions.ptr res.Versions.len res.Versions.cap] ∧ (R res w5)))))))))))

def F_shard_Load_k1 (R : Option Addr → Int → World → Prop) (v7 : Option Addr) (t10 : Int) (again_ : Int → World → Prop) (b_ : Nat) (t45 : Bool) (w5 : World) : Prop :=
  (t45 = true → (R none 1 w5)) ∧
  (t45 = false → (∀ w6, (∃ k, w6 = w5.drewN k) → (IsAt v7 ∧ (∃ (v50 : Option Nat), w6.cell? ⟨(pblk v7), (poff v7), none⟩ = some (Value.map v50) ∧ (∃ (v52 : ByteArray), w6.cell? ⟨b_, 0, none⟩ = some (Value.string v52) ∧ (∃ (v54 : Slc), w6.cell? ⟨b_, 1, none⟩ = some (Value.slice v54.ptr v54.len v54.cap) ∧ (C_slices_Clone_api_Version_api_Version v54 w6 (fun (v55 : Slc) w7 => w7.cell? ⟨b_, 0, none⟩ = some (Value.string v52) ∧ w7.cell? ⟨(pblk v7), (poff v7), none⟩ = some (Value.map v50) ∧ (∃ (r : Nat) (es : Array MapEntry) (c : Nat), v50 = some r ∧ w7.heap[r]? = some (.map es c) ∧ (MapStr es ∧ (¬ mapHasS es v52 ∧ (∀ w8, w8 = { w7 with heap := w7.heap.setIfInBounds r (.map (es.push ⟨.string v52, Value.slice v55.ptr v55.len v55.cap, c⟩) (c + 1)) } → ((again_ (IntKind.i64.wrap (t10 + 1)) w8))))))))))))))

def F_shard_Load_L0 (l_ : Slc) (R : Option Addr → Int → World → Prop) (v7 : Option Addr) (again_ : Int → World → Prop) (t10 : Int) (w2 : World) : Prop :=
  ((decide (t10 < ((l_.len : Nat) : Int))) = true → (IsAt l_.ptr ∧ (0 ≤ t10 ∧ t10 < ((l_.len : Nat) : Int) ∧ (∃ (v14 : T_api_Held), CellsAt w2 (pblk l_.ptr) ((poff l_.ptr) + t10.toNat * 2) [Value.string v14.Key, Value.slice v14.Versions.ptr v14.Versions.len v14.Versions.cap] ∧ (∀ b_ w3, b_ = w2.heap.size → w3 = w2.alloc (Obj.cells ([Value.string ByteArray.empty, Value.slice none 0 0]).toArray ty_api_Held (0, 0)) → (Writable w3 b_ 0 2 ∧ (∀ w4, w4 = World.puts b_ 0 [Value.string v14.Key, Value.slice v14.Versions.ptr v14.Versions.len v14.Versions.cap] w3 → (∀ w9, (∃ k, w9 = w4.drewN k) → (∃ (v16 : ByteArray), w9.cell? ⟨b_, 0, none⟩ = some (Value.string v16) ∧ (C_shard_may v16 w9 (fun (v17 : Bool) w10 => (((!v17) = true → (F_shard_Load_k1 R v7 t10 again_ b_ true w10)) ∧
  ((!v17) = false → (((decide (t10 > 0)) = true → (IsAt l_.ptr ∧ (0 ≤ IntKind.i64.wrap (t10 - 1) ∧ IntKind.i64.wrap (t10 - 1) < ((l_.len : Nat) : Int) ∧ (∃ (v28 : ByteArray), w10.cell? ⟨(pblk l_.ptr), (poff l_.ptr) + (IntKind.i64.wrap (t10 - 1)).toNat * 2, none⟩ = some (Value.string v28) ∧ (∃ (v30 : ByteArray), w10.cell? ⟨b_, 0, none⟩ = some (Value.string v30) ∧ (((!(Op.bytesLess v28.toList v30.toList)) = true → (F_shard_Load_k1 R v7 t10 again_ b_ true w10)) ∧
  ((!(Op.bytesLess v28.toList v30.toList)) = false → (∃ (v36 : Slc), w10.cell? ⟨b_, 1, none⟩ = some (Value.slice v36.ptr v36.len v36.cap) ∧ (((((v36.len : Nat) : Int) == 0) = true → (F_shard_Load_k1 R v7 t10 again_ b_ true w10)) ∧
  ((((v36.len : Nat) : Int) == 0) = false → (∃ (v42 : Slc), w10.cell? ⟨b_, 1, none⟩ = some (Value.slice v42.ptr v42.len v42.cap) ∧ (C_chain_Check v42 w10 (fun (v43 : Int) w11 => (F_shard_Load_k1 R v7 t10 again_ b_ (v43 != 0) w11)))))))))))))) ∧
  ((decide (t10 > 0)) = false → (∃ (v361 : Slc), w10.cell? ⟨b_, 1, none⟩ = some (Value.slice v361.ptr v361.len v361.cap) ∧ (((((v361.len : Nat) : Int) == 0) = true → (F_shard_Load_k1 R v7 t10 again_ b_ true w10)) ∧
  ((((v361.len : Nat) : Int) == 0) = false → (∃ (v421 : Slc), w10.cell? ⟨b_, 1, none⟩ = some (Value.slice v421.ptr v421.len v421.cap) ∧ (C_chain_Check v421 w10 (fun (v431 : Int) w12 => (F_shard_Load_k1 R v7 t10 again_ b_ (v431 != 0) w12)))))))))))))))))))))) ∧
  ((decide (t10 < ((l_.len : Nat) : Int))) = false → (R v7 0 w2))

def F_shard_Load (l_ : Slc) (R : Option Addr → Int → World → Prop) (w : World) : Prop :=
  C_shard_New w (fun (v7 : Option Addr) w1 => ∃ (I : Int → World → Prop) (μ : Int → World → Nat), I 0 w1 ∧
  ∀ (t10 : Int) w, I t10 w → F_shard_Load_L0 l_ R v7 (fun (t10' : Int) w' => I t10' w' ∧ μ t10' w' < μ t10 w) t10 w)

def F_slices_BinarySearch_int_int_L0 (x : Slc) (target : Int) (R : Int → Bool → World → Prop) (again_ : Int → Int → World → Prop) (i : Int) (j : Int) (w1 : World) : Prop :=
  ((decide (i < j)) = true → (IsAt x.ptr ∧ (0 ≤ IntKind.i64.wrap (Int.fdiv (IntKind.u64.wrap (IntKind.i64.wrap (i + j))) (2 ^ 1)) ∧ IntKind.i64.wrap (Int.fdiv (IntKind.u64.wrap (IntKind.i64.wrap (i + j))) (2 ^ 1)) < ((x.len : Nat) : Int) ∧ (∃ (v25 : Int), w1.cell? ⟨(pblk x.ptr), (poff x.ptr) + (IntKind.i64.wrap (Int.fdiv (IntKind.u64.wrap (IntKind.i64.wrap (i + j))) (2 ^ 1))).toNat, none⟩ = some (Value.int .i64 v25) ∧ (C_cmp_Less_int v25 target w1 (fun (v27 : Bool) w2 => (v27 = true → (again_ (IntKind.i64.wrap ((IntKind.i64.wrap (Int.fdiv (IntKind.u64.wrap (IntKind.i64.wrap (i + j))) (2 ^ 1))) + 1)) j w2)) ∧
  (v27 = false → (again_ i (IntKind.i64.wrap (Int.fdiv (IntKind.u64.wrap (IntKind.i64.wrap (i + j))) (2 ^ 1))) w2)))))))) ∧
  ((decide (i < j)) = false → (((decide (i < ((x.len : Nat) : Int))) = true → (IsAt x.ptr ∧ (0 ≤ i ∧ i < ((x.len : Nat) : Int) ∧ (∃ (v39 : Int), w1.cell? ⟨(pblk x.ptr), (poff x.ptr) + i.toNat, none⟩ = some (Value.int .i64 v39) ∧ (((v39 == target) = true → (R i true w1)) ∧
  ((v39 == target) = false → (IsAt x.ptr ∧ (0 ≤ i ∧ i < ((x.len : Nat) : Int) ∧ (∃ (v46 : Int), w1.cell? ⟨(pblk x.ptr), (poff x.ptr) + i.toNat, none⟩ = some (Value.int .i64 v46) ∧ (C_slices_isNaN_int v46 w1 (fun (v47 : Bool) w3 => (v47 = true → (C_slices_isNaN_int target w3 (fun (v50 : Bool) w4 => R i v50 w4))) ∧
  (v47 = false → (R i false w3))))))))))))) ∧
  ((decide (i < ((x.len : Nat) : Int))) = false → (R i false w1))))

def F_slices_BinarySearch_int_int (x : Slc) (target : Int) (R : Int → Bool → World → Prop) (w : World) : Prop :=
  ∃ (I : Int → Int → World → Prop) (μ : Int → Int → World → Nat), I 0 ((x.len : Nat) : Int) w ∧
  ∀ (i : Int) (j : Int) w, I i j w → F_slices_BinarySearch_int_int_L0 x target R (fun (i' : Int) (j' : Int) w' => I i' j' w' ∧ μ i' j' w' < μ i j w) i j w

def F_sum_Hash_L0 (key : ByteArray) (R : Int → World → Prop) (again_ : Int → Int → World → Prop) (h_ : Int) (t7 : Int) (w1 : World) : Prop :=
  ((decide (t7 < ((key.size : Nat) : Int))) = true → (0 ≤ t7 ∧ t7 < ((key.size : Nat) : Int) ∧ (again_ (IntKind.u32.wrap ((bxor .u32 h_ (IntKind.u32.wrap (byteAt key t7))) * 16777619)) (IntKind.i64.wrap (t7 + 1)) w1))) ∧
  ((decide (t7 < ((key.size : Nat) : Int))) = false → (R h_ w1))

def F_sum_Hash (key : ByteArray) (R : Int → World → Prop) (w : World) : Prop :=
  ∃ (I : Int → Int → World → Prop) (μ : Int → Int → World → Nat), I 2166136261 0 w ∧
  ∀ (h_ : Int) (t7 : Int) w, I h_ t7 w → F_sum_Hash_L0 key R (fun (h_' : Int) (t7' : Int) w' => I h_' t7' w' ∧ μ h_' t7' w' < μ h_ t7 w) h_ t7 w

def F_towpathref13_in (n_ : Int) (most : Int) (R : Bool → World → Prop) (w : World) : Prop :=
  R ((decide (n_ ≥ 1)) && (decide (n_ ≤ most))) w

def F_towpathref12_May_k1 (R : Bool → World → Prop) (i : Int) (again_ : Int → World → Prop) (t47 : Bool) (w2 : World) : Prop :=
  (t47 = true → (R false w2)) ∧
  (t47 = false → (again_ (IntKind.i64.wrap (i + 1)) w2))

def F_towpathref12_May_L0 (mark : Int) (beyond : Slc) (R : Bool → World → Prop) (again_ : Int → World → Prop) (i : Int) (w1 : World) : Prop :=
  ((decide (i < ((beyond.len : Nat) : Int))) = true → (IsAt beyond.ptr ∧ (0 ≤ i ∧ i < ((beyond.len : Nat) : Int) ∧ (∃ (v21 : Int), w1.cell? ⟨(pblk beyond.ptr), (poff beyond.ptr) + i.toNat, none⟩ = some (Value.int .i64 v21) ∧ (((decide (v21 < (IntKind.i64.wrap (mark + 2)))) = true → (∀ w3, Ext w1 w3 → (F_towpathref12_May_k1 R i again_ true w3))) ∧
  ((decide (v21 < (IntKind.i64.wrap (mark + 2)))) = false → (IsAt beyond.ptr ∧ (0 ≤ i ∧ i < ((beyond.len : Nat) : Int) ∧ (∃ (v29 : Int), w1.cell? ⟨(pblk beyond.ptr), (poff beyond.ptr) + i.toNat, none⟩ = some (Value.int .i64 v29) ∧ (((decide (v29 > 65536)) = true → (∀ w4, Ext w1 w4 → (F_towpathref12_May_k1 R i again_ true w4))) ∧
  ((decide (v29 > 65536)) = false → (((decide (i > 0)) = true → (IsAt beyond.ptr ∧ (0 ≤ IntKind.i64.wrap (i - 1) ∧ IntKind.i64.wrap (i - 1) < ((beyond.len : Nat) : Int) ∧ (∃ (v40 : Int), w1.cell? ⟨(pblk beyond.ptr), (poff beyond.ptr) + (IntKind.i64.wrap (i - 1)).toNat, none⟩ = some (Value.int .i64 v40) ∧ (IsAt beyond.ptr ∧ (0 ≤ i ∧ i < ((beyond.len : Nat) : Int) ∧ (∃ (v44 : Int), w1.cell? ⟨(pblk beyond.ptr), (poff beyond.ptr) + i.toNat, none⟩ = some (Value.int .i64 v44) ∧ (∀ w5, Ext w1 w5 → (F_towpathref12_May_k1 R i again_ (decide (v40 ≥ v44)) w5))))))))) ∧
  ((decide (i > 0)) = false → (∀ w6, Ext w1 w6 → (F_towpathref12_May_k1 R i again_ false w6))))))))))))))) ∧
  ((decide (i < ((beyond.len : Nat) : Int))) = false → (R true w1))

def F_towpathref12_May (mark : Int) (beyond : Slc) (R : Bool → World → Prop) (w : World) : Prop :=
  (((decide (mark < 0)) || (decide (mark > 65536))) = true → (R false w)) ∧
  (((decide (mark < 0)) || (decide (mark > 65536))) = false → (∃ (I : Int → World → Prop) (μ : Int → World → Nat), I 0 w ∧
  ∀ (i : Int) w, I i w → F_towpathref12_May_L0 mark beyond R (fun (i' : Int) w' => I i' w' ∧ μ i' w' < μ i w) i w))

def F_towpathref09_May_k1 (R : Bool → World → Prop) (i : Int) (again_ : Int → World → Prop) (t52 : Bool) (w2 : World) : Prop :=
  (t52 = true → (R false w2)) ∧
  (t52 = false → (again_ (IntKind.i64.wrap (i + 1)) w2))

def F_towpathref09_May_L0 (l_ : Slc) (R : Bool → World → Prop) (again_ : Int → World → Prop) (i : Int) (w1 : World) : Prop :=
  ((decide (i < ((l_.len : Nat) : Int))) = true → (∀ w3, (∃ k, w3 = w1.drewN k) → (IsAt l_.ptr ∧ (0 ≤ i ∧ i < ((l_.len : Nat) : Int) ∧ (∃ (v14 : ByteArray), w3.cell? ⟨(pblk l_.ptr), (poff l_.ptr) + i.toNat * 2, none⟩ = some (Value.string v14) ∧ (C_towpathref05_Key v14 w3 (fun (v15 : Bool) w4 => (((!v15) = true → (F_towpathref09_May_k1 R i again_ true w4)) ∧
  ((!v15) = false → (((decide (i > 0)) = true → (IsAt l_.ptr ∧ (0 ≤ IntKind.i64.wrap (i - 1) ∧ IntKind.i64.wrap (i - 1) < ((l_.len : Nat) : Int) ∧ (∃ (v26 : ByteArray), w4.cell? ⟨(pblk l_.ptr), (poff l_.ptr) + (IntKind.i64.wrap (i - 1)).toNat * 2, none⟩ = some (Value.string v26) ∧ (IsAt l_.ptr ∧ (0 ≤ i ∧ i < ((l_.len : Nat) : Int) ∧ (∃ (v31 : ByteArray), w4.cell? ⟨(pblk l_.ptr), (poff l_.ptr) + i.toNat * 2, none⟩ = some (Value.string v31) ∧ (((!(Op.bytesLess v26.toList v31.toList)) = true → (F_towpathref09_May_k1 R i again_ true w4)) ∧
  ((!(Op.bytesLess v26.toList v31.toList)) = false → (IsAt l_.ptr ∧ (0 ≤ i ∧ i < ((l_.len : Nat) : Int) ∧ (∃ (v40 : Slc), w4.cell? ⟨(pblk l_.ptr), ((poff l_.ptr) + i.toNat * 2) + 1, none⟩ = some (Value.slice v40.ptr v40.len v40.cap) ∧ (((((v40.len : Nat) : Int) == 0) = true → (F_towpathref09_May_k1 R i again_ true w4)) ∧
  ((((v40.len : Nat) : Int) == 0) = false → (IsAt l_.ptr ∧ (0 ≤ i ∧ i < ((l_.len : Nat) : Int) ∧ (∃ (v49 : Slc), w4.cell? ⟨(pblk l_.ptr), ((poff l_.ptr) + i.toNat * 2) + 1, none⟩ = some (Value.slice v49.ptr v49.len v49.cap) ∧ (C_towpathref08_Check v49 w4 (fun (v50 : Int) w5 => (F_towpathref09_May_k1 R i again_ (v50 != 0) w5)))))))))))))))))))) ∧
  ((decide (i > 0)) = false → (IsAt l_.ptr ∧ (0 ≤ i ∧ i < ((l_.len : Nat) : Int) ∧ (∃ (v401 : Slc), w4.cell? ⟨(pblk l_.ptr), ((poff l_.ptr) + i.toNat * 2) + 1, none⟩ = some (Value.slice v401.ptr v401.len v401.cap) ∧ (((((v401.len : Nat) : Int) == 0) = true → (F_towpathref09_May_k1 R i again_ true w4)) ∧
  ((((v401.len : Nat) : Int) == 0) = false → (IsAt l_.ptr ∧ (0 ≤ i ∧ i < ((l_.len : Nat) : Int) ∧ (∃ (v491 : Slc), w4.cell? ⟨(pblk l_.ptr), ((poff l_.ptr) + i.toNat * 2) + 1, none⟩ = some (Value.slice v491.ptr v491.len v491.cap) ∧ (C_towpathref08_Check v491 w4 (fun (v501 : Int) w6 => (F_towpathref09_May_k1 R i again_ (v501 != 0) w6)))))))))))))))))))))) ∧
  ((decide (i < ((l_.len : Nat) : Int))) = false → (R true w1))

def F_towpathref09_May (l_ : Slc) (R : Bool → World → Prop) (w : World) : Prop :=
  ∃ (I : Int → World → Prop) (μ : Int → World → Nat), I 0 w ∧
  ∀ (i : Int) w, I i w → F_towpathref09_May_L0 l_ R (fun (i' : Int) w' => I i' w' ∧ μ i' w' < μ i w) i w

def F_towpathref18_among_L0 (l_ : Slc) (n_ : Int) (R : Bool → World → Prop) (again_ : Int → World → Prop) (i : Int) (w1 : World) : Prop :=
  ((decide (i < ((l_.len : Nat) : Int))) = true → (IsAt l_.ptr ∧ (0 ≤ i ∧ i < ((l_.len : Nat) : Int) ∧ (∃ (v15 : Int), w1.cell? ⟨(pblk l_.ptr), (poff l_.ptr) + i.toNat, none⟩ = some (Value.int .i64 v15) ∧ (((v15 == n_) = true → (R true w1)) ∧
  ((v15 == n_) = false → (again_ (IntKind.i64.wrap (i + 1)) w1))))))) ∧
  ((decide (i < ((l_.len : Nat) : Int))) = false → (R false w1))

def F_towpathref18_among (l_ : Slc) (n_ : Int) (R : Bool → World → Prop) (w : World) : Prop :=
  ∃ (I : Int → World → Prop) (μ : Int → World → Nat), I 0 w ∧
  ∀ (i : Int) w, I i w → F_towpathref18_among_L0 l_ n_ R (fun (i' : Int) w' => I i' w' ∧ μ i' w' < μ i w) i w

def F_towpathref05_Key (s : ByteArray) (R : Bool → World → Prop) (w : World) : Prop :=
  R ((decide (((s.size : Nat) : Int) ≥ 1)) && (decide (((s.size : Nat) : Int) ≤ 64))) w

def F_towpathref03_Hash_L0 (key : ByteArray) (R : Int → World → Prop) (again_ : Int → Int → World → Prop) (h_ : Int) (i : Int) (w1 : World) : Prop :=
  ((decide (i < ((key.size : Nat) : Int))) = true → (0 ≤ i ∧ i < ((key.size : Nat) : Int) ∧ (again_ (IntKind.u32.wrap ((bxor .u32 h_ (IntKind.u32.wrap (byteAt key i))) * 16777619)) (IntKind.i64.wrap (i + 1)) w1))) ∧
  ((decide (i < ((key.size : Nat) : Int))) = false → (R h_ w1))

def F_towpathref03_Hash (key : ByteArray) (R : Int → World → Prop) (w : World) : Prop :=
  ∃ (I : Int → Int → World → Prop) (μ : Int → Int → World → Nat), I 2166136261 0 w ∧
  ∀ (h_ : Int) (i : Int) w, I h_ i w → F_towpathref03_Hash_L0 key R (fun (h_' : Int) (i' : Int) w' => I h_' i' w' ∧ μ h_' i' w' < μ h_ i w) h_ i w

def F_towpathlaw01_SameHeld (a_ : T_api_Held) (b_ : T_api_Held) (R : Bool → World → Prop) (w : World) : Prop :=
  ∀ b_1 w1, b_1 = w.heap.size → w1 = w.alloc (Obj.cells ([Value.string a_.Key, Value.slice a_.Versions.ptr a_.Versions.len a_.Versions.cap]).toArray ty_api_Held (0, 0)) → (∀ b_2 w2, b_2 = w1.heap.size → w2 = w1.alloc (Obj.cells ([Value.string b_.Key, Value.slice b_.Versions.ptr b_.Versions.len b_.Versions.cap]).toArray ty_api_Held (0, 0)) → (∃ (v6 : ByteArray), w2.cell? ⟨b_1, 0, none⟩ = some (Value.string v6) ∧ (∃ (v8 : ByteArray), w2.cell? ⟨b_2, 0, none⟩ = some (Value.string v8) ∧ (((v6.toList == v8.toList) = true → (∃ (v12 : Slc), w2.cell? ⟨b_1, 1, none⟩ = some (Value.slice v12.ptr v12.len v12.cap) ∧ (∃ (v14 : Slc), w2.cell? ⟨b_2, 1, none⟩ = some (Value.slice v14.ptr v14.len v14.cap) ∧ (C_towpathlaw01_SameVersions v12 v14 w2 (fun (v15 : Bool) w3 => R v15 w3))))) ∧
  ((v6.toList == v8.toList) = false → (R false w2))))))

def F_towpathlaw01_LeftHeld (t_ : T_api_Held) (x : T_api_Held) (R : Bool → World → Prop) (w : World) : Prop :=
  ∀ b_ w1, b_ = w.heap.size → w1 = w.alloc (Obj.cells ([Value.string t_.Key, Value.slice t_.Versions.ptr t_.Versions.len t_.Versions.cap]).toArray ty_api_Held (0, 0)) → (∀ b_1 w2, b_1 = w1.heap.size → w2 = w1.alloc (Obj.cells ([Value.string x.Key, Value.slice x.Versions.ptr x.Versions.len x.Versions.cap]).toArray ty_api_Held (0, 0)) → (∃ (v6 : ByteArray), w2.cell? ⟨b_, 0, none⟩ = some (Value.string v6) ∧ (∃ (v8 : ByteArray), w2.cell? ⟨b_1, 0, none⟩ = some (Value.string v8) ∧ (((v6.toList == v8.toList) = true → (∃ (v12 : Slc), w2.cell? ⟨b_, 1, none⟩ = some (Value.slice v12.ptr v12.len v12.cap) ∧ (∃ (v14 : Slc), w2.cell? ⟨b_1, 1, none⟩ = some (Value.slice v14.ptr v14.len v14.cap) ∧ (C_towpathlaw01_LeftVersions v12 v14 w2 (fun (v15 : Bool) w3 => R v15 w3))))) ∧
  ((v6.toList == v8.toList) = false → (R false w2))))))

def F_towpathlaw01_Book_Versions (b_ : Option Addr) (l_ : Slc) (R : World → Prop) (w : World) : Prop :=
  C_towpathlaw01_Book_keepVersion b_ l_ w (fun w1 => R w1)

def F_towpathlaw01_Book_keepHeld (b_ : Option Addr) (l_ : Slc) (R : World → Prop) (w : World) : Prop :=
  IsAt b_ ∧ (∃ (v7 : Int), w.cell? ⟨(pblk b_), (poff b_), none⟩ = some (Value.int .i64 v7) ∧ (Writable w (pblk b_) (poff b_) 1 ∧ (∀ w1, w1 = World.puts (pblk b_) (poff b_) [Value.int .i64 (IntKind.i64.wrap (v7 + 1))] w → (∀ w2, (∃ k, w2 = w1.drewN k) → (IsAt b_ ∧ (∃ (v15 : Slc), w2.cell? ⟨(pblk b_), (poff b_) + 8, none⟩ = some (Value.slice v15.ptr v15.len v15.cap) ∧ (IsAt b_ ∧ (∃ (v20 : Int), w2.cell? ⟨(pblk b_), (poff b_), none⟩ = some (Value.int .i64 v20) ∧ (∀ b_1 w3, b_1 = w2.heap.size → w3 = w2.alloc (Obj.cells ([Value.slice l_.ptr l_.len l_.cap, Value.slice none 0 0, Value.int .i64 v20]).toArray ty_towpathlaw01_heldHeld (0, 0)) → (w3.cell? ⟨(pblk b_), (poff b_) + 8, none⟩ = some (Value.slice v15.ptr v15.len v15.cap) ∧ (∃ src, SrcAt w3 (Slc.mk (some ⟨b_1, 0, none⟩) 1 1) 3 src ∧ AppendW 3 56 ty_towpathlaw01_heldHeld [Value.slice none 0 0, Value.slice none 0 0, Value.int .i64 0] v15 src 1 w3 (fun v23 w4 => (IsAt b_ ∧ (Writable w4 (pblk b_) ((poff b_) + 8) 1 ∧ (∀ w5, w5 = World.puts (pblk b_) ((poff b_) + 8) [Value.slice v23.ptr v23.len v23.cap] w4 → ((R w5)))))))))))))))))

def F_towpathlaw01_word (n_ : Int) (R : ByteArray → World → Prop) (w : World) : Prop :=
  C_strconv_Itoa n_ w (fun (v4 : ByteArray) w1 => (((ByteArray.mk #[35]).size + v4.size : Nat) : Int) ≤ 9223372036854775807 ∧ (R ((ByteArray.mk #[35]) ++ v4) w1))

def F_towpathlaw01_TwinVersions_L0 (l_ : Slc) (R : Slc → World → Prop) (again_ : Slc → Int → World → Prop) (t_ : Slc) (i : Int) (w2 : World) : Prop :=
  ((decide (i < ((l_.len : Nat) : Int))) = true → (IsAt l_.ptr ∧ (0 ≤ i ∧ i < ((l_.len : Nat) : Int) ∧ (∃ (v19 : T_api_Version), CellsAt w2 (pblk l_.ptr) ((poff l_.ptr) + i.toNat * 3) [Value.int .i64 v19.Number, Value.string v19.Val, Value.bool v19.Drop] ∧ (∀ b_1 w3, b_1 = w2.heap.size → w3 = w2.alloc (Obj.cells ([Value.int .i64 v19.Number, Value.string v19.Val, Value.bool v19.Drop]).toArray ty_api_Version (0, 0)) → (∃ src, SrcAt w3 (Slc.mk (some ⟨b_1, 0, none⟩) 1 1) 3 src ∧ AppendW 3 32 ty_api_Version [Value.int .i64 0, Value.string ByteArray.empty, Value.bool false] t_ src 1 w3 (fun t_1 w4 => again_ t_1 (IntKind.i64.wrap (i + 1)) w4))))))) ∧
  ((decide (i < ((l_.len : Nat) : Int))) = false → (∀ b_2 w5, b_2 = w2.heap.size → w5 = w2.alloc (Obj.cells ([Value.int .i64 7777, Value.string ByteArray.empty, Value.bool false]).toArray ty_api_Version (0, 0)) → (∃ src, SrcAt w5 (Slc.mk (some ⟨b_2, 0, none⟩) 1 1) 3 src ∧ AppendW 3 32 ty_api_Version [Value.int .i64 0, Value.string ByteArray.empty, Value.bool false] t_ src 1 w5 (fun v25 w6 => 0 ≤ ((l_.len : Nat) : Int) ∧ ((l_.len : Nat) : Int) ≤ ((v25.cap : Nat) : Int) ∧ (R (Slc.mk v25.ptr (((l_.len : Nat) : Int).toNat) v25.cap) w6)))))

def F_towpathlaw01_TwinVersions (l_ : Slc) (R : Slc → World → Prop) (w : World) : Prop :=
  0 ≤ (0 : Int) ∧ (0 : Int) ≤ IntKind.i64.wrap (((l_.len : Nat) : Int) + 1) ∧ (32 : Int) * (IntKind.i64.wrap (((l_.len : Nat) : Int) + 1)) ≤ 281474976710656 ∧ (∀ b_ w1, b_ = w.heap.size → w1 = w.alloc (Obj.cells (repCells ((IntKind.i64.wrap (((l_.len : Nat) : Int) + 1)).toNat) [Value.int .i64 0, Value.string ByteArray.empty, Value.bool false]) ty_api_Version (0, 0)) → (∃ (I : Slc → Int → World → Prop) (μ : Slc → Int → World → Nat), I (Slc.mk (some ⟨b_, 0, none⟩) 0 ((IntKind.i64.wrap (((l_.len : Nat) : Int) + 1)).toNat)) 0 w1 ∧
  ∀ (t_ : Slc) (i : Int) w, I t_ i w → F_towpathlaw01_TwinVersions_L0 l_ R (fun (t_' : Slc) (i' : Int) w' => I t_' i' w' ∧ μ t_' i' w' < μ t_ i w) t_ i w))

def F_shard_New (R : Option Addr → World → Prop) (w : World) : Prop :=
  ∀ b_ w1, b_ = w.heap.size → w1 = w.alloc (Obj.map #[] 0) → (∀ b_1 w2, b_1 = w1.heap.size → w2 = w1.alloc (Obj.cells ([Value.map (some b_)]).toArray ty_shard_Shard (0, 0)) → (R (some ⟨b_1, 0, none⟩) w2))

def F_shard_may (key : ByteArray) (R : Bool → World → Prop) (w : World) : Prop :=
  R ((!(key.toList == ByteArray.empty.toList)) && (decide (((key.size : Nat) : Int) ≤ 64))) w

def F_chain_Check_k1 (R : Int → World → Prop) (t7 : Int) (again_ : Int → World → Prop) (t49 : Bool) (w4 : World) : Prop :=
  (t49 = true → (R 1 w4)) ∧
  (t49 = false → (again_ (IntKind.i64.wrap (t7 + 1)) w4))

def F_chain_Check_L0 (l_ : Slc) (R : Int → World → Prop) (again_ : Int → World → Prop) (t7 : Int) (w1 : World) : Prop :=
  ((decide (t7 < ((l_.len : Nat) : Int))) = true → (IsAt l_.ptr ∧ (0 ≤ t7 ∧ t7 < ((l_.len : Nat) : Int) ∧ (∃ (v11 : T_api_Version), CellsAt w1 (pblk l_.ptr) ((poff l_.ptr) + t7.toNat * 3) [Value.int .i64 v11.Number, Value.string v11.Val, Value.bool v11.Drop] ∧ (∀ b_ w2, b_ = w1.heap.size → w2 = w1.alloc (Obj.cells ([Value.int .i64 0, Value.string ByteArray.empty, Value.bool false]).toArray ty_api_Version (0, 0)) → (Writable w2 b_ 0 3 ∧ (∀ w3, w3 = World.puts b_ 0 [Value.int .i64 v11.Number, Value.string v11.Val, Value.bool v11.Drop] w2 → (∃ (v13 : Int), w3.cell? ⟨b_, 0, none⟩ = some (Value.int .i64 v13) ∧ (((decide (v13 < 1)) = true → (∀ w5, Ext w3 w5 → (F_chain_Check_k1 R t7 again_ true w5))) ∧
  ((decide (v13 < 1)) = false → (∃ (v17 : Int), w3.cell? ⟨b_, 0, none⟩ = some (Value.int .i64 v17) ∧ (((decide (v17 > 65536)) = true → (∀ w6, Ext w3 w6 → (F_chain_Check_k1 R t7 again_ true w6))) ∧
  ((decide (v17 > 65536)) = false → (∃ (v22 : ByteArray), w3.cell? ⟨b_, 1, none⟩ = some (Value.string v22) ∧ (((decide (((v22.size : Nat) : Int) > 1024)) = true → (∀ w7, Ext w3 w7 → (F_chain_Check_k1 R t7 again_ true w7))) ∧
  ((decide (((v22.size : Nat) : Int) > 1024)) = false → (∃ (v28 : Bool), w3.cell? ⟨b_, 2, none⟩ = some (Value.bool v28) ∧ ((v28 = true → (∃ (v31 : ByteArray), w3.cell? ⟨b_, 1, none⟩ = some (Value.string v31) ∧ (((!(v31.toList == ByteArray.empty.toList)) = true → (∀ w8, Ext w3 w8 → (F_chain_Check_k1 R t7 again_ true w8))) ∧
  ((!(v31.toList == ByteArray.empty.toList)) = false → (((decide (t7 > 0)) = true → (IsAt l_.ptr ∧ (0 ≤ IntKind.i64.wrap (t7 - 1) ∧ IntKind.i64.wrap (t7 - 1) < ((l_.len : Nat) : Int) ∧ (∃ (v44 : Int), w3.cell? ⟨(pblk l_.ptr), (poff l_.ptr) + (IntKind.i64.wrap (t7 - 1)).toNat * 3, none⟩ = some (Value.int .i64 v44) ∧ (∃ (v46 : Int), w3.cell? ⟨b_, 0, none⟩ = some (Value.int .i64 v46) ∧ (∀ w9, Ext w3 w9 → (F_chain_Check_k1 R t7 again_ (decide (v44 ≥ v46)) w9))))))) ∧
  ((decide (t7 > 0)) = false → (∀ w10, Ext w3 w10 → (F_chain_Check_k1 R t7 again_ false w10)))))))) ∧
  (v28 = false → (((decide (t7 > 0)) = true → (IsAt l_.ptr ∧ (0 ≤ IntKind.i64.wrap (t7 - 1) ∧ IntKind.i64.wrap (t7 - 1) < ((l_.len : Nat) : Int) ∧ (∃ (v441 : Int), w3.cell? ⟨(pblk l_.ptr), (poff l_.ptr) + (IntKind.i64.wrap (t7 - 1)).toNat * 3, none⟩ = some (Value.int .i64 v441) ∧ (∃ (v461 : Int), w3.cell? ⟨b_, 0, none⟩ = some (Value.int .i64 v461) ∧ (∀ w11, Ext w3 w11 → (F_chain_Check_k1 R t7 again_ (decide (v441 ≥ v461)) w11))))))) ∧
  ((decide (t7 > 0)) = false → (∀ w12, Ext w3 w12 → (F_chain_Check_k1 R t7 again_ false w12))))))))))))))))))))))) ∧
  ((decide (t7 < ((l_.len : Nat) : Int))) = false → (R 0 w1))

def F_chain_Check (l_ : Slc) (R : Int → World → Prop) (w : World) : Prop :=
  ∃ (I : Int → World → Prop) (μ : Int → World → Nat), I 0 w ∧
  ∀ (t7 : Int) w, I t7 w → F_chain_Check_L0 l_ R (fun (t7' : Int) w' => I t7' w' ∧ μ t7' w' < μ t7 w) t7 w

def F_cmp_Less_int (x : Int) (y : Int) (R : Bool → World → Prop) (w : World) : Prop :=
  C_cmp_isNaN_int x w (fun (v6 : Bool) w1 => (v6 = true → (C_cmp_isNaN_int y w1 (fun (v9 : Bool) w2 => R ((!v9) || (decide (x < y))) w2))) ∧
  (v6 = false → (R (decide (x < y)) w1)))

def F_slices_isNaN_int (x : Int) (R : Bool → World → Prop) (w : World) : Prop :=
  R (x != x) w

def F_towpathref08_Check_k1 (R : Int → World → Prop) (i : Int) (again_ : Int → World → Prop) (t33 : Bool) (w2 : World) : Prop :=
  (t33 = true → (R 1 w2)) ∧
  (t33 = false → (again_ (IntKind.i64.wrap (i + 1)) w2))

def F_towpathref08_Check_L0 (l_ : Slc) (R : Int → World → Prop) (again_ : Int → World → Prop) (i : Int) (w1 : World) : Prop :=
  ((decide (i < ((l_.len : Nat) : Int))) = true → (∀ w3, (∃ k, w3 = w1.drewN k) → (IsAt l_.ptr ∧ (0 ≤ i ∧ i < ((l_.len : Nat) : Int) ∧ (∃ (v13 : T_api_Version), CellsAt w3 (pblk l_.ptr) ((poff l_.ptr) + i.toNat * 3) [Value.int .i64 v13.Number, Value.string v13.Val, Value.bool v13.Drop] ∧ (C_towpathref08_May v13 w3 (fun (v14 : Bool) w4 => (((!v14) = true → (F_towpathref08_Check_k1 R i again_ true w4)) ∧
  ((!v14) = false → (((decide (i > 0)) = true → (IsAt l_.ptr ∧ (0 ≤ IntKind.i64.wrap (i - 1) ∧ IntKind.i64.wrap (i - 1) < ((l_.len : Nat) : Int) ∧ (∃ (v25 : Int), w4.cell? ⟨(pblk l_.ptr), (poff l_.ptr) + (IntKind.i64.wrap (i - 1)).toNat * 3, none⟩ = some (Value.int .i64 v25) ∧ (IsAt l_.ptr ∧ (0 ≤ i ∧ i < ((l_.len : Nat) : Int) ∧ (∃ (v30 : Int), w4.cell? ⟨(pblk l_.ptr), (poff l_.ptr) + i.toNat * 3, none⟩ = some (Value.int .i64 v30) ∧ (F_towpathref08_Check_k1 R i again_ (decide (v25 ≥ v30)) w4)))))))) ∧
  ((decide (i > 0)) = false → (F_towpathref08_Check_k1 R i again_ false w4)))))))))))) ∧
  ((decide (i < ((l_.len : Nat) : Int))) = false → (R 0 w1))

def F_towpathref08_Check (l_ : Slc) (R : Int → World → Prop) (w : World) : Prop :=
  ∃ (I : Int → World → Prop) (μ : Int → World → Nat), I 0 w ∧
  ∀ (i : Int) w, I i w → F_towpathref08_Check_L0 l_ R (fun (i' : Int) w' => I i' w' ∧ μ i' w' < μ i w) i w

def F_towpathlaw01_SameVersions_L0 (a_ : Slc) (b_ : Slc) (R : Bool → World → Prop) (again_ : Int → World → Prop) (i : Int) (w1 : World) : Prop :=
  ((decide (i < ((a_.len : Nat) : Int))) = true → (IsAt a_.ptr ∧ (0 ≤ i ∧ i < ((a_.len : Nat) : Int) ∧ (∃ (v20 : T_api_Version), CellsAt w1 (pblk a_.ptr) ((poff a_.ptr) + i.toNat * 3) [Value.int .i64 v20.Number, Value.string v20.Val, Value.bool v20.Drop] ∧ (IsAt b_.ptr ∧ (0 ≤ i ∧ i < ((b_.len : Nat) : Int) ∧ (∃ (v24 : T_api_Version), CellsAt w1 (pblk b_.ptr) ((poff b_.ptr) + i.toNat * 3) [Value.int .i64 v24.Number, Value.string v24.Val, Value.bool v24.Drop] ∧ (∀ w2, Ext w1 w2 → (((!(((v20.Number == v24.Number) && (v20.Val == v24.Val)) && (v20.Drop == v24.Drop))) = true → (R false w2)) ∧
  ((!(((v20.Number == v24.Number) && (v20.Val == v24.Val)) && (v20.Drop == v24.Drop))) = false → (again_ (IntKind.i64.wrap (i + 1)) w2))))))))))) ∧
  ((decide (i < ((a_.len : Nat) : Int))) = false → (R true w1))

def F_towpathlaw01_SameVersions (a_ : Slc) (b_ : Slc) (R : Bool → World → Prop) (w : World) : Prop :=
  ((((a_.len : Nat) : Int) != ((b_.len : Nat) : Int)) = true → (R false w)) ∧
  ((((a_.len : Nat) : Int) != ((b_.len : Nat) : Int)) = false → (∃ (I : Int → World → Prop) (μ : Int → World → Nat), I 0 w ∧
  ∀ (i : Int) w, I i w → F_towpathlaw01_SameVersions_L0 a_ b_ R (fun (i' : Int) w' => I i' w' ∧ μ i' w' < μ i w) i w))

def F_towpathlaw01_LeftVersions_L0 (t_ : Slc) (l_ : Slc) (R : Bool → World → Prop) (again_ : Int → World → Prop) (i : Int) (w1 : World) : Prop :=
  ((decide (i < ((l_.len : Nat) : Int))) = true → (IsAt t_.ptr ∧ (0 ≤ i ∧ i < ((t_.len : Nat) : Int) ∧ (∃ (v28 : T_api_Version), CellsAt w1 (pblk t_.ptr) ((poff t_.ptr) + i.toNat * 3) [Value.int .i64 v28.Number, Value.string v28.Val, Value.bool v28.Drop] ∧ (IsAt l_.ptr ∧ (0 ≤ i ∧ i < ((l_.len : Nat) : Int) ∧ (∃ (v32 : T_api_Version), CellsAt w1 (pblk l_.ptr) ((poff l_.ptr) + i.toNat * 3) [Value.int .i64 v32.Number, Value.string v32.Val, Value.bool v32.Drop] ∧ (∀ w2, Ext w1 w2 → (((!(((v28.Number == v32.Number) && (v28.Val == v32.Val)) && (v28.Drop == v32.Drop))) = true → (R false w2)) ∧
  ((!(((v28.Number == v32.Number) && (v28.Val == v32.Val)) && (v28.Drop == v32.Drop))) = false → (again_ (IntKind.i64.wrap (i + 1)) w2))))))))))) ∧
  ((decide (i < ((l_.len : Nat) : Int))) = false → (0 ≤ IntKind.i64.wrap (((l_.len : Nat) : Int) + 1) ∧ IntKind.i64.wrap (((l_.len : Nat) : Int) + 1) ≤ ((t_.cap : Nat) : Int) ∧ (IsAt t_.ptr ∧ (0 ≤ ((l_.len : Nat) : Int) ∧ ((l_.len : Nat) : Int) < (((IntKind.i64.wrap (((l_.len : Nat) : Int) + 1)).toNat : Nat) : Int) ∧ (∃ (v42 : T_api_Version), CellsAt w1 (pblk t_.ptr) ((poff t_.ptr) + ((l_.len : Nat) : Int).toNat * 3) [Value.int .i64 v42.Number, Value.string v42.Val, Value.bool v42.Drop] ∧ (∀ b_ w3, b_ = w1.heap.size → w3 = w1.alloc (Obj.cells ([Value.int .i64 0, Value.string ByteArray.empty, Value.bool false]).toArray ty_api_Version (0, 0)) → (Writable w3 b_ 0 3 ∧ (∀ w4, w4 = World.puts b_ 0 [Value.int .i64 v42.Number, Value.string v42.Val, Value.bool v42.Drop] w3 → (∃ (v43 : T_api_Version), CellsAt w4 b_ 0 [Value.int .i64 v43.Number, Value.string v43.Val, Value.bool v43.Drop] ∧ (R (((v43.Number == 7777) && (v43.Val == ByteArray.empty)) && (v43.Drop == false)) w4))))))))))

def F_towpathlaw01_LeftVersions (t_ : Slc) (l_ : Slc) (R : Bool → World → Prop) (w : World) : Prop :=
  (((((t_.len : Nat) : Int) != ((l_.len : Nat) : Int)) || (decide (((t_.cap : Nat) : Int) ≤ ((l_.len : Nat) : Int)))) = true → (R false w)) ∧
  (((((t_.len : Nat) : Int) != ((l_.len : Nat) : Int)) || (decide (((t_.cap : Nat) : Int) ≤ ((l_.len : Nat) : Int)))) = false → (∃ (I : Int → World → Prop) (μ : Int → World → Nat), I 0 w ∧
  ∀ (i : Int) w, I i w → F_towpathlaw01_LeftVersions_L0 t_ l_ R (fun (i' : Int) w' => I i' w' ∧ μ i' w' < μ i w) i w))

def F_towpathlaw01_Book_keepVersion (b_ : Option Addr) (l_ : Slc) (R : World → Prop) (w : World) : Prop :=
  IsAt b_ ∧ (∃ (v7 : Int), w.cell? ⟨(pblk b_), (poff b_), none⟩ = some (Value.int .i64 v7) ∧ (Writable w (pblk b_) (poff b_) 1 ∧ (∀ w1, w1 = World.puts (pblk b_) (poff b_) [Value.int .i64 (IntKind.i64.wrap (v7 + 1))] w → (∀ w2, (∃ k, w2 = w1.drewN k) → (IsAt b_ ∧ (∃ (v15 : Slc), w2.cell? ⟨(pblk b_), (poff b_) + 6, none⟩ = some (Value.slice v15.ptr v15.len v15.cap) ∧ (IsAt b_ ∧ (∃ (v20 : Int), w2.cell? ⟨(pblk b_), (poff b_), none⟩ = some (Value.int .i64 v20) ∧ (∀ b_1 w3, b_1 = w2.heap.size → w3 = w2.alloc (Obj.cells ([Value.slice l_.ptr l_.len l_.cap, Value.slice none 0 0, Value.int .i64 v20]).toArray ty_towpathlaw01_heldVersion (0, 0)) → (w3.cell? ⟨(pblk b_), (poff b_) + 6, none⟩ = some (Value.slice v15.ptr v15.len v15.cap) ∧ (∃ src, SrcAt w3 (Slc.mk (some ⟨b_1, 0, none⟩) 1 1) 3 src ∧ AppendW 3 56 ty_towpathlaw01_heldVersion [Value.slice none 0 0, Value.slice none 0 0, Value.int .i64 0] v15 src 1 w3 (fun v23 w4 => (IsAt b_ ∧ (Writable w4 (pblk b_) ((poff b_) + 6) 1 ∧ (∀ w5, w5 = World.puts (pblk b_) ((poff b_) + 6) [Value.slice v23.ptr v23.len v23.cap] w4 → ((R w5)))))))))))))))))

def F_cmp_isNaN_int (x : Int) (R : Bool → World → Prop) (w : World) : Prop :=
  R (x != x) w

def F_towpathref08_May (v : T_api_Version) (R : Bool → World → Prop) (w : World) : Prop :=
  ∀ b_ w1, b_ = w.heap.size → w1 = w.alloc (Obj.cells ([Value.int .i64 v.Number, Value.string v.Val, Value.bool v.Drop]).toArray ty_api_Version (0, 0)) → (∃ (v4 : Int), w1.cell? ⟨b_, 0, none⟩ = some (Value.int .i64 v4) ∧ (((decide (v4 ≥ 1)) = true → (∃ (v8 : Int), w1.cell? ⟨b_, 0, none⟩ = some (Value.int .i64 v8) ∧ (((decide (v8 ≤ 65536)) = true → (∃ (v13 : ByteArray), w1.cell? ⟨b_, 1, none⟩ = some (Value.string v13) ∧ (((decide (((v13.size : Nat) : Int) ≤ 1024)) = true → (∃ (v19 : Bool), w1.cell? ⟨b_, 2, none⟩ = some (Value.bool v19) ∧ (((!v19) = true → (R true w1)) ∧
  ((!v19) = false → (∃ (v23 : ByteArray), w1.cell? ⟨b_, 1, none⟩ = some (Value.string v23) ∧ (R (((v23.size : Nat) : Int) == 0) w1)))))) ∧
  ((decide (((v13.size : Nat) : Int) ≤ 1024)) = false → (R false w1))))) ∧
  ((decide (v8 ≤ 65536)) = false → (R false w1))))) ∧
  ((decide (v4 ≥ 1)) = false → (R false w1))))

def Ok_T_api_Config (w : World) (x : T_api_Config) : Prop := ((-9223372036854775808) ≤ x.Lanes ∧ x.Lanes ≤ 9223372036854775807) ∧ ((-9223372036854775808) ≤ x.Shards ∧ x.Shards ≤ 9223372036854775807) ∧ ((-9223372036854775808) ≤ x.Window ∧ x.Window ≤ 9223372036854775807) ∧ ((-9223372036854775808) ≤ x.Queue ∧ x.Queue ≤ 9223372036854775807)

def Ok_T_api_Version (w : World) (x : T_api_Version) : Prop := ((-9223372036854775808) ≤ x.Number ∧ x.Number ≤ 9223372036854775807) ∧ (x.Val.size ≤ 140737488351232) ∧ True

def Ok_T_api_Held (w : World) (x : T_api_Held) : Prop := (x.Key.size ≤ 140737488351232) ∧ (OkSl w x.Versions 3 32 (fun es => ∃ e_ : T_api_Version, es = [Value.int .i64 e_.Number, Value.string e_.Val, Value.bool e_.Drop] ∧ (Ok_T_api_Version w e_)))

def Ok_T_api_Saved (w : World) (x : T_api_Saved) : Prop := ((-9223372036854775808) ≤ x.Mark ∧ x.Mark ≤ 9223372036854775807) ∧ (OkSl w x.Beyond 1 8 (fun es => ∃ e_ : Int, es = [Value.int .i64 e_] ∧ ((-9223372036854775808) ≤ e_ ∧ e_ ≤ 9223372036854775807))) ∧ (OkSl w x.Held 2 40 (fun es => ∃ e_ : T_api_Held, es = [Value.string e_.Key, Value.slice e_.Versions.ptr e_.Versions.len e_.Versions.cap] ∧ (Ok_T_api_Held w e_)))

end Go.Proofs.YtpdegdnigcnjiaaGreatDoor
