/- WRITTEN BY PROGRAM (dec.py): for each Go function the clean formula F, the call's contract C, and the proof S that F gives C. -/
import Derived.Test.YtfmkemmgakdddaaRows
import Derived.Test.YtfmkemmgakdddaaCore
namespace Go.Proofs.Ytfmkemmgakdddaa
open Go
set_option linter.unusedVariables false


abbrev ty_int : TypeId := 3

abbrev ty_api_Txn : TypeId := 27

abbrev ty_api_Config : TypeId := 35

abbrev ty_lane_Lane : TypeId := 47

abbrev ty_towpathlaw14_Op : TypeId := 50

abbrev ty_api_Write : TypeId := 61

abbrev ty_api_Req : TypeId := 65

abbrev ty_lane_none : TypeId := 96

abbrev ty_towpathref14_Lane : TypeId := 98

abbrev ty_2_int : TypeId := 100

abbrev ty_lane_busy : TypeId := 107

structure T_api_Config where
  Lanes : Int
  Shards : Int
  Window : Int
  Queue : Int

structure T_api_Txn where
  Number : Int
  Writes : Slc

structure T_towpathlaw14_Op where
  Kind : Int
  Txn : T_api_Txn

structure T_api_Write where
  Key : ByteArray
  Val : ByteArray
  Drop : Bool

structure T_api_Req where
  Kind : Int
  From : Int
  Number : Int
  Write : T_api_Write
  Key : ByteArray
  End : ByteArray
  Beyond : Slc

structure Arr2_Int where
  e0 : Int
  e1 : Int

structure T_lane_none where

def C_towpathlaw14_LanePlays (number : Int) (c : T_api_Config) (script : Slc) (w : World) (R : Bool → World → Prop) : Prop :=
  Calls Try.prog 4 #[Value.int .i64 number, Value.agg #[Value.int .i64 c.Lanes, Value.int .i64 c.Shards, Value.int .i64 c.Window, Value.int .i64 c.Queue], Value.slice script.ptr script.len script.cap] w (fun e w' => ∃ (r0 : Bool), e = .returned (Value.bool r0) ∧ R r0 w')

def C_towpathlaw14_LaneStill (c : T_api_Config) (t_ : T_api_Txn) (asks : Slc) (w : World) (R : Bool → World → Prop) : Prop :=
  Calls Try.prog 6 #[Value.agg #[Value.int .i64 c.Lanes, Value.int .i64 c.Shards, Value.int .i64 c.Window, Value.int .i64 c.Queue], Value.agg #[Value.int .i64 t_.Number, Value.slice t_.Writes.ptr t_.Writes.len t_.Writes.cap], Value.slice asks.ptr asks.len asks.cap] w (fun e w' => ∃ (r0 : Bool), e = .returned (Value.bool r0) ∧ R r0 w')

def C_towpathlaw01_Beyond (l_ : Slc) (w : World) (R : Bool → World → Prop) : Prop :=
  Calls Try.prog 10 #[Value.slice l_.ptr l_.len l_.cap] w (fun e w' => ∃ (r0 : Bool), e = .returned (Value.bool r0) ∧ R r0 w')

def C_towpathlaw14_beyond (l_ : Slc) (w : World) (R : Bool → World → Prop) : Prop :=
  Calls Try.prog 16 #[Value.slice l_.ptr l_.len l_.cap] w (fun e w' => ∃ (r0 : Bool), e = .returned (Value.bool r0) ∧ R r0 w')

def C_lane_New (number : Int) (c : T_api_Config) (w : World) (R : Option Addr → Int → World → Prop) : Prop :=
  Calls Try.prog 17 #[Value.int .i64 number, Value.agg #[Value.int .i64 c.Lanes, Value.int .i64 c.Shards, Value.int .i64 c.Window, Value.int .i64 c.Queue]] w (fun e w' => ∃ (r0 : Option Addr) (r1 : Int), e = .returned (Value.tuple #[Value.pointer r0, Value.int .i64 r1]) ∧ R r0 r1 w')

def C_towpathref14_New (number : Int) (c : T_api_Config) (w : World) (R : Option Addr → Int → World → Prop) : Prop :=
  Calls Try.prog 18 #[Value.int .i64 number, Value.agg #[Value.int .i64 c.Lanes, Value.int .i64 c.Shards, Value.int .i64 c.Window, Value.int .i64 c.Queue]] w (fun e w' => ∃ (r0 : Option Addr) (r1 : Int), e = .returned (Value.tuple #[Value.pointer r0, Value.int .i64 r1]) ∧ R r0 r1 w')

def C_towpathlaw14_asked (l_ : Option Addr) (r : Option Addr) (o_ : T_towpathlaw14_Op) (w : World) (R : Bool → World → Prop) : Prop :=
  Calls Try.prog 19 #[Value.pointer l_, Value.pointer r, Value.agg #[Value.int .u8 o_.Kind, Value.int .i64 o_.Txn.Number, Value.slice o_.Txn.Writes.ptr o_.Txn.Writes.len o_.Txn.Writes.cap]] w (fun e w' => ∃ (r0 : Bool), e = .returned (Value.bool r0) ∧ R r0 w')

def C_towpathlaw14_alive (w : World) (R : Bool → World → Prop) : Prop :=
  Calls Try.prog 20 #[] w (fun e w' => ∃ (r0 : Bool), e = .returned (Value.bool r0) ∧ R r0 w')

def C_conf_Check (c : T_api_Config) (w : World) (R : Int → World → Prop) : Prop :=
  Calls Try.prog 21 #[Value.agg #[Value.int .i64 c.Lanes, Value.int .i64 c.Shards, Value.int .i64 c.Window, Value.int .i64 c.Queue]] w (fun e w' => ∃ (r0 : Int), e = .returned (Value.int .i64 r0) ∧ R r0 w')

def C_lane_Lane_Take (l_ : Option Addr) (t_ : T_api_Txn) (w : World) (R : Int → World → Prop) : Prop :=
  Calls Try.prog 23 #[Value.pointer l_, Value.agg #[Value.int .i64 t_.Number, Value.slice t_.Writes.ptr t_.Writes.len t_.Writes.cap]] w (fun e w' => ∃ (r0 : Int), e = .returned (Value.int .i64 r0) ∧ R r0 w')

def C_record_Check (t_ : T_api_Txn) (w : World) (R : Int → World → Prop) : Prop :=
  Calls Try.prog 24 #[Value.agg #[Value.int .i64 t_.Number, Value.slice t_.Writes.ptr t_.Writes.len t_.Writes.cap]] w (fun e w' => ∃ (r0 : Int), e = .returned (Value.int .i64 r0) ∧ R r0 w')

def C_lane_Lane_Holds (l_ : Option Addr) (w : World) (R : Int → World → Prop) : Prop :=
  Calls Try.prog 25 #[Value.pointer l_] w (fun e w' => ∃ (r0 : Int), e = .returned (Value.int .i64 r0) ∧ R r0 w')

def C_lane_Lane_Next (l_ : Option Addr) (w : World) (R : Int → T_api_Req → Bool → World → Prop) : Prop :=
  Calls Try.prog 26 #[Value.pointer l_] w (fun e w' => ∃ (r0 : Int) (r1 : T_api_Req) (r2 : Bool), e = .returned (Value.tuple #[Value.int .i64 r0, Value.agg #[Value.int .u8 r1.Kind, Value.int .i64 r1.From, Value.int .i64 r1.Number, Value.string r1.Write.Key, Value.string r1.Write.Val, Value.bool r1.Write.Drop, Value.string r1.Key, Value.string r1.End, Value.slice r1.Beyond.ptr r1.Beyond.len r1.Beyond.cap], Value.bool r2]) ∧ R r0 r1 r2 w')

def C_conf_Shard (c : T_api_Config) (key : ByteArray) (w : World) (R : Int → Int → World → Prop) : Prop :=
  Calls Try.prog 27 #[Value.agg #[Value.int .i64 c.Lanes, Value.int .i64 c.Shards, Value.int .i64 c.Window, Value.int .i64 c.Queue], Value.string key] w (fun e w' => ∃ (r0 : Int) (r1 : Int), e = .returned (Value.tuple #[Value.int .i64 r0, Value.int .i64 r1]) ∧ R r0 r1 w')

def C_lane_Lane_Ready (l_ : Option Addr) (w : World) (R : Bool → World → Prop) : Prop :=
  Calls Try.prog 28 #[Value.pointer l_] w (fun e w' => ∃ (r0 : Bool), e = .returned (Value.bool r0) ∧ R r0 w')

def C_lane_Lane_Sent (l_ : Option Addr) (w : World) (R : Int → World → Prop) : Prop :=
  Calls Try.prog 29 #[Value.pointer l_] w (fun e w' => ∃ (r0 : Int), e = .returned (Value.int .i64 r0) ∧ R r0 w')

def C_lane_Lane_Acked (l_ : Option Addr) (w : World) (R : Int → World → Prop) : Prop :=
  Calls Try.prog 30 #[Value.pointer l_] w (fun e w' => ∃ (r0 : Int), e = .returned (Value.int .i64 r0) ∧ R r0 w')

def C_lane_Lane_Done (l_ : Option Addr) (w : World) (R : Int → Int → World → Prop) : Prop :=
  Calls Try.prog 31 #[Value.pointer l_] w (fun e w' => ∃ (r0 : Int) (r1 : Int), e = .returned (Value.tuple #[Value.int .i64 r0, Value.int .i64 r1]) ∧ R r0 r1 w')

def C_towpathlaw01_TxnSize (t_ : T_api_Txn) (w : World) (R : Int → World → Prop) : Prop :=
  Calls Try.prog 32 #[Value.agg #[Value.int .i64 t_.Number, Value.slice t_.Writes.ptr t_.Writes.len t_.Writes.cap]] w (fun e w' => ∃ (r0 : Int), e = .returned (Value.int .i64 r0) ∧ R r0 w')

def C_towpathlaw01_SameReq (a_ : T_api_Req) (b_ : T_api_Req) (w : World) (R : Bool → World → Prop) : Prop :=
  Calls Try.prog 33 #[Value.agg #[Value.int .u8 a_.Kind, Value.int .i64 a_.From, Value.int .i64 a_.Number, Value.string a_.Write.Key, Value.string a_.Write.Val, Value.bool a_.Write.Drop, Value.string a_.Key, Value.string a_.End, Value.slice a_.Beyond.ptr a_.Beyond.len a_.Beyond.cap], Value.agg #[Value.int .u8 b_.Kind, Value.int .i64 b_.From, Value.int .i64 b_.Number, Value.string b_.Write.Key, Value.string b_.Write.Val, Value.bool b_.Write.Drop, Value.string b_.Key, Value.string b_.End, Value.slice b_.Beyond.ptr b_.Beyond.len b_.Beyond.cap]] w (fun e w' => ∃ (r0 : Bool), e = .returned (Value.bool r0) ∧ R r0 w')

def C_towpathref13_Check (c : T_api_Config) (w : World) (R : Int → World → Prop) : Prop :=
  Calls Try.prog 49 #[Value.agg #[Value.int .i64 c.Lanes, Value.int .i64 c.Shards, Value.int .i64 c.Window, Value.int .i64 c.Queue]] w (fun e w' => ∃ (r0 : Int), e = .returned (Value.int .i64 r0) ∧ R r0 w')

def C_towpathlaw01_TwinTxn (x : T_api_Txn) (w : World) (R : T_api_Txn → World → Prop) : Prop :=
  Calls Try.prog 50 #[Value.agg #[Value.int .i64 x.Number, Value.slice x.Writes.ptr x.Writes.len x.Writes.cap]] w (fun e w' => ∃ (r0 : T_api_Txn), e = .returned (Value.agg #[Value.int .i64 r0.Number, Value.slice r0.Writes.ptr r0.Writes.len r0.Writes.cap]) ∧ R r0 w')

def C_towpathref14_Lane_Take (l_ : Option Addr) (t_ : T_api_Txn) (w : World) (R : Int → World → Prop) : Prop :=
  Calls Try.prog 51 #[Value.pointer l_, Value.agg #[Value.int .i64 t_.Number, Value.slice t_.Writes.ptr t_.Writes.len t_.Writes.cap]] w (fun e w' => ∃ (r0 : Int), e = .returned (Value.int .i64 r0) ∧ R r0 w')

def C_towpathlaw01_LeftTxn (t_ : T_api_Txn) (x : T_api_Txn) (w : World) (R : Bool → World → Prop) : Prop :=
  Calls Try.prog 52 #[Value.agg #[Value.int .i64 t_.Number, Value.slice t_.Writes.ptr t_.Writes.len t_.Writes.cap], Value.agg #[Value.int .i64 x.Number, Value.slice x.Writes.ptr x.Writes.len x.Writes.cap]] w (fun e w' => ∃ (r0 : Bool), e = .returned (Value.bool r0) ∧ R r0 w')

def C_towpathref14_Lane_Sent (l_ : Option Addr) (w : World) (R : Int → World → Prop) : Prop :=
  Calls Try.prog 53 #[Value.pointer l_] w (fun e w' => ∃ (r0 : Int), e = .returned (Value.int .i64 r0) ∧ R r0 w')

def C_towpathref14_Lane_Acked (l_ : Option Addr) (w : World) (R : Int → World → Prop) : Prop :=
  Calls Try.prog 54 #[Value.pointer l_] w (fun e w' => ∃ (r0 : Int), e = .returned (Value.int .i64 r0) ∧ R r0 w')

def C_towpathref14_Lane_Done (l_ : Option Addr) (w : World) (R : Int → Int → World → Prop) : Prop :=
  Calls Try.prog 55 #[Value.pointer l_] w (fun e w' => ∃ (r0 : Int) (r1 : Int), e = .returned (Value.tuple #[Value.int .i64 r0, Value.int .i64 r1]) ∧ R r0 r1 w')

def C_towpathref14_Lane_Next (l_ : Option Addr) (w : World) (R : Int → T_api_Req → Bool → World → Prop) : Prop :=
  Calls Try.prog 56 #[Value.pointer l_] w (fun e w' => ∃ (r0 : Int) (r1 : T_api_Req) (r2 : Bool), e = .returned (Value.tuple #[Value.int .i64 r0, Value.agg #[Value.int .u8 r1.Kind, Value.int .i64 r1.From, Value.int .i64 r1.Number, Value.string r1.Write.Key, Value.string r1.Write.Val, Value.bool r1.Write.Drop, Value.string r1.Key, Value.string r1.End, Value.slice r1.Beyond.ptr r1.Beyond.len r1.Beyond.cap], Value.bool r2]) ∧ R r0 r1 r2 w')

def C_towpathref14_Lane_Holds (l_ : Option Addr) (w : World) (R : Int → World → Prop) : Prop :=
  Calls Try.prog 57 #[Value.pointer l_] w (fun e w' => ∃ (r0 : Int), e = .returned (Value.int .i64 r0) ∧ R r0 w')

def C_towpathref14_Lane_Ready (l_ : Option Addr) (w : World) (R : Bool → World → Prop) : Prop :=
  Calls Try.prog 58 #[Value.pointer l_] w (fun e w' => ∃ (r0 : Bool), e = .returned (Value.bool r0) ∧ R r0 w')

def C_lane_Lane_gone (l_ : Option Addr) (w : World) (R : Bool → World → Prop) : Prop :=
  Calls Try.prog 59 #[Value.pointer l_] w (fun e w' => ∃ (r0 : Bool), e = .returned (Value.bool r0) ∧ R r0 w')

def C_lane_Lane_busy (l_ : Option Addr) (w : World) (R : Option Addr → Bool → World → Prop) : Prop :=
  Calls Try.prog 60 #[Value.pointer l_] w (fun e w' => ∃ (r0 : Option Addr) (r1 : Bool), e = .returned (Value.tuple #[Value.pointer r0, Value.bool r1]) ∧ R r0 r1 w')

def C_lane_counting (t_ : T_api_Txn) (w : World) (R : Slc → World → Prop) : Prop :=
  Calls Try.prog 61 #[Value.agg #[Value.int .i64 t_.Number, Value.slice t_.Writes.ptr t_.Writes.len t_.Writes.cap]] w (fun e w' => ∃ (r0 : Slc), e = .returned (Value.slice r0.ptr r0.len r0.cap) ∧ R r0 w')

def C_record_Check_1 (w_ : T_api_Write) (w : World) (R : Bool → World → Prop) : Prop :=
  Calls Try.prog 62 #[Value.agg #[Value.string w_.Key, Value.string w_.Val, Value.bool w_.Drop]] w (fun e w' => ∃ (r0 : Bool), e = .returned (Value.bool r0) ∧ R r0 w')

def C_slices_ContainsFunc_api_Write_api_Write (s : Slc) (f : Value) (w : World) (R : Bool → World → Prop) : Prop :=
  Calls Try.prog 63 #[Value.slice s.ptr s.len s.cap, f] w (fun e w' => ∃ (r0 : Bool), e = .returned (Value.bool r0) ∧ R r0 w')

def C_sum_Hash (key : ByteArray) (w : World) (R : Int → World → Prop) : Prop :=
  Calls Try.prog 64 #[Value.string key] w (fun e w' => ∃ (r0 : Int), e = .returned (Value.int .u32 r0) ∧ R r0 w')

def C_towpathlaw01_WritesSize (l_ : Slc) (w : World) (R : Int → World → Prop) : Prop :=
  Calls Try.prog 65 #[Value.slice l_.ptr l_.len l_.cap] w (fun e w' => ∃ (r0 : Int), e = .returned (Value.int .i64 r0) ∧ R r0 w')

def C_towpathlaw01_SameInts (a_ : Slc) (b_ : Slc) (w : World) (R : Bool → World → Prop) : Prop :=
  Calls Try.prog 66 #[Value.slice a_.ptr a_.len a_.cap, Value.slice b_.ptr b_.len b_.cap] w (fun e w' => ∃ (r0 : Bool), e = .returned (Value.bool r0) ∧ R r0 w')

def C_towpathref13_in (n_ : Int) (most : Int) (w : World) (R : Bool → World → Prop) : Prop :=
  Calls Try.prog 82 #[Value.int .i64 n_, Value.int .i64 most] w (fun e w' => ∃ (r0 : Bool), e = .returned (Value.bool r0) ∧ R r0 w')

def C_towpathlaw01_TwinWrites (l_ : Slc) (w : World) (R : Slc → World → Prop) : Prop :=
  Calls Try.prog 83 #[Value.slice l_.ptr l_.len l_.cap] w (fun e w' => ∃ (r0 : Slc), e = .returned (Value.slice r0.ptr r0.len r0.cap) ∧ R r0 w')

def C_towpathref05_Check (t_ : T_api_Txn) (w : World) (R : Int → World → Prop) : Prop :=
  Calls Try.prog 84 #[Value.agg #[Value.int .i64 t_.Number, Value.slice t_.Writes.ptr t_.Writes.len t_.Writes.cap]] w (fun e w' => ∃ (r0 : Int), e = .returned (Value.int .i64 r0) ∧ R r0 w')

def C_towpathref07_Counting (t_ : T_api_Txn) (w : World) (R : Slc → World → Prop) : Prop :=
  Calls Try.prog 85 #[Value.agg #[Value.int .i64 t_.Number, Value.slice t_.Writes.ptr t_.Writes.len t_.Writes.cap]] w (fun e w' => ∃ (r0 : Slc), e = .returned (Value.slice r0.ptr r0.len r0.cap) ∧ R r0 w')

def C_towpathlaw01_LeftWrites (t_ : Slc) (l_ : Slc) (w : World) (R : Bool → World → Prop) : Prop :=
  Calls Try.prog 86 #[Value.slice t_.ptr t_.len t_.cap, Value.slice l_.ptr l_.len l_.cap] w (fun e w' => ∃ (r0 : Bool), e = .returned (Value.bool r0) ∧ R r0 w')

def C_towpathref13_Shard (c : T_api_Config) (key : ByteArray) (w : World) (R : Int → Int → World → Prop) : Prop :=
  Calls Try.prog 87 #[Value.agg #[Value.int .i64 c.Lanes, Value.int .i64 c.Shards, Value.int .i64 c.Window, Value.int .i64 c.Queue], Value.string key] w (fun e w' => ∃ (r0 : Int) (r1 : Int), e = .returned (Value.tuple #[Value.int .i64 r0, Value.int .i64 r1]) ∧ R r0 r1 w')

def C_lane_counting_1 (x : T_api_Write) (t1 : Option Addr) (w : World) (R : Bool → World → Prop) : Prop :=
  Calls Try.prog 88 #[Value.agg #[Value.string x.Key, Value.string x.Val, Value.bool x.Drop], Value.pointer t1] w (fun e w' => ∃ (r0 : Bool), e = .returned (Value.bool r0) ∧ R r0 w')

def C_slices_IndexFunc_api_Write_api_Write (s : Slc) (f : Value) (w : World) (R : Int → World → Prop) : Prop :=
  Calls Try.prog 89 #[Value.slice s.ptr s.len s.cap, f] w (fun e w' => ∃ (r0 : Int), e = .returned (Value.int .i64 r0) ∧ R r0 w')

def C_towpathref05_Number (n_ : Int) (w : World) (R : Bool → World → Prop) : Prop :=
  Calls Try.prog 91 #[Value.int .i64 n_] w (fun e w' => ∃ (r0 : Bool), e = .returned (Value.bool r0) ∧ R r0 w')

def C_towpathref05_Write (w_ : T_api_Write) (w : World) (R : Bool → World → Prop) : Prop :=
  Calls Try.prog 92 #[Value.agg #[Value.string w_.Key, Value.string w_.Val, Value.bool w_.Drop]] w (fun e w' => ∃ (r0 : Bool), e = .returned (Value.bool r0) ∧ R r0 w')

def C_towpathref05_Key (s : ByteArray) (w : World) (R : Bool → World → Prop) : Prop :=
  Calls Try.prog 93 #[Value.string s] w (fun e w' => ∃ (r0 : Bool), e = .returned (Value.bool r0) ∧ R r0 w')

def C_towpathref03_Hash (key : ByteArray) (w : World) (R : Int → World → Prop) : Prop :=
  Calls Try.prog 94 #[Value.string key] w (fun e w' => ∃ (r0 : Int), e = .returned (Value.int .u32 r0) ∧ R r0 w')

def C_towpathref05_Val (s : ByteArray) (w : World) (R : Bool → World → Prop) : Prop :=
  Calls Try.prog 95 #[Value.string s] w (fun e w' => ∃ (r0 : Bool), e = .returned (Value.bool r0) ∧ R r0 w')

def C_lane_none_next (t0 : T_lane_none) (w : World) (R : T_api_Write → Bool → World → Prop) : Prop :=
  Calls Try.prog 114 #[Value.agg #[]] w (fun e w' => ∃ (r0 : T_api_Write) (r1 : Bool), e = .returned (Value.tuple #[Value.agg #[Value.string r0.Key, Value.string r0.Val, Value.bool r0.Drop], Value.bool r1]) ∧ R r0 r1 w')

def C_lane_busy_next (b_ : Option Addr) (w : World) (R : T_api_Write → Bool → World → Prop) : Prop :=
  Calls Try.prog 115 #[Value.pointer b_] w (fun e w' => ∃ (r0 : T_api_Write) (r1 : Bool), e = .returned (Value.tuple #[Value.agg #[Value.string r0.Key, Value.string r0.Val, Value.bool r0.Drop], Value.bool r1]) ∧ R r0 r1 w')

def F_towpathlaw14_LanePlays_k2 (R : Bool → World → Prop) (i : Int) (again_ : Int → World → Prop) (t63 : Bool) (w8 : World) : Prop :=
  (t63 = true → (R false w8)) ∧
  (t63 = false → (again_ (IntKind.i64.wrap (i + 1)) w8))

def F_towpathlaw14_LanePlays_L1 (script : Slc) (R : Bool → World → Prop) (l_ : Option Addr) (r : Option Addr) (b_1 : Nat) (again_ : Int → World → Prop) (i : Int) (w7 : World) : Prop :=
  ((decide (i < ((script.len : Nat) : Int))) = true → (IsAt script.ptr ∧ (0 ≤ i ∧ i < ((script.len : Nat) : Int) ∧ (∃ (v51 : T_towpathlaw14_Op), CellsAt w7 (pblk script.ptr) ((poff script.ptr) + i.toNat * 3) [Value.int .u8 v51.Kind, Value.int .i64 v51.Txn.Number, Value.slice v51.Txn.Writes.ptr v51.Txn.Writes.len v51.Txn.Writes.cap] ∧ (C_towpathlaw14_asked l_ r v51 w7 (fun (v52 : Bool) w9 => ((!v52) = true → (F_towpathlaw14_LanePlays_k2 R i again_ true w9)) ∧
  ((!v52) = false → (IsAt script.ptr ∧ (0 ≤ i ∧ i < ((script.len : Nat) : Int) ∧ (∃ (v60 : T_towpathlaw14_Op), CellsAt w9 (pblk script.ptr) ((poff script.ptr) + i.toNat * 3) [Value.int .u8 v60.Kind, Value.int .i64 v60.Txn.Number, Value.slice v60.Txn.Writes.ptr v60.Txn.Writes.len v60.Txn.Writes.cap] ∧ (C_towpathlaw14_asked (some ⟨b_1, 0, none⟩) none v60 w9 (fun (v61 : Bool) w10 => F_towpathlaw14_LanePlays_k2 R i again_ (!v61) w10)))))))))))) ∧
  ((decide (i < ((script.len : Nat) : Int))) = false → (C_towpathlaw14_asked l_ r (T_towpathlaw14_Op.mk 0 (T_api_Txn.mk 0 (Slc.mk none 0 0))) w7 (fun (v67 : Bool) w11 => R v67 w11)))

def F_towpathlaw14_LanePlays_k0 (script : Slc) (R : Bool → World → Prop) (l_ : Option Addr) (r : Option Addr) (t37 : Bool) (w5 : World) : Prop :=
  (t37 = true → (R false w5)) ∧
  (t37 = false → (∀ b_1 w6, b_1 = w5.heap.size → w6 = w5.alloc (Obj.cells ([Value.int .i64 0, Value.int .i64 0, Value.int .i64 0, Value.int .i64 0, Value.int .i64 0, Value.nilIface]).toArray ty_lane_Lane (0, 0)) → (∃ (I : Int → World → Prop) (μ : Int → World → Nat), I 0 w6 ∧
  ∀ (i : Int) w, I i w → F_towpathlaw14_LanePlays_L1 script R l_ r b_1 (fun (i' : Int) w' => I i' w' ∧ μ i' w' < μ i w) i w)))

def F_towpathlaw14_LanePlays (number : Int) (c : T_api_Config) (script : Slc) (R : Bool → World → Prop) (w : World) : Prop :=
  ∀ b_ w1, b_ = w.heap.size → w1 = w.alloc (Obj.cells ([Value.int .i64 c.Lanes, Value.int .i64 c.Shards, Value.int .i64 c.Window, Value.int .i64 c.Queue]).toArray ty_api_Config (0, 0)) → (C_towpathlaw14_beyond script w1 (fun (v15 : Bool) w2 => (v15 = true → (R true w2)) ∧
  (v15 = false → (∃ (v18 : T_api_Config), CellsAt w2 b_ 0 [Value.int .i64 v18.Lanes, Value.int .i64 v18.Shards, Value.int .i64 v18.Window, Value.int .i64 v18.Queue] ∧ (C_lane_New number v18 w2 (fun (l_ : Option Addr) (e : Int) w3 => ∃ (v24 : T_api_Config), CellsAt w3 b_ 0 [Value.int .i64 v24.Lanes, Value.int .i64 v24.Shards, Value.int .i64 v24.Window, Value.int .i64 v24.Queue] ∧ (C_towpathref14_New number v24 w3 (fun (r : Option Addr) (f : Int) w4 => ((e != f) = true → (F_towpathlaw14_LanePlays_k0 script R l_ r true w4)) ∧
  ((e != f) = false → (F_towpathlaw14_LanePlays_k0 script R l_ r (!(l_.isNone == r.isNone)) w4))))))))))

def F_towpathlaw14_LaneStill_k3 (i : Int) (again_ : Int → Int → Int → World → Prop) (out1 : Int) (all1 : Int) (w8 : World) : Prop :=
  again_ out1 all1 (IntKind.i64.wrap (i + 1)) w8

def F_towpathlaw14_LaneStill_k5 (R : Bool → World → Prop) (all : Int) (i : Int) (again_ : Int → Int → Int → World → Prop) (out2 : Int) (t149 : Bool) (w16 : World) : Prop :=
  (t149 = true → (R false w16)) ∧
  (t149 = false → (F_towpathlaw14_LaneStill_k3 i again_ out2 all w16))

def F_towpathlaw14_LaneStill_k4 (R : Bool → World → Prop) (b_1 : Nat) (l_ : Option Addr) (all : Int) (i : Int) (again_ : Int → Int → Int → World → Prop) (s : Int) (ok : Bool) (b_2 : Nat) (out2 : Int) (w12 : World) : Prop :=
  C_lane_Lane_Next l_ w12 (fun (n_ : Int) (v125_1 : T_api_Req) (is : Bool) w13 => ∀ b_3 w14, b_3 = w13.heap.size → w14 = w13.alloc (Obj.cells ([Value.int .u8 0, Value.int .i64 0, Value.int .i64 0, Value.string ByteArray.empty, Value.string ByteArray.empty, Value.bool false, Value.string ByteArray.empty, Value.string ByteArray.empty, Value.slice none 0 0]).toArray ty_api_Req (0, 0)) → (Writable w14 b_3 0 9 ∧ (∀ w15, w15 = World.puts b_3 0 [Value.int .u8 v125_1.Kind, Value.int .i64 v125_1.From, Value.int .i64 v125_1.Number, Value.string v125_1.Write.Key, Value.string v125_1.Write.Val, Value.bool v125_1.Write.Drop, Value.string v125_1.Key, Value.string v125_1.End, Value.slice v125_1.Beyond.ptr v125_1.Beyond.len v125_1.Beyond.cap] w14 → (∀ w17, (∃ k, w17 = w15.drewN k) → ((((n_ != s) || (!(is == ok))) = true → (F_towpathlaw14_LaneStill_k5 R all i again_ out2 true w17)) ∧
  (((n_ != s) || (!(is == ok))) = false → (∃ (v138 : T_api_Req), CellsAt w17 b_3 0 [Value.int .u8 v138.Kind, Value.int .i64 v138.From, Value.int .i64 v138.Number, Value.string v138.Write.Key, Value.string v138.Write.Val, Value.bool v138.Write.Drop, Value.string v138.Key, Value.string v138.End, Value.slice v138.Beyond.ptr v138.Beyond.len v138.Beyond.cap] ∧ (∃ (v139 : T_api_Req), CellsAt w17 b_2 0 [Value.int .u8 v139.Kind, Value.int .i64 v139.From, Value.int .i64 v139.Number, Value.string v139.Write.Key, Value.string v139.Write.Val, Value.bool v139.Write.Drop, Value.string v139.Key, Value.string v139.End, Value.slice v139.Beyond.ptr v139.Beyond.len v139.Beyond.cap] ∧ (C_towpathlaw01_SameReq v138 v139 w17 (fun (v140 : Bool) w18 => (((!v140) = true → (F_towpathlaw14_LaneStill_k5 R all i again_ out2 true w18)) ∧
  ((!v140) = false → (∃ (v147 : Int), w18.cell? ⟨b_1, 0, none⟩ = some (Value.int .i64 v147) ∧ (C_lane_Lane_Holds l_ w18 (fun (v145 : Int) w19 => w19.cell? ⟨b_1, 0, none⟩ = some (Value.int .i64 v147) ∧ (F_towpathlaw14_LaneStill_k5 R all i again_ out2 (v145 != v147) w19))))))))))))))))

def F_towpathlaw14_LaneStill_k6 (i : Int) (again_ : Int → Int → Int → World → Prop) (out3 : Int) (all2 : Int) (w23 : World) : Prop :=
  F_towpathlaw14_LaneStill_k3 i again_ out3 all2 w23

def F_towpathlaw14_LaneStill_L2 (asks : Slc) (R : Bool → World → Prop) (b_1 : Nat) (l_ : Option Addr) (again_ : Int → Int → Int → World → Prop) (out : Int) (all : Int) (i : Int) (w7 : World) : Prop :=
  (((decide (i < ((asks.len : Nat) : Int))) && (decide (i < 500))) = true → (C_lane_Lane_Next l_ w7 (fun (s : Int) (v66_1 : T_api_Req) (ok : Bool) w9 => ∀ b_2 w10, b_2 = w9.heap.size → w10 = w9.alloc (Obj.cells ([Value.int .u8 0, Value.int .i64 0, Value.int .i64 0, Value.string ByteArray.empty, Value.string ByteArray.empty, Value.bool false, Value.string ByteArray.empty, Value.string ByteArray.empty, Value.slice none 0 0]).toArray ty_api_Req (0, 0)) → (Writable w10 b_2 0 9 ∧ (∀ w11, w11 = World.puts b_2 0 [Value.int .u8 v66_1.Kind, Value.int .i64 v66_1.From, Value.int .i64 v66_1.Number, Value.string v66_1.Write.Key, Value.string v66_1.Write.Val, Value.bool v66_1.Write.Drop, Value.string v66_1.Key, Value.string v66_1.End, Value.slice v66_1.Beyond.ptr v66_1.Beyond.len v66_1.Beyond.cap] w10 → (IsAt asks.ptr ∧ (0 ≤ i ∧ i < ((asks.len : Nat) : Int) ∧ (∃ (v73 : Int), w11.cell? ⟨(pblk asks.ptr), (poff asks.ptr) + i.toNat, none⟩ = some (Value.int .u8 v73) ∧ ((((Int.tmod v73 4) == 0) = true → (C_lane_Lane_Acked l_ w11 (fun (v93 : Int) w20 => ((!((v93 == 0) == (decide (out > 0)))) = true → (R false w20)) ∧
  ((!((v93 == 0) == (decide (out > 0)))) = false → (((v93 == 0) = true → (F_towpathlaw14_LaneStill_k4 R b_1 l_ all i again_ s ok b_2 (IntKind.i64.wrap (out - 1)) w20)) ∧
  ((v93 == 0) = false → (F_towpathlaw14_LaneStill_k4 R b_1 l_ all i again_ s ok b_2 out w20))))))) ∧
  (((Int.tmod v73 4) == 0) = false → ((((Int.tmod v73 4) == 1) = true → (∃ (v106 : T_api_Txn), CellsAt w11 b_1 0 [Value.int .i64 v106.Number, Value.slice v106.Writes.ptr v106.Writes.len v106.Writes.cap] ∧ (C_lane_Lane_Take l_ v106 w11 (fun (v107 : Int) w21 => ((v107 != 10) = true → (R false w21)) ∧
  ((v107 != 10) = false → (F_towpathlaw14_LaneStill_k4 R b_1 l_ all i again_ s ok b_2 out w21)))))) ∧
  (((Int.tmod v73 4) == 1) = false → ((((Int.tmod v73 4) == 2) = true → (C_lane_Lane_Sent l_ w11 (fun (v112 : Int) w22 => ((!((v112 == 0) == ok)) = true → (R false w22)) ∧
  ((!((v112 == 0) == ok)) = false → (((v112 == 0) = true → (F_towpathlaw14_LaneStill_k6 i again_ (IntKind.i64.wrap (out + 1)) (IntKind.i64.wrap (all + 1)) w22)) ∧
  ((v112 == 0) = false → (F_towpathlaw14_LaneStill_k6 i again_ out all w22))))))) ∧
  (((Int.tmod v73 4) == 2) = false → (C_lane_Lane_Ready l_ w11 (fun (v76 : Bool) w24 => (v76 = true → (R ((!ok) && (out == 0)) w24)) ∧
  (v76 = false → (C_lane_Lane_Done l_ w24 (fun (v85 : Int) (f : Int) w25 => ((f != 10) = true → (R false w25)) ∧
  ((f != 10) = false → (F_towpathlaw14_LaneStill_k4 R b_1 l_ all i again_ s ok b_2 out w25))))))))))))))))))))) ∧
  (((decide (i < ((asks.len : Nat) : Int))) && (decide (i < 500))) = false → (∃ (v152 : Slc), w7.cell? ⟨b_1, 1, none⟩ = some (Value.slice v152.ptr v152.len v152.cap) ∧ (R (decide (all ≤ ((v152.len : Nat) : Int))) w7)))

def F_towpathlaw14_LaneStill_k1 (asks : Slc) (R : Bool → World → Prop) (b_1 : Nat) (l_ : Option Addr) (t53 : Bool) (w6 : World) : Prop :=
  (t53 = true → (R false w6)) ∧
  (t53 = false → (∃ (I : Int → Int → Int → World → Prop) (μ : Int → Int → Int → World → Nat), I 0 0 0 w6 ∧
  ∀ (out : Int) (all : Int) (i : Int) w, I out all i w → F_towpathlaw14_LaneStill_L2 asks R b_1 l_ (fun (out' : Int) (all' : Int) (i' : Int) w' => I out' all' i' w' ∧ μ out' all' i' w' < μ out all i w) out all i w))

def F_towpathlaw14_LaneStill_k0 (asks : Slc) (R : Bool → World → Prop) (b_ : Nat) (b_1 : Nat) (t39 : Bool) (w3 : World) : Prop :=
  (t39 = true → (C_towpathlaw14_alive w3 (fun (v40 : Bool) w4 => R v40 w4))) ∧
  (t39 = false → (∃ (v42 : T_api_Config), CellsAt w3 b_ 0 [Value.int .i64 v42.Lanes, Value.int .i64 v42.Shards, Value.int .i64 v42.Window, Value.int .i64 v42.Queue] ∧ (C_lane_New 1 v42 w3 (fun (l_ : Option Addr) (e : Int) w5 => ((e != 0) = true → (F_towpathlaw14_LaneStill_k1 asks R b_1 l_ true w5)) ∧
  ((e != 0) = false → (∃ (v50 : T_api_Txn), CellsAt w5 b_1 0 [Value.int .i64 v50.Number, Value.slice v50.Writes.ptr v50.Writes.len v50.Writes.cap] ∧ (C_lane_Lane_Take l_ v50 w5 (fun (v51 : Int) w26 => F_towpathlaw14_LaneStill_k1 asks R b_1 l_ (v51 != 0) w26))))))))

def F_towpathlaw14_LaneStill (c : T_api_Config) (t_ : T_api_Txn) (asks : Slc) (R : Bool → World → Prop) (w : World) : Prop :=
  ∀ b_ w1, b_ = w.heap.size → w1 = w.alloc (Obj.cells ([Value.int .i64 c.Lanes, Value.int .i64 c.Shards, Value.int .i64 c.Window, Value.int .i64 c.Queue]).toArray ty_api_Config (0, 0)) → (∀ b_1 w2, b_1 = w1.heap.size → w2 = w1.alloc (Obj.cells ([Value.int .i64 t_.Number, Value.slice t_.Writes.ptr t_.Writes.len t_.Writes.cap]).toArray ty_api_Txn (0, 0)) → (C_towpathlaw14_alive w2 (fun (v22 : Bool) w27 => ((!v22) = true → (F_towpathlaw14_LaneStill_k0 asks R b_ b_1 true w27)) ∧
  ((!v22) = false → (∃ (v25 : T_api_Config), CellsAt w27 b_ 0 [Value.int .i64 v25.Lanes, Value.int .i64 v25.Shards, Value.int .i64 v25.Window, Value.int .i64 v25.Queue] ∧ (C_conf_Check v25 w27 (fun (v26 : Int) w28 => ((v26 != 0) = true → (F_towpathlaw14_LaneStill_k0 asks R b_ b_1 true w28)) ∧
  ((v26 != 0) = false → (∃ (v30 : T_api_Txn), CellsAt w28 b_1 0 [Value.int .i64 v30.Number, Value.slice v30.Writes.ptr v30.Writes.len v30.Writes.cap] ∧ (C_record_Check v30 w28 (fun (v31 : Int) w29 => ((v31 != 0) = true → (F_towpathlaw14_LaneStill_k0 asks R b_ b_1 true w29)) ∧
  ((v31 != 0) = false → (∃ (v35 : T_api_Txn), CellsAt w29 b_1 0 [Value.int .i64 v35.Number, Value.slice v35.Writes.ptr v35.Writes.len v35.Writes.cap] ∧ (C_towpathlaw01_TxnSize v35 w29 (fun (v36 : Int) w30 => ∀ b_4 w31, b_4 = w30.heap.size → w31 = w30.alloc (Obj.cells ([Value.int .i64 v36]).toArray ty_int (0, 0)) → (C_towpathlaw01_Beyond (Slc.mk (some ⟨b_4, 0, none⟩) 1 1) w31 (fun (v38 : Bool) w32 => F_towpathlaw14_LaneStill_k0 asks R b_ b_1 v38 w32)))))))))))))))))

def F_towpathlaw01_Beyond_L0 (l_ : Slc) (R : Bool → World → Prop) (again_ : Int → Int → World → Prop) (n_ : Int) (i : Int) (w1 : World) : Prop :=
  ((decide (i < ((l_.len : Nat) : Int))) = true → (IsAt l_.ptr ∧ (0 ≤ i ∧ i < ((l_.len : Nat) : Int) ∧ (∃ (v15 : Int), w1.cell? ⟨(pblk l_.ptr), (poff l_.ptr) + i.toNat, none⟩ = some (Value.int .i64 v15) ∧ (((decide ((IntKind.i64.wrap (n_ + v15)) > 1048576)) = true → (R true w1)) ∧
  ((decide ((IntKind.i64.wrap (n_ + v15)) > 1048576)) = false → (again_ (IntKind.i64.wrap (n_ + v15)) (IntKind.i64.wrap (i + 1)) w1))))))) ∧
  ((decide (i < ((l_.len : Nat) : Int))) = false → (R false w1))

def F_towpathlaw01_Beyond (l_ : Slc) (R : Bool → World → Prop) (w : World) : Prop :=
  ∃ (I : Int → Int → World → Prop) (μ : Int → Int → World → Nat), I 0 0 w ∧
  ∀ (n_ : Int) (i : Int) w, I n_ i w → F_towpathlaw01_Beyond_L0 l_ R (fun (n_' : Int) (i' : Int) w' => I n_' i' w' ∧ μ n_' i' w' < μ n_ i w) n_ i w

def F_towpathlaw14_beyond_L0 (l_ : Slc) (R : Bool → World → Prop) (again_ : Int → Int → World → Prop) (n_ : Int) (i : Int) (w1 : World) : Prop :=
  ((decide (i < ((l_.len : Nat) : Int))) = true → (IsAt l_.ptr ∧ (0 ≤ i ∧ i < ((l_.len : Nat) : Int) ∧ (∃ (v17 : T_api_Txn), CellsAt w1 (pblk l_.ptr) (((poff l_.ptr) + i.toNat * 3) + 1) [Value.int .i64 v17.Number, Value.slice v17.Writes.ptr v17.Writes.len v17.Writes.cap] ∧ (C_towpathlaw01_TxnSize v17 w1 (fun (v18 : Int) w2 => ((decide ((IntKind.i64.wrap ((IntKind.i64.wrap (n_ + 1)) + v18)) > 1048576)) = true → (R true w2)) ∧
  ((decide ((IntKind.i64.wrap ((IntKind.i64.wrap (n_ + 1)) + v18)) > 1048576)) = false → (again_ (IntKind.i64.wrap ((IntKind.i64.wrap (n_ + 1)) + v18)) (IntKind.i64.wrap (i + 1)) w2)))))))) ∧
  ((decide (i < ((l_.len : Nat) : Int))) = false → (R false w1))

def F_towpathlaw14_beyond (l_ : Slc) (R : Bool → World → Prop) (w : World) : Prop :=
  ∃ (I : Int → Int → World → Prop) (μ : Int → Int → World → Nat), I 0 0 w ∧
  ∀ (n_ : Int) (i : Int) w, I n_ i w → F_towpathlaw14_beyond_L0 l_ R (fun (n_' : Int) (i' : Int) w' => I n_' i' w' ∧ μ n_' i' w' < μ n_ i w) n_ i w

def F_lane_New_k0 (number : Int) (R : Option Addr → Int → World → Prop) (b_ : Nat) (t10 : Bool) (w3 : World) : Prop :=
  (t10 = true → (R none 1 w3)) ∧
  (t10 = false → (∃ (v20 : T_api_Config), CellsAt w3 b_ 0 [Value.int .i64 v20.Lanes, Value.int .i64 v20.Shards, Value.int .i64 v20.Window, Value.int .i64 v20.Queue] ∧ (∀ b_1 w4, b_1 = w3.heap.size → w4 = w3.alloc (Obj.cells ([Value.int .i64 number, Value.int .i64 v20.Lanes, Value.int .i64 v20.Shards, Value.int .i64 v20.Window, Value.int .i64 v20.Queue, Value.iface 96 (Value.agg #[])]).toArray ty_lane_Lane (0, 0)) → (R (some ⟨b_1, 0, none⟩) 0 w4))))

def F_lane_New (number : Int) (c : T_api_Config) (R : Option Addr → Int → World → Prop) (w : World) : Prop :=
  ∀ b_ w1, b_ = w.heap.size → w1 = w.alloc (Obj.cells ([Value.int .i64 c.Lanes, Value.int .i64 c.Shards, Value.int .i64 c.Window, Value.int .i64 c.Queue]).toArray ty_api_Config (0, 0)) → (∃ (v7 : T_api_Config), CellsAt w1 b_ 0 [Value.int .i64 v7.Lanes, Value.int .i64 v7.Shards, Value.int .i64 v7.Window, Value.int .i64 v7.Queue] ∧ (C_conf_Check v7 w1 (fun (v8 : Int) w2 => ((v8 != 0) = true → (R none 7 w2)) ∧
  ((v8 != 0) = false → (((decide (number < 1)) = true → (F_lane_New_k0 number R b_ true w2)) ∧
  ((decide (number < 1)) = false → (∃ (v16 : Int), w2.cell? ⟨b_, 0, none⟩ = some (Value.int .i64 v16) ∧ (F_lane_New_k0 number R b_ (decide (number > v16)) w2))))))))

def F_towpathref14_New_k0 (number : Int) (R : Option Addr → Int → World → Prop) (b_ : Nat) (t16 : Bool) (w3 : World) : Prop :=
  (t16 = true → (R none 1 w3)) ∧
  (t16 = false → (∃ (v18 : T_api_Config), CellsAt w3 b_ 0 [Value.int .i64 v18.Lanes, Value.int .i64 v18.Shards, Value.int .i64 v18.Window, Value.int .i64 v18.Queue] ∧ (∀ b_1 w4, b_1 = w3.heap.size → w4 = w3.alloc (Obj.cells ([Value.int .i64 number, Value.int .i64 v18.Lanes, Value.int .i64 v18.Shards, Value.int .i64 v18.Window, Value.int .i64 v18.Queue, Value.int .i64 0, Value.slice none 0 0, Value.int .i64 0, Value.int .i64 0]).toArray ty_towpathref14_Lane (0, 0)) → (R (some ⟨b_1, 0, none⟩) 0 w4))))

def F_towpathref14_New (number : Int) (c : T_api_Config) (R : Option Addr → Int → World → Prop) (w : World) : Prop :=
  ∀ b_ w1, b_ = w.heap.size → w1 = w.alloc (Obj.cells ([Value.int .i64 c.Lanes, Value.int .i64 c.Shards, Value.int .i64 c.Window, Value.int .i64 c.Queue]).toArray ty_api_Config (0, 0)) → (∃ (v6 : T_api_Config), CellsAt w1 b_ 0 [Value.int .i64 v6.Lanes, Value.int .i64 v6.Shards, Value.int .i64 v6.Window, Value.int .i64 v6.Queue] ∧ (C_towpathref13_Check v6 w1 (fun (v7 : Int) w2 => ((v7 != 0) = true → (R none 7 w2)) ∧
  ((v7 != 0) = false → (((decide (number < 1)) = true → (F_towpathref14_New_k0 number R b_ true w2)) ∧
  ((decide (number < 1)) = false → (∃ (v14 : Int), w2.cell? ⟨b_, 0, none⟩ = some (Value.int .i64 v14) ∧ (F_towpathref14_New_k0 number R b_ (decide (number > v14)) w2))))))))

def F_towpathlaw14_asked_k0 (l_ : Option Addr) (r : Option Addr) (R : Bool → World → Prop) (ok : Bool) (w2 : World) : Prop :=
  C_lane_Lane_Next l_ w2 (fun (s : Int) (v89_1 : T_api_Req) (more : Bool) w3 => ∀ b_1 w4, b_1 = w3.heap.size → w4 = w3.alloc (Obj.cells ([Value.int .u8 0, Value.int .i64 0, Value.int .i64 0, Value.string ByteArray.empty, Value.string ByteArray.empty, Value.bool false, Value.string ByteArray.empty, Value.string ByteArray.empty, Value.slice none 0 0]).toArray ty_api_Req (0, 0)) → (Writable w4 b_1 0 9 ∧ (∀ w5, w5 = World.puts b_1 0 [Value.int .u8 v89_1.Kind, Value.int .i64 v89_1.From, Value.int .i64 v89_1.Number, Value.string v89_1.Write.Key, Value.string v89_1.Write.Val, Value.bool v89_1.Write.Drop, Value.string v89_1.Key, Value.string v89_1.End, Value.slice v89_1.Beyond.ptr v89_1.Beyond.len v89_1.Beyond.cap] w4 → (C_towpathref14_Lane_Next r w5 (fun (shard : Int) (v95_1 : T_api_Req) (is : Bool) w6 => ∀ b_2 w7, b_2 = w6.heap.size → w7 = w6.alloc (Obj.cells ([Value.int .u8 0, Value.int .i64 0, Value.int .i64 0, Value.string ByteArray.empty, Value.string ByteArray.empty, Value.bool false, Value.string ByteArray.empty, Value.string ByteArray.empty, Value.slice none 0 0]).toArray ty_api_Req (0, 0)) → (Writable w7 b_2 0 9 ∧ (∀ w8, w8 = World.puts b_2 0 [Value.int .u8 v95_1.Kind, Value.int .i64 v95_1.From, Value.int .i64 v95_1.Number, Value.string v95_1.Write.Key, Value.string v95_1.Write.Val, Value.bool v95_1.Write.Drop, Value.string v95_1.Key, Value.string v95_1.End, Value.slice v95_1.Beyond.ptr v95_1.Beyond.len v95_1.Beyond.cap] w7 → ((((ok && (s == shard)) && (more == is)) = true → (∃ (v111 : T_api_Req), CellsAt w8 b_1 0 [Value.int .u8 v111.Kind, Value.int .i64 v111.From, Value.int .i64 v111.Number, Value.string v111.Write.Key, Value.string v111.Write.Val, Value.bool v111.Write.Drop, Value.string v111.Key, Value.string v111.End, Value.slice v111.Beyond.ptr v111.Beyond.len v111.Beyond.cap] ∧ (∃ (v112 : T_api_Req), CellsAt w8 b_2 0 [Value.int .u8 v112.Kind, Value.int .i64 v112.From, Value.int .i64 v112.Number, Value.string v112.Write.Key, Value.string v112.Write.Val, Value.bool v112.Write.Drop, Value.string v112.Key, Value.string v112.End, Value.slice v112.Beyond.ptr v112.Beyond.len v112.Beyond.cap] ∧ (C_towpathlaw01_SameReq v111 v112 w8 (fun (v113 : Bool) w9 => (v113 = true → (C_lane_Lane_Holds l_ w9 (fun (v117 : Int) w10 => C_towpathref14_Lane_Holds r w10 (fun (v119 : Int) w11 => ((v117 == v119) = true → (C_lane_Lane_Ready l_ w11 (fun (v124 : Bool) w12 => C_towpathref14_Lane_Ready r w12 (fun (v126 : Bool) w13 => R (v124 == v126) w13)))) ∧
  ((v117 == v119) = false → (R false w11)))))) ∧
  (v113 = false → (R false w9))))))) ∧
  (((ok && (s == shard)) && (more == is)) = false → (R false w8))))))))))

def F_towpathlaw14_asked_L2 (l_ : Option Addr) (r : Option Addr) (R : Bool → World → Prop) (b_3 : Nat) (ok1 : Bool) (again_ : Int → World → Prop) (i : Int) (w18 : World) : Prop :=
  ∃ (v43 : Slc), w18.cell? ⟨b_3, 1, none⟩ = some (Value.slice v43.ptr v43.len v43.cap) ∧ (((decide (i < ((v43.len : Nat) : Int))) = true → (∃ (v49 : Slc), w18.cell? ⟨b_3, 1, none⟩ = some (Value.slice v49.ptr v49.len v49.cap) ∧ (IsAt v49.ptr ∧ (0 ≤ i ∧ i < ((v49.len : Nat) : Int) ∧ (Writable w18 (pblk v49.ptr) ((poff v49.ptr) + i.toNat * 3) 3 ∧ (∀ w19, w19 = World.puts (pblk v49.ptr) ((poff v49.ptr) + i.toNat * 3) [Value.string (ByteArray.mk #[122, 122]), Value.string (ByteArray.mk #[115, 112, 111, 105, 108, 116]), Value.bool false] w18 → (again_ (IntKind.i64.wrap (i + 1)) w19))))))) ∧
  ((decide (i < ((v43.len : Nat) : Int))) = false → (F_towpathlaw14_asked_k0 l_ r R ok1 w18)))

def F_towpathlaw14_asked_k1 (l_ : Option Addr) (r : Option Addr) (R : Bool → World → Prop) (b_3 : Nat) (ok1 : Bool) (w17 : World) : Prop :=
  ∃ (I : Int → World → Prop) (μ : Int → World → Nat), I 0 w17 ∧
  ∀ (i : Int) w, I i w → F_towpathlaw14_asked_L2 l_ r R b_3 ok1 (fun (i' : Int) w' => I i' w' ∧ μ i' w' < μ i w) i w

def F_towpathlaw14_asked (l_ : Option Addr) (r : Option Addr) (o_ : T_towpathlaw14_Op) (R : Bool → World → Prop) (w : World) : Prop :=
  ∀ b_ w1, b_ = w.heap.size → w1 = w.alloc (Obj.cells ([Value.int .u8 o_.Kind, Value.int .i64 o_.Txn.Number, Value.slice o_.Txn.Writes.ptr o_.Txn.Writes.len o_.Txn.Writes.cap]).toArray ty_towpathlaw14_Op (0, 0)) → (∃ (v21 : Int), w1.cell? ⟨b_, 0, none⟩ = some (Value.int .u8 v21) ∧ (((v21 == 1) = true → (∃ (v25 : T_api_Txn), CellsAt w1 b_ 1 [Value.int .i64 v25.Number, Value.slice v25.Writes.ptr v25.Writes.len v25.Writes.cap] ∧ (C_towpathlaw01_TwinTxn v25 w1 (fun (v26 : T_api_Txn) w14 => ∀ b_3 w15, b_3 = w14.heap.size → w15 = w14.alloc (Obj.cells ([Value.int .i64 0, Value.slice none 0 0]).toArray ty_api_Txn (0, 0)) → (Writable w15 b_3 0 2 ∧ (∀ w16, w16 = World.puts b_3 0 [Value.int .i64 v26.Number, Value.slice v26.Writes.ptr v26.Writes.len v26.Writes.cap] w15 → (∀ w20, (∃ k, w20 = w16.drewN k) → (∃ (v28 : T_api_Txn), CellsAt w20 b_3 0 [Value.int .i64 v28.Number, Value.slice v28.Writes.ptr v28.Writes.len v28.Writes.cap] ∧ (∃ (v32 : T_api_Txn), CellsAt w20 b_ 1 [Value.int .i64 v32.Number, Value.slice v32.Writes.ptr v32.Writes.len v32.Writes.cap] ∧ (C_lane_Lane_Take l_ v28 w20 (fun (v29 : Int) w21 => CellsAt w21 b_ 1 [Value.int .i64 v32.Number, Value.slice v32.Writes.ptr v32.Writes.len v32.Writes.cap] ∧ (C_towpathref14_Lane_Take r v32 w21 (fun (v33 : Int) w22 => (((v29 == v33) = true → (∃ (v36 : T_api_Txn), CellsAt w22 b_3 0 [Value.int .i64 v36.Number, Value.slice v36.Writes.ptr v36.Writes.len v36.Writes.cap] ∧ (∃ (v38 : T_api_Txn), CellsAt w22 b_ 1 [Value.int .i64 v38.Number, Value.slice v38.Writes.ptr v38.Writes.len v38.Writes.cap] ∧ (C_towpathlaw01_LeftTxn v36 v38 w22 (fun (v39 : Bool) w23 => (F_towpathlaw14_asked_k1 l_ r R b_3 v39 w23)))))) ∧
  ((v29 == v33) = false → (F_towpathlaw14_asked_k1 l_ r R b_3 false w22)))))))))))))))) ∧
  ((v21 == 1) = false → (((v21 == 2) = true → (C_lane_Lane_Sent l_ w1 (fun (v56 : Int) w24 => C_towpathref14_Lane_Sent r w24 (fun (v58 : Int) w25 => F_towpathlaw14_asked_k0 l_ r R (v56 == v58) w25)))) ∧
  ((v21 == 2) = false → (((v21 == 3) = true → (C_lane_Lane_Acked l_ w1 (fun (v63 : Int) w26 => C_towpathref14_Lane_Acked r w26 (fun (v65 : Int) w27 => F_towpathlaw14_asked_k0 l_ r R (v63 == v65) w27)))) ∧
  ((v21 == 3) = false → (((v21 == 4) = true → (C_lane_Lane_Done l_ w1 (fun (n_ : Int) (e : Int) w28 => C_towpathref14_Lane_Done r w28 (fun (m_ : Int) (f : Int) w29 => F_towpathlaw14_asked_k0 l_ r R ((n_ == m_) && (e == f)) w29)))) ∧
  ((v21 == 4) = false → (F_towpathlaw14_asked_k0 l_ r R true w1))))))))))

def F_towpathlaw14_alive_k0 (R : Bool → World → Prop) (l_ : Option Addr) (t42 : Bool) (w5 : World) : Prop :=
  (t42 = true → (R false w5)) ∧
  (t42 = false → (C_lane_Lane_Next l_ w5 (fun (s : Int) (v45_1 : T_api_Req) (ok : Bool) w6 => ∀ b_1 w7, b_1 = w6.heap.size → w7 = w6.alloc (Obj.cells ([Value.int .u8 0, Value.int .i64 0, Value.int .i64 0, Value.string ByteArray.empty, Value.string ByteArray.empty, Value.bool false, Value.string ByteArray.empty, Value.string ByteArray.empty, Value.slice none 0 0]).toArray ty_api_Req (0, 0)) → (Writable w7 b_1 0 9 ∧ (∀ w8, w8 = World.puts b_1 0 [Value.int .u8 v45_1.Kind, Value.int .i64 v45_1.From, Value.int .i64 v45_1.Number, Value.string v45_1.Write.Key, Value.string v45_1.Write.Val, Value.bool v45_1.Write.Drop, Value.string v45_1.Key, Value.string v45_1.End, Value.slice v45_1.Beyond.ptr v45_1.Beyond.len v45_1.Beyond.cap] w7 → (C_lane_Lane_Done l_ w8 (fun (v51 : Int) (g : Int) w9 => ((ok && (s == 0)) = true → (∃ (v61 : T_api_Write), CellsAt w9 b_1 3 [Value.string v61.Key, Value.string v61.Val, Value.bool v61.Drop] ∧ (((((v61.Key == (ByteArray.mk #[98])) && (v61.Val == (ByteArray.mk #[50]))) && (v61.Drop == false)) = true → (∃ (v67 : Int), w9.cell? ⟨b_1, 1, none⟩ = some (Value.int .i64 v67) ∧ (((v67 == 1) = true → (∃ (v72 : Int), w9.cell? ⟨b_1, 2, none⟩ = some (Value.int .i64 v72) ∧ (((v72 == 4) = true → (C_lane_Lane_Holds l_ w9 (fun (v77 : Int) w10 => R ((v77 == 4) && (g == 10)) w10))) ∧
  ((v72 == 4) = false → (R false w9))))) ∧
  ((v67 == 1) = false → (R false w9))))) ∧
  ((((v61.Key == (ByteArray.mk #[98])) && (v61.Val == (ByteArray.mk #[50]))) && (v61.Drop == false)) = false → (R false w9))))) ∧
  ((ok && (s == 0)) = false → (R false w9)))))))))

def F_towpathlaw14_alive (R : Bool → World → Prop) (w : World) : Prop :=
  ∀ b_ w1, b_ = w.heap.size → w1 = w.alloc (Obj.cells ([Value.int .i64 0, Value.int .i64 0, Value.int .i64 0, Value.int .i64 0]).toArray ty_api_Config (0, 0)) → (Writable w1 b_ 0 4 ∧ (∀ w2, w2 = World.puts b_ 0 [Value.int .i64 1, Value.int .i64 1, Value.int .i64 1, Value.int .i64 1] w1 → (∃ (v13 : T_api_Config), CellsAt w2 b_ 0 [Value.int .i64 v13.Lanes, Value.int .i64 v13.Shards, Value.int .i64 v13.Window, Value.int .i64 v13.Queue] ∧ (C_lane_New 1 v13 w2 (fun (l_ : Option Addr) (e : Int) w3 => ∃ (v18 : T_api_Config), CellsAt w3 b_ 0 [Value.int .i64 v18.Lanes, Value.int .i64 v18.Shards, Value.int .i64 v18.Window, Value.int .i64 v18.Queue] ∧ (C_lane_New 2 v18 w3 (fun (v19 : Option Addr) (f : Int) w4 => (((e != 0) || (f != 1)) = true → (F_towpathlaw14_alive_k0 R l_ true w4)) ∧
  (((e != 0) || (f != 1)) = false → (C_lane_Lane_Sent l_ w4 (fun (v30 : Int) w11 => ((v30 != 9) = true → (F_towpathlaw14_alive_k0 R l_ true w11)) ∧
  ((v30 != 9) = false → (∀ b_2 w12, b_2 = w11.heap.size → w12 = w11.alloc (Obj.cells ([Value.string (ByteArray.mk #[97]), Value.string (ByteArray.mk #[49]), Value.bool false, Value.string (ByteArray.mk #[98]), Value.string (ByteArray.mk #[50]), Value.bool false, Value.string (ByteArray.mk #[97]), Value.string ByteArray.empty, Value.bool true]).toArray ty_api_Write (0, 0)) → (C_lane_Lane_Take l_ (T_api_Txn.mk 4 (Slc.mk (some ⟨b_2, 0, none⟩) 3 3)) w12 (fun (v40 : Int) w13 => F_towpathlaw14_alive_k0 R l_ (v40 != 0) w13))))))))))))))

def F_conf_Check_k1 (R : Int → World → Prop) (t19 : Int) (again_ : Int → World → Prop) (t32 : Bool) (w6 : World) : Prop :=
  (t32 = true → (R 7 w6)) ∧
  (t32 = false → (again_ (IntKind.i64.wrap (t19 + 1)) w6))

def F_conf_Check_L0 (R : Int → World → Prop) (b_1 : Nat) (again_ : Int → World → Prop) (t19 : Int) (w3 : World) : Prop :=
  ((decide (t19 < ((4 : Nat) : Int))) = true → (0 ≤ t19 ∧ t19 < (4 : Int) ∧ (∃ (v22 : Arr2_Int), CellsAt w3 b_1 (0 + t19.toNat * 2) [Value.int .i64 v22.e0, Value.int .i64 v22.e1] ∧ (∀ b_2 w4, b_2 = w3.heap.size → w4 = w3.alloc (Obj.cells ([Value.int .i64 0, Value.int .i64 0]).toArray ty_2_int (0, 0)) → (Writable w4 b_2 0 2 ∧ (∀ w5, w5 = World.puts b_2 0 [Value.int .i64 v22.e0, Value.int .i64 v22.e1] w4 → (0 ≤ (0 : Int) ∧ (0 : Int) < (2 : Int) ∧ (∃ (v24 : Int), w5.cell? ⟨b_2, 0, none⟩ = some (Value.int .i64 v24) ∧ (((decide (v24 < 1)) = true → (F_conf_Check_k1 R t19 again_ true w5)) ∧
  ((decide (v24 < 1)) = false → (0 ≤ (0 : Int) ∧ (0 : Int) < (2 : Int) ∧ (∃ (v28 : Int), w5.cell? ⟨b_2, 0, none⟩ = some (Value.int .i64 v28) ∧ (0 ≤ (1 : Int) ∧ (1 : Int) < (2 : Int) ∧ (∃ (v30 : Int), w5.cell? ⟨b_2, 1, none⟩ = some (Value.int .i64 v30) ∧ (F_conf_Check_k1 R t19 again_ (decide (v28 > v30)) w5))))))))))))))) ∧
  ((decide (t19 < ((4 : Nat) : Int))) = false → (R 0 w3))

def F_conf_Check (c : T_api_Config) (R : Int → World → Prop) (w : World) : Prop :=
  ∀ b_ w1, b_ = w.heap.size → w1 = w.alloc (Obj.cells ([Value.int .i64 c.Lanes, Value.int .i64 c.Shards, Value.int .i64 c.Window, Value.int .i64 c.Queue]).toArray ty_api_Config (0, 0)) → (∃ (v6 : Int), w1.cell? ⟨b_, 0, none⟩ = some (Value.int .i64 v6) ∧ (∃ (v9 : Int), w1.cell? ⟨b_, 1, none⟩ = some (Value.int .i64 v9) ∧ (∃ (v12 : Int), w1.cell? ⟨b_, 2, none⟩ = some (Value.int .i64 v12) ∧ (∃ (v15 : Int), w1.cell? ⟨b_, 3, none⟩ = some (Value.int .i64 v15) ∧ (∀ b_1 w2, b_1 = w1.heap.size → w2 = w1.alloc (Obj.cells ([Value.int .i64 v6, Value.int .i64 16, Value.int .i64 v9, Value.int .i64 16, Value.int .i64 v12, Value.int .i64 64, Value.int .i64 v15, Value.int .i64 16]).toArray ty_2_int (0, 0)) → (∃ (I : Int → World → Prop) (μ : Int → World → Nat), I 0 w2 ∧
  ∀ (t19 : Int) w, I t19 w → F_conf_Check_L0 R b_1 (fun (t19' : Int) w' => I t19' w' ∧ μ t19' w' < μ t19 w) t19 w))))))

def F_lane_Lane_Take (l_ : Option Addr) (t_ : T_api_Txn) (R : Int → World → Prop) (w : World) : Prop :=
  ∀ b_ w1, b_ = w.heap.size → w1 = w.alloc (Obj.cells ([Value.int .i64 t_.Number, Value.slice t_.Writes.ptr t_.Writes.len t_.Writes.cap]).toArray ty_api_Txn (0, 0)) → (C_lane_Lane_gone l_ w1 (fun (v9 : Bool) w2 => (v9 = true → (R 2 w2)) ∧
  (v9 = false → (C_lane_Lane_busy l_ w2 (fun (v12 : Option Addr) (ok : Bool) w3 => (ok = true → (R 10 w3)) ∧
  (ok = false → (∃ (v16 : T_api_Txn), CellsAt w3 b_ 0 [Value.int .i64 v16.Number, Value.slice v16.Writes.ptr v16.Writes.len v16.Writes.cap] ∧ (C_record_Check v16 w3 (fun (v17 : Int) w4 => ((v17 != 0) = true → (R v17 w4)) ∧
  ((v17 != 0) = false → (∀ w5, (∃ k, w5 = w4.drewN k) → (∃ (v23 : Int), w5.cell? ⟨b_, 0, none⟩ = some (Value.int .i64 v23) ∧ (∃ (v24 : T_api_Txn), CellsAt w5 b_ 0 [Value.int .i64 v24.Number, Value.slice v24.Writes.ptr v24.Writes.len v24.Writes.cap] ∧ (C_lane_counting v24 w5 (fun (v25 : Slc) w6 => w6.cell? ⟨b_, 0, none⟩ = some (Value.int .i64 v23) ∧ (∀ b_1 w7, b_1 = w6.heap.size → w7 = w6.alloc (Obj.cells ([Value.int .i64 v23, Value.slice v25.ptr v25.len v25.cap, Value.int .i64 0]).toArray ty_lane_busy (0, 0)) → ((IsAt l_ ∧ (Writable w7 (pblk l_) ((poff l_) + 5) 1 ∧ (∀ w8, w8 = World.puts (pblk l_) ((poff l_) + 5) [Value.iface 102 (Value.pointer (some ⟨b_1, 0, none⟩))] w7 → ((R 0 w8))))))))))))))))))))))

def F_record_Check_k0 (R : Int → World → Prop) (t23 : Bool) (w2 : World) : Prop :=
  (t23 = true → (R 1 w2)) ∧
  (t23 = false → (R 0 w2))

def F_record_Check (t_ : T_api_Txn) (R : Int → World → Prop) (w : World) : Prop :=
  ∀ b_ w1, b_ = w.heap.size → w1 = w.alloc (Obj.cells ([Value.int .i64 t_.Number, Value.slice t_.Writes.ptr t_.Writes.len t_.Writes.cap]).toArray ty_api_Txn (0, 0)) → (∃ (v5 : Int), w1.cell? ⟨b_, 0, none⟩ = some (Value.int .i64 v5) ∧ (((decide (v5 < 1)) = true → (F_record_Check_k0 R true w1)) ∧
  ((decide (v5 < 1)) = false → (∃ (v9 : Int), w1.cell? ⟨b_, 0, none⟩ = some (Value.int .i64 v9) ∧ (((decide (v9 > 65536)) = true → (F_record_Check_k0 R true w1)) ∧
  ((decide (v9 > 65536)) = false → (∃ (v14 : Slc), w1.cell? ⟨b_, 1, none⟩ = some (Value.slice v14.ptr v14.len v14.cap) ∧ (((decide (((v14.len : Nat) : Int) > 32)) = true → (F_record_Check_k0 R true w1)) ∧
  ((decide (((v14.len : Nat) : Int) > 32)) = false → (∃ (v20 : Slc), w1.cell? ⟨b_, 1, none⟩ = some (Value.slice v20.ptr v20.len v20.cap) ∧ (C_slices_ContainsFunc_api_Write_api_Write v20 (Value.func (.func 62) #[] #[]) w1 (fun (v22 : Bool) w3 => F_record_Check_k0 R v22 w3))))))))))))

def F_lane_Lane_Holds (l_ : Option Addr) (R : Int → World → Prop) (w : World) : Prop :=
  C_lane_Lane_busy l_ w (fun (b_ : Option Addr) (ok : Bool) w1 => (ok = true → (IsAt b_ ∧ (∃ (v14 : Int), w1.cell? ⟨(pblk b_), (poff b_), none⟩ = some (Value.int .i64 v14) ∧ (R v14 w1)))) ∧
  (ok = false → (R 0 w1)))

def F_lane_Lane_Next_k0 (l_ : Option Addr) (R : Int → T_api_Req → Bool → World → Prop) (b_ : Nat) (w_ : Option Addr) (ok : Bool) (w4 : World) : Prop :=
  ((!ok) = true → (Writable w4 b_ 0 9 ∧ (∀ w5, w5 = World.puts b_ 0 [Value.int .u8 0, Value.int .i64 0, Value.int .i64 0, Value.string ByteArray.empty, Value.string ByteArray.empty, Value.bool false, Value.string ByteArray.empty, Value.string ByteArray.empty, Value.slice none 0 0] w4 → (∃ (res1 : T_api_Req), CellsAt w5 b_ 0 [Value.int .u8 res1.Kind, Value.int .i64 res1.From, Value.int .i64 res1.Number, Value.string res1.Write.Key, Value.string res1.Write.Val, Value.bool res1.Write.Drop, Value.string res1.Key, Value.string res1.End, Value.slice res1.Beyond.ptr res1.Beyond.len res1.Beyond.cap] ∧ (R 0 res1 false w5))))) ∧
  ((!ok) = false → (∀ w6, (∃ k, w6 = w4.drewN k) → (IsAt l_ ∧ (∃ (v27 : T_api_Config), CellsAt w6 (pblk l_) ((poff l_) + 1) [Value.int .i64 v27.Lanes, Value.int .i64 v27.Shards, Value.int .i64 v27.Window, Value.int .i64 v27.Queue] ∧ (IsAt w_ ∧ (∃ (v29 : ByteArray), w6.cell? ⟨(pblk w_), (poff w_), none⟩ = some (Value.string v29) ∧ (C_conf_Shard v27 v29 w6 (fun (s : Int) (v30_1 : Int) w7 => (∀ w8, (∃ k, w8 = w7.drewN k) → (IsAt l_ ∧ (∃ (v37 : Int), w8.cell? ⟨(pblk l_), (poff l_), none⟩ = some (Value.int .i64 v37) ∧ (IsAt w_ ∧ (∃ (v40 : T_api_Write), CellsAt w8 (pblk w_) (poff w_) [Value.string v40.Key, Value.string v40.Val, Value.bool v40.Drop] ∧ (C_lane_Lane_Holds l_ w8 (fun (v39 : Int) w9 => CellsAt w9 (pblk w_) (poff w_) [Value.string v40.Key, Value.string v40.Val, Value.bool v40.Drop] ∧ w9.cell? ⟨(pblk l_), (poff l_), none⟩ = some (Value.int .i64 v37) ∧ (Writable w9 b_ 0 9 ∧ (∀ w10, w10 = World.puts b_ 0 [Value.int .u8 1, Value.int .i64 v37, Value.int .i64 v39, Value.string v40.Key, Value.string v40.Val, Value.bool v40.Drop, Value.string ByteArray.empty, Value.string ByteArray.empty, Value.slice none 0 0] w9 → ((∃ (res2 : T_api_Req), CellsAt w10 b_ 0 [Value.int .u8 res2.Kind, Value.int .i64 res2.From, Value.int .i64 res2.Number, Value.string res2.Write.Key, Value.string res2.Write.Val, Value.bool res2.Write.Drop, Value.string res2.Key, Value.string res2.End, Value.slice res2.Beyond.ptr res2.Beyond.len res2.Beyond.cap] ∧ (R s res2 true w10))))))))))))))))))))

def F_lane_Lane_Next (l_ : Option Addr) (R : Int → T_api_Req → Bool → World → Prop) (w : World) : Prop :=
  ∀ b_ w1, b_ = w.heap.size → w1 = w.alloc (Obj.cells ([Value.int .u8 0, Value.int .i64 0, Value.int .i64 0, Value.string ByteArray.empty, Value.string ByteArray.empty, Value.bool false, Value.string ByteArray.empty, Value.string ByteArray.empty, Value.slice none 0 0]).toArray ty_api_Req (0, 0)) → (C_lane_Lane_gone l_ w1 (fun (v10 : Bool) w2 => (v10 = true → (Writable w2 b_ 0 9 ∧ (∀ w3, w3 = World.puts b_ 0 [Value.int .u8 0, Value.int .i64 0, Value.int .i64 0, Value.string ByteArray.empty, Value.string ByteArray.empty, Value.bool false, Value.string ByteArray.empty, Value.string ByteArray.empty, Value.slice none 0 0] w2 → (∃ (res : T_api_Req), CellsAt w3 b_ 0 [Value.int .u8 res.Kind, Value.int .i64 res.From, Value.int .i64 res.Number, Value.string res.Write.Key, Value.string res.Write.Val, Value.bool res.Write.Drop, Value.string res.Key, Value.string res.End, Value.slice res.Beyond.ptr res.Beyond.len res.Beyond.cap] ∧ (R 0 res false w3))))) ∧
  (v10 = false → (IsAt l_ ∧ (∃ (v16 : Value), w2.cell? ⟨(pblk l_), (poff l_) + 5, none⟩ = some (v16) ∧ ((∃ (r : T_lane_none), v16 = Value.iface 96 (Value.agg #[]) ∧ (C_lane_none_next (T_lane_none.mk ) w2 (fun (v17 : T_api_Write) (ok1 : Bool) w11 => ∀ b_1 w12, b_1 = w11.heap.size → w12 = w11.alloc (Obj.cells ([Value.string ByteArray.empty, Value.string ByteArray.empty, Value.bool false]).toArray ty_api_Write (0, 0)) → (Writable w12 b_1 0 3 ∧ (∀ w13, w13 = World.puts b_1 0 [Value.string v17.Key, Value.string v17.Val, Value.bool v17.Drop] w12 → (F_lane_Lane_Next_k0 l_ R b_ (some ⟨b_1, 0, none⟩) ok1 w13)))))) ∨
  (∃ (r1 : Option Addr), v16 = Value.iface 102 (Value.pointer r1) ∧ (C_lane_busy_next r1 w2 (fun (v171 : T_api_Write) (ok2 : Bool) w14 => ∀ b_2 w15, b_2 = w14.heap.size → w15 = w14.alloc (Obj.cells ([Value.string ByteArray.empty, Value.string ByteArray.empty, Value.bool false]).toArray ty_api_Write (0, 0)) → (Writable w15 b_2 0 3 ∧ (∀ w16, w16 = World.puts b_2 0 [Value.string v171.Key, Value.string v171.Val, Value.bool v171.Drop] w15 → (F_lane_Lane_Next_k0 l_ R b_ (some ⟨b_2, 0, none⟩) ok2 w16))))))))))))

def F_conf_Shard (c : T_api_Config) (key : ByteArray) (R : Int → Int → World → Prop) (w : World) : Prop :=
  ∀ b_ w1, b_ = w.heap.size → w1 = w.alloc (Obj.cells ([Value.int .i64 c.Lanes, Value.int .i64 c.Shards, Value.int .i64 c.Window, Value.int .i64 c.Queue]).toArray ty_api_Config (0, 0)) → (∃ (v7 : T_api_Config), CellsAt w1 b_ 0 [Value.int .i64 v7.Lanes, Value.int .i64 v7.Shards, Value.int .i64 v7.Window, Value.int .i64 v7.Queue] ∧ (C_conf_Check v7 w1 (fun (v8 : Int) w2 => ((v8 != 0) = true → (R 0 v8 w2)) ∧
  ((v8 != 0) = false → ((((key.toList == ByteArray.empty.toList) || (decide (((key.size : Nat) : Int) > 64))) = true → (R 0 1 w2)) ∧
  (((key.toList == ByteArray.empty.toList) || (decide (((key.size : Nat) : Int) > 64))) = false → (∃ (v20 : Int), (∀ w', Ext w2 w' → C_sum_Hash key w' (fun (v20' : Int) w'' => v20' = v20 ∧ Ext w' w'')) ∧ (∃ (v22 : Int), w2.cell? ⟨b_, 1, none⟩ = some (Value.int .i64 v22) ∧ ((IntKind.u32.wrap v22) ≠ 0 ∧ (∀ w4, Ext w2 w4 → (R (IntKind.i64.wrap (Int.tmod v20 (IntKind.u32.wrap v22))) 0 w4)))))))))))

def F_lane_Lane_Ready (l_ : Option Addr) (R : Bool → World → Prop) (w : World) : Prop :=
  C_lane_Lane_busy l_ w (fun (b_ : Option Addr) (ok : Bool) w1 => (ok = true → (IsAt b_ ∧ (∃ (v15 : Slc), w1.cell? ⟨(pblk b_), (poff b_) + 1, none⟩ = some (Value.slice v15.ptr v15.len v15.cap) ∧ (((((v15.len : Nat) : Int) == 0) = true → (IsAt b_ ∧ (∃ (v23 : Int), w1.cell? ⟨(pblk b_), (poff b_) + 2, none⟩ = some (Value.int .i64 v23) ∧ (R (v23 == 0) w1)))) ∧
  ((((v15.len : Nat) : Int) == 0) = false → (R false w1)))))) ∧
  (ok = false → (R false w1)))

def F_lane_Lane_Sent_k0 (R : Int → World → Prop) (b_ : Option Addr) (t21 : Bool) (w3 : World) : Prop :=
  (t21 = true → (R 9 w3)) ∧
  (t21 = false → (IsAt b_ ∧ (∃ (v26 : Slc), w3.cell? ⟨(pblk b_), (poff b_) + 1, none⟩ = some (Value.slice v26.ptr v26.len v26.cap) ∧ ((0 ≤ (1 : Int) ∧ (1 : Int) ≤ ((v26.len : Nat) : Int) ∧ ((v26.len : Nat) : Int) ≤ ((v26.cap : Nat) : Int) ∧ ((v26.cap : Nat) : Int) ≤ ((v26.cap : Nat) : Int)) ∧ (∀ s, s = Slc.cut 3 v26 1 ((v26.len : Nat) : Int) ((v26.cap : Nat) : Int) → (IsAt b_ ∧ (Writable w3 (pblk b_) ((poff b_) + 1) 1 ∧ (∀ w4, w4 = World.puts (pblk b_) ((poff b_) + 1) [Value.slice s.ptr s.len s.cap] w3 → (IsAt b_ ∧ (∃ (v33 : Int), w4.cell? ⟨(pblk b_), (poff b_) + 2, none⟩ = some (Value.int .i64 v33) ∧ (Writable w4 (pblk b_) ((poff b_) + 2) 1 ∧ (∀ w5, w5 = World.puts (pblk b_) ((poff b_) + 2) [Value.int .i64 (IntKind.i64.wrap (v33 + 1))] w4 → (R 0 w5)))))))))))))

def F_lane_Lane_Sent (l_ : Option Addr) (R : Int → World → Prop) (w : World) : Prop :=
  C_lane_Lane_gone l_ w (fun (v6 : Bool) w1 => (v6 = true → (R 2 w1)) ∧
  (v6 = false → (C_lane_Lane_busy l_ w1 (fun (b_ : Option Addr) (ok : Bool) w2 => ((!ok) = true → (F_lane_Lane_Sent_k0 R b_ true w2)) ∧
  ((!ok) = false → (IsAt b_ ∧ (∃ (v18 : Slc), w2.cell? ⟨(pblk b_), (poff b_) + 1, none⟩ = some (Value.slice v18.ptr v18.len v18.cap) ∧ (F_lane_Lane_Sent_k0 R b_ (((v18.len : Nat) : Int) == 0) w2))))))))

def F_lane_Lane_Acked_k0 (R : Int → World → Prop) (b_ : Option Addr) (t20 : Bool) (w3 : World) : Prop :=
  (t20 = true → (R 9 w3)) ∧
  (t20 = false → (IsAt b_ ∧ (∃ (v24 : Int), w3.cell? ⟨(pblk b_), (poff b_) + 2, none⟩ = some (Value.int .i64 v24) ∧ (Writable w3 (pblk b_) ((poff b_) + 2) 1 ∧ (∀ w4, w4 = World.puts (pblk b_) ((poff b_) + 2) [Value.int .i64 (IntKind.i64.wrap (v24 - 1))] w3 → (R 0 w4))))))

def F_lane_Lane_Acked (l_ : Option Addr) (R : Int → World → Prop) (w : World) : Prop :=
  C_lane_Lane_gone l_ w (fun (v6 : Bool) w1 => (v6 = true → (R 2 w1)) ∧
  (v6 = false → (C_lane_Lane_busy l_ w1 (fun (b_ : Option Addr) (ok : Bool) w2 => ((!ok) = true → (F_lane_Lane_Acked_k0 R b_ true w2)) ∧
  ((!ok) = false → (IsAt b_ ∧ (∃ (v18 : Int), w2.cell? ⟨(pblk b_), (poff b_) + 2, none⟩ = some (Value.int .i64 v18) ∧ (F_lane_Lane_Acked_k0 R b_ (v18 == 0) w2))))))))

def F_lane_Lane_Done (l_ : Option Addr) (R : Int → Int → World → Prop) (w : World) : Prop :=
  C_lane_Lane_gone l_ w (fun (v7 : Bool) w1 => (v7 = true → (R 0 2 w1)) ∧
  (v7 = false → (C_lane_Lane_busy l_ w1 (fun (b_ : Option Addr) (ok : Bool) w2 => ((!ok) = true → (R 0 9 w2)) ∧
  ((!ok) = false → (C_lane_Lane_Ready l_ w2 (fun (v18 : Bool) w3 => ((!v18) = true → (R 0 10 w3)) ∧
  ((!v18) = false → (IsAt l_ ∧ (Writable w3 (pblk l_) ((poff l_) + 5) 1 ∧ (∀ w4, w4 = World.puts (pblk l_) ((poff l_) + 5) [Value.iface 96 (Value.agg #[])] w3 → (IsAt b_ ∧ (∃ (v28 : Int), w4.cell? ⟨(pblk b_), (poff b_), none⟩ = some (Value.int .i64 v28) ∧ (R v28 0 w4))))))))))))))

def F_towpathlaw01_TxnSize (t_ : T_api_Txn) (R : Int → World → Prop) (w : World) : Prop :=
  ∀ b_ w1, b_ = w.heap.size → w1 = w.alloc (Obj.cells ([Value.int .i64 t_.Number, Value.slice t_.Writes.ptr t_.Writes.len t_.Writes.cap]).toArray ty_api_Txn (0, 0)) → (∃ (v4 : Slc), w1.cell? ⟨b_, 1, none⟩ = some (Value.slice v4.ptr v4.len v4.cap) ∧ (C_towpathlaw01_WritesSize v4 w1 (fun (v5 : Int) w2 => R (IntKind.i64.wrap (1 + v5)) w2)))

def F_towpathlaw01_SameReq (a_ : T_api_Req) (b_ : T_api_Req) (R : Bool → World → Prop) (w : World) : Prop :=
  ∀ b_1 w1, b_1 = w.heap.size → w1 = w.alloc (Obj.cells ([Value.int .u8 a_.Kind, Value.int .i64 a_.From, Value.int .i64 a_.Number, Value.string a_.Write.Key, Value.string a_.Write.Val, Value.bool a_.Write.Drop, Value.string a_.Key, Value.string a_.End, Value.slice a_.Beyond.ptr a_.Beyond.len a_.Beyond.cap]).toArray ty_api_Req (0, 0)) → (∀ b_2 w2, b_2 = w1.heap.size → w2 = w1.alloc (Obj.cells ([Value.int .u8 b_.Kind, Value.int .i64 b_.From, Value.int .i64 b_.Number, Value.string b_.Write.Key, Value.string b_.Write.Val, Value.bool b_.Write.Drop, Value.string b_.Key, Value.string b_.End, Value.slice b_.Beyond.ptr b_.Beyond.len b_.Beyond.cap]).toArray ty_api_Req (0, 0)) → (∃ (v6 : Int), w2.cell? ⟨b_1, 0, none⟩ = some (Value.int .u8 v6) ∧ (∃ (v8 : Int), w2.cell? ⟨b_2, 0, none⟩ = some (Value.int .u8 v8) ∧ (((v6 == v8) = true → (∃ (v12 : Int), w2.cell? ⟨b_1, 1, none⟩ = some (Value.int .i64 v12) ∧ (∃ (v14 : Int), w2.cell? ⟨b_2, 1, none⟩ = some (Value.int .i64 v14) ∧ (((v12 == v14) = true → (∃ (v19 : Int), w2.cell? ⟨b_1, 2, none⟩ = some (Value.int .i64 v19) ∧ (∃ (v21 : Int), w2.cell? ⟨b_2, 2, none⟩ = some (Value.int .i64 v21) ∧ (((v19 == v21) = true → (∃ (v26 : T_api_Write), CellsAt w2 b_1 3 [Value.string v26.Key, Value.string v26.Val, Value.bool v26.Drop] ∧ (∃ (v28 : T_api_Write), CellsAt w2 b_2 3 [Value.string v28.Key, Value.string v28.Val, Value.bool v28.Drop] ∧ (((((v26.Key == v28.Key) && (v26.Val == v28.Val)) && (v26.Drop == v28.Drop)) = true → (∃ (v33 : ByteArray), w2.cell? ⟨b_1, 6, none⟩ = some (Value.string v33) ∧ (∃ (v35 : ByteArray), w2.cell? ⟨b_2, 6, none⟩ = some (Value.string v35) ∧ (((v33.toList == v35.toList) = true → (∃ (v40 : ByteArray), w2.cell? ⟨b_1, 7, none⟩ = some (Value.string v40) ∧ (∃ (v42 : ByteArray), w2.cell? ⟨b_2, 7, none⟩ = some (Value.string v42) ∧ (((v40.toList == v42.toList) = true → (∃ (v47 : Slc), w2.cell? ⟨b_1, 8, none⟩ = some (Value.slice v47.ptr v47.len v47.cap) ∧ (∃ (v49 : Slc), w2.cell? ⟨b_2, 8, none⟩ = some (Value.slice v49.ptr v49.len v49.cap) ∧ (C_towpathlaw01_SameInts v47 v49 w2 (fun (v50 : Bool) w3 => R v50 w3))))) ∧
  ((v40.toList == v42.toList) = false → (R false w2)))))) ∧
  ((v33.toList == v35.toList) = false → (R false w2)))))) ∧
  ((((v26.Key == v28.Key) && (v26.Val == v28.Val)) && (v26.Drop == v28.Drop)) = false → (R false w2)))))) ∧
  ((v19 == v21) = false → (R false w2)))))) ∧
  ((v12 == v14) = false → (R false w2)))))) ∧
  ((v6 == v8) = false → (R false w2))))))

def F_towpathref13_Check_k0 (R : Int → World → Prop) (t24 : Bool) (w2 : World) : Prop :=
  (t24 = true → (R 7 w2)) ∧
  (t24 = false → (R 0 w2))

def F_towpathref13_Check (c : T_api_Config) (R : Int → World → Prop) (w : World) : Prop :=
  ∀ b_ w1, b_ = w.heap.size → w1 = w.alloc (Obj.cells ([Value.int .i64 c.Lanes, Value.int .i64 c.Shards, Value.int .i64 c.Window, Value.int .i64 c.Queue]).toArray ty_api_Config (0, 0)) → (∃ (v4 : Int), w1.cell? ⟨b_, 0, none⟩ = some (Value.int .i64 v4) ∧ (C_towpathref13_in v4 16 w1 (fun (v5 : Bool) w3 => ((!v5) = true → (F_towpathref13_Check_k0 R true w3)) ∧
  ((!v5) = false → (∃ (v9 : Int), w3.cell? ⟨b_, 1, none⟩ = some (Value.int .i64 v9) ∧ (C_towpathref13_in v9 16 w3 (fun (v10 : Bool) w4 => ((!v10) = true → (F_towpathref13_Check_k0 R true w4)) ∧
  ((!v10) = false → (∃ (v15 : Int), w4.cell? ⟨b_, 2, none⟩ = some (Value.int .i64 v15) ∧ (C_towpathref13_in v15 64 w4 (fun (v16 : Bool) w5 => ((!v16) = true → (F_towpathref13_Check_k0 R true w5)) ∧
  ((!v16) = false → (∃ (v21 : Int), w5.cell? ⟨b_, 3, none⟩ = some (Value.int .i64 v21) ∧ (C_towpathref13_in v21 16 w5 (fun (v22 : Bool) w6 => F_towpathref13_Check_k0 R (!v22) w6)))))))))))))))

def F_towpathlaw01_TwinTxn (x : T_api_Txn) (R : T_api_Txn → World → Prop) (w : World) : Prop :=
  ∀ b_ w1, b_ = w.heap.size → w1 = w.alloc (Obj.cells ([Value.int .i64 x.Number, Value.slice x.Writes.ptr x.Writes.len x.Writes.cap]).toArray ty_api_Txn (0, 0)) → (∀ b_1 w2, b_1 = w1.heap.size → w2 = w1.alloc (Obj.cells ([Value.int .i64 0, Value.slice none 0 0]).toArray ty_api_Txn (0, 0)) → (∀ w3, (∃ k, w3 = w2.drewN k) → (∃ (v4 : Int), w3.cell? ⟨b_, 0, none⟩ = some (Value.int .i64 v4) ∧ (∃ (v6 : Slc), w3.cell? ⟨b_, 1, none⟩ = some (Value.slice v6.ptr v6.len v6.cap) ∧ (C_towpathlaw01_TwinWrites v6 w3 (fun (v7 : Slc) w4 => w4.cell? ⟨b_, 0, none⟩ = some (Value.int .i64 v4) ∧ (Writable w4 b_1 0 2 ∧ (∀ w5, w5 = World.puts b_1 0 [Value.int .i64 v4, Value.slice v7.ptr v7.len v7.cap] w4 → ((∃ (res : T_api_Txn), CellsAt w5 b_1 0 [Value.int .i64 res.Number, Value.slice res.Writes.ptr res.Writes.len res.Writes.cap] ∧ (R res w5)))))))))))

def F_towpathref14_Lane_Take (l_ : Option Addr) (t_ : T_api_Txn) (R : Int → World → Prop) (w : World) : Prop :=
  ∀ b_ w1, b_ = w.heap.size → w1 = w.alloc (Obj.cells ([Value.int .i64 t_.Number, Value.slice t_.Writes.ptr t_.Writes.len t_.Writes.cap]).toArray ty_api_Txn (0, 0)) → ((l_.isNone = true → (R 2 w1)) ∧
  (l_.isNone = false → (IsAt l_ ∧ (∃ (v10 : Int), w1.cell? ⟨(pblk l_), (poff l_) + 5, none⟩ = some (Value.int .i64 v10) ∧ (((v10 != 0) = true → (R 10 w1)) ∧
  ((v10 != 0) = false → (∃ (v12 : T_api_Txn), CellsAt w1 b_ 0 [Value.int .i64 v12.Number, Value.slice v12.Writes.ptr v12.Writes.len v12.Writes.cap] ∧ (C_towpathref05_Check v12 w1 (fun (v13 : Int) w2 => ((v13 != 0) = true → (R 1 w2)) ∧
  ((v13 != 0) = false → (∃ (v17 : Int), w2.cell? ⟨b_, 0, none⟩ = some (Value.int .i64 v17) ∧ (IsAt l_ ∧ (Writable w2 (pblk l_) ((poff l_) + 5) 1 ∧ (∀ w3, w3 = World.puts (pblk l_) ((poff l_) + 5) [Value.int .i64 v17] w2 → (∃ (v21 : T_api_Txn), CellsAt w3 b_ 0 [Value.int .i64 v21.Number, Value.slice v21.Writes.ptr v21.Writes.len v21.Writes.cap] ∧ (C_towpathref07_Counting v21 w3 (fun (v22 : Slc) w4 => IsAt l_ ∧ (Writable w4 (pblk l_) ((poff l_) + 6) 1 ∧ (∀ w5, w5 = World.puts (pblk l_) ((poff l_) + 6) [Value.slice v22.ptr v22.len v22.cap] w4 → (IsAt l_ ∧ (Writable w5 (pblk l_) ((poff l_) + 7) 1 ∧ (∀ w6, w6 = World.puts (pblk l_) ((poff l_) + 7) [Value.int .i64 0] w5 → (IsAt l_ ∧ (Writable w6 (pblk l_) ((poff l_) + 8) 1 ∧ (∀ w7, w7 = World.puts (pblk l_) ((poff l_) + 8) [Value.int .i64 0] w6 → (R 0 w7))))))))))))))))))))))))))

def F_towpathlaw01_LeftTxn (t_ : T_api_Txn) (x : T_api_Txn) (R : Bool → World → Prop) (w : World) : Prop :=
  ∀ b_ w1, b_ = w.heap.size → w1 = w.alloc (Obj.cells ([Value.int .i64 t_.Number, Value.slice t_.Writes.ptr t_.Writes.len t_.Writes.cap]).toArray ty_api_Txn (0, 0)) → (∀ b_1 w2, b_1 = w1.heap.size → w2 = w1.alloc (Obj.cells ([Value.int .i64 x.Number, Value.slice x.Writes.ptr x.Writes.len x.Writes.cap]).toArray ty_api_Txn (0, 0)) → (∃ (v6 : Int), w2.cell? ⟨b_, 0, none⟩ = some (Value.int .i64 v6) ∧ (∃ (v8 : Int), w2.cell? ⟨b_1, 0, none⟩ = some (Value.int .i64 v8) ∧ (((v6 == v8) = true → (∃ (v12 : Slc), w2.cell? ⟨b_, 1, none⟩ = some (Value.slice v12.ptr v12.len v12.cap) ∧ (∃ (v14 : Slc), w2.cell? ⟨b_1, 1, none⟩ = some (Value.slice v14.ptr v14.len v14.cap) ∧ (C_towpathlaw01_LeftWrites v12 v14 w2 (fun (v15 : Bool) w3 => R v15 w3))))) ∧
  ((v6 == v8) = false → (R false w2))))))

def F_towpathref14_Lane_Sent (l_ : Option Addr) (R : Int → World → Prop) (w : World) : Prop :=
  (l_.isNone = true → (R 2 w)) ∧
  (l_.isNone = false → (C_towpathref14_Lane_Next l_ w (fun (v10 : Int) (v10_1 : T_api_Req) (ok : Bool) w1 => ∀ b_ w2, b_ = w1.heap.size → w2 = w1.alloc (Obj.cells ([Value.int .u8 0, Value.int .i64 0, Value.int .i64 0, Value.string ByteArray.empty, Value.string ByteArray.empty, Value.bool false, Value.string ByteArray.empty, Value.string ByteArray.empty, Value.slice none 0 0]).toArray ty_api_Req (0, 0)) → (Writable w2 b_ 0 9 ∧ (∀ w3, w3 = World.puts b_ 0 [Value.int .u8 v10_1.Kind, Value.int .i64 v10_1.From, Value.int .i64 v10_1.Number, Value.string v10_1.Write.Key, Value.string v10_1.Write.Val, Value.bool v10_1.Write.Drop, Value.string v10_1.Key, Value.string v10_1.End, Value.slice v10_1.Beyond.ptr v10_1.Beyond.len v10_1.Beyond.cap] w2 → (((!ok) = true → (R 9 w3)) ∧
  ((!ok) = false → (IsAt l_ ∧ (∃ (v20 : Int), w3.cell? ⟨(pblk l_), (poff l_) + 7, none⟩ = some (Value.int .i64 v20) ∧ (IsAt l_ ∧ (Writable w3 (pblk l_) ((poff l_) + 7) 1 ∧ (∀ w4, w4 = World.puts (pblk l_) ((poff l_) + 7) [Value.int .i64 (IntKind.i64.wrap (v20 + 1))] w3 → (R 0 w4)))))))))))))

def F_towpathref14_Lane_Acked_k0 (l_ : Option Addr) (R : Int → World → Prop) (t20 : Bool) (w1 : World) : Prop :=
  (t20 = true → (R 9 w1)) ∧
  (t20 = false → (IsAt l_ ∧ (∃ (v25 : Int), w1.cell? ⟨(pblk l_), (poff l_) + 8, none⟩ = some (Value.int .i64 v25) ∧ (IsAt l_ ∧ (Writable w1 (pblk l_) ((poff l_) + 8) 1 ∧ (∀ w2, w2 = World.puts (pblk l_) ((poff l_) + 8) [Value.int .i64 (IntKind.i64.wrap (v25 + 1))] w1 → (R 0 w2)))))))

def F_towpathref14_Lane_Acked (l_ : Option Addr) (R : Int → World → Prop) (w : World) : Prop :=
  (l_.isNone = true → (R 2 w)) ∧
  (l_.isNone = false → (IsAt l_ ∧ (∃ (v8 : Int), w.cell? ⟨(pblk l_), (poff l_) + 5, none⟩ = some (Value.int .i64 v8) ∧ (((v8 == 0) = true → (∀ w3, Ext w w3 → (F_towpathref14_Lane_Acked_k0 l_ R true w3))) ∧
  ((v8 == 0) = false → (IsAt l_ ∧ (∃ (v14 : Int), w.cell? ⟨(pblk l_), (poff l_) + 8, none⟩ = some (Value.int .i64 v14) ∧ (IsAt l_ ∧ (∃ (v18 : Int), w.cell? ⟨(pblk l_), (poff l_) + 7, none⟩ = some (Value.int .i64 v18) ∧ (∀ w4, Ext w w4 → (F_towpathref14_Lane_Acked_k0 l_ R (v14 == v18) w4)))))))))))

def F_towpathref14_Lane_Done (l_ : Option Addr) (R : Int → Int → World → Prop) (w : World) : Prop :=
  (l_.isNone = true → (R 0 2 w)) ∧
  (l_.isNone = false → (IsAt l_ ∧ (∃ (v10 : Int), w.cell? ⟨(pblk l_), (poff l_) + 5, none⟩ = some (Value.int .i64 v10) ∧ (((v10 == 0) = true → (R 0 9 w)) ∧
  ((v10 == 0) = false → (C_towpathref14_Lane_Ready l_ w (fun (v13 : Bool) w1 => ((!v13) = true → (R 0 10 w1)) ∧
  ((!v13) = false → (IsAt l_ ∧ (∃ (n_ : Int), w1.cell? ⟨(pblk l_), (poff l_) + 5, none⟩ = some (Value.int .i64 n_) ∧ (IsAt l_ ∧ (Writable w1 (pblk l_) ((poff l_) + 5) 1 ∧ (∀ w2, w2 = World.puts (pblk l_) ((poff l_) + 5) [Value.int .i64 0] w1 → (R n_ 0 w2))))))))))))))

def F_towpathref14_Lane_Next_k0 (l_ : Option Addr) (R : Int → T_api_Req → Bool → World → Prop) (b_ : Nat) (t28 : Bool) (w2 : World) : Prop :=
  (t28 = true → (Writable w2 b_ 0 9 ∧ (∀ w3, w3 = World.puts b_ 0 [Value.int .u8 0, Value.int .i64 0, Value.int .i64 0, Value.string ByteArray.empty, Value.string ByteArray.empty, Value.bool false, Value.string ByteArray.empty, Value.string ByteArray.empty, Value.slice none 0 0] w2 → (∃ (res : T_api_Req), CellsAt w3 b_ 0 [Value.int .u8 res.Kind, Value.int .i64 res.From, Value.int .i64 res.Number, Value.string res.Write.Key, Value.string res.Write.Val, Value.bool res.Write.Drop, Value.string res.Key, Value.string res.End, Value.slice res.Beyond.ptr res.Beyond.len res.Beyond.cap] ∧ (R 0 res false w3))))) ∧
  (t28 = false → (∀ w4, (∃ k, w4 = w2.drewN k) → (IsAt l_ ∧ (∃ (v33 : Slc), w4.cell? ⟨(pblk l_), (poff l_) + 6, none⟩ = some (Value.slice v33.ptr v33.len v33.cap) ∧ (IsAt l_ ∧ (∃ (v37 : Int), w4.cell? ⟨(pblk l_), (poff l_) + 7, none⟩ = some (Value.int .i64 v37) ∧ (IsAt v33.ptr ∧ (0 ≤ v37 ∧ v37 < ((v33.len : Nat) : Int) ∧ (∃ (v39 : T_api_Write), CellsAt w4 (pblk v33.ptr) ((poff v33.ptr) + v37.toNat * 3) [Value.string v39.Key, Value.string v39.Val, Value.bool v39.Drop] ∧ (∀ b_1 w5, b_1 = w4.heap.size → w5 = w4.alloc (Obj.cells ([Value.string ByteArray.empty, Value.string ByteArray.empty, Value.bool false]).toArray ty_api_Write (0, 0)) → (CellsAt w5 (pblk v33.ptr) ((poff v33.ptr) + v37.toNat * 3) [Value.string v39.Key, Value.string v39.Val, Value.bool v39.Drop] ∧ w5.cell? ⟨(pblk l_), (poff l_) + 7, none⟩ = some (Value.int .i64 v37) ∧ w5.cell? ⟨(pblk l_), (poff l_) + 6, none⟩ = some (Value.slice v33.ptr v33.len v33.cap) ∧ (Writable w5 b_1 0 3 ∧ (∀ w6, w6 = World.puts b_1 0 [Value.string v39.Key, Value.string v39.Val, Value.bool v39.Drop] w5 → ((∀ w7, (∃ k, w7 = w6.drewN k) → (IsAt l_ ∧ (∃ (v44 : T_api_Config), CellsAt w7 (pblk l_) ((poff l_) + 1) [Value.int .i64 v44.Lanes, Value.int .i64 v44.Shards, Value.int .i64 v44.Window, Value.int .i64 v44.Queue] ∧ (∃ (v46 : ByteArray), w7.cell? ⟨b_1, 0, none⟩ = some (Value.string v46) ∧ (C_towpathref13_Shard v44 v46 w7 (fun (s : Int) (v47_1 : Int) w8 => (∀ w9, (∃ k, w9 = w8.drewN k) → (IsAt l_ ∧ (∃ (v54 : Int), w9.cell? ⟨(pblk l_), (poff l_), none⟩ = some (Value.int .i64 v54) ∧ (IsAt l_ ∧ (∃ (v58 : Int), w9.cell? ⟨(pblk l_), (poff l_) + 5, none⟩ = some (Value.int .i64 v58) ∧ (∃ (v59 : T_api_Write), CellsAt w9 b_1 0 [Value.string v59.Key, Value.string v59.Val, Value.bool v59.Drop] ∧ (Writable w9 b_ 0 9 ∧ (∀ w10, w10 = World.puts b_ 0 [Value.int .u8 1, Value.int .i64 v54, Value.int .i64 v58, Value.string v59.Key, Value.string v59.Val, Value.bool v59.Drop, Value.string ByteArray.empty, Value.string ByteArray.empty, Value.slice none 0 0] w9 → (∃ (res1 : T_api_Req), CellsAt w10 b_ 0 [Value.int .u8 res1.Kind, Value.int .i64 res1.From, Value.int .i64 res1.Number, Value.string res1.Write.Key, Value.string res1.Write.Val, Value.bool res1.Write.Drop, Value.string res1.Key, Value.string res1.End, Value.slice res1.Beyond.ptr res1.Beyond.len res1.Beyond.cap] ∧ (R s res1 true w10))))))))))))))))))))))))))))))

def F_towpathref14_Lane_Next (l_ : Option Addr) (R : Int → T_api_Req → Bool → World → Prop) (w : World) : Prop :=
  ∀ b_ w1, b_ = w.heap.size → w1 = w.alloc (Obj.cells ([Value.int .u8 0, Value.int .i64 0, Value.int .i64 0, Value.string ByteArray.empty, Value.string ByteArray.empty, Value.bool false, Value.string ByteArray.empty, Value.string ByteArray.empty, Value.slice none 0 0]).toArray ty_api_Req (0, 0)) → ((l_.isNone = true → (∀ w11, Ext w1 w11 → (F_towpathref14_Lane_Next_k0 l_ R b_ true w11))) ∧
  (l_.isNone = false → (IsAt l_ ∧ (∃ (v14 : Int), w1.cell? ⟨(pblk l_), (poff l_) + 5, none⟩ = some (Value.int .i64 v14) ∧ (((v14 == 0) = true → (∀ w12, Ext w1 w12 → (F_towpathref14_Lane_Next_k0 l_ R b_ true w12))) ∧
  ((v14 == 0) = false → (IsAt l_ ∧ (∃ (v21 : Int), w1.cell? ⟨(pblk l_), (poff l_) + 7, none⟩ = some (Value.int .i64 v21) ∧ (IsAt l_ ∧ (∃ (v25 : Slc), w1.cell? ⟨(pblk l_), (poff l_) + 6, none⟩ = some (Value.slice v25.ptr v25.len v25.cap) ∧ (∀ w13, Ext w1 w13 → (F_towpathref14_Lane_Next_k0 l_ R b_ (v21 == ((v25.len : Nat) : Int)) w13))))))))))))

def F_towpathref14_Lane_Holds (l_ : Option Addr) (R : Int → World → Prop) (w : World) : Prop :=
  (l_.isNone = true → (R 0 w)) ∧
  (l_.isNone = false → (IsAt l_ ∧ (∃ (v8 : Int), w.cell? ⟨(pblk l_), (poff l_) + 5, none⟩ = some (Value.int .i64 v8) ∧ (R v8 w))))

def F_towpathref14_Lane_Ready (l_ : Option Addr) (R : Bool → World → Prop) (w : World) : Prop :=
  ((!l_.isNone) = true → (IsAt l_ ∧ (∃ (v9 : Int), w.cell? ⟨(pblk l_), (poff l_) + 5, none⟩ = some (Value.int .i64 v9) ∧ (((v9 != 0) = true → (IsAt l_ ∧ (∃ (v16 : Int), w.cell? ⟨(pblk l_), (poff l_) + 8, none⟩ = some (Value.int .i64 v16) ∧ (IsAt l_ ∧ (∃ (v20 : Slc), w.cell? ⟨(pblk l_), (poff l_) + 6, none⟩ = some (Value.slice v20.ptr v20.len v20.cap) ∧ (∀ w1, Ext w w1 → (R (v16 == ((v20.len : Nat) : Int)) w1))))))) ∧
  ((v9 != 0) = false → (∀ w2, Ext w w2 → (R false w2))))))) ∧
  ((!l_.isNone) = false → (∀ w3, Ext w w3 → (R false w3)))

def F_lane_Lane_gone (l_ : Option Addr) (R : Bool → World → Prop) (w : World) : Prop :=
  (l_.isNone = true → (R true w)) ∧
  (l_.isNone = false → (IsAt l_ ∧ (∃ (v9 : Value), w.cell? ⟨(pblk l_), (poff l_) + 5, none⟩ = some (v9) ∧ (IfV v9 ∧ (R (isNilIf v9) w)))))

def F_lane_Lane_busy_k0 (R : Option Addr → Bool → World → Prop) (b_ : Option Addr) (ok : Bool) (w2 : World) : Prop :=
  R b_ ok w2

def F_lane_Lane_busy (l_ : Option Addr) (R : Option Addr → Bool → World → Prop) (w : World) : Prop :=
  C_lane_Lane_gone l_ w (fun (v7 : Bool) w1 => (v7 = true → (R none false w1)) ∧
  (v7 = false → (IsAt l_ ∧ (∃ (v12 : Value), w1.cell? ⟨(pblk l_), (poff l_) + 5, none⟩ = some (v12) ∧ ((∃ (b_1 : Option Addr), v12 = Value.iface 102 (Value.pointer b_1) ∧ (F_lane_Lane_busy_k0 R b_1 true w1)) ∨
  (NotIf 102 v12 ∧ (F_lane_Lane_busy_k0 R none false w1)))))))

def F_lane_counting_k1 (t9 : Int) (again_ : Slc → Int → World → Prop) (out1 : Slc) (w3 : World) : Prop :=
  again_ out1 (IntKind.i64.wrap (t9 + 1)) w3

def F_lane_counting_L0 (R : Slc → World → Prop) (b_ : Nat) (v7 : Slc) (again_ : Slc → Int → World → Prop) (out : Slc) (t9 : Int) (w2 : World) : Prop :=
  ((decide (t9 < ((v7.len : Nat) : Int))) = true → (IsAt v7.ptr ∧ (0 ≤ t9 ∧ t9 < ((v7.len : Nat) : Int) ∧ (∃ (v13 : T_api_Write), CellsAt w2 (pblk v7.ptr) ((poff v7.ptr) + t9.toNat * 3) [Value.string v13.Key, Value.string v13.Val, Value.bool v13.Drop] ∧ (∀ b_1 w4, b_1 = w2.heap.size → w4 = w2.alloc (Obj.cells ([Value.string ByteArray.empty, Value.string ByteArray.empty, Value.bool false]).toArray ty_api_Write (0, 0)) → (Writable w4 b_1 0 3 ∧ (∀ w5, w5 = World.puts b_1 0 [Value.string v13.Key, Value.string v13.Val, Value.bool v13.Drop] w4 → (∃ (v15 : Slc), w5.cell? ⟨b_, 1, none⟩ = some (Value.slice v15.ptr v15.len v15.cap) ∧ ((0 ≤ IntKind.i64.wrap (t9 + 1) ∧ IntKind.i64.wrap (t9 + 1) ≤ ((v15.len : Nat) : Int) ∧ ((v15.len : Nat) : Int) ≤ ((v15.cap : Nat) : Int) ∧ ((v15.cap : Nat) : Int) ≤ ((v15.cap : Nat) : Int)) ∧ (∀ s, s = Slc.cut 3 v15 (IntKind.i64.wrap (t9 + 1)) ((v15.len : Nat) : Int) ((v15.cap : Nat) : Int) → (C_slices_ContainsFunc_api_Write_api_Write s (Value.func (.func 88) #[] #[Value.pointer (some ⟨b_1, 0, none⟩)]) w5 (fun (v20 : Bool) w6 => ((!v20) = true → (∃ (v23 : T_api_Write), CellsAt w6 b_1 0 [Value.string v23.Key, Value.string v23.Val, Value.bool v23.Drop] ∧ (∀ b_2 w7, b_2 = w6.heap.size → w7 = w6.alloc (Obj.cells ([Value.string v23.Key, Value.string v23.Val, Value.bool v23.Drop]).toArray ty_api_Write (0, 0)) → (∃ src, SrcAt w7 (Slc.mk (some ⟨b_2, 0, none⟩) 1 1) 3 src ∧ AppendW 3 40 ty_api_Write [Value.string ByteArray.empty, Value.string ByteArray.empty, Value.bool false] out src 1 w7 (fun out2 w8 => F_lane_counting_k1 t9 again_ out2 w8))))) ∧
  ((!v20) = false → (F_lane_counting_k1 t9 again_ out w6)))))))))))))) ∧
  ((decide (t9 < ((v7.len : Nat) : Int))) = false → (R out w2))

def F_lane_counting (t_ : T_api_Txn) (R : Slc → World → Prop) (w : World) : Prop :=
  ∀ b_ w1, b_ = w.heap.size → w1 = w.alloc (Obj.cells ([Value.int .i64 t_.Number, Value.slice t_.Writes.ptr t_.Writes.len t_.Writes.cap]).toArray ty_api_Txn (0, 0)) → (∃ (v7 : Slc), w1.cell? ⟨b_, 1, none⟩ = some (Value.slice v7.ptr v7.len v7.cap) ∧ (∃ (I : Slc → Int → World → Prop) (μ : Slc → Int → World → Nat), I (Slc.mk none 0 0) 0 w1 ∧
  ∀ (out : Slc) (t9 : Int) w, I out t9 w → F_lane_counting_L0 R b_ v7 (fun (out' : Slc) (t9' : Int) w' => I out' t9' w' ∧ μ out' t9' w' < μ out t9 w) out t9 w))

def F_record_Check_1 (w_ : T_api_Write) (R : Bool → World → Prop) (w : World) : Prop :=
  ∀ b_ w1, b_ = w.heap.size → w1 = w.alloc (Obj.cells ([Value.string w_.Key, Value.string w_.Val, Value.bool w_.Drop]).toArray ty_api_Write (0, 0)) → (∃ (v4 : ByteArray), w1.cell? ⟨b_, 0, none⟩ = some (Value.string v4) ∧ (((v4.toList == ByteArray.empty.toList) = true → (R true w1)) ∧
  ((v4.toList == ByteArray.empty.toList) = false → (∃ (v8 : ByteArray), w1.cell? ⟨b_, 0, none⟩ = some (Value.string v8) ∧ (((decide (((v8.size : Nat) : Int) > 64)) = true → (R true w1)) ∧
  ((decide (((v8.size : Nat) : Int) > 64)) = false → (∃ (v14 : ByteArray), w1.cell? ⟨b_, 1, none⟩ = some (Value.string v14) ∧ (((decide (((v14.size : Nat) : Int) > 1024)) = true → (R true w1)) ∧
  ((decide (((v14.size : Nat) : Int) > 1024)) = false → (∃ (v20 : Bool), w1.cell? ⟨b_, 2, none⟩ = some (Value.bool v20) ∧ ((v20 = true → (∃ (v23 : ByteArray), w1.cell? ⟨b_, 1, none⟩ = some (Value.string v23) ∧ (R (!(v23.toList == ByteArray.empty.toList)) w1))) ∧
  (v20 = false → (R false w1)))))))))))))

def F_slices_ContainsFunc_api_Write_api_Write (s : Slc) (f : Value) (R : Bool → World → Prop) (w : World) : Prop :=
  C_slices_IndexFunc_api_Write_api_Write s f w (fun (v7 : Int) w1 => R (decide (v7 ≥ 0)) w1)

def F_sum_Hash_L0 (key : ByteArray) (R : Int → World → Prop) (again_ : Int → Int → World → Prop) (h_ : Int) (t7 : Int) (w1 : World) : Prop :=
  ((decide (t7 < ((key.size : Nat) : Int))) = true → (0 ≤ t7 ∧ t7 < ((key.size : Nat) : Int) ∧ (again_ (IntKind.u32.wrap ((bxor .u32 h_ (IntKind.u32.wrap (byteAt key t7))) * 16777619)) (IntKind.i64.wrap (t7 + 1)) w1))) ∧
  ((decide (t7 < ((key.size : Nat) : Int))) = false → (R h_ w1))

def F_sum_Hash (key : ByteArray) (R : Int → World → Prop) (w : World) : Prop :=
  ∃ (I : Int → Int → World → Prop) (μ : Int → Int → World → Nat), I 2166136261 0 w ∧
  ∀ (h_ : Int) (t7 : Int) w, I h_ t7 w → F_sum_Hash_L0 key R (fun (h_' : Int) (t7' : Int) w' => I h_' t7' w' ∧ μ h_' t7' w' < μ h_ t7 w) h_ t7 w

def F_towpathlaw01_WritesSize_L0 (l_ : Slc) (R : Int → World → Prop) (again_ : Int → Int → World → Prop) (n_ : Int) (i : Int) (w1 : World) : Prop :=
  (((decide (i < ((l_.len : Nat) : Int))) && (decide (n_ ≤ 1048576))) = true → (IsAt l_.ptr ∧ (0 ≤ i ∧ i < ((l_.len : Nat) : Int) ∧ (∃ (v22 : ByteArray), w1.cell? ⟨(pblk l_.ptr), (poff l_.ptr) + i.toNat * 3, none⟩ = some (Value.string v22) ∧ (IsAt l_.ptr ∧ (0 ≤ i ∧ i < ((l_.len : Nat) : Int) ∧ (∃ (v29 : ByteArray), w1.cell? ⟨(pblk l_.ptr), ((poff l_.ptr) + i.toNat * 3) + 1, none⟩ = some (Value.string v29) ∧ (∀ w2, Ext w1 w2 → (again_ (IntKind.i64.wrap ((IntKind.i64.wrap (n_ + ((v22.size : Nat) : Int))) + ((v29.size : Nat) : Int))) (IntKind.i64.wrap (i + 1)) w2))))))))) ∧
  (((decide (i < ((l_.len : Nat) : Int))) && (decide (n_ ≤ 1048576))) = false → (R n_ w1))

def F_towpathlaw01_WritesSize (l_ : Slc) (R : Int → World → Prop) (w : World) : Prop :=
  ∃ (I : Int → Int → World → Prop) (μ : Int → Int → World → Nat), I ((l_.len : Nat) : Int) 0 w ∧
  ∀ (n_ : Int) (i : Int) w, I n_ i w → F_towpathlaw01_WritesSize_L0 l_ R (fun (n_' : Int) (i' : Int) w' => I n_' i' w' ∧ μ n_' i' w' < μ n_ i w) n_ i w

def F_towpathlaw01_SameInts_L0 (a_ : Slc) (b_ : Slc) (R : Bool → World → Prop) (again_ : Int → World → Prop) (i : Int) (w1 : World) : Prop :=
  ((decide (i < ((a_.len : Nat) : Int))) = true → (IsAt a_.ptr ∧ (0 ≤ i ∧ i < ((a_.len : Nat) : Int) ∧ (∃ (v20 : Int), w1.cell? ⟨(pblk a_.ptr), (poff a_.ptr) + i.toNat, none⟩ = some (Value.int .i64 v20) ∧ (IsAt b_.ptr ∧ (0 ≤ i ∧ i < ((b_.len : Nat) : Int) ∧ (∃ (v24 : Int), w1.cell? ⟨(pblk b_.ptr), (poff b_.ptr) + i.toNat, none⟩ = some (Value.int .i64 v24) ∧ (∀ w2, Ext w1 w2 → (((v20 != v24) = true → (R false w2)) ∧
  ((v20 != v24) = false → (again_ (IntKind.i64.wrap (i + 1)) w2))))))))))) ∧
  ((decide (i < ((a_.len : Nat) : Int))) = false → (R true w1))

def F_towpathlaw01_SameInts (a_ : Slc) (b_ : Slc) (R : Bool → World → Prop) (w : World) : Prop :=
  ((((a_.len : Nat) : Int) != ((b_.len : Nat) : Int)) = true → (R false w)) ∧
  ((((a_.len : Nat) : Int) != ((b_.len : Nat) : Int)) = false → (∃ (I : Int → World → Prop) (μ : Int → World → Nat), I 0 w ∧
  ∀ (i : Int) w, I i w → F_towpathlaw01_SameInts_L0 a_ b_ R (fun (i' : Int) w' => I i' w' ∧ μ i' w' < μ i w) i w))

def F_towpathref13_in (n_ : Int) (most : Int) (R : Bool → World → Prop) (w : World) : Prop :=
  R ((decide (n_ ≥ 1)) && (decide (n_ ≤ most))) w

def F_towpathlaw01_TwinWrites_L0 (l_ : Slc) (R : Slc → World → Prop) (again_ : Slc → Int → World → Prop) (t_ : Slc) (i : Int) (w2 : World) : Prop :=
  ((decide (i < ((l_.len : Nat) : Int))) = true → (IsAt l_.ptr ∧ (0 ≤ i ∧ i < ((l_.len : Nat) : Int) ∧ (∃ (v19 : T_api_Write), CellsAt w2 (pblk l_.ptr) ((poff l_.ptr) + i.toNat * 3) [Value.string v19.Key, Value.string v19.Val, Value.bool v19.Drop] ∧ (∀ b_1 w3, b_1 = w2.heap.size → w3 = w2.alloc (Obj.cells ([Value.string v19.Key, Value.string v19.Val, Value.bool v19.Drop]).toArray ty_api_Write (0, 0)) → (∃ src, SrcAt w3 (Slc.mk (some ⟨b_1, 0, none⟩) 1 1) 3 src ∧ AppendW 3 40 ty_api_Write [Value.string ByteArray.empty, Value.string ByteArray.empty, Value.bool false] t_ src 1 w3 (fun t_1 w4 => again_ t_1 (IntKind.i64.wrap (i + 1)) w4))))))) ∧
  ((decide (i < ((l_.len : Nat) : Int))) = false → (∀ b_2 w5, b_2 = w2.heap.size → w5 = w2.alloc (Obj.cells ([Value.string (ByteArray.mk #[115, 112, 97, 114, 101]), Value.string ByteArray.empty, Value.bool false]).toArray ty_api_Write (0, 0)) → (∃ src, SrcAt w5 (Slc.mk (some ⟨b_2, 0, none⟩) 1 1) 3 src ∧ AppendW 3 40 ty_api_Write [Value.string ByteArray.empty, Value.string ByteArray.empty, Value.bool false] t_ src 1 w5 (fun v25 w6 => 0 ≤ ((l_.len : Nat) : Int) ∧ ((l_.len : Nat) : Int) ≤ ((v25.cap : Nat) : Int) ∧ (R (Slc.mk v25.ptr (((l_.len : Nat) : Int).toNat) v25.cap) w6)))))

def F_towpathlaw01_TwinWrites (l_ : Slc) (R : Slc → World → Prop) (w : World) : Prop :=
  0 ≤ (0 : Int) ∧ (0 : Int) ≤ IntKind.i64.wrap (((l_.len : Nat) : Int) + 1) ∧ (40 : Int) * (IntKind.i64.wrap (((l_.len : Nat) : Int) + 1)) ≤ 281474976710656 ∧ (∀ b_ w1, b_ = w.heap.size → w1 = w.alloc (Obj.cells (repCells ((IntKind.i64.wrap (((l_.len : Nat) : Int) + 1)).toNat) [Value.string ByteArray.empty, Value.string ByteArray.empty, Value.bool false]) ty_api_Write (0, 0)) → (∃ (I : Slc → Int → World → Prop) (μ : Slc → Int → World → Nat), I (Slc.mk (some ⟨b_, 0, none⟩) 0 ((IntKind.i64.wrap (((l_.len : Nat) : Int) + 1)).toNat)) 0 w1 ∧
  ∀ (t_ : Slc) (i : Int) w, I t_ i w → F_towpathlaw01_TwinWrites_L0 l_ R (fun (t_' : Slc) (i' : Int) w' => I t_' i' w' ∧ μ t_' i' w' < μ t_ i w) t_ i w))

def F_towpathref05_Check_L1 (R : Int → World → Prop) (b_ : Nat) (again_ : Int → World → Prop) (i : Int) (w3 : World) : Prop :=
  ∃ (v16 : Slc), w3.cell? ⟨b_, 1, none⟩ = some (Value.slice v16.ptr v16.len v16.cap) ∧ (((decide (i < ((v16.len : Nat) : Int))) = true → (∃ (v22 : Slc), w3.cell? ⟨b_, 1, none⟩ = some (Value.slice v22.ptr v22.len v22.cap) ∧ (IsAt v22.ptr ∧ (0 ≤ i ∧ i < ((v22.len : Nat) : Int) ∧ (∃ (v25 : T_api_Write), CellsAt w3 (pblk v22.ptr) ((poff v22.ptr) + i.toNat * 3) [Value.string v25.Key, Value.string v25.Val, Value.bool v25.Drop] ∧ (C_towpathref05_Write v25 w3 (fun (v26 : Bool) w4 => ((!v26) = true → (R 1 w4)) ∧
  ((!v26) = false → (again_ (IntKind.i64.wrap (i + 1)) w4))))))))) ∧
  ((decide (i < ((v16.len : Nat) : Int))) = false → (R 0 w3)))

def F_towpathref05_Check_k0 (R : Int → World → Prop) (b_ : Nat) (t13 : Bool) (w2 : World) : Prop :=
  (t13 = true → (R 1 w2)) ∧
  (t13 = false → (∃ (I : Int → World → Prop) (μ : Int → World → Nat), I 0 w2 ∧
  ∀ (i : Int) w, I i w → F_towpathref05_Check_L1 R b_ (fun (i' : Int) w' => I i' w' ∧ μ i' w' < μ i w) i w))

def F_towpathref05_Check (t_ : T_api_Txn) (R : Int → World → Prop) (w : World) : Prop :=
  ∀ b_ w1, b_ = w.heap.size → w1 = w.alloc (Obj.cells ([Value.int .i64 t_.Number, Value.slice t_.Writes.ptr t_.Writes.len t_.Writes.cap]).toArray ty_api_Txn (0, 0)) → (∃ (v5 : Int), w1.cell? ⟨b_, 0, none⟩ = some (Value.int .i64 v5) ∧ (C_towpathref05_Number v5 w1 (fun (v6 : Bool) w5 => ((!v6) = true → (F_towpathref05_Check_k0 R b_ true w5)) ∧
  ((!v6) = false → (∃ (v10 : Slc), w5.cell? ⟨b_, 1, none⟩ = some (Value.slice v10.ptr v10.len v10.cap) ∧ (F_towpathref05_Check_k0 R b_ (decide (((v10.len : Nat) : Int) > 32)) w5))))))

def F_towpathref07_Counting_k1 (i : Int) (again_ : Slc → Int → World → Prop) (out1 : Slc) (w3 : World) : Prop :=
  again_ out1 (IntKind.i64.wrap (i + 1)) w3

def F_towpathref07_Counting_k3 (k : Int) (again_1 : Bool → Int → World → Prop) (last1 : Bool) (w5 : World) : Prop :=
  again_1 last1 (IntKind.i64.wrap (k + 1)) w5

def F_towpathref07_Counting_L2 (b_ : Nat) (out : Slc) (i : Int) (again_ : Slc → Int → World → Prop) (again_1 : Bool → Int → World → Prop) (last : Bool) (k : Int) (w4 : World) : Prop :=
  ∃ (v18 : Slc), w4.cell? ⟨b_, 1, none⟩ = some (Value.slice v18.ptr v18.len v18.cap) ∧ (((decide (k < ((v18.len : Nat) : Int))) = true → ((last = true → (∃ (v26 : Slc), w4.cell? ⟨b_, 1, none⟩ = some (Value.slice v26.ptr v26.len v26.cap) ∧ (IsAt v26.ptr ∧ (0 ≤ k ∧ k < ((v26.len : Nat) : Int) ∧ (∃ (v30 : ByteArray), w4.cell? ⟨(pblk v26.ptr), (poff v26.ptr) + k.toNat * 3, none⟩ = some (Value.string v30) ∧ (∃ (v32 : Slc), w4.cell? ⟨b_, 1, none⟩ = some (Value.slice v32.ptr v32.len v32.cap) ∧ (IsAt v32.ptr ∧ (0 ≤ i ∧ i < ((v32.len : Nat) : Int) ∧ (∃ (v36 : ByteArray), w4.cell? ⟨(pblk v32.ptr), (poff v32.ptr) + i.toNat * 3, none⟩ = some (Value.string v36) ∧ (∀ w6, Ext w4 w6 → (F_towpathref07_Counting_k3 k again_1 (!(v30.toList == v36.toList)) w6))))))))))) ∧
  (last = false → (∀ w7, Ext w4 w7 → (F_towpathref07_Counting_k3 k again_1 false w7))))) ∧
  ((decide (k < ((v18.len : Nat) : Int))) = false → ((last = true → (∃ (v42 : Slc), w4.cell? ⟨b_, 1, none⟩ = some (Value.slice v42.ptr v42.len v42.cap) ∧ (IsAt v42.ptr ∧ (0 ≤ i ∧ i < ((v42.len : Nat) : Int) ∧ (∃ (v45 : T_api_Write), CellsAt w4 (pblk v42.ptr) ((poff v42.ptr) + i.toNat * 3) [Value.string v45.Key, Value.string v45.Val, Value.bool v45.Drop] ∧ (∀ b_1 w8, b_1 = w4.heap.size → w8 = w4.alloc (Obj.cells ([Value.string v45.Key, Value.string v45.Val, Value.bool v45.Drop]).toArray ty_api_Write (0, 0)) → (∃ src, SrcAt w8 (Slc.mk (some ⟨b_1, 0, none⟩) 1 1) 3 src ∧ AppendW 3 40 ty_api_Write [Value.string ByteArray.empty, Value.string ByteArray.empty, Value.bool false] out src 1 w8 (fun out2 w9 => F_towpathref07_Counting_k1 i again_ out2 w9)))))))) ∧
  (last = false → (F_towpathref07_Counting_k1 i again_ out w4)))))

def F_towpathref07_Counting_L0 (R : Slc → World → Prop) (b_ : Nat) (again_ : Slc → Int → World → Prop) (out : Slc) (i : Int) (w2 : World) : Prop :=
  ∃ (v9 : Slc), w2.cell? ⟨b_, 1, none⟩ = some (Value.slice v9.ptr v9.len v9.cap) ∧ (((decide (i < ((v9.len : Nat) : Int))) = true → (∃ (I : Bool → Int → World → Prop) (μ : Bool → Int → World → Nat), I true (IntKind.i64.wrap (i + 1)) w2 ∧
  ∀ (last : Bool) (k : Int) w, I last k w → F_towpathref07_Counting_L2 b_ out i again_ (fun (last' : Bool) (k' : Int) w' => I last' k' w' ∧ μ last' k' w' < μ last k w) last k w)) ∧
  ((decide (i < ((v9.len : Nat) : Int))) = false → (R out w2)))

def F_towpathref07_Counting (t_ : T_api_Txn) (R : Slc → World → Prop) (w : World) : Prop :=
  ∀ b_ w1, b_ = w.heap.size → w1 = w.alloc (Obj.cells ([Value.int .i64 t_.Number, Value.slice t_.Writes.ptr t_.Writes.len t_.Writes.cap]).toArray ty_api_Txn (0, 0)) → (∃ (I : Slc → Int → World → Prop) (μ : Slc → Int → World → Nat), I (Slc.mk none 0 0) 0 w1 ∧
  ∀ (out : Slc) (i : Int) w, I out i w → F_towpathref07_Counting_L0 R b_ (fun (out' : Slc) (i' : Int) w' => I out' i' w' ∧ μ out' i' w' < μ out i w) out i w)

def F_towpathlaw01_LeftWrites_L0 (t_ : Slc) (l_ : Slc) (R : Bool → World → Prop) (again_ : Int → World → Prop) (i : Int) (w1 : World) : Prop :=
  ((decide (i < ((l_.len : Nat) : Int))) = true → (IsAt t_.ptr ∧ (0 ≤ i ∧ i < ((t_.len : Nat) : Int) ∧ (∃ (v28 : T_api_Write), CellsAt w1 (pblk t_.ptr) ((poff t_.ptr) + i.toNat * 3) [Value.string v28.Key, Value.string v28.Val, Value.bool v28.Drop] ∧ (IsAt l_.ptr ∧ (0 ≤ i ∧ i < ((l_.len : Nat) : Int) ∧ (∃ (v32 : T_api_Write), CellsAt w1 (pblk l_.ptr) ((poff l_.ptr) + i.toNat * 3) [Value.string v32.Key, Value.string v32.Val, Value.bool v32.Drop] ∧ (∀ w2, Ext w1 w2 → (((!(((v28.Key == v32.Key) && (v28.Val == v32.Val)) && (v28.Drop == v32.Drop))) = true → (R false w2)) ∧
  ((!(((v28.Key == v32.Key) && (v28.Val == v32.Val)) && (v28.Drop == v32.Drop))) = false → (again_ (IntKind.i64.wrap (i + 1)) w2))))))))))) ∧
  ((decide (i < ((l_.len : Nat) : Int))) = false → (0 ≤ IntKind.i64.wrap (((l_.len : Nat) : Int) + 1) ∧ IntKind.i64.wrap (((l_.len : Nat) : Int) + 1) ≤ ((t_.cap : Nat) : Int) ∧ (IsAt t_.ptr ∧ (0 ≤ ((l_.len : Nat) : Int) ∧ ((l_.len : Nat) : Int) < (((IntKind.i64.wrap (((l_.len : Nat) : Int) + 1)).toNat : Nat) : Int) ∧ (∃ (v42 : T_api_Write), CellsAt w1 (pblk t_.ptr) ((poff t_.ptr) + ((l_.len : Nat) : Int).toNat * 3) [Value.string v42.Key, Value.string v42.Val, Value.bool v42.Drop] ∧ (∀ b_ w3, b_ = w1.heap.size → w3 = w1.alloc (Obj.cells ([Value.string ByteArray.empty, Value.string ByteArray.empty, Value.bool false]).toArray ty_api_Write (0, 0)) → (Writable w3 b_ 0 3 ∧ (∀ w4, w4 = World.puts b_ 0 [Value.string v42.Key, Value.string v42.Val, Value.bool v42.Drop] w3 → (∃ (v43 : T_api_Write), CellsAt w4 b_ 0 [Value.string v43.Key, Value.string v43.Val, Value.bool v43.Drop] ∧ (R (((v43.Key == (ByteArray.mk #[115, 112, 97, 114, 101])) && (v43.Val == ByteArray.empty)) && (v43.Drop == false)) w4))))))))))

def F_towpathlaw01_LeftWrites (t_ : Slc) (l_ : Slc) (R : Bool → World → Prop) (w : World) : Prop :=
  (((((t_.len : Nat) : Int) != ((l_.len : Nat) : Int)) || (decide (((t_.cap : Nat) : Int) ≤ ((l_.len : Nat) : Int)))) = true → (R false w)) ∧
  (((((t_.len : Nat) : Int) != ((l_.len : Nat) : Int)) || (decide (((t_.cap : Nat) : Int) ≤ ((l_.len : Nat) : Int)))) = false → (∃ (I : Int → World → Prop) (μ : Int → World → Nat), I 0 w ∧
  ∀ (i : Int) w, I i w → F_towpathlaw01_LeftWrites_L0 t_ l_ R (fun (i' : Int) w' => I i' w' ∧ μ i' w' < μ i w) i w))

def F_towpathref13_Shard (c : T_api_Config) (key : ByteArray) (R : Int → Int → World → Prop) (w : World) : Prop :=
  ∀ b_ w1, b_ = w.heap.size → w1 = w.alloc (Obj.cells ([Value.int .i64 c.Lanes, Value.int .i64 c.Shards, Value.int .i64 c.Window, Value.int .i64 c.Queue]).toArray ty_api_Config (0, 0)) → (∃ (v7 : T_api_Config), CellsAt w1 b_ 0 [Value.int .i64 v7.Lanes, Value.int .i64 v7.Shards, Value.int .i64 v7.Window, Value.int .i64 v7.Queue] ∧ (C_towpathref13_Check v7 w1 (fun (v8 : Int) w2 => ((v8 != 0) = true → (R 0 v8 w2)) ∧
  ((v8 != 0) = false → (C_towpathref05_Key key w2 (fun (v13 : Bool) w3 => ((!v13) = true → (R 0 1 w3)) ∧
  ((!v13) = false → (∃ (v16 : Int), (∀ w', Ext w3 w' → C_towpathref03_Hash key w' (fun (v16' : Int) w'' => v16' = v16 ∧ Ext w' w'')) ∧ (∃ (v18 : Int), w3.cell? ⟨b_, 1, none⟩ = some (Value.int .i64 v18) ∧ ((IntKind.u32.wrap v18) ≠ 0 ∧ (∀ w5, Ext w3 w5 → (R (IntKind.i64.wrap (Int.tmod v16 (IntKind.u32.wrap v18))) 0 w5))))))))))))

def F_lane_counting_1 (x : T_api_Write) (t1 : Option Addr) (R : Bool → World → Prop) (w : World) : Prop :=
  ∀ b_ w1, b_ = w.heap.size → w1 = w.alloc (Obj.cells ([Value.string x.Key, Value.string x.Val, Value.bool x.Drop]).toArray ty_api_Write (0, 0)) → (∃ (v5 : ByteArray), w1.cell? ⟨b_, 0, none⟩ = some (Value.string v5) ∧ (IsAt t1 ∧ (∃ (v7 : ByteArray), w1.cell? ⟨(pblk t1), (poff t1), none⟩ = some (Value.string v7) ∧ (R (v5.toList == v7.toList) w1))))

def F_slices_IndexFunc_api_Write_api_Write_L0 (s : Slc) (f : Value) (R : Int → World → Prop) (again_ : Int → World → Prop) (t8 : Int) (w1 : World) : Prop :=
  ((decide (t8 < ((s.len : Nat) : Int))) = true → (IsAt s.ptr ∧ (0 ≤ t8 ∧ t8 < ((s.len : Nat) : Int) ∧ (∃ (v15 : T_api_Write), CellsAt w1 (pblk s.ptr) ((poff s.ptr) + t8.toNat * 3) [Value.string v15.Key, Value.string v15.Val, Value.bool v15.Drop] ∧ (CallsV (P := Try.prog) f #[Value.agg #[Value.string v15.Key, Value.string v15.Val, Value.bool v15.Drop]] w1 (fun e' w2 => ∃ (v16 : Bool), e' = Ending.returned (Value.bool v16) ∧ ((v16 = true → (R t8 w2)) ∧
  (v16 = false → (again_ (IntKind.i64.wrap (t8 + 1)) w2))))))))) ∧
  ((decide (t8 < ((s.len : Nat) : Int))) = false → (R (-1) w1))

def F_slices_IndexFunc_api_Write_api_Write (s : Slc) (f : Value) (R : Int → World → Prop) (w : World) : Prop :=
  ∃ (I : Int → World → Prop) (μ : Int → World → Nat), I 0 w ∧
  ∀ (t8 : Int) w, I t8 w → F_slices_IndexFunc_api_Write_api_Write_L0 s f R (fun (t8' : Int) w' => I t8' w' ∧ μ t8' w' < μ t8 w) t8 w

def F_towpathref05_Number (n_ : Int) (R : Bool → World → Prop) (w : World) : Prop :=
  R ((decide (n_ ≥ 1)) && (decide (n_ ≤ 65536))) w

def F_towpathref05_Write (w_ : T_api_Write) (R : Bool → World → Prop) (w : World) : Prop :=
  ∀ b_ w1, b_ = w.heap.size → w1 = w.alloc (Obj.cells ([Value.string w_.Key, Value.string w_.Val, Value.bool w_.Drop]).toArray ty_api_Write (0, 0)) → (∃ (v4 : ByteArray), w1.cell? ⟨b_, 0, none⟩ = some (Value.string v4) ∧ (C_towpathref05_Key v4 w1 (fun (v5 : Bool) w2 => (v5 = true → (∃ (v8 : ByteArray), w2.cell? ⟨b_, 1, none⟩ = some (Value.string v8) ∧ (C_towpathref05_Val v8 w2 (fun (v9 : Bool) w3 => (v9 = true → (∃ (v13 : Bool), w3.cell? ⟨b_, 2, none⟩ = some (Value.bool v13) ∧ (((!v13) = true → (R true w3)) ∧
  ((!v13) = false → (∃ (v17 : ByteArray), w3.cell? ⟨b_, 1, none⟩ = some (Value.string v17) ∧ (R (((v17.size : Nat) : Int) == 0) w3)))))) ∧
  (v9 = false → (R false w3)))))) ∧
  (v5 = false → (R false w2)))))

def F_towpathref05_Key (s : ByteArray) (R : Bool → World → Prop) (w : World) : Prop :=
  R ((decide (((s.size : Nat) : Int) ≥ 1)) && (decide (((s.size : Nat) : Int) ≤ 64))) w

def F_towpathref03_Hash_L0 (key : ByteArray) (R : Int → World → Prop) (again_ : Int → Int → World → Prop) (h_ : Int) (i : Int) (w1 : World) : Prop :=
  ((decide (i < ((key.size : Nat) : Int))) = true → (0 ≤ i ∧ i < ((key.size : Nat) : Int) ∧ (again_ (IntKind.u32.wrap ((bxor .u32 h_ (IntKind.u32.wrap (byteAt key i))) * 16777619)) (IntKind.i64.wrap (i + 1)) w1))) ∧
  ((decide (i < ((key.size : Nat) : Int))) = false → (R h_ w1))

def F_towpathref03_Hash (key : ByteArray) (R : Int → World → Prop) (w : World) : Prop :=
  ∃ (I : Int → Int → World → Prop) (μ : Int → Int → World → Nat), I 2166136261 0 w ∧
  ∀ (h_ : Int) (i : Int) w, I h_ i w → F_towpathref03_Hash_L0 key R (fun (h_' : Int) (i' : Int) w' => I h_' i' w' ∧ μ h_' i' w' < μ h_ i w) h_ i w

def F_towpathref05_Val (s : ByteArray) (R : Bool → World → Prop) (w : World) : Prop :=
  R (decide (((s.size : Nat) : Int) ≤ 1024)) w

def F_lane_none_next (t0 : T_lane_none) (R : T_api_Write → Bool → World → Prop) (w : World) : Prop :=
  ∀ b_ w1, b_ = w.heap.size → w1 = w.alloc (Obj.cells ([]).toArray ty_lane_none (0, 0)) → (∀ b_1 w2, b_1 = w1.heap.size → w2 = w1.alloc (Obj.cells ([Value.string ByteArray.empty, Value.string ByteArray.empty, Value.bool false]).toArray ty_api_Write (0, 0)) → (Writable w2 b_1 0 3 ∧ (∀ w3, w3 = World.puts b_1 0 [Value.string ByteArray.empty, Value.string ByteArray.empty, Value.bool false] w2 → (∃ (res : T_api_Write), CellsAt w3 b_1 0 [Value.string res.Key, Value.string res.Val, Value.bool res.Drop] ∧ (R res false w3)))))

def F_lane_busy_next (b_ : Option Addr) (R : T_api_Write → Bool → World → Prop) (w : World) : Prop :=
  ∀ b_1 w1, b_1 = w.heap.size → w1 = w.alloc (Obj.cells ([Value.string ByteArray.empty, Value.string ByteArray.empty, Value.bool false]).toArray ty_api_Write (0, 0)) → (IsAt b_ ∧ (∃ (v7 : Slc), w1.cell? ⟨(pblk b_), (poff b_) + 1, none⟩ = some (Value.slice v7.ptr v7.len v7.cap) ∧ (((((v7.len : Nat) : Int) == 0) = true → (Writable w1 b_1 0 3 ∧ (∀ w2, w2 = World.puts b_1 0 [Value.string ByteArray.empty, Value.string ByteArray.empty, Value.bool false] w1 → (∃ (res : T_api_Write), CellsAt w2 b_1 0 [Value.string res.Key, Value.string res.Val, Value.bool res.Drop] ∧ (R res false w2))))) ∧
  ((((v7.len : Nat) : Int) == 0) = false → (IsAt b_ ∧ (∃ (v14 : Slc), w1.cell? ⟨(pblk b_), (poff b_) + 1, none⟩ = some (Value.slice v14.ptr v14.len v14.cap) ∧ (IsAt v14.ptr ∧ (0 ≤ (0 : Int) ∧ (0 : Int) < ((v14.len : Nat) : Int) ∧ (∃ (v16 : T_api_Write), CellsAt w1 (pblk v14.ptr) (poff v14.ptr) [Value.string v16.Key, Value.string v16.Val, Value.bool v16.Drop] ∧ (Writable w1 b_1 0 3 ∧ (∀ w3, w3 = World.puts b_1 0 [Value.string v16.Key, Value.string v16.Val, Value.bool v16.Drop] w1 → (∃ (res1 : T_api_Write), CellsAt w3 b_1 0 [Value.string res1.Key, Value.string res1.Val, Value.bool res1.Drop] ∧ (R res1 true w3)))))))))))))

def Ok_T_api_Config (w : World) (x : T_api_Config) : Prop := ((-9223372036854775808) ≤ x.Lanes ∧ x.Lanes ≤ 9223372036854775807) ∧ ((-9223372036854775808) ≤ x.Shards ∧ x.Shards ≤ 9223372036854775807) ∧ ((-9223372036854775808) ≤ x.Window ∧ x.Window ≤ 9223372036854775807) ∧ ((-9223372036854775808) ≤ x.Queue ∧ x.Queue ≤ 9223372036854775807)

def Ok_T_api_Write (w : World) (x : T_api_Write) : Prop := (x.Key.size ≤ 140737488351232) ∧ (x.Val.size ≤ 140737488351232) ∧ True

def Ok_T_api_Txn (w : World) (x : T_api_Txn) : Prop := ((-9223372036854775808) ≤ x.Number ∧ x.Number ≤ 9223372036854775807) ∧ (OkSl w x.Writes 3 40 (fun es => ∃ e_ : T_api_Write, es = [Value.string e_.Key, Value.string e_.Val, Value.bool e_.Drop] ∧ (Ok_T_api_Write w e_)))

def Ok_T_towpathlaw14_Op (w : World) (x : T_towpathlaw14_Op) : Prop := (0 ≤ x.Kind ∧ x.Kind ≤ 255) ∧ (Ok_T_api_Txn w x.Txn)

end Go.Proofs.Ytfmkemmgakdddaa
