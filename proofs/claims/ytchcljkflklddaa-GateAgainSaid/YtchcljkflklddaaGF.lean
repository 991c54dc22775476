/- WRITTEN BY PROGRAM (dec.py): for each Go function the clean formula F, the call's contract C, and the proof S that F gives C. -/
import Derived.Test.YtchcljkflklddaaRows
import Derived.Test.YtchcljkflklddaaCore
namespace Go.Proofs.Ytchcljkflklddaa
open Go
set_option linter.unusedVariables false


abbrev ty_int : TypeId := 3

abbrev ty_bool : TypeId := 4

abbrev ty_api_Config : TypeId := 23

abbrev ty_ring_Ring_int : TypeId := 64

abbrev ty_towpathlaw10_Op : TypeId := 67

abbrev ty_2_int : TypeId := 76

abbrev ty_gate_Gate : TypeId := 83

abbrev ty_towpathref10_Ring : TypeId := 86

structure T_api_Config where
  Lanes : Int
  Shards : Int
  Window : Int
  Queue : Int

structure T_towpathlaw10_Op where
  Kind : Int
  X : Int

structure T_towpathlaw10_Show where
  Capacity : Int
  Taken : Int
  Most : Int
  Things : Slc

structure Arr2_Int where
  e0 : Int
  e1 : Int

def C_towpathlaw13_ConfShards (c : T_api_Config) (key : ByteArray) (w : World) (R : Bool → World → Prop) : Prop :=
  Calls Try.prog 3 #[Value.agg #[Value.int .i64 c.Lanes, Value.int .i64 c.Shards, Value.int .i64 c.Window, Value.int .i64 c.Queue], Value.string key] w (fun e w' => ∃ (r0 : Bool), e = .returned (Value.bool r0) ∧ R r0 w')

def C_towpathlaw13_ConfTasks (c : T_api_Config) (task : Int) (w : World) (R : Bool → World → Prop) : Prop :=
  Calls Try.prog 4 #[Value.agg #[Value.int .i64 c.Lanes, Value.int .i64 c.Shards, Value.int .i64 c.Window, Value.int .i64 c.Queue], Value.int .i64 task] w (fun e w' => ∃ (r0 : Bool), e = .returned (Value.bool r0) ∧ R r0 w')

def C_towpathlaw10_RingOrders (capacity : Int) (turns : Slc) (w : World) (R : Bool → World → Prop) : Prop :=
  Calls Try.prog 5 #[Value.int .u8 capacity, Value.slice turns.ptr turns.len turns.cap] w (fun e w' => ∃ (r0 : Bool), e = .returned (Value.bool r0) ∧ R r0 w')

def C_towpathlaw12_GateOrders (order : Slc) (w : World) (R : Bool → World → Prop) : Prop :=
  Calls Try.prog 6 #[Value.slice order.ptr order.len order.cap] w (fun e w' => ∃ (r0 : Bool), e = .returned (Value.bool r0) ∧ R r0 w')

def C_towpathlaw12_GateAgain (mark : Int) (beyond : Slc) (numbers : Slc) (w : World) (R : Bool → World → Prop) : Prop :=
  Calls Try.prog 7 #[Value.int .u16 mark, Value.slice beyond.ptr beyond.len beyond.cap, Value.slice numbers.ptr numbers.len numbers.cap] w (fun e w' => ∃ (r0 : Bool), e = .returned (Value.bool r0) ∧ R r0 w')

def C_towpathlaw13_ConfNames (c : T_api_Config) (w : World) (R : Bool → World → Prop) : Prop :=
  Calls Try.prog 8 #[Value.agg #[Value.int .i64 c.Lanes, Value.int .i64 c.Shards, Value.int .i64 c.Window, Value.int .i64 c.Queue]] w (fun e w' => ∃ (r0 : Bool), e = .returned (Value.bool r0) ∧ R r0 w')

def C_towpathlaw13_ConfSpreads (c : T_api_Config) (d : T_api_Config) (key : ByteArray) (w : World) (R : Bool → World → Prop) : Prop :=
  Calls Try.prog 9 #[Value.agg #[Value.int .i64 c.Lanes, Value.int .i64 c.Shards, Value.int .i64 c.Window, Value.int .i64 c.Queue], Value.agg #[Value.int .i64 d.Lanes, Value.int .i64 d.Shards, Value.int .i64 d.Window, Value.int .i64 d.Queue], Value.string key] w (fun e w' => ∃ (r0 : Bool), e = .returned (Value.bool r0) ∧ R r0 w')

def C_towpathlaw10_RingPlays (capacity : Int) (script : Slc) (w : World) (R : Bool → World → Prop) : Prop :=
  Calls Try.prog 10 #[Value.int .i64 capacity, Value.slice script.ptr script.len script.cap] w (fun e w' => ∃ (r0 : Bool), e = .returned (Value.bool r0) ∧ R r0 w')

def C_towpathlaw10_RingShows (s : T_towpathlaw10_Show) (w : World) (R : Bool → World → Prop) : Prop :=
  Calls Try.prog 11 #[Value.agg #[Value.int .u8 s.Capacity, Value.int .u8 s.Taken, Value.int .u8 s.Most, Value.slice s.Things.ptr s.Things.len s.Things.cap]] w (fun e w' => ∃ (r0 : Bool), e = .returned (Value.bool r0) ∧ R r0 w')

def C_towpathlaw01_Beyond (l_ : Slc) (w : World) (R : Bool → World → Prop) : Prop :=
  Calls Try.prog 12 #[Value.slice l_.ptr l_.len l_.cap] w (fun e w' => ∃ (r0 : Bool), e = .returned (Value.bool r0) ∧ R r0 w')

def C_conf_Shard (c : T_api_Config) (key : ByteArray) (w : World) (R : Int → Int → World → Prop) : Prop :=
  Calls Try.prog 13 #[Value.agg #[Value.int .i64 c.Lanes, Value.int .i64 c.Shards, Value.int .i64 c.Window, Value.int .i64 c.Queue], Value.string key] w (fun e w' => ∃ (r0 : Int) (r1 : Int), e = .returned (Value.tuple #[Value.int .i64 r0, Value.int .i64 r1]) ∧ R r0 r1 w')

def C_towpathref13_Shard (c : T_api_Config) (key : ByteArray) (w : World) (R : Int → Int → World → Prop) : Prop :=
  Calls Try.prog 14 #[Value.agg #[Value.int .i64 c.Lanes, Value.int .i64 c.Shards, Value.int .i64 c.Window, Value.int .i64 c.Queue], Value.string key] w (fun e w' => ∃ (r0 : Int) (r1 : Int), e = .returned (Value.tuple #[Value.int .i64 r0, Value.int .i64 r1]) ∧ R r0 r1 w')

def C_conf_Check (c : T_api_Config) (w : World) (R : Int → World → Prop) : Prop :=
  Calls Try.prog 15 #[Value.agg #[Value.int .i64 c.Lanes, Value.int .i64 c.Shards, Value.int .i64 c.Window, Value.int .i64 c.Queue]] w (fun e w' => ∃ (r0 : Int), e = .returned (Value.int .i64 r0) ∧ R r0 w')

def C_towpathref13_Check (c : T_api_Config) (w : World) (R : Int → World → Prop) : Prop :=
  Calls Try.prog 16 #[Value.agg #[Value.int .i64 c.Lanes, Value.int .i64 c.Shards, Value.int .i64 c.Window, Value.int .i64 c.Queue]] w (fun e w' => ∃ (r0 : Int), e = .returned (Value.int .i64 r0) ∧ R r0 w')

def C_conf_Tasks (c : T_api_Config) (w : World) (R : Int → Int → World → Prop) : Prop :=
  Calls Try.prog 17 #[Value.agg #[Value.int .i64 c.Lanes, Value.int .i64 c.Shards, Value.int .i64 c.Window, Value.int .i64 c.Queue]] w (fun e w' => ∃ (r0 : Int) (r1 : Int), e = .returned (Value.tuple #[Value.int .i64 r0, Value.int .i64 r1]) ∧ R r0 r1 w')

def C_towpathref13_Tasks (c : T_api_Config) (w : World) (R : Int → Int → World → Prop) : Prop :=
  Calls Try.prog 18 #[Value.agg #[Value.int .i64 c.Lanes, Value.int .i64 c.Shards, Value.int .i64 c.Window, Value.int .i64 c.Queue]] w (fun e w' => ∃ (r0 : Int) (r1 : Int), e = .returned (Value.tuple #[Value.int .i64 r0, Value.int .i64 r1]) ∧ R r0 r1 w')

def C_conf_Name (c : T_api_Config) (task : Int) (w : World) (R : ByteArray → Int → Int → World → Prop) : Prop :=
  Calls Try.prog 19 #[Value.agg #[Value.int .i64 c.Lanes, Value.int .i64 c.Shards, Value.int .i64 c.Window, Value.int .i64 c.Queue], Value.int .i64 task] w (fun e w' => ∃ (r0 : ByteArray) (r1 : Int) (r2 : Int), e = .returned (Value.tuple #[Value.string r0, Value.int .i64 r1, Value.int .i64 r2]) ∧ R r0 r1 r2 w')

def C_towpathref13_Name (c : T_api_Config) (task : Int) (w : World) (R : ByteArray → Int → Int → World → Prop) : Prop :=
  Calls Try.prog 20 #[Value.agg #[Value.int .i64 c.Lanes, Value.int .i64 c.Shards, Value.int .i64 c.Window, Value.int .i64 c.Queue], Value.int .i64 task] w (fun e w' => ∃ (r0 : ByteArray) (r1 : Int) (r2 : Int), e = .returned (Value.tuple #[Value.string r0, Value.int .i64 r1, Value.int .i64 r2]) ∧ R r0 r1 r2 w')

def C_towpathlaw10_alive (w : World) (R : Bool → World → Prop) : Prop :=
  Calls Try.prog 21 #[] w (fun e w' => ∃ (r0 : Bool), e = .returned (Value.bool r0) ∧ R r0 w')

def C_ring_New_int (capacity : Int) (w : World) (R : Option Addr → Int → World → Prop) : Prop :=
  Calls Try.prog 22 #[Value.int .i64 capacity] w (fun e w' => ∃ (r0 : Option Addr) (r1 : Int), e = .returned (Value.tuple #[Value.pointer r0, Value.int .i64 r1]) ∧ R r0 r1 w')

def C_ring_Ring_int_Put (r : Option Addr) (x : Int) (w : World) (R : Bool → World → Prop) : Prop :=
  Calls Try.prog 23 #[Value.pointer r, Value.int .i64 x] w (fun e w' => ∃ (r0 : Bool), e = .returned (Value.bool r0) ∧ R r0 w')

def C_ring_Ring_int_Take (r : Option Addr) (w : World) (R : Int → Bool → World → Prop) : Prop :=
  Calls Try.prog 24 #[Value.pointer r] w (fun e w' => ∃ (r0 : Int) (r1 : Bool), e = .returned (Value.tuple #[Value.int .i64 r0, Value.bool r1]) ∧ R r0 r1 w')

def C_ring_Ring_int_Len (r : Option Addr) (w : World) (R : Int → World → Prop) : Prop :=
  Calls Try.prog 25 #[Value.pointer r] w (fun e w' => ∃ (r0 : Int), e = .returned (Value.int .i64 r0) ∧ R r0 w')

def C_ring_Ring_int_Room (r : Option Addr) (w : World) (R : Int → World → Prop) : Prop :=
  Calls Try.prog 26 #[Value.pointer r] w (fun e w' => ∃ (r0 : Int), e = .returned (Value.int .i64 r0) ∧ R r0 w')

def C_ring_Ring_int_Close (r : Option Addr) (w : World) (R : World → Prop) : Prop :=
  Calls Try.prog 27 #[Value.pointer r] w (fun e w' => e = .returned (Value.tuple #[]) ∧ R w')

def C_ring_Ring_int_Over (r : Option Addr) (w : World) (R : Bool → World → Prop) : Prop :=
  Calls Try.prog 28 #[Value.pointer r] w (fun e w' => ∃ (r0 : Bool), e = .returned (Value.bool r0) ∧ R r0 w')

def C_towpathlaw12_alive (w : World) (R : Bool → World → Prop) : Prop :=
  Calls Try.prog 29 #[] w (fun e w' => ∃ (r0 : Bool), e = .returned (Value.bool r0) ∧ R r0 w')

def C_gate_New (mark : Int) (beyond : Slc) (w : World) (R : Option Addr → Int → World → Prop) : Prop :=
  Calls Try.prog 30 #[Value.int .i64 mark, Value.slice beyond.ptr beyond.len beyond.cap] w (fun e w' => ∃ (r0 : Option Addr) (r1 : Int), e = .returned (Value.tuple #[Value.pointer r0, Value.int .i64 r1]) ∧ R r0 r1 w')

def C_gate_Gate_Mark (g : Option Addr) (w : World) (R : Int → World → Prop) : Prop :=
  Calls Try.prog 31 #[Value.pointer g] w (fun e w' => ∃ (r0 : Int), e = .returned (Value.int .i64 r0) ∧ R r0 w')

def C_gate_Gate_Done (g : Option Addr) (number : Int) (w : World) (R : Int → Int → World → Prop) : Prop :=
  Calls Try.prog 32 #[Value.pointer g, Value.int .i64 number] w (fun e w' => ∃ (r0 : Int) (r1 : Int), e = .returned (Value.tuple #[Value.int .i64 r0, Value.int .i64 r1]) ∧ R r0 r1 w')

def C_gate_Gate_Beyond (g : Option Addr) (w : World) (R : Slc → World → Prop) : Prop :=
  Calls Try.prog 33 #[Value.pointer g] w (fun e w' => ∃ (r0 : Slc), e = .returned (Value.slice r0.ptr r0.len r0.cap) ∧ R r0 w')

def C_gate_Gate_Has (g : Option Addr) (number : Int) (w : World) (R : Bool → World → Prop) : Prop :=
  Calls Try.prog 34 #[Value.pointer g, Value.int .i64 number] w (fun e w' => ∃ (r0 : Bool), e = .returned (Value.bool r0) ∧ R r0 w')

def C_towpathlaw01_SameInts (a_ : Slc) (b_ : Slc) (w : World) (R : Bool → World → Prop) : Prop :=
  Calls Try.prog 35 #[Value.slice a_.ptr a_.len a_.cap, Value.slice b_.ptr b_.len b_.cap] w (fun e w' => ∃ (r0 : Bool), e = .returned (Value.bool r0) ∧ R r0 w')

def C_towpathlaw13_alive (w : World) (R : Bool → World → Prop) : Prop :=
  Calls Try.prog 36 #[] w (fun e w' => ∃ (r0 : Bool), e = .returned (Value.bool r0) ∧ R r0 w')

def C_sum_Hash (key : ByteArray) (w : World) (R : Int → World → Prop) : Prop :=
  Calls Try.prog 37 #[Value.string key] w (fun e w' => ∃ (r0 : Int), e = .returned (Value.int .u32 r0) ∧ R r0 w')

def C_towpathref10_New (capacity : Int) (w : World) (R : Option Addr → Int → World → Prop) : Prop :=
  Calls Try.prog 38 #[Value.int .i64 capacity] w (fun e w' => ∃ (r0 : Option Addr) (r1 : Int), e = .returned (Value.tuple #[Value.pointer r0, Value.int .i64 r1]) ∧ R r0 r1 w')

def C_towpathlaw10_asked (r : Option Addr) (x : Option Addr) (o_ : T_towpathlaw10_Op) (w : World) (R : Bool → World → Prop) : Prop :=
  Calls Try.prog 39 #[Value.pointer r, Value.pointer x, Value.agg #[Value.int .u8 o_.Kind, Value.int .i64 o_.X]] w (fun e w' => ∃ (r0 : Bool), e = .returned (Value.bool r0) ∧ R r0 w')

def C_towpathlaw10_gone (r : Option Addr) (most : Int) (w : World) (R : Slc → World → Prop) : Prop :=
  Calls Try.prog 40 #[Value.pointer r, Value.int .i64 most] w (fun e w' => ∃ (r0 : Slc), e = .returned (Value.slice r0.ptr r0.len r0.cap) ∧ R r0 w')

def C_towpathref10_Ring_All (r : Option Addr) (w : World) (R : Slc → World → Prop) : Prop :=
  Calls Try.prog 41 #[Value.pointer r] w (fun e w' => ∃ (r0 : Slc), e = .returned (Value.slice r0.ptr r0.len r0.cap) ∧ R r0 w')

def C_towpathref05_Key (s : ByteArray) (w : World) (R : Bool → World → Prop) : Prop :=
  Calls Try.prog 43 #[Value.string s] w (fun e w' => ∃ (r0 : Bool), e = .returned (Value.bool r0) ∧ R r0 w')

def C_towpathref03_Hash (key : ByteArray) (w : World) (R : Int → World → Prop) : Prop :=
  Calls Try.prog 44 #[Value.string key] w (fun e w' => ∃ (r0 : Int), e = .returned (Value.int .u32 r0) ∧ R r0 w')

def C_towpathref13_in (n_ : Int) (most : Int) (w : World) (R : Bool → World → Prop) : Prop :=
  Calls Try.prog 45 #[Value.int .i64 n_, Value.int .i64 most] w (fun e w' => ∃ (r0 : Bool), e = .returned (Value.bool r0) ∧ R r0 w')

def C_conf_name (kind : Int) (w : World) (R : ByteArray → World → Prop) : Prop :=
  Calls Try.prog 46 #[Value.int .i64 kind] w (fun e w' => ∃ (r0 : ByteArray), e = .returned (Value.string r0) ∧ R r0 w')

def C_ring_Ring_int_First (r : Option Addr) (w : World) (R : Int → Bool → World → Prop) : Prop :=
  Calls Try.prog 47 #[Value.pointer r] w (fun e w' => ∃ (r0 : Int) (r1 : Bool), e = .returned (Value.tuple #[Value.int .i64 r0, Value.bool r1]) ∧ R r0 r1 w')

def C_ring_Ring_int_gone (r : Option Addr) (w : World) (R : Bool → World → Prop) : Prop :=
  Calls Try.prog 48 #[Value.pointer r] w (fun e w' => ∃ (r0 : Bool), e = .returned (Value.bool r0) ∧ R r0 w')

def C_gate_Gate_set (g : Option Addr) (n_ : Int) (w : World) (R : World → Prop) : Prop :=
  Calls Try.prog 49 #[Value.pointer g, Value.int .i64 n_] w (fun e w' => e = .returned (Value.tuple #[]) ∧ R w')

def C_gate_Gate_is (g : Option Addr) (n_ : Int) (w : World) (R : Bool → World → Prop) : Prop :=
  Calls Try.prog 50 #[Value.pointer g, Value.int .i64 n_] w (fun e w' => ∃ (r0 : Bool), e = .returned (Value.bool r0) ∧ R r0 w')

def C_towpathref10_Ring_Put (r : Option Addr) (x : Int) (w : World) (R : Bool → World → Prop) : Prop :=
  Calls Try.prog 51 #[Value.pointer r, Value.int .i64 x] w (fun e w' => ∃ (r0 : Bool), e = .returned (Value.bool r0) ∧ R r0 w')

def C_towpathref10_Ring_Take (r : Option Addr) (w : World) (R : Int → Bool → World → Prop) : Prop :=
  Calls Try.prog 52 #[Value.pointer r] w (fun e w' => ∃ (r0 : Int) (r1 : Bool), e = .returned (Value.tuple #[Value.int .i64 r0, Value.bool r1]) ∧ R r0 r1 w')

def C_towpathref10_Ring_Close (r : Option Addr) (w : World) (R : World → Prop) : Prop :=
  Calls Try.prog 53 #[Value.pointer r] w (fun e w' => e = .returned (Value.tuple #[]) ∧ R w')

def C_towpathlaw10_few (l_ : Slc) (most : Int) (w : World) (R : Slc → World → Prop) : Prop :=
  Calls Try.prog 54 #[Value.slice l_.ptr l_.len l_.cap, Value.int .i64 most] w (fun e w' => ∃ (r0 : Slc), e = .returned (Value.slice r0.ptr r0.len r0.cap) ∧ R r0 w')

def C_towpathref10_Ring_First (r : Option Addr) (w : World) (R : Int → Bool → World → Prop) : Prop :=
  Calls Try.prog 55 #[Value.pointer r] w (fun e w' => ∃ (r0 : Int) (r1 : Bool), e = .returned (Value.tuple #[Value.int .i64 r0, Value.bool r1]) ∧ R r0 r1 w')

def C_towpathref10_Ring_Len (r : Option Addr) (w : World) (R : Int → World → Prop) : Prop :=
  Calls Try.prog 56 #[Value.pointer r] w (fun e w' => ∃ (r0 : Int), e = .returned (Value.int .i64 r0) ∧ R r0 w')

def C_towpathref10_Ring_Room (r : Option Addr) (w : World) (R : Int → World → Prop) : Prop :=
  Calls Try.prog 57 #[Value.pointer r] w (fun e w' => ∃ (r0 : Int), e = .returned (Value.int .i64 r0) ∧ R r0 w')

def C_towpathref10_Ring_Over (r : Option Addr) (w : World) (R : Bool → World → Prop) : Prop :=
  Calls Try.prog 58 #[Value.pointer r] w (fun e w' => ∃ (r0 : Bool), e = .returned (Value.bool r0) ∧ R r0 w')

def F_towpathlaw13_ConfShards (c : T_api_Config) (key : ByteArray) (R : Bool → World → Prop) (w : World) : Prop :=
  ∀ b_ w1, b_ = w.heap.size → w1 = w.alloc (Obj.cells ([Value.int .i64 c.Lanes, Value.int .i64 c.Shards, Value.int .i64 c.Window, Value.int .i64 c.Queue]).toArray ty_api_Config (0, 0)) → (∀ b_1 w2, b_1 = w1.heap.size → w2 = w1.alloc (Obj.cells ([Value.int .i64 ((key.size : Nat) : Int)]).toArray ty_int (0, 0)) → (C_towpathlaw01_Beyond (Slc.mk (some ⟨b_1, 0, none⟩) 1 1) w2 (fun (v12 : Bool) w3 => (v12 = true → (R true w3)) ∧
  (v12 = false → (∃ (v14 : T_api_Config), CellsAt w3 b_ 0 [Value.int .i64 v14.Lanes, Value.int .i64 v14.Shards, Value.int .i64 v14.Window, Value.int .i64 v14.Queue] ∧ (C_conf_Shard v14 key w3 (fun (n_ : Int) (e : Int) w4 => ∃ (v20 : T_api_Config), CellsAt w4 b_ 0 [Value.int .i64 v20.Lanes, Value.int .i64 v20.Shards, Value.int .i64 v20.Window, Value.int .i64 v20.Queue] ∧ (C_towpathref13_Shard v20 key w4 (fun (want : Int) (f : Int) w5 => ∃ (v25 : T_api_Config), CellsAt w5 b_ 0 [Value.int .i64 v25.Lanes, Value.int .i64 v25.Shards, Value.int .i64 v25.Window, Value.int .i64 v25.Queue] ∧ (∃ (v26 : Int), (∀ w', Ext w5 w' → C_conf_Check v25 w' (fun (v26' : Int) w'' => v26' = v26 ∧ Ext w' w'')) ∧ (∃ (v27 : T_api_Config), CellsAt w5 b_ 0 [Value.int .i64 v27.Lanes, Value.int .i64 v27.Shards, Value.int .i64 v27.Window, Value.int .i64 v27.Queue] ∧ (∃ (v28 : Int), (∀ w', Ext w5 w' → C_towpathref13_Check v27 w' (fun (v28' : Int) w'' => v28' = v28 ∧ Ext w' w'')) ∧ (∀ w8, Ext w5 w8 → (R (((v26 == v28) && (n_ == want)) && (e == f)) w8))))))))))))))

def F_towpathlaw13_ConfTasks (c : T_api_Config) (task : Int) (R : Bool → World → Prop) (w : World) : Prop :=
  ∀ b_ w1, b_ = w.heap.size → w1 = w.alloc (Obj.cells ([Value.int .i64 c.Lanes, Value.int .i64 c.Shards, Value.int .i64 c.Window, Value.int .i64 c.Queue]).toArray ty_api_Config (0, 0)) → (∃ (v16 : T_api_Config), CellsAt w1 b_ 0 [Value.int .i64 v16.Lanes, Value.int .i64 v16.Shards, Value.int .i64 v16.Window, Value.int .i64 v16.Queue] ∧ (C_conf_Tasks v16 w1 (fun (n_ : Int) (e : Int) w2 => ∃ (v21 : T_api_Config), CellsAt w2 b_ 0 [Value.int .i64 v21.Lanes, Value.int .i64 v21.Shards, Value.int .i64 v21.Window, Value.int .i64 v21.Queue] ∧ (C_towpathref13_Tasks v21 w2 (fun (want : Int) (f : Int) w3 => ∃ (v26 : T_api_Config), CellsAt w3 b_ 0 [Value.int .i64 v26.Lanes, Value.int .i64 v26.Shards, Value.int .i64 v26.Window, Value.int .i64 v26.Queue] ∧ (C_conf_Name v26 task w3 (fun (s : ByteArray) (k : Int) (g : Int) w4 => ∃ (v33 : T_api_Config), CellsAt w4 b_ 0 [Value.int .i64 v33.Lanes, Value.int .i64 v33.Shards, Value.int .i64 v33.Window, Value.int .i64 v33.Queue] ∧ (C_towpathref13_Name v33 task w4 (fun (name : ByteArray) (which : Int) (h_ : Int) w5 => R (((((n_ == want) && (e == f)) && (s.toList == name.toList)) && (k == which)) && (g == h_)) w5)))))))))

def F_towpathlaw10_RingOrders_k2 (k : Int) (again_1 : Int → Int → World → Prop) (put2 : Int) (w6 : World) : Prop :=
  again_1 put2 (IntKind.i64.wrap (k + 1)) w6

def F_towpathlaw10_RingOrders_k4 (k1 : Int) (again_2 : Int → Int → World → Prop) (took2 : Int) (w9 : World) : Prop :=
  again_2 took2 (IntKind.i64.wrap (k1 + 1)) w9

def F_towpathlaw10_RingOrders_k5 (R : Bool → World → Prop) (i : Int) (again_ : Int → Int → Int → World → Prop) (put1 : Int) (took1 : Int) (t113 : Bool) (w11 : World) : Prop :=
  (t113 = true → (R false w11)) ∧
  (t113 = false → (again_ put1 took1 (IntKind.i64.wrap (i + 1)) w11))

def F_towpathlaw10_RingOrders_L3 (capacity : Int) (turns : Slc) (R : Bool → World → Prop) (r : Option Addr) (i : Int) (again_ : Int → Int → Int → World → Prop) (put1 : Int) (again_2 : Int → Int → World → Prop) (took1 : Int) (k1 : Int) (w8 : World) : Prop :=
  IsAt turns.ptr ∧ (0 ≤ i ∧ i < ((turns.len : Nat) : Int) ∧ (∃ (v72 : Int), w8.cell? ⟨(pblk turns.ptr), (poff turns.ptr) + i.toNat, none⟩ = some (Value.int .u8 v72) ∧ (((decide (k1 < (IntKind.i64.wrap (IntKind.u8.wrap (Int.tdiv v72 5))))) = true → (C_ring_Ring_int_Take r w8 (fun (x : Int) (ok : Bool) w10 => (((!(ok == (decide (took1 < put1)))) || (ok && (x != took1))) = true → (R false w10)) ∧
  (((!(ok == (decide (took1 < put1)))) || (ok && (x != took1))) = false → ((ok = true → (F_towpathlaw10_RingOrders_k4 k1 again_2 (IntKind.i64.wrap (took1 + 1)) w10)) ∧
  (ok = false → (F_towpathlaw10_RingOrders_k4 k1 again_2 took1 w10))))))) ∧
  ((decide (k1 < (IntKind.i64.wrap (IntKind.u8.wrap (Int.tdiv v72 5))))) = false → (C_ring_Ring_int_Len r w8 (fun (v100 : Int) w12 => ((v100 != (IntKind.i64.wrap (put1 - took1))) = true → (F_towpathlaw10_RingOrders_k5 R i again_ put1 took1 true w12)) ∧
  ((v100 != (IntKind.i64.wrap (put1 - took1))) = false → (C_ring_Ring_int_Len r w12 (fun (v107 : Int) w13 => C_ring_Ring_int_Room r w13 (fun (v109 : Int) w14 => F_towpathlaw10_RingOrders_k5 R i again_ put1 took1 ((IntKind.i64.wrap (v107 + v109)) != (IntKind.i64.wrap (1 + (IntKind.i64.wrap (Int.tmod capacity 40))))) w14))))))))))

def F_towpathlaw10_RingOrders_L1 (capacity : Int) (turns : Slc) (R : Bool → World → Prop) (r : Option Addr) (took : Int) (i : Int) (again_ : Int → Int → Int → World → Prop) (again_1 : Int → Int → World → Prop) (put1 : Int) (k : Int) (w5 : World) : Prop :=
  IsAt turns.ptr ∧ (0 ≤ i ∧ i < ((turns.len : Nat) : Int) ∧ (∃ (v49 : Int), w5.cell? ⟨(pblk turns.ptr), (poff turns.ptr) + i.toNat, none⟩ = some (Value.int .u8 v49) ∧ (((decide (k < (IntKind.i64.wrap (Int.tmod v49 50)))) = true → (C_ring_Ring_int_Put r put1 w5 (fun (v57 : Bool) w7 => ((!(v57 == (decide ((IntKind.i64.wrap (put1 - took)) < (IntKind.i64.wrap (1 + (IntKind.i64.wrap (Int.tmod capacity 40)))))))) = true → (R false w7)) ∧
  ((!(v57 == (decide ((IntKind.i64.wrap (put1 - took)) < (IntKind.i64.wrap (1 + (IntKind.i64.wrap (Int.tmod capacity 40)))))))) = false → ((v57 = true → (F_towpathlaw10_RingOrders_k2 k again_1 (IntKind.i64.wrap (put1 + 1)) w7)) ∧
  (v57 = false → (F_towpathlaw10_RingOrders_k2 k again_1 put1 w7))))))) ∧
  ((decide (k < (IntKind.i64.wrap (Int.tmod v49 50)))) = false → (∃ (I : Int → Int → World → Prop) (μ : Int → Int → World → Nat), I took 0 w5 ∧
  ∀ (took1 : Int) (k1 : Int) w, I took1 k1 w → F_towpathlaw10_RingOrders_L3 capacity turns R r i again_ put1 (fun (took1' : Int) (k1' : Int) w' => I took1' k1' w' ∧ μ took1' k1' w' < μ took1 k1 w) took1 k1 w)))))

def F_towpathlaw10_RingOrders_k7 (R : Bool → World → Prop) (took3 : Int) (again_3 : Int → World → Prop) (t135 : Bool) (w18 : World) : Prop :=
  (t135 = true → (R false w18)) ∧
  (t135 = false → (again_3 (IntKind.i64.wrap (took3 + 1)) w18))

def F_towpathlaw10_RingOrders_L6 (R : Bool → World → Prop) (r : Option Addr) (put : Int) (again_3 : Int → World → Prop) (took3 : Int) (w16 : World) : Prop :=
  ((decide (took3 < put)) = true → (C_ring_Ring_int_Take r w16 (fun (x1 : Int) (ok1 : Bool) w17 => (((!ok1) || (x1 != took3)) = true → (F_towpathlaw10_RingOrders_k7 R took3 again_3 true w17)) ∧
  (((!ok1) || (x1 != took3)) = false → (C_ring_Ring_int_Room r w17 (fun (v133 : Int) w19 => F_towpathlaw10_RingOrders_k7 R took3 again_3 (v133 != 0) w19)))))) ∧
  ((decide (took3 < put)) = false → (C_ring_Ring_int_Take r w16 (fun (v140 : Int) (ok2 : Bool) w20 => ((!ok2) = true → (C_ring_Ring_int_Over r w20 (fun (v147 : Bool) w21 => R v147 w21))) ∧
  ((!ok2) = false → (R false w20)))))

def F_towpathlaw10_RingOrders_L0 (capacity : Int) (turns : Slc) (R : Bool → World → Prop) (r : Option Addr) (again_ : Int → Int → Int → World → Prop) (put : Int) (took : Int) (i : Int) (w4 : World) : Prop :=
  ((decide (i < ((turns.len : Nat) : Int))) = true → (∃ (I : Int → Int → World → Prop) (μ : Int → Int → World → Nat), I put 0 w4 ∧
  ∀ (put1 : Int) (k : Int) w, I put1 k w → F_towpathlaw10_RingOrders_L1 capacity turns R r took i again_ (fun (put1' : Int) (k' : Int) w' => I put1' k' w' ∧ μ put1' k' w' < μ put1 k w) put1 k w)) ∧
  ((decide (i < ((turns.len : Nat) : Int))) = false → (C_ring_Ring_int_Close r w4 (fun w15 => ∃ (I : Int → World → Prop) (μ : Int → World → Nat), I took w15 ∧
  ∀ (took3 : Int) w, I took3 w → F_towpathlaw10_RingOrders_L6 R r put (fun (took3' : Int) w' => I took3' w' ∧ μ took3' w' < μ took3 w) took3 w)))

def F_towpathlaw10_RingOrders (capacity : Int) (turns : Slc) (R : Bool → World → Prop) (w : World) : Prop :=
  C_towpathlaw10_alive w (fun (v20 : Bool) w1 => (((!v20) || (decide (((turns.len : Nat) : Int) > 3000))) = true → (C_towpathlaw10_alive w1 (fun (v27 : Bool) w2 => R v27 w2))) ∧
  (((!v20) || (decide (((turns.len : Nat) : Int) > 3000))) = false → (C_ring_New_int (IntKind.i64.wrap (1 + (IntKind.i64.wrap (Int.tmod capacity 40)))) w1 (fun (r : Option Addr) (e : Int) w3 => ((e != 0) = true → (R false w3)) ∧
  ((e != 0) = false → (∃ (I : Int → Int → Int → World → Prop) (μ : Int → Int → Int → World → Nat), I 0 0 0 w3 ∧
  ∀ (put : Int) (took : Int) (i : Int) w, I put took i w → F_towpathlaw10_RingOrders_L0 capacity turns R r (fun (put' : Int) (took' : Int) (i' : Int) w' => I put' took' i' w' ∧ μ put' took' i' w' < μ put took i w) put took i w))))))

def F_towpathlaw12_GateOrders_k2 (number : Int) (again_1 : Int → Int → World → Prop) (k1 : Int) (w7 : World) : Prop :=
  again_1 k1 (IntKind.i64.wrap (number + 1)) w7

def F_towpathlaw12_GateOrders_k7 (R : Bool → World → Prop) (v114 : Slc) (q : Int) (again_3 : Int → Int → World → Prop) (t145 : Bool) (w16 : World) : Prop :=
  (t145 = true → (R false w16)) ∧
  (t145 = false → (IsAt v114.ptr ∧ (0 ≤ q ∧ q < ((v114.len : Nat) : Int) ∧ (∃ (last1 : Int), w16.cell? ⟨(pblk v114.ptr), (poff v114.ptr) + q.toNat, none⟩ = some (Value.int .i64 last1) ∧ (again_3 last1 (IntKind.i64.wrap (q + 1)) w16)))))

def F_towpathlaw12_GateOrders_k9 (q1 : Int) (again_4 : Int → Int → World → Prop) (many1 : Int) (w18 : World) : Prop :=
  again_4 many1 (IntKind.i64.wrap (q1 + 1)) w18

def F_towpathlaw12_GateOrders_k10 (R : Bool → World → Prop) (i : Int) (again_ : Int → World → Prop) (t207 : Bool) (w23 : World) : Prop :=
  (t207 = true → (R false w23)) ∧
  (t207 = false → (again_ (IntKind.i64.wrap (i + 1)) w23))

def F_towpathlaw12_GateOrders_L8 (order : Slc) (R : Bool → World → Prop) (g : Option Addr) (b_ : Nat) (i : Int) (again_ : Int → World → Prop) (k : Int) (mark : Int) (v114 : Slc) (again_4 : Int → Int → World → Prop) (many : Int) (q1 : Int) (w17 : World) : Prop :=
  ((decide (q1 ≤ ((order.len : Nat) : Int))) = true → (∀ w19, (∃ k, w19 = w17.drewN k) → (0 ≤ q1 ∧ q1 < (((IntKind.i64.wrap (((order.len : Nat) : Int) + 2)).toNat : Nat) : Int) ∧ (∃ (v161 : Bool), w19.cell? ⟨b_, 0 + q1.toNat, none⟩ = some (Value.bool v161) ∧ (C_gate_Gate_Has g q1 w19 (fun (v157 : Bool) w20 => w20.cell? ⟨b_, 0 + q1.toNat, none⟩ = some (Value.bool v161) ∧ (((!(v157 == v161)) = true → (R false w20)) ∧
  ((!(v157 == v161)) = false → (0 ≤ q1 ∧ q1 < (((IntKind.i64.wrap (((order.len : Nat) : Int) + 2)).toNat : Nat) : Int) ∧ (∃ (v166 : Bool), w20.cell? ⟨b_, 0 + q1.toNat, none⟩ = some (Value.bool v166) ∧ (((v166 && (decide (q1 > mark))) = true → (F_towpathlaw12_GateOrders_k9 q1 again_4 (IntKind.i64.wrap (many + 1)) w20)) ∧
  ((v166 && (decide (q1 > mark))) = false → (F_towpathlaw12_GateOrders_k9 q1 again_4 many w20))))))))))))) ∧
  ((decide (q1 ≤ ((order.len : Nat) : Int))) = false → (C_gate_Gate_Mark g w17 (fun (v176 : Int) w21 => C_gate_New v176 v114 w21 (fun (h_ : Option Addr) (j : Int) w22 => ((many != ((v114.len : Nat) : Int)) = true → (F_towpathlaw12_GateOrders_k10 R i again_ true w22)) ∧
  ((many != ((v114.len : Nat) : Int)) = false → (C_gate_Gate_Has g (IntKind.i64.wrap (mark + 1)) w22 (fun (v189 : Bool) w24 => ((v189 || (j != 0)) = true → (F_towpathlaw12_GateOrders_k10 R i again_ true w24)) ∧
  ((v189 || (j != 0)) = false → (C_gate_Gate_Mark h_ w24 (fun (v197 : Int) w25 => ((v197 != mark) = true → (F_towpathlaw12_GateOrders_k10 R i again_ true w25)) ∧
  ((v197 != mark) = false → (C_gate_Gate_Beyond h_ w25 (fun (v203 : Slc) w26 => C_towpathlaw01_SameInts v203 v114 w26 (fun (v205 : Bool) w27 => F_towpathlaw12_GateOrders_k10 R i again_ (!v205) w27))))))))))))))

def F_towpathlaw12_GateOrders_L6 (order : Slc) (R : Bool → World → Prop) (g : Option Addr) (b_ : Nat) (i : Int) (again_ : Int → World → Prop) (k : Int) (mark : Int) (v114 : Slc) (again_3 : Int → Int → World → Prop) (last : Int) (q : Int) (w15 : World) : Prop :=
  ((decide (q < ((v114.len : Nat) : Int))) = true → (IsAt v114.ptr ∧ (0 ≤ q ∧ q < ((v114.len : Nat) : Int) ∧ (∃ (v125 : Int), w15.cell? ⟨(pblk v114.ptr), (poff v114.ptr) + q.toNat, none⟩ = some (Value.int .i64 v125) ∧ (((decide (v125 ≤ last)) = true → (F_towpathlaw12_GateOrders_k7 R v114 q again_3 true w15)) ∧
  ((decide (v125 ≤ last)) = false → (IsAt v114.ptr ∧ (0 ≤ q ∧ q < ((v114.len : Nat) : Int) ∧ (∃ (v132 : Int), w15.cell? ⟨(pblk v114.ptr), (poff v114.ptr) + q.toNat, none⟩ = some (Value.int .i64 v132) ∧ (((decide (v132 > ((order.len : Nat) : Int))) = true → (F_towpathlaw12_GateOrders_k7 R v114 q again_3 true w15)) ∧
  ((decide (v132 > ((order.len : Nat) : Int))) = false → (IsAt v114.ptr ∧ (0 ≤ q ∧ q < ((v114.len : Nat) : Int) ∧ (∃ (v141 : Int), w15.cell? ⟨(pblk v114.ptr), (poff v114.ptr) + q.toNat, none⟩ = some (Value.int .i64 v141) ∧ (0 ≤ v141 ∧ v141 < (((IntKind.i64.wrap (((order.len : Nat) : Int) + 2)).toNat : Nat) : Int) ∧ (∃ (v143 : Bool), w15.cell? ⟨b_, 0 + v141.toNat, none⟩ = some (Value.bool v143) ∧ (F_towpathlaw12_GateOrders_k7 R v114 q again_3 (!v143) w15))))))))))))))))) ∧
  ((decide (q < ((v114.len : Nat) : Int))) = false → (∃ (I : Int → Int → World → Prop) (μ : Int → Int → World → Nat), I 0 1 w15 ∧
  ∀ (many : Int) (q1 : Int) w, I many q1 w → F_towpathlaw12_GateOrders_L8 order R g b_ i again_ k mark v114 (fun (many' : Int) (q1' : Int) w' => I many' q1' w' ∧ μ many' q1' w' < μ many q1 w) many q1 w))

def F_towpathlaw12_GateOrders_k5 (order : Slc) (R : Bool → World → Prop) (g : Option Addr) (b_ : Nat) (i : Int) (again_ : Int → World → Prop) (k : Int) (mark : Int) (t112 : Bool) (w13 : World) : Prop :=
  (t112 = true → (R false w13)) ∧
  (t112 = false → (C_gate_Gate_Beyond g w13 (fun (v114 : Slc) w14 => ∃ (I : Int → Int → World → Prop) (μ : Int → Int → World → Nat), I mark 0 w14 ∧
  ∀ (last : Int) (q : Int) w, I last q w → F_towpathlaw12_GateOrders_L6 order R g b_ i again_ k mark v114 (fun (last' : Int) (q' : Int) w' => I last' q' w' ∧ μ last' q' w' < μ last q w) last q w)))

def F_towpathlaw12_GateOrders_k4 (order : Slc) (R : Bool → World → Prop) (g : Option Addr) (b_ : Nat) (i : Int) (again_ : Int → World → Prop) (k : Int) (v72 : Int) (up : Int) (f : Int) (mark : Int) (again_2 : Int → World → Prop) (t91 : Bool) (w12 : World) : Prop :=
  (t91 = true → (again_2 (IntKind.i64.wrap (mark + 1)) w12)) ∧
  (t91 = false → (((f != 0) = true → (F_towpathlaw12_GateOrders_k5 order R g b_ i again_ k mark true w12)) ∧
  ((f != 0) = false → (C_gate_Gate_Mark g w12 (fun (v98 : Int) w28 => F_towpathlaw12_GateOrders_k5 order R g b_ i again_ k mark (((v98 != mark) || (up != (IntKind.i64.wrap (mark - v72)))) || (decide (up < 0))) w28)))))

def F_towpathlaw12_GateOrders_L3 (order : Slc) (R : Bool → World → Prop) (g : Option Addr) (b_ : Nat) (i : Int) (again_ : Int → World → Prop) (k : Int) (v72 : Int) (up : Int) (f : Int) (again_2 : Int → World → Prop) (mark : Int) (w11 : World) : Prop :=
  ((decide (mark < ((order.len : Nat) : Int))) = true → (0 ≤ IntKind.i64.wrap (mark + 1) ∧ IntKind.i64.wrap (mark + 1) < (((IntKind.i64.wrap (((order.len : Nat) : Int) + 2)).toNat : Nat) : Int) ∧ (∃ (v90 : Bool), w11.cell? ⟨b_, 0 + (IntKind.i64.wrap (mark + 1)).toNat, none⟩ = some (Value.bool v90) ∧ (F_towpathlaw12_GateOrders_k4 order R g b_ i again_ k v72 up f mark again_2 v90 w11)))) ∧
  ((decide (mark < ((order.len : Nat) : Int))) = false → (F_towpathlaw12_GateOrders_k4 order R g b_ i again_ k v72 up f mark again_2 false w11))

def F_towpathlaw12_GateOrders_L1 (order : Slc) (R : Bool → World → Prop) (g : Option Addr) (b_ : Nat) (i : Int) (again_ : Int → World → Prop) (again_1 : Int → Int → World → Prop) (k : Int) (number : Int) (w6 : World) : Prop :=
  0 ≤ number ∧ number < (((IntKind.i64.wrap (((order.len : Nat) : Int) + 2)).toNat : Nat) : Int) ∧ (∃ (v57 : Bool), w6.cell? ⟨b_, 0 + number.toNat, none⟩ = some (Value.bool v57) ∧ (((v57 || (decide (k > 0))) = true → (0 ≤ number ∧ number < (((IntKind.i64.wrap (((order.len : Nat) : Int) + 2)).toNat : Nat) : Int) ∧ (∃ (v65 : Bool), w6.cell? ⟨b_, 0 + number.toNat, none⟩ = some (Value.bool v65) ∧ (((!v65) = true → (F_towpathlaw12_GateOrders_k2 number again_1 (IntKind.i64.wrap (k - 1)) w6)) ∧
  ((!v65) = false → (F_towpathlaw12_GateOrders_k2 number again_1 k w6)))))) ∧
  ((v57 || (decide (k > 0))) = false → (C_gate_Gate_Mark g w6 (fun (v72 : Int) w8 => C_gate_Gate_Done g number w8 (fun (up : Int) (f : Int) w9 => 0 ≤ number ∧ number < (((IntKind.i64.wrap (((order.len : Nat) : Int) + 2)).toNat : Nat) : Int) ∧ (Writable w9 b_ (0 + number.toNat) 1 ∧ (∀ w10, w10 = World.puts b_ (0 + number.toNat) [Value.bool true] w9 → (∃ (I : Int → World → Prop) (μ : Int → World → Nat), I 0 w10 ∧
  ∀ (mark : Int) w, I mark w → F_towpathlaw12_GateOrders_L3 order R g b_ i again_ k v72 up f (fun (mark' : Int) w' => I mark' w' ∧ μ mark' w' < μ mark w) mark w)))))))))

def F_towpathlaw12_GateOrders_L0 (order : Slc) (R : Bool → World → Prop) (g : Option Addr) (b_ : Nat) (again_ : Int → World → Prop) (i : Int) (w5 : World) : Prop :=
  ((decide (i < ((order.len : Nat) : Int))) = true → (IsAt order.ptr ∧ (0 ≤ i ∧ i < ((order.len : Nat) : Int) ∧ (∃ (v48 : Int), w5.cell? ⟨(pblk order.ptr), (poff order.ptr) + i.toNat, none⟩ = some (Value.int .u8 v48) ∧ ((IntKind.i64.wrap (((order.len : Nat) : Int) - i)) ≠ 0 ∧ (∃ (I : Int → Int → World → Prop) (μ : Int → Int → World → Nat), I (Int.tmod (IntKind.i64.wrap v48) (IntKind.i64.wrap (((order.len : Nat) : Int) - i))) 1 w5 ∧
  ∀ (k : Int) (number : Int) w, I k number w → F_towpathlaw12_GateOrders_L1 order R g b_ i again_ (fun (k' : Int) (number' : Int) w' => I k' number' w' ∧ μ k' number' w' < μ k number w) k number w)))))) ∧
  ((decide (i < ((order.len : Nat) : Int))) = false → (C_gate_Gate_Mark g w5 (fun (v209 : Int) w29 => ((v209 == ((order.len : Nat) : Int)) = true → (C_gate_Gate_Beyond g w29 (fun (v214 : Slc) w30 => R (((v214.len : Nat) : Int) == 0) w30))) ∧
  ((v209 == ((order.len : Nat) : Int)) = false → (R false w29)))))

def F_towpathlaw12_GateOrders (order : Slc) (R : Bool → World → Prop) (w : World) : Prop :=
  C_towpathlaw12_alive w (fun (v21 : Bool) w1 => (((!v21) || (decide (((order.len : Nat) : Int) > 120))) = true → (C_towpathlaw12_alive w1 (fun (v28 : Bool) w2 => R v28 w2))) ∧
  (((!v21) || (decide (((order.len : Nat) : Int) > 120))) = false → (C_gate_New 0 (Slc.mk none 0 0) w1 (fun (g : Option Addr) (e : Int) w3 => ((e != 0) = true → (R false w3)) ∧
  ((e != 0) = false → (0 ≤ IntKind.i64.wrap (((order.len : Nat) : Int) + 2) ∧ IntKind.i64.wrap (((order.len : Nat) : Int) + 2) ≤ IntKind.i64.wrap (((order.len : Nat) : Int) + 2) ∧ (1 : Int) * (IntKind.i64.wrap (((order.len : Nat) : Int) + 2)) ≤ 281474976710656 ∧ (∀ b_ w4, b_ = w3.heap.size → w4 = w3.alloc (Obj.cells (repCells ((IntKind.i64.wrap (((order.len : Nat) : Int) + 2)).toNat) [Value.bool false]) ty_bool (0, 0)) → (∃ (I : Int → World → Prop) (μ : Int → World → Nat), I 0 w4 ∧
  ∀ (i : Int) w, I i w → F_towpathlaw12_GateOrders_L0 order R g b_ (fun (i' : Int) w' => I i' w' ∧ μ i' w' < μ i w) i w))))))))

def F_towpathlaw12_GateAgain_k2 (R : Bool → World → Prop) (i1 : Int) (again_1 : Int → World → Prop) (t137 : Bool) (w15 : World) : Prop :=
  (t137 = true → (R false w15)) ∧
  (t137 = false → (again_1 (IntKind.i64.wrap (i1 + 1)) w15))

def F_towpathlaw12_GateAgain_L1 (numbers : Slc) (R : Bool → World → Prop) (g : Option Addr) (again_1 : Int → World → Prop) (i1 : Int) (w7 : World) : Prop :=
  ((decide (i1 < ((numbers.len : Nat) : Int))) = true → (C_gate_Gate_Mark g w7 (fun (v74 : Int) w8 => C_gate_Gate_Beyond g w8 (fun (v76 : Slc) w9 => C_gate_New v74 v76 w9 (fun (h_ : Option Addr) (f : Int) w10 => ∀ w11, (∃ k, w11 = w10.drewN k) → (IsAt numbers.ptr ∧ (0 ≤ i1 ∧ i1 < ((numbers.len : Nat) : Int) ∧ (∃ (v85 : Int), w11.cell? ⟨(pblk numbers.ptr), (poff numbers.ptr) + i1.toNat, none⟩ = some (Value.int .u8 v85) ∧ (C_gate_Gate_Mark g w11 (fun (v81 : Int) w12 => w12.cell? ⟨(pblk numbers.ptr), (poff numbers.ptr) + i1.toNat, none⟩ = some (Value.int .u8 v85) ∧ (C_gate_Gate_Done g (IntKind.i64.wrap (v81 + (IntKind.i64.wrap (Int.tmod v85 12)))) w12 (fun (a_ : Int) (x : Int) w13 => C_gate_Gate_Done h_ (IntKind.i64.wrap (v81 + (IntKind.i64.wrap (Int.tmod v85 12)))) w13 (fun (b_1 : Int) (y : Int) w14 => ((((f != 0) || (a_ != b_1)) || (x != y)) = true → (F_towpathlaw12_GateAgain_k2 R i1 again_1 true w14)) ∧
  ((((f != 0) || (a_ != b_1)) || (x != y)) = false → (C_gate_Gate_Mark g w14 (fun (v115 : Int) w16 => C_gate_Gate_Mark h_ w16 (fun (v117 : Int) w17 => ((v115 != v117) = true → (F_towpathlaw12_GateAgain_k2 R i1 again_1 true w17)) ∧
  ((v115 != v117) = false → (C_gate_Gate_Beyond g w17 (fun (v122 : Slc) w18 => C_gate_Gate_Beyond h_ w18 (fun (v124 : Slc) w19 => C_towpathlaw01_SameInts v122 v124 w19 (fun (v125 : Bool) w20 => ((!v125) = true → (F_towpathlaw12_GateAgain_k2 R i1 again_1 true w20)) ∧
  ((!v125) = false → (((x == 0) = true → (C_gate_Gate_Has g (IntKind.i64.wrap (v81 + (IntKind.i64.wrap (Int.tmod v85 12)))) w20 (fun (v134 : Bool) w21 => F_towpathlaw12_GateAgain_k2 R i1 again_1 (!v134) w21))) ∧
  ((x == 0) = false → (F_towpathlaw12_GateAgain_k2 R i1 again_1 false w20)))))))))))))))))))))))))) ∧
  ((decide (i1 < ((numbers.len : Nat) : Int))) = false → (R true w7))

def F_towpathlaw12_GateAgain_L0 (mark : Int) (beyond : Slc) (numbers : Slc) (R : Bool → World → Prop) (again_ : Slc → Int → Int → World → Prop) (l_ : Slc) (last : Int) (i : Int) (w3 : World) : Prop :=
  ((decide (i < ((beyond.len : Nat) : Int))) = true → (IsAt beyond.ptr ∧ (0 ≤ i ∧ i < ((beyond.len : Nat) : Int) ∧ (∃ (v47 : Int), w3.cell? ⟨(pblk beyond.ptr), (poff beyond.ptr) + i.toNat, none⟩ = some (Value.int .u8 v47) ∧ (∀ b_ w4, b_ = w3.heap.size → w4 = w3.alloc (Obj.cells ([Value.int .i64 (IntKind.i64.wrap ((IntKind.i64.wrap (last + 1)) + (IntKind.i64.wrap (Int.tmod v47 4))))]).toArray ty_int (0, 0)) → (∃ src, SrcAt w4 (Slc.mk (some ⟨b_, 0, none⟩) 1 1) 1 src ∧ AppendW 1 8 ty_int [Value.int .i64 0] l_ src 1 w4 (fun l_1 w5 => again_ l_1 (IntKind.i64.wrap ((IntKind.i64.wrap (last + 1)) + (IntKind.i64.wrap (Int.tmod v47 4)))) (IntKind.i64.wrap (i + 1)) w5))))))) ∧
  ((decide (i < ((beyond.len : Nat) : Int))) = false → (C_gate_New (IntKind.i64.wrap mark) l_ w3 (fun (g : Option Addr) (e : Int) w6 => ((e != 0) = true → (R (decide (last > 65536)) w6)) ∧
  ((e != 0) = false → (∃ (I : Int → World → Prop) (μ : Int → World → Nat), I 0 w6 ∧
  ∀ (i1 : Int) w, I i1 w → F_towpathlaw12_GateAgain_L1 numbers R g (fun (i1' : Int) w' => I i1' w' ∧ μ i1' w' < μ i1 w) i1 w)))))

def F_towpathlaw12_GateAgain (mark : Int) (beyond : Slc) (numbers : Slc) (R : Bool → World → Prop) (w : World) : Prop :=
  C_towpathlaw12_alive w (fun (v20 : Bool) w1 => ((((!v20) || (decide (((beyond.len : Nat) : Int) > 60))) || (decide (((numbers.len : Nat) : Int) > 300))) = true → (C_towpathlaw12_alive w1 (fun (v32 : Bool) w2 => R v32 w2))) ∧
  ((((!v20) || (decide (((beyond.len : Nat) : Int) > 60))) || (decide (((numbers.len : Nat) : Int) > 300))) = false → (∃ (I : Slc → Int → Int → World → Prop) (μ : Slc → Int → Int → World → Nat), I (Slc.mk none 0 0) (IntKind.i64.wrap ((IntKind.i64.wrap mark) + 1)) 0 w1 ∧
  ∀ (l_ : Slc) (last : Int) (i : Int) w, I l_ last i w → F_towpathlaw12_GateAgain_L0 mark beyond numbers R (fun (l_' : Slc) (last' : Int) (i' : Int) w' => I l_' last' i' w' ∧ μ l_' last' i' w' < μ l_ last i w) l_ last i w)))

def F_towpathlaw13_ConfNames_k1 (i : Int) (again_ : Int → Int → Int → Int → World → Prop) (lanes1 : Int) (owners1 : Int) (others1 : Int) (w7 : World) : Prop :=
  again_ lanes1 owners1 others1 (IntKind.i64.wrap (i + 1)) w7

def F_towpathlaw13_ConfNames_L0 (R : Bool → World → Prop) (b_ : Nat) (n_ : Int) (again_ : Int → Int → Int → Int → World → Prop) (lanes : Int) (owners : Int) (others : Int) (i : Int) (w6 : World) : Prop :=
  ((decide (i < n_)) = true → (∃ (v46 : T_api_Config), CellsAt w6 b_ 0 [Value.int .i64 v46.Lanes, Value.int .i64 v46.Shards, Value.int .i64 v46.Window, Value.int .i64 v46.Queue] ∧ (C_conf_Name v46 i w6 (fun (s : ByteArray) (k : Int) (f : Int) w8 => ((f != 0) = true → (R false w8)) ∧
  ((f != 0) = false → (((s.toList == (ByteArray.mk #[108, 97, 110, 101]).toList) = true → (((k != (IntKind.i64.wrap (lanes + 1))) = true → (R false w8)) ∧
  ((k != (IntKind.i64.wrap (lanes + 1))) = false → (F_towpathlaw13_ConfNames_k1 i again_ (IntKind.i64.wrap (lanes + 1)) owners others w8)))) ∧
  ((s.toList == (ByteArray.mk #[108, 97, 110, 101]).toList) = false → (((s.toList == (ByteArray.mk #[111, 119, 110, 101, 114]).toList) = true → (((k != owners) = true → (R false w8)) ∧
  ((k != owners) = false → (F_towpathlaw13_ConfNames_k1 i again_ lanes (IntKind.i64.wrap (owners + 1)) others w8)))) ∧
  ((s.toList == (ByteArray.mk #[111, 119, 110, 101, 114]).toList) = false → (((((k != 0) || ((!(s.toList == (ByteArray.mk #[100, 105, 115, 112, 97, 116, 99, 104, 101, 114]).toList)) && (i == 0))) || ((!(s.toList == (ByteArray.mk #[103, 97, 116, 101]).toList)) && (decide (i > 0)))) = true → (R false w8)) ∧
  ((((k != 0) || ((!(s.toList == (ByteArray.mk #[100, 105, 115, 112, 97, 116, 99, 104, 101, 114]).toList)) && (i == 0))) || ((!(s.toList == (ByteArray.mk #[103, 97, 116, 101]).toList)) && (decide (i > 0)))) = false → (F_towpathlaw13_ConfNames_k1 i again_ lanes owners (IntKind.i64.wrap (others + 1)) w8)))))))))))) ∧
  ((decide (i < n_)) = false → (∃ (v90 : T_api_Config), CellsAt w6 b_ 0 [Value.int .i64 v90.Lanes, Value.int .i64 v90.Shards, Value.int .i64 v90.Window, Value.int .i64 v90.Queue] ∧ (C_conf_Name v90 n_ w6 (fun (v92 : ByteArray) (v92_1 : Int) (g : Int) w9 => ∃ (v98 : Int), w9.cell? ⟨b_, 0, none⟩ = some (Value.int .i64 v98) ∧ (((lanes == v98) = true → (∃ (v103 : Int), w9.cell? ⟨b_, 1, none⟩ = some (Value.int .i64 v103) ∧ (((((owners == v103) && (others == 2)) && (g == 1)) = true → (∃ (v117 : Int), w9.cell? ⟨b_, 0, none⟩ = some (Value.int .i64 v117) ∧ (∃ (v119 : Int), w9.cell? ⟨b_, 1, none⟩ = some (Value.int .i64 v119) ∧ (R (n_ == (IntKind.i64.wrap ((IntKind.i64.wrap (v117 + v119)) + 2))) w9)))) ∧
  ((((owners == v103) && (others == 2)) && (g == 1)) = false → (R false w9))))) ∧
  ((lanes == v98) = false → (R false w9)))))))

def F_towpathlaw13_ConfNames (c : T_api_Config) (R : Bool → World → Prop) (w : World) : Prop :=
  ∀ b_ w1, b_ = w.heap.size → w1 = w.alloc (Obj.cells ([Value.int .i64 c.Lanes, Value.int .i64 c.Shards, Value.int .i64 c.Window, Value.int .i64 c.Queue]).toArray ty_api_Config (0, 0)) → (∃ (v16 : T_api_Config), CellsAt w1 b_ 0 [Value.int .i64 v16.Lanes, Value.int .i64 v16.Shards, Value.int .i64 v16.Window, Value.int .i64 v16.Queue] ∧ (C_conf_Tasks v16 w1 (fun (n_ : Int) (e : Int) w2 => C_towpathlaw13_alive w2 (fun (v20 : Bool) w3 => (((!v20) || (e != 0)) = true → (C_towpathlaw13_alive w3 (fun (v26 : Bool) w4 => (((v26 && (e == 7)) && (n_ == 0)) = true → (∃ (v36 : T_api_Config), CellsAt w4 b_ 0 [Value.int .i64 v36.Lanes, Value.int .i64 v36.Shards, Value.int .i64 v36.Window, Value.int .i64 v36.Queue] ∧ (C_conf_Check v36 w4 (fun (v37 : Int) w5 => R (v37 == 7) w5)))) ∧
  (((v26 && (e == 7)) && (n_ == 0)) = false → (R false w4))))) ∧
  (((!v20) || (e != 0)) = false → (∃ (I : Int → Int → Int → Int → World → Prop) (μ : Int → Int → Int → Int → World → Nat), I 0 0 0 0 w3 ∧
  ∀ (lanes : Int) (owners : Int) (others : Int) (i : Int) w, I lanes owners others i w → F_towpathlaw13_ConfNames_L0 R b_ n_ (fun (lanes' : Int) (owners' : Int) (others' : Int) (i' : Int) w' => I lanes' owners' others' i' w' ∧ μ lanes' owners' others' i' w' < μ lanes owners others i w) lanes owners others i w))))))

def F_towpathlaw13_ConfSpreads_k0 (key : ByteArray) (R : Bool → World → Prop) (b_ : Nat) (b_1 : Nat) (t20 : Bool) (w3 : World) : Prop :=
  (t20 = true → (C_towpathlaw13_alive w3 (fun (v21 : Bool) w4 => R v21 w4))) ∧
  (t20 = false → (∃ (v23 : T_api_Config), CellsAt w3 b_ 0 [Value.int .i64 v23.Lanes, Value.int .i64 v23.Shards, Value.int .i64 v23.Window, Value.int .i64 v23.Queue] ∧ (C_conf_Shard v23 key w3 (fun (n_ : Int) (e : Int) w5 => ((e != 0) = true → (R ((n_ == 0) && ((e == 7) || ((e == 1) && ((((key.size : Nat) : Int) == 0) || (decide (((key.size : Nat) : Int) > 64)))))) w5)) ∧
  ((e != 0) = false → (∃ (v51 : Int), w5.cell? ⟨b_, 1, none⟩ = some (Value.int .i64 v51) ∧ (Writable w5 b_1 1 1 ∧ (∀ w6, w6 = World.puts b_1 1 [Value.int .i64 v51] w5 → (∃ (v54 : T_api_Config), CellsAt w6 b_1 0 [Value.int .i64 v54.Lanes, Value.int .i64 v54.Shards, Value.int .i64 v54.Window, Value.int .i64 v54.Queue] ∧ (C_conf_Shard v54 key w6 (fun (m : Int) (f : Int) w7 => Writable w7 b_1 1 1 ∧ (∀ w8, w8 = World.puts b_1 1 [Value.int .i64 1] w7 → (∃ (v61 : T_api_Config), CellsAt w8 b_1 0 [Value.int .i64 v61.Lanes, Value.int .i64 v61.Shards, Value.int .i64 v61.Window, Value.int .i64 v61.Queue] ∧ (C_conf_Shard v61 key w8 (fun (o_ : Int) (g : Int) w9 => ((decide (n_ ≥ 0)) = true → (∃ (v71 : Int), w9.cell? ⟨b_, 1, none⟩ = some (Value.int .i64 v71) ∧ (((decide (n_ < v71)) = true → (∃ (v77 : Int), (∀ w', Ext w9 w' → C_sum_Hash key w' (fun (v77' : Int) w'' => v77' = v77 ∧ Ext w' w'')) ∧ (∃ (v79 : Int), w9.cell? ⟨b_, 1, none⟩ = some (Value.int .i64 v79) ∧ ((IntKind.u32.wrap v79) ≠ 0 ∧ (∀ w11, Ext w9 w11 → (R (((n_ == (IntKind.i64.wrap (Int.tmod v77 (IntKind.u32.wrap v79)))) && ((f == 7) || ((f == 0) && (m == n_)))) && ((g == 7) || ((g == 0) && (o_ == 0)))) w11)))))) ∧
  ((decide (n_ < v71)) = false → (∀ w12, Ext w9 w12 → (R false w12)))))) ∧
  ((decide (n_ ≥ 0)) = false → (∀ w13, Ext w9 w13 → (R false w13))))))))))))))))))

def F_towpathlaw13_ConfSpreads (c : T_api_Config) (d : T_api_Config) (key : ByteArray) (R : Bool → World → Prop) (w : World) : Prop :=
  ∀ b_ w1, b_ = w.heap.size → w1 = w.alloc (Obj.cells ([Value.int .i64 c.Lanes, Value.int .i64 c.Shards, Value.int .i64 c.Window, Value.int .i64 c.Queue]).toArray ty_api_Config (0, 0)) → (∀ b_1 w2, b_1 = w1.heap.size → w2 = w1.alloc (Obj.cells ([Value.int .i64 d.Lanes, Value.int .i64 d.Shards, Value.int .i64 d.Window, Value.int .i64 d.Queue]).toArray ty_api_Config (0, 0)) → (C_towpathlaw13_alive w2 (fun (v13 : Bool) w14 => ((!v13) = true → (F_towpathlaw13_ConfSpreads_k0 key R b_ b_1 true w14)) ∧
  ((!v13) = false → (∀ b_2 w15, b_2 = w14.heap.size → w15 = w14.alloc (Obj.cells ([Value.int .i64 ((key.size : Nat) : Int)]).toArray ty_int (0, 0)) → (C_towpathlaw01_Beyond (Slc.mk (some ⟨b_2, 0, none⟩) 1 1) w15 (fun (v19 : Bool) w16 => F_towpathlaw13_ConfSpreads_k0 key R b_ b_1 v19 w16)))))))

def F_towpathlaw10_RingPlays_k2 (R : Bool → World → Prop) (i : Int) (again_ : Int → World → Prop) (t61 : Bool) (w8 : World) : Prop :=
  (t61 = true → (R false w8)) ∧
  (t61 = false → (again_ (IntKind.i64.wrap (i + 1)) w8))

def F_towpathlaw10_RingPlays_L1 (script : Slc) (R : Bool → World → Prop) (r : Option Addr) (x : Option Addr) (b_1 : Nat) (again_ : Int → World → Prop) (i : Int) (w7 : World) : Prop :=
  ((decide (i < ((script.len : Nat) : Int))) = true → (IsAt script.ptr ∧ (0 ≤ i ∧ i < ((script.len : Nat) : Int) ∧ (∃ (v49 : T_towpathlaw10_Op), CellsAt w7 (pblk script.ptr) ((poff script.ptr) + i.toNat * 2) [Value.int .u8 v49.Kind, Value.int .i64 v49.X] ∧ (C_towpathlaw10_asked r x v49 w7 (fun (v50 : Bool) w9 => ((!v50) = true → (F_towpathlaw10_RingPlays_k2 R i again_ true w9)) ∧
  ((!v50) = false → (IsAt script.ptr ∧ (0 ≤ i ∧ i < ((script.len : Nat) : Int) ∧ (∃ (v58 : T_towpathlaw10_Op), CellsAt w9 (pblk script.ptr) ((poff script.ptr) + i.toNat * 2) [Value.int .u8 v58.Kind, Value.int .i64 v58.X] ∧ (C_towpathlaw10_asked (some ⟨b_1, 0, none⟩) none v58 w9 (fun (v59 : Bool) w10 => F_towpathlaw10_RingPlays_k2 R i again_ (!v59) w10)))))))))))) ∧
  ((decide (i < ((script.len : Nat) : Int))) = false → (C_towpathlaw10_gone r 1048576 w7 (fun (v63 : Slc) w11 => C_towpathref10_Ring_All x w11 (fun (v65 : Slc) w12 => C_towpathlaw01_SameInts v63 v65 w12 (fun (v66 : Bool) w13 => R v66 w13)))))

def F_towpathlaw10_RingPlays_k0 (script : Slc) (R : Bool → World → Prop) (r : Option Addr) (x : Option Addr) (t35 : Bool) (w5 : World) : Prop :=
  (t35 = true → (R false w5)) ∧
  (t35 = false → (∀ b_1 w6, b_1 = w5.heap.size → w6 = w5.alloc (Obj.cells ([Value.slice none 0 0, Value.int .i64 0, Value.int .i64 0, Value.bool false]).toArray ty_ring_Ring_int (0, 0)) → (∃ (I : Int → World → Prop) (μ : Int → World → Nat), I 0 w6 ∧
  ∀ (i : Int) w, I i w → F_towpathlaw10_RingPlays_L1 script R r x b_1 (fun (i' : Int) w' => I i' w' ∧ μ i' w' < μ i w) i w)))

def F_towpathlaw10_RingPlays (capacity : Int) (script : Slc) (R : Bool → World → Prop) (w : World) : Prop :=
  ∀ b_ w1, b_ = w.heap.size → w1 = w.alloc (Obj.cells ([Value.int .i64 ((script.len : Nat) : Int)]).toArray ty_int (0, 0)) → (C_towpathlaw01_Beyond (Slc.mk (some ⟨b_, 0, none⟩) 1 1) w1 (fun (v15 : Bool) w2 => (v15 = true → (R true w2)) ∧
  (v15 = false → (C_ring_New_int capacity w2 (fun (r : Option Addr) (e : Int) w3 => C_towpathref10_New capacity w3 (fun (x : Option Addr) (f : Int) w4 => ((e != f) = true → (F_towpathlaw10_RingPlays_k0 script R r x true w4)) ∧
  ((e != f) = false → (F_towpathlaw10_RingPlays_k0 script R r x (!(r.isNone == x.isNone)) w4))))))))

def F_towpathlaw01_Beyond_L0 (l_ : Slc) (R : Bool → World → Prop) (again_ : Int → Int → World → Prop) (n_ : Int) (i : Int) (w1 : World) : Prop :=
  ((decide (i < ((l_.len : Nat) : Int))) = true → (IsAt l_.ptr ∧ (0 ≤ i ∧ i < ((l_.len : Nat) : Int) ∧ (∃ (v15 : Int), w1.cell? ⟨(pblk l_.ptr), (poff l_.ptr) + i.toNat, none⟩ = some (Value.int .i64 v15) ∧ (((decide ((IntKind.i64.wrap (n_ + v15)) > 1048576)) = true → (R true w1)) ∧
  ((decide ((IntKind.i64.wrap (n_ + v15)) > 1048576)) = false → (again_ (IntKind.i64.wrap (n_ + v15)) (IntKind.i64.wrap (i + 1)) w1))))))) ∧
  ((decide (i < ((l_.len : Nat) : Int))) = false → (R false w1))

def F_towpathlaw01_Beyond (l_ : Slc) (R : Bool → World → Prop) (w : World) : Prop :=
  ∃ (I : Int → Int → World → Prop) (μ : Int → Int → World → Nat), I 0 0 w ∧
  ∀ (n_ : Int) (i : Int) w, I n_ i w → F_towpathlaw01_Beyond_L0 l_ R (fun (n_' : Int) (i' : Int) w' => I n_' i' w' ∧ μ n_' i' w' < μ n_ i w) n_ i w

def F_conf_Shard (c : T_api_Config) (key : ByteArray) (R : Int → Int → World → Prop) (w : World) : Prop :=
  ∀ b_ w1, b_ = w.heap.size → w1 = w.alloc (Obj.cells ([Value.int .i64 c.Lanes, Value.int .i64 c.Shards, Value.int .i64 c.Window, Value.int .i64 c.Queue]).toArray ty_api_Config (0, 0)) → (∃ (v7 : T_api_Config), CellsAt w1 b_ 0 [Value.int .i64 v7.Lanes, Value.int .i64 v7.Shards, Value.int .i64 v7.Window, Value.int .i64 v7.Queue] ∧ (C_conf_Check v7 w1 (fun (v8 : Int) w2 => ((v8 != 0) = true → (R 0 v8 w2)) ∧
  ((v8 != 0) = false → ((((key.toList == ByteArray.empty.toList) || (decide (((key.size : Nat) : Int) > 64))) = true → (R 0 1 w2)) ∧
  (((key.toList == ByteArray.empty.toList) || (decide (((key.size : Nat) : Int) > 64))) = false → (∃ (v20 : Int), (∀ w', Ext w2 w' → C_sum_Hash key w' (fun (v20' : Int) w'' => v20' = v20 ∧ Ext w' w'')) ∧ (∃ (v22 : Int), w2.cell? ⟨b_, 1, none⟩ = some (Value.int .i64 v22) ∧ ((IntKind.u32.wrap v22) ≠ 0 ∧ (∀ w4, Ext w2 w4 → (R (IntKind.i64.wrap (Int.tmod v20 (IntKind.u32.wrap v22))) 0 w4)))))))))))

def F_towpathref13_Shard (c : T_api_Config) (key : ByteArray) (R : Int → Int → World → Prop) (w : World) : Prop :=
  ∀ b_ w1, b_ = w.heap.size → w1 = w.alloc (Obj.cells ([Value.int .i64 c.Lanes, Value.int .i64 c.Shards, Value.int .i64 c.Window, Value.int .i64 c.Queue]).toArray ty_api_Config (0, 0)) → (∃ (v7 : T_api_Config), CellsAt w1 b_ 0 [Value.int .i64 v7.Lanes, Value.int .i64 v7.Shards, Value.int .i64 v7.Window, Value.int .i64 v7.Queue] ∧ (C_towpathref13_Check v7 w1 (fun (v8 : Int) w2 => ((v8 != 0) = true → (R 0 v8 w2)) ∧
  ((v8 != 0) = false → (C_towpathref05_Key key w2 (fun (v13 : Bool) w3 => ((!v13) = true → (R 0 1 w3)) ∧
  ((!v13) = false → (∃ (v16 : Int), (∀ w', Ext w3 w' → C_towpathref03_Hash key w' (fun (v16' : Int) w'' => v16' = v16 ∧ Ext w' w'')) ∧ (∃ (v18 : Int), w3.cell? ⟨b_, 1, none⟩ = some (Value.int .i64 v18) ∧ ((IntKind.u32.wrap v18) ≠ 0 ∧ (∀ w5, Ext w3 w5 → (R (IntKind.i64.wrap (Int.tmod v16 (IntKind.u32.wrap v18))) 0 w5))))))))))))

def F_conf_Check_k1 (R : Int → World → Prop) (t19 : Int) (again_ : Int → World → Prop) (t32 : Bool) (w6 : World) : Prop :=
  (t32 = true → (R 7 w6)) ∧
  (t32 = false → (again_ (IntKind.i64.wrap (t19 + 1)) w6))

def F_conf_Check_L0 (R : Int → World → Prop) (b_1 : Nat) (again_ : Int → World → Prop) (t19 : Int) (w3 : World) : Prop :=
  ((decide (t19 < ((4 : Nat) : Int))) = true → (0 ≤ t19 ∧ t19 < (4 : Int) ∧ (∃ (v22 : Arr2_Int), CellsAt w3 b_1 (0 + t19.toNat * 2) [Value.int .i64 v22.e0, Value.int .i64 v22.e1] ∧ (∀ b_2 w4, b_2 = w3.heap.size → w4 = w3.alloc (Obj.cells ([Value.int .i64 0, Value.int .i64 0]).toArray ty_2_int (0, 0)) → (Writable w4 b_2 0 2 ∧ (∀ w5, w5 = World.puts b_2 0 [Value.int .i64 v22.e0, Value.int .i64 v22.e1] w4 → (0 ≤ (0 : Int) ∧ (0 : Int) < (2 : Int) ∧ (∃ (v24 : Int), w5.cell? ⟨b_2, 0, none⟩ = some (Value.int .i64 v24) ∧ (((decide (v24 < 1)) = true → (F_conf_Check_k1 R t19 again_ true w5)) ∧
  ((decide (v24 < 1)) = false → (0 ≤ (0 : Int) ∧ (0 : Int) < (2 : Int) ∧ (∃ (v28 : Int), w5.cell? ⟨b_2, 0, none⟩ = some (Value.int .i64 v28) ∧ (0 ≤ (1 : Int) ∧ (1 : Int) < (2 : Int) ∧ (∃ (v30 : Int), w5.cell? ⟨b_2, 1, none⟩ = some (Value.int .i64 v30) ∧ (F_conf_Check_k1 R t19 again_ (decide (v28 > v30)) w5))))))))))))))) ∧
  ((decide (t19 < ((4 : Nat) : Int))) = false → (R 0 w3))

def F_conf_Check (c : T_api_Config) (R : Int → World → Prop) (w : World) : Prop :=
  ∀ b_ w1, b_ = w.heap.size → w1 = w.alloc (Obj.cells ([Value.int .i64 c.Lanes, Value.int .i64 c.Shards, Value.int .i64 c.Window, Value.int .i64 c.Queue]).toArray ty_api_Config (0, 0)) → (∃ (v6 : Int), w1.cell? ⟨b_, 0, none⟩ = some (Value.int .i64 v6) ∧ (∃ (v9 : Int), w1.cell? ⟨b_, 1, none⟩ = some (Value.int .i64 v9) ∧ (∃ (v12 : Int), w1.cell? ⟨b_, 2, none⟩ = some (Value.int .i64 v12) ∧ (∃ (v15 : Int), w1.cell? ⟨b_, 3, none⟩ = some (Value.int .i64 v15) ∧ (∀ b_1 w2, b_1 = w1.heap.size → w2 = w1.alloc (Obj.cells ([Value.int .i64 v6, Value.int .i64 16, Value.int .i64 v9, Value.int .i64 16, Value.int .i64 v12, Value.int .i64 64, Value.int .i64 v15, Value.int .i64 16]).toArray ty_2_int (0, 0)) → (∃ (I : Int → World → Prop) (μ : Int → World → Nat), I 0 w2 ∧
  ∀ (t19 : Int) w, I t19 w → F_conf_Check_L0 R b_1 (fun (t19' : Int) w' => I t19' w' ∧ μ t19' w' < μ t19 w) t19 w))))))

def F_towpathref13_Check_k0 (R : Int → World → Prop) (t24 : Bool) (w2 : World) : Prop :=
  (t24 = true → (R 7 w2)) ∧
  (t24 = false → (R 0 w2))

def F_towpathref13_Check (c : T_api_Config) (R : Int → World → Prop) (w : World) : Prop :=
  ∀ b_ w1, b_ = w.heap.size → w1 = w.alloc (Obj.cells ([Value.int .i64 c.Lanes, Value.int .i64 c.Shards, Value.int .i64 c.Window, Value.int .i64 c.Queue]).toArray ty_api_Config (0, 0)) → (∃ (v4 : Int), w1.cell? ⟨b_, 0, none⟩ = some (Value.int .i64 v4) ∧ (C_towpathref13_in v4 16 w1 (fun (v5 : Bool) w3 => ((!v5) = true → (F_towpathref13_Check_k0 R true w3)) ∧
  ((!v5) = false → (∃ (v9 : Int), w3.cell? ⟨b_, 1, none⟩ = some (Value.int .i64 v9) ∧ (C_towpathref13_in v9 16 w3 (fun (v10 : Bool) w4 => ((!v10) = true → (F_towpathref13_Check_k0 R true w4)) ∧
  ((!v10) = false → (∃ (v15 : Int), w4.cell? ⟨b_, 2, none⟩ = some (Value.int .i64 v15) ∧ (C_towpathref13_in v15 64 w4 (fun (v16 : Bool) w5 => ((!v16) = true → (F_towpathref13_Check_k0 R true w5)) ∧
  ((!v16) = false → (∃ (v21 : Int), w5.cell? ⟨b_, 3, none⟩ = some (Value.int .i64 v21) ∧ (C_towpathref13_in v21 16 w5 (fun (v22 : Bool) w6 => F_towpathref13_Check_k0 R (!v22) w6)))))))))))))))

def F_conf_Tasks (c : T_api_Config) (R : Int → Int → World → Prop) (w : World) : Prop :=
  ∀ b_ w1, b_ = w.heap.size → w1 = w.alloc (Obj.cells ([Value.int .i64 c.Lanes, Value.int .i64 c.Shards, Value.int .i64 c.Window, Value.int .i64 c.Queue]).toArray ty_api_Config (0, 0)) → (∃ (v5 : T_api_Config), CellsAt w1 b_ 0 [Value.int .i64 v5.Lanes, Value.int .i64 v5.Shards, Value.int .i64 v5.Window, Value.int .i64 v5.Queue] ∧ (C_conf_Check v5 w1 (fun (v6 : Int) w2 => ((v6 != 0) = true → (R 0 v6 w2)) ∧
  ((v6 != 0) = false → (∃ (v11 : Int), w2.cell? ⟨b_, 0, none⟩ = some (Value.int .i64 v11) ∧ (∃ (v13 : Int), w2.cell? ⟨b_, 1, none⟩ = some (Value.int .i64 v13) ∧ (R (IntKind.i64.wrap ((IntKind.i64.wrap (v11 + v13)) + 2)) 0 w2)))))))

def F_towpathref13_Tasks (c : T_api_Config) (R : Int → Int → World → Prop) (w : World) : Prop :=
  ∀ b_ w1, b_ = w.heap.size → w1 = w.alloc (Obj.cells ([Value.int .i64 c.Lanes, Value.int .i64 c.Shards, Value.int .i64 c.Window, Value.int .i64 c.Queue]).toArray ty_api_Config (0, 0)) → (∃ (v5 : T_api_Config), CellsAt w1 b_ 0 [Value.int .i64 v5.Lanes, Value.int .i64 v5.Shards, Value.int .i64 v5.Window, Value.int .i64 v5.Queue] ∧ (C_towpathref13_Check v5 w1 (fun (v6 : Int) w2 => ((v6 != 0) = true → (R 0 v6 w2)) ∧
  ((v6 != 0) = false → (∃ (v11 : Int), w2.cell? ⟨b_, 0, none⟩ = some (Value.int .i64 v11) ∧ (∃ (v13 : Int), w2.cell? ⟨b_, 1, none⟩ = some (Value.int .i64 v13) ∧ (R (IntKind.i64.wrap ((IntKind.i64.wrap (v11 + v13)) + 2)) 0 w2)))))))

def F_conf_Name_k0 (R : ByteArray → Int → Int → World → Prop) (kind : Int) (which : Int) (w3 : World) : Prop :=
  C_conf_name kind w3 (fun (v47 : ByteArray) w4 => R v47 which 0 w4)

def F_conf_Name_k1 (R : ByteArray → Int → Int → World → Prop) (kind1 : Int) (which1 : Int) (w5 : World) : Prop :=
  F_conf_Name_k0 R kind1 which1 w5

def F_conf_Name (c : T_api_Config) (task : Int) (R : ByteArray → Int → Int → World → Prop) (w : World) : Prop :=
  ∀ b_ w1, b_ = w.heap.size → w1 = w.alloc (Obj.cells ([Value.int .i64 c.Lanes, Value.int .i64 c.Shards, Value.int .i64 c.Window, Value.int .i64 c.Queue]).toArray ty_api_Config (0, 0)) → (∃ (v12 : T_api_Config), CellsAt w1 b_ 0 [Value.int .i64 v12.Lanes, Value.int .i64 v12.Shards, Value.int .i64 v12.Window, Value.int .i64 v12.Queue] ∧ (C_conf_Tasks v12 w1 (fun (n_ : Int) (e : Int) w2 => ((e != 0) = true → (R ByteArray.empty 0 e w2)) ∧
  ((e != 0) = false → (((decide (task ≥ n_)) = true → (R ByteArray.empty 0 1 w2)) ∧
  ((decide (task ≥ n_)) = false → (((decide (task < 0)) = true → (F_conf_Name_k0 R 4 task w2)) ∧
  ((decide (task < 0)) = false → (((task == 0) = true → (F_conf_Name_k0 R 0 0 w2)) ∧
  ((task == 0) = false → (∃ (v32 : Int), w2.cell? ⟨b_, 0, none⟩ = some (Value.int .i64 v32) ∧ (((decide (task ≤ v32)) = true → (F_conf_Name_k0 R 1 task w2)) ∧
  ((decide (task ≤ v32)) = false → (((decide (task < (IntKind.i64.wrap (n_ - 1)))) = true → (∃ (v43 : Int), w2.cell? ⟨b_, 0, none⟩ = some (Value.int .i64 v43) ∧ (∀ w6, Ext w2 w6 → (F_conf_Name_k1 R 2 (IntKind.i64.wrap ((IntKind.i64.wrap (task - v43)) - 1)) w6)))) ∧
  ((decide (task < (IntKind.i64.wrap (n_ - 1)))) = false → (F_conf_Name_k1 R 3 0 w2))))))))))))))))

def F_towpathref13_Name (c : T_api_Config) (task : Int) (R : ByteArray → Int → Int → World → Prop) (w : World) : Prop :=
  ∀ b_ w1, b_ = w.heap.size → w1 = w.alloc (Obj.cells ([Value.int .i64 c.Lanes, Value.int .i64 c.Shards, Value.int .i64 c.Window, Value.int .i64 c.Queue]).toArray ty_api_Config (0, 0)) → (∃ (v10 : T_api_Config), CellsAt w1 b_ 0 [Value.int .i64 v10.Lanes, Value.int .i64 v10.Shards, Value.int .i64 v10.Window, Value.int .i64 v10.Queue] ∧ (C_towpathref13_Tasks v10 w1 (fun (n_ : Int) (e : Int) w2 => ((e != 0) = true → (R ByteArray.empty 0 e w2)) ∧
  ((e != 0) = false → (((decide (task ≥ n_)) = true → (R ByteArray.empty 0 1 w2)) ∧
  ((decide (task ≥ n_)) = false → (((decide (task < 0)) = true → (R (ByteArray.mk #[99, 97, 108, 108]) task 0 w2)) ∧
  ((decide (task < 0)) = false → (((task == 0) = true → (R (ByteArray.mk #[100, 105, 115, 112, 97, 116, 99, 104, 101, 114]) 0 0 w2)) ∧
  ((task == 0) = false → (∃ (v31 : Int), w2.cell? ⟨b_, 0, none⟩ = some (Value.int .i64 v31) ∧ (((decide (task ≤ v31)) = true → (R (ByteArray.mk #[108, 97, 110, 101]) task 0 w2)) ∧
  ((decide (task ≤ v31)) = false → (∃ (v37 : Int), w2.cell? ⟨b_, 0, none⟩ = some (Value.int .i64 v37) ∧ (∃ (v39 : Int), w2.cell? ⟨b_, 1, none⟩ = some (Value.int .i64 v39) ∧ (((decide (task ≤ (IntKind.i64.wrap (v37 + v39)))) = true → (∃ (v44 : Int), w2.cell? ⟨b_, 0, none⟩ = some (Value.int .i64 v44) ∧ (∀ w3, Ext w2 w3 → (R (ByteArray.mk #[111, 119, 110, 101, 114]) (IntKind.i64.wrap ((IntKind.i64.wrap (task - v44)) - 1)) 0 w3)))) ∧
  ((decide (task ≤ (IntKind.i64.wrap (v37 + v39)))) = false → (R (ByteArray.mk #[103, 97, 116, 101]) 0 0 w2))))))))))))))))))

def F_towpathlaw10_alive_k0 (R : Bool → World → Prop) (r : Option Addr) (t44 : Bool) (w3 : World) : Prop :=
  (t44 = true → (R false w3)) ∧
  (t44 = false → (C_ring_Ring_int_Take r w3 (fun (x : Int) (ok : Bool) w4 => C_ring_Ring_int_Close r w4 (fun w5 => ((ok && (x == 1)) = true → (C_ring_Ring_int_Put r 4 w5 (fun (v59 : Bool) w6 => ((!v59) = true → (C_ring_Ring_int_Over r w6 (fun (v64 : Bool) w7 => ((!v64) = true → (C_ring_Ring_int_Len r w7 (fun (v69 : Int) w8 => R (v69 == 1) w8))) ∧
  ((!v64) = false → (R false w7))))) ∧
  ((!v59) = false → (R false w6))))) ∧
  ((ok && (x == 1)) = false → (R false w5))))))

def F_towpathlaw10_alive (R : Bool → World → Prop) (w : World) : Prop :=
  C_ring_New_int 2 w (fun (r : Option Addr) (e : Int) w1 => C_ring_New_int 0 w1 (fun (v12 : Option Addr) (f : Int) w2 => (((e != 0) || (f != 1)) = true → (F_towpathlaw10_alive_k0 R r true w2)) ∧
  (((e != 0) || (f != 1)) = false → (C_ring_Ring_int_Put r 1 w2 (fun (v23 : Bool) w9 => ((!v23) = true → (F_towpathlaw10_alive_k0 R r true w9)) ∧
  ((!v23) = false → (C_ring_Ring_int_Put r 2 w9 (fun (v28 : Bool) w10 => ((!v28) = true → (F_towpathlaw10_alive_k0 R r true w10)) ∧
  ((!v28) = false → (C_ring_Ring_int_Put r 3 w10 (fun (v33 : Bool) w11 => (v33 = true → (F_towpathlaw10_alive_k0 R r true w11)) ∧
  (v33 = false → (C_ring_Ring_int_Len r w11 (fun (v37 : Int) w12 => ((v37 != 2) = true → (F_towpathlaw10_alive_k0 R r true w12)) ∧
  ((v37 != 2) = false → (C_ring_Ring_int_Room r w12 (fun (v42 : Int) w13 => F_towpathlaw10_alive_k0 R r (v42 != 0) w13)))))))))))))))))

def F_ring_New_int (capacity : Int) (R : Option Addr → Int → World → Prop) (w : World) : Prop :=
  (((decide (capacity < 1)) || (decide (capacity > 65536))) = true → (R none 1 w)) ∧
  (((decide (capacity < 1)) || (decide (capacity > 65536))) = false → (0 ≤ capacity ∧ capacity ≤ capacity ∧ (8 : Int) * capacity ≤ 281474976710656 ∧ (∀ b_ w1, b_ = w.heap.size → w1 = w.alloc (Obj.cells (repCells capacity.toNat [Value.int .i64 0]) ty_int (0, 0)) → (∀ b_1 w2, b_1 = w1.heap.size → w2 = w1.alloc (Obj.cells ([Value.slice (some ⟨b_, 0, none⟩) capacity.toNat capacity.toNat, Value.int .i64 0, Value.int .i64 0, Value.bool false]).toArray ty_ring_Ring_int (0, 0)) → (R (some ⟨b_1, 0, none⟩) 0 w2)))))

def F_ring_Ring_int_Put (r : Option Addr) (x : Int) (R : Bool → World → Prop) (w : World) : Prop :=
  C_ring_Ring_int_Room r w (fun (v6 : Int) w1 => ((v6 == 0) = true → (R false w1)) ∧
  ((v6 == 0) = false → (∀ w2, (∃ k, w2 = w1.drewN k) → (IsAt r ∧ (∃ (v11 : Slc), w2.cell? ⟨(pblk r), (poff r), none⟩ = some (Value.slice v11.ptr v11.len v11.cap) ∧ (IsAt r ∧ (∃ (v15 : Int), w2.cell? ⟨(pblk r), (poff r) + 1, none⟩ = some (Value.int .i64 v15) ∧ (IsAt r ∧ (∃ (v19 : Int), w2.cell? ⟨(pblk r), (poff r) + 2, none⟩ = some (Value.int .i64 v19) ∧ (IsAt r ∧ (∃ (v24 : Slc), w2.cell? ⟨(pblk r), (poff r), none⟩ = some (Value.slice v24.ptr v24.len v24.cap) ∧ (((v24.len : Nat) : Int) ≠ 0 ∧ (IsAt v11.ptr ∧ (0 ≤ Int.tmod (IntKind.i64.wrap (v15 + v19)) ((v24.len : Nat) : Int) ∧ Int.tmod (IntKind.i64.wrap (v15 + v19)) ((v24.len : Nat) : Int) < ((v11.len : Nat) : Int) ∧ (Writable w2 (pblk v11.ptr) ((poff v11.ptr) + (Int.tmod (IntKind.i64.wrap (v15 + v19)) ((v24.len : Nat) : Int)).toNat) 1 ∧ (∀ w3, w3 = World.puts (pblk v11.ptr) ((poff v11.ptr) + (Int.tmod (IntKind.i64.wrap (v15 + v19)) ((v24.len : Nat) : Int)).toNat) [Value.int .i64 x] w2 → (IsAt r ∧ (∃ (v32 : Int), w3.cell? ⟨(pblk r), (poff r) + 2, none⟩ = some (Value.int .i64 v32) ∧ (Writable w3 (pblk r) ((poff r) + 2) 1 ∧ (∀ w4, w4 = World.puts (pblk r) ((poff r) + 2) [Value.int .i64 (IntKind.i64.wrap (v32 + 1))] w3 → (R true w4)))))))))))))))))))))

def F_ring_Ring_int_Take_k0 (R : Int → Bool → World → Prop) (x : Int) (ok : Bool) (w1 : World) : Prop :=
  R x ok w1

def F_ring_Ring_int_Take (r : Option Addr) (R : Int → Bool → World → Prop) (w : World) : Prop :=
  C_ring_Ring_int_First r w (fun (x1 : Int) (ok1 : Bool) w2 => (ok1 = true → (∀ w3, (∃ k, w3 = w2.drewN k) → (IsAt r ∧ (∃ (v14 : Slc), w3.cell? ⟨(pblk r), (poff r), none⟩ = some (Value.slice v14.ptr v14.len v14.cap) ∧ (IsAt r ∧ (∃ (v18 : Int), w3.cell? ⟨(pblk r), (poff r) + 1, none⟩ = some (Value.int .i64 v18) ∧ (IsAt v14.ptr ∧ (0 ≤ v18 ∧ v18 < ((v14.len : Nat) : Int) ∧ (Writable w3 (pblk v14.ptr) ((poff v14.ptr) + v18.toNat) 1 ∧ (∀ w4, w4 = World.puts (pblk v14.ptr) ((poff v14.ptr) + v18.toNat) [Value.int .i64 0] w3 → (∀ w5, (∃ k, w5 = w4.drewN k) → (IsAt r ∧ (∃ (v25 : Int), w5.cell? ⟨(pblk r), (poff r) + 1, none⟩ = some (Value.int .i64 v25) ∧ (IsAt r ∧ (∃ (v30 : Slc), w5.cell? ⟨(pblk r), (poff r), none⟩ = some (Value.slice v30.ptr v30.len v30.cap) ∧ (((v30.len : Nat) : Int) ≠ 0 ∧ (IsAt r ∧ (Writable w5 (pblk r) ((poff r) + 1) 1 ∧ (∀ w6, w6 = World.puts (pblk r) ((poff r) + 1) [Value.int .i64 (Int.tmod (IntKind.i64.wrap (v25 + 1)) ((v30.len : Nat) : Int))] w5 → (IsAt r ∧ (∃ (v38 : Int), w6.cell? ⟨(pblk r), (poff r) + 2, none⟩ = some (Value.int .i64 v38) ∧ (Writable w6 (pblk r) ((poff r) + 2) 1 ∧ (∀ w7, w7 = World.puts (pblk r) ((poff r) + 2) [Value.int .i64 (IntKind.i64.wrap (v38 - 1))] w6 → (F_ring_Ring_int_Take_k0 R x1 ok1 w7)))))))))))))))))))))))) ∧
  (ok1 = false → (F_ring_Ring_int_Take_k0 R x1 ok1 w2)))

def F_ring_Ring_int_Len (r : Option Addr) (R : Int → World → Prop) (w : World) : Prop :=
  C_ring_Ring_int_gone r w (fun (v4 : Bool) w1 => (v4 = true → (R 0 w1)) ∧
  (v4 = false → (IsAt r ∧ (∃ (v8 : Int), w1.cell? ⟨(pblk r), (poff r) + 2, none⟩ = some (Value.int .i64 v8) ∧ (R v8 w1)))))

def F_ring_Ring_int_Room_k0 (r : Option Addr) (R : Int → World → Prop) (t10 : Bool) (w1 : World) : Prop :=
  (t10 = true → (R 0 w1)) ∧
  (t10 = false → (IsAt r ∧ (∃ (v14 : Slc), w1.cell? ⟨(pblk r), (poff r), none⟩ = some (Value.slice v14.ptr v14.len v14.cap) ∧ (IsAt r ∧ (∃ (v19 : Int), w1.cell? ⟨(pblk r), (poff r) + 2, none⟩ = some (Value.int .i64 v19) ∧ (∀ w2, Ext w1 w2 → (R (IntKind.i64.wrap (((v14.len : Nat) : Int) - v19)) w2)))))))

def F_ring_Ring_int_Room (r : Option Addr) (R : Int → World → Prop) (w : World) : Prop :=
  C_ring_Ring_int_gone r w (fun (v4 : Bool) w3 => (v4 = true → (F_ring_Ring_int_Room_k0 r R true w3)) ∧
  (v4 = false → (IsAt r ∧ (∃ (v9 : Bool), w3.cell? ⟨(pblk r), (poff r) + 3, none⟩ = some (Value.bool v9) ∧ (F_ring_Ring_int_Room_k0 r R v9 w3)))))

def F_ring_Ring_int_Close (r : Option Addr) (R : World → Prop) (w : World) : Prop :=
  C_ring_Ring_int_gone r w (fun (v3 : Bool) w1 => ((!v3) = true → (IsAt r ∧ (Writable w1 (pblk r) ((poff r) + 3) 1 ∧ (∀ w2, w2 = World.puts (pblk r) ((poff r) + 3) [Value.bool true] w1 → (R w2))))) ∧
  ((!v3) = false → (R w1)))

def F_ring_Ring_int_Over (r : Option Addr) (R : Bool → World → Prop) (w : World) : Prop :=
  C_ring_Ring_int_gone r w (fun (v4 : Bool) w1 => ((!v4) = true → (IsAt r ∧ (∃ (v10 : Bool), w1.cell? ⟨(pblk r), (poff r) + 3, none⟩ = some (Value.bool v10) ∧ ((v10 = true → (IsAt r ∧ (∃ (v16 : Int), w1.cell? ⟨(pblk r), (poff r) + 2, none⟩ = some (Value.int .i64 v16) ∧ (R (v16 == 0) w1)))) ∧
  (v10 = false → (R false w1)))))) ∧
  ((!v4) = false → (R false w1)))

def F_towpathlaw12_alive (R : Bool → World → Prop) (w : World) : Prop :=
  ∀ b_ w1, b_ = w.heap.size → w1 = w.alloc (Obj.cells ([Value.int .i64 5, Value.int .i64 7]).toArray ty_int (0, 0)) → (C_gate_New 3 (Slc.mk (some ⟨b_, 0, none⟩) 2 2) w1 (fun (g : Option Addr) (e : Int) w2 => ∀ b_1 w3, b_1 = w2.heap.size → w3 = w2.alloc (Obj.cells ([Value.int .i64 4]).toArray ty_int (0, 0)) → (C_gate_New 3 (Slc.mk (some ⟨b_1, 0, none⟩) 1 1) w3 (fun (v16 : Option Addr) (f : Int) w4 => (((e != 0) || (f != 1)) = true → (R false w4)) ∧
  (((e != 0) || (f != 1)) = false → (C_gate_Gate_Done g 4 w4 (fun (a_ : Int) (h_ : Int) w5 => C_gate_Gate_Done g 5 w5 (fun (v32 : Int) (i : Int) w6 => ((((h_ == 0) && (i == 1)) && (a_ == 2)) = true → (C_gate_Gate_Mark g w6 (fun (v47 : Int) w7 => ((v47 == 5) = true → (C_gate_Gate_Has g 7 w7 (fun (v52 : Bool) w8 => (v52 = true → (C_gate_Gate_Has g 6 w8 (fun (v56 : Bool) w9 => ((!v56) = true → (C_gate_Gate_Beyond g w9 (fun (v61 : Slc) w10 => ∀ b_2 w11, b_2 = w10.heap.size → w11 = w10.alloc (Obj.cells ([Value.int .i64 7]).toArray ty_int (0, 0)) → (C_towpathlaw01_SameInts v61 (Slc.mk (some ⟨b_2, 0, none⟩) 1 1) w11 (fun (v63 : Bool) w12 => R v63 w12))))) ∧
  ((!v56) = false → (R false w9))))) ∧
  (v52 = false → (R false w8))))) ∧
  ((v47 == 5) = false → (R false w7))))) ∧
  ((((h_ == 0) && (i == 1)) && (a_ == 2)) = false → (R false w6))))))))))

def F_gate_New_k1 (R : Option Addr → Int → World → Prop) (b_ : Nat) (t21 : Int) (again_ : Int → World → Prop) (n_ : Int) (t40 : Bool) (w3 : World) : Prop :=
  (t40 = true → (R none 1 w3)) ∧
  (t40 = false → (C_gate_Gate_set (some ⟨b_, 0, none⟩) n_ w3 (fun w4 => again_ (IntKind.i64.wrap (t21 + 1)) w4)))

def F_gate_New_L0 (mark : Int) (beyond : Slc) (R : Option Addr → Int → World → Prop) (b_ : Nat) (again_ : Int → World → Prop) (t21 : Int) (w2 : World) : Prop :=
  ((decide (t21 < ((beyond.len : Nat) : Int))) = true → (IsAt beyond.ptr ∧ (0 ≤ t21 ∧ t21 < ((beyond.len : Nat) : Int) ∧ (∃ (n_ : Int), w2.cell? ⟨(pblk beyond.ptr), (poff beyond.ptr) + t21.toNat, none⟩ = some (Value.int .i64 n_) ∧ ((((decide (n_ < (IntKind.i64.wrap (mark + 2)))) || (decide (n_ > 65536))) = true → (F_gate_New_k1 R b_ t21 again_ n_ true w2)) ∧
  (((decide (n_ < (IntKind.i64.wrap (mark + 2)))) || (decide (n_ > 65536))) = false → (∃ (v38 : Int), w2.cell? ⟨b_, 1027, none⟩ = some (Value.int .i64 v38) ∧ (F_gate_New_k1 R b_ t21 again_ n_ (decide (n_ ≤ v38)) w2)))))))) ∧
  ((decide (t21 < ((beyond.len : Nat) : Int))) = false → (R (some ⟨b_, 0, none⟩) 0 w2))

def F_gate_New (mark : Int) (beyond : Slc) (R : Option Addr → Int → World → Prop) (w : World) : Prop :=
  (((decide (mark < 0)) || (decide (mark > 65536))) = true → (R none 1 w)) ∧
  (((decide (mark < 0)) || (decide (mark > 65536))) = false → (∀ b_ w1, b_ = w.heap.size → w1 = w.alloc (Obj.cells (([Value.bool true, Value.int .i64 mark] ++ (List.map (Value.int .u64) (List.replicate 1025 0)) ++ [Value.int .i64 mark])).toArray ty_gate_Gate (0, 0)) → (∃ (I : Int → World → Prop) (μ : Int → World → Nat), I 0 w1 ∧
  ∀ (t21 : Int) w, I t21 w → F_gate_New_L0 mark beyond R b_ (fun (t21' : Int) w' => I t21' w' ∧ μ t21' w' < μ t21 w) t21 w)))

def F_gate_Gate_Mark (g : Option Addr) (R : Int → World → Prop) (w : World) : Prop :=
  (g.isNone = true → (R 0 w)) ∧
  (g.isNone = false → (IsAt g ∧ (∃ (v8 : Int), w.cell? ⟨(pblk g), (poff g) + 1, none⟩ = some (Value.int .i64 v8) ∧ (R v8 w))))

def F_gate_Gate_Done_L2 (g : Option Addr) (R : Int → Int → World → Prop) (again_ : Int → World → Prop) (up : Int) (w4 : World) : Prop :=
  IsAt g ∧ (∃ (v36 : Int), w4.cell? ⟨(pblk g), (poff g) + 1, none⟩ = some (Value.int .i64 v36) ∧ (C_gate_Gate_is g (IntKind.i64.wrap (v36 + 1)) w4 (fun (v38 : Bool) w5 => (v38 = true → (IsAt g ∧ (∃ (v44 : Int), w5.cell? ⟨(pblk g), (poff g) + 1, none⟩ = some (Value.int .i64 v44) ∧ (Writable w5 (pblk g) ((poff g) + 1) 1 ∧ (∀ w6, w6 = World.puts (pblk g) ((poff g) + 1) [Value.int .i64 (IntKind.i64.wrap (v44 + 1))] w5 → (∀ w7, (∃ k, w7 = w6.drewN k) → (IsAt g ∧ (∃ (v52 : Int), w7.cell? ⟨(pblk g), (poff g) + 1, none⟩ = some (Value.int .i64 v52) ∧ (IsAt g ∧ (0 ≤ IntKind.i64.wrap (Int.tdiv v52 64) ∧ IntKind.i64.wrap (Int.tdiv v52 64) < (1025 : Int) ∧ (∃ (v57 : Int), w7.cell? ⟨(pblk g), ((poff g) + 2) + (IntKind.i64.wrap (Int.tdiv v52 64)).toNat, none⟩ = some (Value.int .u64 v57) ∧ (IsAt g ∧ (∃ (v61 : Int), w7.cell? ⟨(pblk g), (poff g) + 1, none⟩ = some (Value.int .i64 v61) ∧ (0 ≤ Int.tmod v61 64 ∧ (0 ≤ IntKind.i64.wrap (Int.tdiv v52 64) ∧ IntKind.i64.wrap (Int.tdiv v52 64) < (1025 : Int) ∧ (Writable w7 (pblk g) (((poff g) + 2) + (IntKind.i64.wrap (Int.tdiv v52 64)).toNat) 1 ∧ (∀ w8, w8 = World.puts (pblk g) (((poff g) + 2) + (IntKind.i64.wrap (Int.tdiv v52 64)).toNat) [Value.int .u64 (bandnot .u64 v57 (IntKind.u64.wrap (1 * 2 ^ (min (Int.tmod v61 64).toNat 64))))] w7 → (again_ (IntKind.i64.wrap (up + 1)) w8)))))))))))))))))) ∧
  (v38 = false → (R up 0 w5)))))

def F_gate_Gate_Done_k1 (g : Option Addr) (number : Int) (R : Int → Int → World → Prop) (t17 : Bool) (w2 : World) : Prop :=
  (t17 = true → (R 0 1 w2)) ∧
  (t17 = false → (C_gate_Gate_set g number w2 (fun w3 => ∃ (I : Int → World → Prop) (μ : Int → World → Nat), I 0 w3 ∧
  ∀ (up : Int) w, I up w → F_gate_Gate_Done_L2 g R (fun (up' : Int) w' => I up' w' ∧ μ up' w' < μ up w) up w)))

def F_gate_Gate_Done_k0 (g : Option Addr) (number : Int) (R : Int → Int → World → Prop) (t7 : Bool) (w1 : World) : Prop :=
  (t7 = true → (R 0 2 w1)) ∧
  (t7 = false → ((((decide (number < 1)) || (decide (number > 65536))) = true → (F_gate_Gate_Done_k1 g number R true w1)) ∧
  (((decide (number < 1)) || (decide (number > 65536))) = false → (C_gate_Gate_Has g number w1 (fun (v27 : Bool) w9 => F_gate_Gate_Done_k1 g number R v27 w9)))))

def F_gate_Gate_Done (g : Option Addr) (number : Int) (R : Int → Int → World → Prop) (w : World) : Prop :=
  (g.isNone = true → (F_gate_Gate_Done_k0 g number R true w)) ∧
  (g.isNone = false → (IsAt g ∧ (∃ (v14 : Bool), w.cell? ⟨(pblk g), (poff g), none⟩ = some (Value.bool v14) ∧ (F_gate_Gate_Done_k0 g number R (!v14) w))))

def F_gate_Gate_Beyond_k2 (n_ : Int) (again_ : Slc → Int → World → Prop) (out1 : Slc) (w3 : World) : Prop :=
  again_ out1 (IntKind.i64.wrap (n_ + 1)) w3

def F_gate_Gate_Beyond_L1 (g : Option Addr) (R : Slc → World → Prop) (again_ : Slc → Int → World → Prop) (out : Slc) (n_ : Int) (w2 : World) : Prop :=
  IsAt g ∧ (∃ (v23 : Int), w2.cell? ⟨(pblk g), (poff g) + 1027, none⟩ = some (Value.int .i64 v23) ∧ (((decide (n_ ≤ v23)) = true → (C_gate_Gate_is g n_ w2 (fun (v29 : Bool) w4 => (v29 = true → (∀ b_ w5, b_ = w4.heap.size → w5 = w4.alloc (Obj.cells ([Value.int .i64 n_]).toArray ty_int (0, 0)) → (∃ src, SrcAt w5 (Slc.mk (some ⟨b_, 0, none⟩) 1 1) 1 src ∧ AppendW 1 8 ty_int [Value.int .i64 0] out src 1 w5 (fun out2 w6 => F_gate_Gate_Beyond_k2 n_ again_ out2 w6)))) ∧
  (v29 = false → (F_gate_Gate_Beyond_k2 n_ again_ out w4))))) ∧
  ((decide (n_ ≤ v23)) = false → (R out w2))))

def F_gate_Gate_Beyond_k0 (g : Option Addr) (R : Slc → World → Prop) (t13 : Bool) (w1 : World) : Prop :=
  (t13 = true → (R (Slc.mk none 0 0) w1)) ∧
  (t13 = false → (IsAt g ∧ (∃ (v17 : Int), w1.cell? ⟨(pblk g), (poff g) + 1, none⟩ = some (Value.int .i64 v17) ∧ (∃ (I : Slc → Int → World → Prop) (μ : Slc → Int → World → Nat), I (Slc.mk none 0 0) (IntKind.i64.wrap (v17 + 1)) w1 ∧
  ∀ (out : Slc) (n_ : Int) w, I out n_ w → F_gate_Gate_Beyond_L1 g R (fun (out' : Slc) (n_' : Int) w' => I out' n_' w' ∧ μ out' n_' w' < μ out n_ w) out n_ w))))

def F_gate_Gate_Beyond (g : Option Addr) (R : Slc → World → Prop) (w : World) : Prop :=
  (g.isNone = true → (F_gate_Gate_Beyond_k0 g R true w)) ∧
  (g.isNone = false → (IsAt g ∧ (∃ (v11 : Bool), w.cell? ⟨(pblk g), (poff g), none⟩ = some (Value.bool v11) ∧ (F_gate_Gate_Beyond_k0 g R (!v11) w))))

def F_gate_Gate_Has (g : Option Addr) (number : Int) (R : Bool → World → Prop) (w : World) : Prop :=
  ((!g.isNone) = true → (IsAt g ∧ (∃ (v11 : Bool), w.cell? ⟨(pblk g), (poff g), none⟩ = some (Value.bool v11) ∧ (((v11 && (decide (number ≥ 1))) = true → (IsAt g ∧ (∃ (v22 : Int), w.cell? ⟨(pblk g), (poff g) + 1, none⟩ = some (Value.int .i64 v22) ∧ (((decide (number ≤ v22)) = true → (R true w)) ∧
  ((decide (number ≤ v22)) = false → (C_gate_Gate_is g number w (fun (v27 : Bool) w1 => R v27 w1))))))) ∧
  ((v11 && (decide (number ≥ 1))) = false → (R false w)))))) ∧
  ((!g.isNone) = false → (R false w))

def F_towpathlaw01_SameInts_L0 (a_ : Slc) (b_ : Slc) (R : Bool → World → Prop) (again_ : Int → World → Prop) (i : Int) (w1 : World) : Prop :=
  ((decide (i < ((a_.len : Nat) : Int))) = true → (IsAt a_.ptr ∧ (0 ≤ i ∧ i < ((a_.len : Nat) : Int) ∧ (∃ (v20 : Int), w1.cell? ⟨(pblk a_.ptr), (poff a_.ptr) + i.toNat, none⟩ = some (Value.int .i64 v20) ∧ (IsAt b_.ptr ∧ (0 ≤ i ∧ i < ((b_.len : Nat) : Int) ∧ (∃ (v24 : Int), w1.cell? ⟨(pblk b_.ptr), (poff b_.ptr) + i.toNat, none⟩ = some (Value.int .i64 v24) ∧ (∀ w2, Ext w1 w2 → (((v20 != v24) = true → (R false w2)) ∧
  ((v20 != v24) = false → (again_ (IntKind.i64.wrap (i + 1)) w2))))))))))) ∧
  ((decide (i < ((a_.len : Nat) : Int))) = false → (R true w1))

def F_towpathlaw01_SameInts (a_ : Slc) (b_ : Slc) (R : Bool → World → Prop) (w : World) : Prop :=
  ((((a_.len : Nat) : Int) != ((b_.len : Nat) : Int)) = true → (R false w)) ∧
  ((((a_.len : Nat) : Int) != ((b_.len : Nat) : Int)) = false → (∃ (I : Int → World → Prop) (μ : Int → World → Nat), I 0 w ∧
  ∀ (i : Int) w, I i w → F_towpathlaw01_SameInts_L0 a_ b_ R (fun (i' : Int) w' => I i' w' ∧ μ i' w' < μ i w) i w))

def F_towpathlaw13_alive (R : Bool → World → Prop) (w : World) : Prop :=
  ∀ b_ w1, b_ = w.heap.size → w1 = w.alloc (Obj.cells ([Value.int .i64 0, Value.int .i64 0, Value.int .i64 0, Value.int .i64 0]).toArray ty_api_Config (0, 0)) → (Writable w1 b_ 0 4 ∧ (∀ w2, w2 = World.puts b_ 0 [Value.int .i64 2, Value.int .i64 3, Value.int .i64 4, Value.int .i64 1] w1 → (∃ (v11 : T_api_Config), CellsAt w2 b_ 0 [Value.int .i64 v11.Lanes, Value.int .i64 v11.Shards, Value.int .i64 v11.Window, Value.int .i64 v11.Queue] ∧ (C_conf_Tasks v11 w2 (fun (n_ : Int) (e : Int) w3 => ∃ (v16 : T_api_Config), CellsAt w3 b_ 0 [Value.int .i64 v16.Lanes, Value.int .i64 v16.Shards, Value.int .i64 v16.Window, Value.int .i64 v16.Queue] ∧ (C_conf_Name v16 5 w3 (fun (s : ByteArray) (k : Int) (f : Int) w4 => ∃ (v22 : T_api_Config), CellsAt w4 b_ 0 [Value.int .i64 v22.Lanes, Value.int .i64 v22.Shards, Value.int .i64 v22.Window, Value.int .i64 v22.Queue] ∧ (C_conf_Shard v22 (ByteArray.mk #[102, 111, 111, 98, 97, 114]) w4 (fun (m : Int) (g : Int) w5 => ∃ (v26 : T_api_Config), CellsAt w5 b_ 0 [Value.int .i64 v26.Lanes, Value.int .i64 v26.Shards, Value.int .i64 v26.Window, Value.int .i64 v26.Queue] ∧ (C_conf_Check v26 w5 (fun (v27 : Int) w6 => ((v27 == 0) = true → (C_conf_Check (T_api_Config.mk 0 0 0 0) w6 (fun (v31 : Int) w7 => R ((((((((v31 == 7) && (e == 0)) && (f == 0)) && (g == 0)) && (n_ == 7)) && (s.toList == (ByteArray.mk #[111, 119, 110, 101, 114]).toList)) && (k == 2)) && (m == 1)) w7))) ∧
  ((v27 == 0) = false → (R false w6)))))))))))))

def F_sum_Hash_L0 (key : ByteArray) (R : Int → World → Prop) (again_ : Int → Int → World → Prop) (h_ : Int) (t7 : Int) (w1 : World) : Prop :=
  ((decide (t7 < ((key.size : Nat) : Int))) = true → (0 ≤ t7 ∧ t7 < ((key.size : Nat) : Int) ∧ (again_ (IntKind.u32.wrap ((bxor .u32 h_ (IntKind.u32.wrap (byteAt key t7))) * 16777619)) (IntKind.i64.wrap (t7 + 1)) w1))) ∧
  ((decide (t7 < ((key.size : Nat) : Int))) = false → (R h_ w1))

def F_sum_Hash (key : ByteArray) (R : Int → World → Prop) (w : World) : Prop :=
  ∃ (I : Int → Int → World → Prop) (μ : Int → Int → World → Nat), I 2166136261 0 w ∧
  ∀ (h_ : Int) (t7 : Int) w, I h_ t7 w → F_sum_Hash_L0 key R (fun (h_' : Int) (t7' : Int) w' => I h_' t7' w' ∧ μ h_' t7' w' < μ h_ t7 w) h_ t7 w

def F_towpathref10_New (capacity : Int) (R : Option Addr → Int → World → Prop) (w : World) : Prop :=
  (((decide (capacity < 1)) || (decide (capacity > 65536))) = true → (R none 1 w)) ∧
  (((decide (capacity < 1)) || (decide (capacity > 65536))) = false → (∀ b_ w1, b_ = w.heap.size → w1 = w.alloc (Obj.cells ([Value.slice none 0 0, Value.int .i64 capacity, Value.bool false]).toArray ty_towpathref10_Ring (0, 0)) → (R (some ⟨b_, 0, none⟩) 0 w1)))

def F_towpathlaw10_asked_k0 (r : Option Addr) (x : Option Addr) (R : Bool → World → Prop) (w2 : World) : Prop :=
  C_ring_Ring_int_First r w2 (fun (a_ : Int) (ok : Bool) w3 => C_towpathref10_Ring_First x w3 (fun (b_1 : Int) (is : Bool) w4 => (((a_ == b_1) && (ok == is)) = true → (C_ring_Ring_int_Len r w4 (fun (v87 : Int) w5 => C_towpathref10_Ring_Len x w5 (fun (v89 : Int) w6 => ((v87 == v89) = true → (C_ring_Ring_int_Room r w6 (fun (v94 : Int) w7 => C_towpathref10_Ring_Room x w7 (fun (v96 : Int) w8 => ((v94 == v96) = true → (C_ring_Ring_int_Over r w8 (fun (v101 : Bool) w9 => C_towpathref10_Ring_Over x w9 (fun (v103 : Bool) w10 => R (v101 == v103) w10)))) ∧
  ((v94 == v96) = false → (R false w8)))))) ∧
  ((v87 == v89) = false → (R false w6)))))) ∧
  (((a_ == b_1) && (ok == is)) = false → (R false w4))))

def F_towpathlaw10_asked (r : Option Addr) (x : Option Addr) (o_ : T_towpathlaw10_Op) (R : Bool → World → Prop) (w : World) : Prop :=
  ∀ b_ w1, b_ = w.heap.size → w1 = w.alloc (Obj.cells ([Value.int .u8 o_.Kind, Value.int .i64 o_.X]).toArray ty_towpathlaw10_Op (0, 0)) → (∃ (v16 : Int), w1.cell? ⟨b_, 0, none⟩ = some (Value.int .u8 v16) ∧ (((v16 == 1) = true → (∀ w11, (∃ k, w11 = w1.drewN k) → (∃ (v21 : Int), w11.cell? ⟨b_, 1, none⟩ = some (Value.int .i64 v21) ∧ (∃ (v25 : Int), w11.cell? ⟨b_, 1, none⟩ = some (Value.int .i64 v25) ∧ (C_ring_Ring_int_Put r v21 w11 (fun (v22 : Bool) w12 => w12.cell? ⟨b_, 1, none⟩ = some (Value.int .i64 v25) ∧ (C_towpathref10_Ring_Put x v25 w12 (fun (v26 : Bool) w13 => (((!(v22 == v26)) = true → (R false w13)) ∧
  ((!(v22 == v26)) = false → (F_towpathlaw10_asked_k0 r x R w13))))))))))) ∧
  ((v16 == 1) = false → (((v16 == 2) = true → (C_ring_Ring_int_Take r w1 (fun (a_1 : Int) (ok1 : Bool) w14 => C_towpathref10_Ring_Take x w14 (fun (b_2 : Int) (is1 : Bool) w15 => (((a_1 != b_2) || (!(ok1 == is1))) = true → (R false w15)) ∧
  (((a_1 != b_2) || (!(ok1 == is1))) = false → (F_towpathlaw10_asked_k0 r x R w15)))))) ∧
  ((v16 == 2) = false → (((v16 == 3) = true → (C_ring_Ring_int_Close r w1 (fun w16 => C_towpathref10_Ring_Close x w16 (fun w17 => F_towpathlaw10_asked_k0 r x R w17)))) ∧
  ((v16 == 3) = false → (((v16 == 4) = true → (∀ w18, (∃ k, w18 = w1.drewN k) → (∃ (v58 : Int), w18.cell? ⟨b_, 1, none⟩ = some (Value.int .i64 v58) ∧ (∃ (v63 : Int), w18.cell? ⟨b_, 1, none⟩ = some (Value.int .i64 v63) ∧ (C_towpathlaw10_gone r v58 w18 (fun (v59 : Slc) w19 => w19.cell? ⟨b_, 1, none⟩ = some (Value.int .i64 v63) ∧ (C_towpathref10_Ring_All x w19 (fun (v61 : Slc) w20 => w20.cell? ⟨b_, 1, none⟩ = some (Value.int .i64 v63) ∧ (C_towpathlaw10_few v61 v63 w20 (fun (v64 : Slc) w21 => (C_towpathlaw01_SameInts v59 v64 w21 (fun (v65 : Bool) w22 => (((!v65) = true → (R false w22)) ∧
  ((!v65) = false → (F_towpathlaw10_asked_k0 r x R w22))))))))))))))) ∧
  ((v16 == 4) = false → (F_towpathlaw10_asked_k0 r x R w1))))))))))

def F_towpathref10_Ring_All (r : Option Addr) (R : Slc → World → Prop) (w : World) : Prop :=
  (r.isNone = true → (R (Slc.mk none 0 0) w)) ∧
  (r.isNone = false → (IsAt r ∧ (∃ (v8 : Slc), w.cell? ⟨(pblk r), (poff r), none⟩ = some (Value.slice v8.ptr v8.len v8.cap) ∧ (R v8 w))))

def F_towpathref05_Key (s : ByteArray) (R : Bool → World → Prop) (w : World) : Prop :=
  R ((decide (((s.size : Nat) : Int) ≥ 1)) && (decide (((s.size : Nat) : Int) ≤ 64))) w

def F_towpathref03_Hash_L0 (key : ByteArray) (R : Int → World → Prop) (again_ : Int → Int → World → Prop) (h_ : Int) (i : Int) (w1 : World) : Prop :=
  ((decide (i < ((key.size : Nat) : Int))) = true → (0 ≤ i ∧ i < ((key.size : Nat) : Int) ∧ (again_ (IntKind.u32.wrap ((bxor .u32 h_ (IntKind.u32.wrap (byteAt key i))) * 16777619)) (IntKind.i64.wrap (i + 1)) w1))) ∧
  ((decide (i < ((key.size : Nat) : Int))) = false → (R h_ w1))

def F_towpathref03_Hash (key : ByteArray) (R : Int → World → Prop) (w : World) : Prop :=
  ∃ (I : Int → Int → World → Prop) (μ : Int → Int → World → Nat), I 2166136261 0 w ∧
  ∀ (h_ : Int) (i : Int) w, I h_ i w → F_towpathref03_Hash_L0 key R (fun (h_' : Int) (i' : Int) w' => I h_' i' w' ∧ μ h_' i' w' < μ h_ i w) h_ i w

def F_towpathref13_in (n_ : Int) (most : Int) (R : Bool → World → Prop) (w : World) : Prop :=
  R ((decide (n_ ≥ 1)) && (decide (n_ ≤ most))) w

def F_conf_name (kind : Int) (R : ByteArray → World → Prop) (w : World) : Prop :=
  0 ≤ kind ∧ kind < (5 : Int) ∧ (R (([(ByteArray.mk #[100, 105, 115, 112, 97, 116, 99, 104, 101, 114]), (ByteArray.mk #[108, 97, 110, 101]), (ByteArray.mk #[111, 119, 110, 101, 114]), (ByteArray.mk #[103, 97, 116, 101]), (ByteArray.mk #[99, 97, 108, 108])] : List ByteArray).getD kind.toNat ByteArray.empty) w)

def F_ring_Ring_int_First (r : Option Addr) (R : Int → Bool → World → Prop) (w : World) : Prop :=
  C_ring_Ring_int_Len r w (fun (v5 : Int) w1 => ((v5 == 0) = true → (R 0 false w1)) ∧
  ((v5 == 0) = false → (IsAt r ∧ (∃ (v11 : Slc), w1.cell? ⟨(pblk r), (poff r), none⟩ = some (Value.slice v11.ptr v11.len v11.cap) ∧ (IsAt r ∧ (∃ (v15 : Int), w1.cell? ⟨(pblk r), (poff r) + 1, none⟩ = some (Value.int .i64 v15) ∧ (IsAt v11.ptr ∧ (0 ≤ v15 ∧ v15 < ((v11.len : Nat) : Int) ∧ (∃ (x : Int), w1.cell? ⟨(pblk v11.ptr), (poff v11.ptr) + v15.toNat, none⟩ = some (Value.int .i64 x) ∧ (∀ w2, Ext w1 w2 → (R x true w2)))))))))))

def F_ring_Ring_int_gone (r : Option Addr) (R : Bool → World → Prop) (w : World) : Prop :=
  (r.isNone = true → (R true w)) ∧
  (r.isNone = false → (IsAt r ∧ (∃ (v9 : Slc), w.cell? ⟨(pblk r), (poff r), none⟩ = some (Value.slice v9.ptr v9.len v9.cap) ∧ (R v9.ptr.isNone w))))

def F_gate_Gate_set (g : Option Addr) (n_ : Int) (R : World → Prop) (w : World) : Prop :=
  ∀ w1, (∃ k, w1 = w.drewN k) → (IsAt g ∧ (0 ≤ IntKind.i64.wrap (Int.tdiv n_ 64) ∧ IntKind.i64.wrap (Int.tdiv n_ 64) < (1025 : Int) ∧ (∃ (v10 : Int), w1.cell? ⟨(pblk g), ((poff g) + 2) + (IntKind.i64.wrap (Int.tdiv n_ 64)).toNat, none⟩ = some (Value.int .u64 v10) ∧ (0 ≤ Int.tmod n_ 64 ∧ (0 ≤ IntKind.i64.wrap (Int.tdiv n_ 64) ∧ IntKind.i64.wrap (Int.tdiv n_ 64) < (1025 : Int) ∧ (Writable w1 (pblk g) (((poff g) + 2) + (IntKind.i64.wrap (Int.tdiv n_ 64)).toNat) 1 ∧ (∀ w2, w2 = World.puts (pblk g) (((poff g) + 2) + (IntKind.i64.wrap (Int.tdiv n_ 64)).toNat) [Value.int .u64 (bor .u64 v10 (IntKind.u64.wrap (1 * 2 ^ (min (Int.tmod n_ 64).toNat 64))))] w1 → (IsAt g ∧ (∃ (v22 : Int), w2.cell? ⟨(pblk g), (poff g) + 1027, none⟩ = some (Value.int .i64 v22) ∧ (IsAt g ∧ (Writable w2 (pblk g) ((poff g) + 1027) 1 ∧ (∀ w3, w3 = World.puts (pblk g) ((poff g) + 1027) [Value.int .i64 (if n_ > v22 then n_ else v22)] w2 → (R w3)))))))))))))

def F_gate_Gate_is (g : Option Addr) (n_ : Int) (R : Bool → World → Prop) (w : World) : Prop :=
  ((decide (n_ ≤ 65536)) = true → (IsAt g ∧ (0 ≤ IntKind.i64.wrap (Int.tdiv n_ 64) ∧ IntKind.i64.wrap (Int.tdiv n_ 64) < (1025 : Int) ∧ (∃ (v14 : Int), w.cell? ⟨(pblk g), ((poff g) + 2) + (IntKind.i64.wrap (Int.tdiv n_ 64)).toNat, none⟩ = some (Value.int .u64 v14) ∧ (0 ≤ Int.tmod n_ 64 ∧ (R ((band .u64 (Int.fdiv v14 (2 ^ (min (Int.tmod n_ 64).toNat 64))) 1) == 1) w)))))) ∧
  ((decide (n_ ≤ 65536)) = false → (R false w))

def F_towpathref10_Ring_Put_k0 (r : Option Addr) (x : Int) (R : Bool → World → Prop) (t24 : Bool) (w1 : World) : Prop :=
  (t24 = true → (R false w1)) ∧
  (t24 = false → (IsAt r ∧ (∃ (v29 : Slc), w1.cell? ⟨(pblk r), (poff r), none⟩ = some (Value.slice v29.ptr v29.len v29.cap) ∧ (∀ b_ w2, b_ = w1.heap.size → w2 = w1.alloc (Obj.cells ([Value.int .i64 x]).toArray ty_int (0, 0)) → (∃ src, SrcAt w2 (Slc.mk (some ⟨b_, 0, none⟩) 1 1) 1 src ∧ AppendW 1 8 ty_int [Value.int .i64 0] v29 src 1 w2 (fun v32 w3 => IsAt r ∧ (Writable w3 (pblk r) (poff r) 1 ∧ (∀ w4, w4 = World.puts (pblk r) (poff r) [Value.slice v32.ptr v32.len v32.cap] w3 → (R true w4)))))))))

def F_towpathref10_Ring_Put (r : Option Addr) (x : Int) (R : Bool → World → Prop) (w : World) : Prop :=
  (r.isNone = true → (∀ w5, Ext w w5 → (F_towpathref10_Ring_Put_k0 r x R true w5))) ∧
  (r.isNone = false → (IsAt r ∧ (∃ (v11 : Bool), w.cell? ⟨(pblk r), (poff r) + 2, none⟩ = some (Value.bool v11) ∧ ((v11 = true → (∀ w6, Ext w w6 → (F_towpathref10_Ring_Put_k0 r x R true w6))) ∧
  (v11 = false → (IsAt r ∧ (∃ (v17 : Slc), w.cell? ⟨(pblk r), (poff r), none⟩ = some (Value.slice v17.ptr v17.len v17.cap) ∧ (IsAt r ∧ (∃ (v22 : Int), w.cell? ⟨(pblk r), (poff r) + 1, none⟩ = some (Value.int .i64 v22) ∧ (∀ w7, Ext w w7 → (F_towpathref10_Ring_Put_k0 r x R (decide (((v17.len : Nat) : Int) ≥ v22)) w7)))))))))))

def F_towpathref10_Ring_Take_k0 (R : Int → Bool → World → Prop) (x : Int) (ok : Bool) (w2 : World) : Prop :=
  R x ok w2

def F_towpathref10_Ring_Take (r : Option Addr) (R : Int → Bool → World → Prop) (w : World) : Prop :=
  C_towpathref10_Ring_First r w (fun (x : Int) (ok : Bool) w1 => (ok = true → (IsAt r ∧ (∃ (v16 : Slc), w1.cell? ⟨(pblk r), (poff r), none⟩ = some (Value.slice v16.ptr v16.len v16.cap) ∧ ((0 ≤ (1 : Int) ∧ (1 : Int) ≤ ((v16.len : Nat) : Int) ∧ ((v16.len : Nat) : Int) ≤ ((v16.cap : Nat) : Int) ∧ ((v16.cap : Nat) : Int) ≤ ((v16.cap : Nat) : Int)) ∧ (∀ s, s = Slc.cut 1 v16 1 ((v16.len : Nat) : Int) ((v16.cap : Nat) : Int) → (IsAt r ∧ (Writable w1 (pblk r) (poff r) 1 ∧ (∀ w3, w3 = World.puts (pblk r) (poff r) [Value.slice s.ptr s.len s.cap] w1 → (F_towpathref10_Ring_Take_k0 R x ok w3))))))))) ∧
  (ok = false → (F_towpathref10_Ring_Take_k0 R x ok w1)))

def F_towpathref10_Ring_Close (r : Option Addr) (R : World → Prop) (w : World) : Prop :=
  ((!r.isNone) = true → (IsAt r ∧ (Writable w (pblk r) ((poff r) + 2) 1 ∧ (∀ w1, w1 = World.puts (pblk r) ((poff r) + 2) [Value.bool true] w → (R w1))))) ∧
  ((!r.isNone) = false → (R w))

def F_towpathlaw10_few (l_ : Slc) (most : Int) (R : Slc → World → Prop) (w : World) : Prop :=
  ((decide (((l_.len : Nat) : Int) > most)) = true → (0 ≤ (if 0 > most then 0 else most) ∧ (if 0 > most then 0 else most) ≤ ((l_.cap : Nat) : Int) ∧ (R (Slc.mk l_.ptr ((if 0 > most then 0 else most).toNat) l_.cap) w))) ∧
  ((decide (((l_.len : Nat) : Int) > most)) = false → (R l_ w))

def F_towpathref10_Ring_First_k0 (r : Option Addr) (R : Int → Bool → World → Prop) (t13 : Bool) (w1 : World) : Prop :=
  (t13 = true → (R 0 false w1)) ∧
  (t13 = false → (IsAt r ∧ (∃ (v17 : Slc), w1.cell? ⟨(pblk r), (poff r), none⟩ = some (Value.slice v17.ptr v17.len v17.cap) ∧ (IsAt v17.ptr ∧ (0 ≤ (0 : Int) ∧ (0 : Int) < ((v17.len : Nat) : Int) ∧ (∃ (v19 : Int), w1.cell? ⟨(pblk v17.ptr), (poff v17.ptr), none⟩ = some (Value.int .i64 v19) ∧ (R v19 true w1)))))))

def F_towpathref10_Ring_First (r : Option Addr) (R : Int → Bool → World → Prop) (w : World) : Prop :=
  (r.isNone = true → (F_towpathref10_Ring_First_k0 r R true w)) ∧
  (r.isNone = false → (IsAt r ∧ (∃ (v10 : Slc), w.cell? ⟨(pblk r), (poff r), none⟩ = some (Value.slice v10.ptr v10.len v10.cap) ∧ (F_towpathref10_Ring_First_k0 r R (((v10.len : Nat) : Int) == 0) w))))

def F_towpathref10_Ring_Len (r : Option Addr) (R : Int → World → Prop) (w : World) : Prop :=
  (r.isNone = true → (R 0 w)) ∧
  (r.isNone = false → (IsAt r ∧ (∃ (v8 : Slc), w.cell? ⟨(pblk r), (poff r), none⟩ = some (Value.slice v8.ptr v8.len v8.cap) ∧ (R ((v8.len : Nat) : Int) w))))

def F_towpathref10_Ring_Room_k0 (r : Option Addr) (R : Int → World → Prop) (t10 : Bool) (w1 : World) : Prop :=
  (t10 = true → (R 0 w1)) ∧
  (t10 = false → (IsAt r ∧ (∃ (v14 : Int), w1.cell? ⟨(pblk r), (poff r) + 1, none⟩ = some (Value.int .i64 v14) ∧ (IsAt r ∧ (∃ (v18 : Slc), w1.cell? ⟨(pblk r), (poff r), none⟩ = some (Value.slice v18.ptr v18.len v18.cap) ∧ (∀ w2, Ext w1 w2 → (R (IntKind.i64.wrap (v14 - ((v18.len : Nat) : Int))) w2)))))))

def F_towpathref10_Ring_Room (r : Option Addr) (R : Int → World → Prop) (w : World) : Prop :=
  (r.isNone = true → (F_towpathref10_Ring_Room_k0 r R true w)) ∧
  (r.isNone = false → (IsAt r ∧ (∃ (v9 : Bool), w.cell? ⟨(pblk r), (poff r) + 2, none⟩ = some (Value.bool v9) ∧ (F_towpathref10_Ring_Room_k0 r R v9 w))))

def F_towpathref10_Ring_Over (r : Option Addr) (R : Bool → World → Prop) (w : World) : Prop :=
  ((!r.isNone) = true → (IsAt r ∧ (∃ (v9 : Bool), w.cell? ⟨(pblk r), (poff r) + 2, none⟩ = some (Value.bool v9) ∧ ((v9 = true → (IsAt r ∧ (∃ (v15 : Slc), w.cell? ⟨(pblk r), (poff r), none⟩ = some (Value.slice v15.ptr v15.len v15.cap) ∧ (R (((v15.len : Nat) : Int) == 0) w)))) ∧
  (v9 = false → (R false w)))))) ∧
  ((!r.isNone) = false → (R false w))

def Ok_T_api_Config (w : World) (x : T_api_Config) : Prop := ((-9223372036854775808) ≤ x.Lanes ∧ x.Lanes ≤ 9223372036854775807) ∧ ((-9223372036854775808) ≤ x.Shards ∧ x.Shards ≤ 9223372036854775807) ∧ ((-9223372036854775808) ≤ x.Window ∧ x.Window ≤ 9223372036854775807) ∧ ((-9223372036854775808) ≤ x.Queue ∧ x.Queue ≤ 9223372036854775807)

def Ok_T_towpathlaw10_Op (w : World) (x : T_towpathlaw10_Op) : Prop := (0 ≤ x.Kind ∧ x.Kind ≤ 255) ∧ ((-9223372036854775808) ≤ x.X ∧ x.X ≤ 9223372036854775807)

def Ok_T_towpathlaw10_Show (w : World) (x : T_towpathlaw10_Show) : Prop := (0 ≤ x.Capacity ∧ x.Capacity ≤ 255) ∧ (0 ≤ x.Taken ∧ x.Taken ≤ 255) ∧ (0 ≤ x.Most ∧ x.Most ≤ 255) ∧ (OkSl w x.Things 1 8 (fun es => ∃ e_ : Int, es = [Value.int .i64 e_] ∧ ((-9223372036854775808) ≤ e_ ∧ e_ ≤ 9223372036854775807)))

end Go.Proofs.Ytchcljkflklddaa
