/- WRITTEN BY PROGRAM (dec.py): for each Go function the clean formula F, the call's contract C, and the proof S that F gives C. -/
import Derived.Test.YtfmkemmgakdddaaRows
import Derived.Test.YtfmkemmgakdddaaCore
namespace Go.Proofs.Ytfmkemmgakdddaa
open Go
set_option linter.unusedVariables false


abbrev ty_int : TypeId := 3

abbrev ty_api_Txn : TypeId := 27

abbrev ty_api_Config : TypeId := 35

abbrev ty_lane_Lane : TypeId := 47

abbrev ty_towpathlaw14_Trip : TypeId := 54

abbrev ty_api_Write : TypeId := 61

abbrev ty_api_Req : TypeId := 65

abbrev ty_lane_none : TypeId := 96

abbrev ty_2_int : TypeId := 100

abbrev ty_lane_busy : TypeId := 107

structure T_api_Config where
  Lanes : Int
  Shards : Int
  Window : Int
  Queue : Int

structure T_towpathlaw14_Trip where
  Config : T_api_Config
  Txns : Slc
  Acks : Slc

structure T_api_Txn where
  Number : Int
  Writes : Slc

structure T_api_Write where
  Key : ByteArray
  Val : ByteArray
  Drop : Bool

structure T_api_Req where
  Kind : Int
  From : Int
  Number : Int
  Write : T_api_Write
  Key : ByteArray
  End : ByteArray
  Beyond : Slc

structure Arr2_Int where
  e0 : Int
  e1 : Int

structure T_lane_none where

def C_towpathlaw14_LaneTrips (x : T_towpathlaw14_Trip) (w : World) (R : Bool → World → Prop) : Prop :=
  Calls Try.prog 5 #[Value.agg #[Value.int .i64 x.Config.Lanes, Value.int .i64 x.Config.Shards, Value.int .i64 x.Config.Window, Value.int .i64 x.Config.Queue, Value.slice x.Txns.ptr x.Txns.len x.Txns.cap, Value.slice x.Acks.ptr x.Acks.len x.Acks.cap]] w (fun e w' => ∃ (r0 : Bool), e = .returned (Value.bool r0) ∧ R r0 w')

def C_towpathlaw01_Beyond (l_ : Slc) (w : World) (R : Bool → World → Prop) : Prop :=
  Calls Try.prog 10 #[Value.slice l_.ptr l_.len l_.cap] w (fun e w' => ∃ (r0 : Bool), e = .returned (Value.bool r0) ∧ R r0 w')

def C_lane_New (number : Int) (c : T_api_Config) (w : World) (R : Option Addr → Int → World → Prop) : Prop :=
  Calls Try.prog 17 #[Value.int .i64 number, Value.agg #[Value.int .i64 c.Lanes, Value.int .i64 c.Shards, Value.int .i64 c.Window, Value.int .i64 c.Queue]] w (fun e w' => ∃ (r0 : Option Addr) (r1 : Int), e = .returned (Value.tuple #[Value.pointer r0, Value.int .i64 r1]) ∧ R r0 r1 w')

def C_towpathlaw14_alive (w : World) (R : Bool → World → Prop) : Prop :=
  Calls Try.prog 20 #[] w (fun e w' => ∃ (r0 : Bool), e = .returned (Value.bool r0) ∧ R r0 w')

def C_conf_Check (c : T_api_Config) (w : World) (R : Int → World → Prop) : Prop :=
  Calls Try.prog 21 #[Value.agg #[Value.int .i64 c.Lanes, Value.int .i64 c.Shards, Value.int .i64 c.Window, Value.int .i64 c.Queue]] w (fun e w' => ∃ (r0 : Int), e = .returned (Value.int .i64 r0) ∧ R r0 w')

def C_towpathlaw01_TxnsSize (l_ : Slc) (w : World) (R : Int → World → Prop) : Prop :=
  Calls Try.prog 22 #[Value.slice l_.ptr l_.len l_.cap] w (fun e w' => ∃ (r0 : Int), e = .returned (Value.int .i64 r0) ∧ R r0 w')

def C_lane_Lane_Take (l_ : Option Addr) (t_ : T_api_Txn) (w : World) (R : Int → World → Prop) : Prop :=
  Calls Try.prog 23 #[Value.pointer l_, Value.agg #[Value.int .i64 t_.Number, Value.slice t_.Writes.ptr t_.Writes.len t_.Writes.cap]] w (fun e w' => ∃ (r0 : Int), e = .returned (Value.int .i64 r0) ∧ R r0 w')

def C_record_Check (t_ : T_api_Txn) (w : World) (R : Int → World → Prop) : Prop :=
  Calls Try.prog 24 #[Value.agg #[Value.int .i64 t_.Number, Value.slice t_.Writes.ptr t_.Writes.len t_.Writes.cap]] w (fun e w' => ∃ (r0 : Int), e = .returned (Value.int .i64 r0) ∧ R r0 w')

def C_lane_Lane_Holds (l_ : Option Addr) (w : World) (R : Int → World → Prop) : Prop :=
  Calls Try.prog 25 #[Value.pointer l_] w (fun e w' => ∃ (r0 : Int), e = .returned (Value.int .i64 r0) ∧ R r0 w')

def C_lane_Lane_Next (l_ : Option Addr) (w : World) (R : Int → T_api_Req → Bool → World → Prop) : Prop :=
  Calls Try.prog 26 #[Value.pointer l_] w (fun e w' => ∃ (r0 : Int) (r1 : T_api_Req) (r2 : Bool), e = .returned (Value.tuple #[Value.int .i64 r0, Value.agg #[Value.int .u8 r1.Kind, Value.int .i64 r1.From, Value.int .i64 r1.Number, Value.string r1.Write.Key, Value.string r1.Write.Val, Value.bool r1.Write.Drop, Value.string r1.Key, Value.string r1.End, Value.slice r1.Beyond.ptr r1.Beyond.len r1.Beyond.cap], Value.bool r2]) ∧ R r0 r1 r2 w')

def C_conf_Shard (c : T_api_Config) (key : ByteArray) (w : World) (R : Int → Int → World → Prop) : Prop :=
  Calls Try.prog 27 #[Value.agg #[Value.int .i64 c.Lanes, Value.int .i64 c.Shards, Value.int .i64 c.Window, Value.int .i64 c.Queue], Value.string key] w (fun e w' => ∃ (r0 : Int) (r1 : Int), e = .returned (Value.tuple #[Value.int .i64 r0, Value.int .i64 r1]) ∧ R r0 r1 w')

def C_lane_Lane_Ready (l_ : Option Addr) (w : World) (R : Bool → World → Prop) : Prop :=
  Calls Try.prog 28 #[Value.pointer l_] w (fun e w' => ∃ (r0 : Bool), e = .returned (Value.bool r0) ∧ R r0 w')

def C_lane_Lane_Sent (l_ : Option Addr) (w : World) (R : Int → World → Prop) : Prop :=
  Calls Try.prog 29 #[Value.pointer l_] w (fun e w' => ∃ (r0 : Int), e = .returned (Value.int .i64 r0) ∧ R r0 w')

def C_lane_Lane_Acked (l_ : Option Addr) (w : World) (R : Int → World → Prop) : Prop :=
  Calls Try.prog 30 #[Value.pointer l_] w (fun e w' => ∃ (r0 : Int), e = .returned (Value.int .i64 r0) ∧ R r0 w')

def C_lane_Lane_Done (l_ : Option Addr) (w : World) (R : Int → Int → World → Prop) : Prop :=
  Calls Try.prog 31 #[Value.pointer l_] w (fun e w' => ∃ (r0 : Int) (r1 : Int), e = .returned (Value.tuple #[Value.int .i64 r0, Value.int .i64 r1]) ∧ R r0 r1 w')

def C_towpathlaw01_TxnSize (t_ : T_api_Txn) (w : World) (R : Int → World → Prop) : Prop :=
  Calls Try.prog 32 #[Value.agg #[Value.int .i64 t_.Number, Value.slice t_.Writes.ptr t_.Writes.len t_.Writes.cap]] w (fun e w' => ∃ (r0 : Int), e = .returned (Value.int .i64 r0) ∧ R r0 w')

def C_lane_Lane_gone (l_ : Option Addr) (w : World) (R : Bool → World → Prop) : Prop :=
  Calls Try.prog 59 #[Value.pointer l_] w (fun e w' => ∃ (r0 : Bool), e = .returned (Value.bool r0) ∧ R r0 w')

def C_lane_Lane_busy (l_ : Option Addr) (w : World) (R : Option Addr → Bool → World → Prop) : Prop :=
  Calls Try.prog 60 #[Value.pointer l_] w (fun e w' => ∃ (r0 : Option Addr) (r1 : Bool), e = .returned (Value.tuple #[Value.pointer r0, Value.bool r1]) ∧ R r0 r1 w')

def C_lane_counting (t_ : T_api_Txn) (w : World) (R : Slc → World → Prop) : Prop :=
  Calls Try.prog 61 #[Value.agg #[Value.int .i64 t_.Number, Value.slice t_.Writes.ptr t_.Writes.len t_.Writes.cap]] w (fun e w' => ∃ (r0 : Slc), e = .returned (Value.slice r0.ptr r0.len r0.cap) ∧ R r0 w')

def C_record_Check_1 (w_ : T_api_Write) (w : World) (R : Bool → World → Prop) : Prop :=
  Calls Try.prog 62 #[Value.agg #[Value.string w_.Key, Value.string w_.Val, Value.bool w_.Drop]] w (fun e w' => ∃ (r0 : Bool), e = .returned (Value.bool r0) ∧ R r0 w')

def C_slices_ContainsFunc_api_Write_api_Write (s : Slc) (f : Value) (w : World) (R : Bool → World → Prop) : Prop :=
  Calls Try.prog 63 #[Value.slice s.ptr s.len s.cap, f] w (fun e w' => ∃ (r0 : Bool), e = .returned (Value.bool r0) ∧ R r0 w')

def C_sum_Hash (key : ByteArray) (w : World) (R : Int → World → Prop) : Prop :=
  Calls Try.prog 64 #[Value.string key] w (fun e w' => ∃ (r0 : Int), e = .returned (Value.int .u32 r0) ∧ R r0 w')

def C_towpathlaw01_WritesSize (l_ : Slc) (w : World) (R : Int → World → Prop) : Prop :=
  Calls Try.prog 65 #[Value.slice l_.ptr l_.len l_.cap] w (fun e w' => ∃ (r0 : Int), e = .returned (Value.int .i64 r0) ∧ R r0 w')

def C_lane_counting_1 (x : T_api_Write) (t1 : Option Addr) (w : World) (R : Bool → World → Prop) : Prop :=
  Calls Try.prog 88 #[Value.agg #[Value.string x.Key, Value.string x.Val, Value.bool x.Drop], Value.pointer t1] w (fun e w' => ∃ (r0 : Bool), e = .returned (Value.bool r0) ∧ R r0 w')

def C_slices_IndexFunc_api_Write_api_Write (s : Slc) (f : Value) (w : World) (R : Int → World → Prop) : Prop :=
  Calls Try.prog 89 #[Value.slice s.ptr s.len s.cap, f] w (fun e w' => ∃ (r0 : Int), e = .returned (Value.int .i64 r0) ∧ R r0 w')

def C_lane_none_next (t0 : T_lane_none) (w : World) (R : T_api_Write → Bool → World → Prop) : Prop :=
  Calls Try.prog 114 #[Value.agg #[]] w (fun e w' => ∃ (r0 : T_api_Write) (r1 : Bool), e = .returned (Value.tuple #[Value.agg #[Value.string r0.Key, Value.string r0.Val, Value.bool r0.Drop], Value.bool r1]) ∧ R r0 r1 w')

def C_lane_busy_next (b_ : Option Addr) (w : World) (R : T_api_Write → Bool → World → Prop) : Prop :=
  Calls Try.prog 115 #[Value.pointer b_] w (fun e w' => ∃ (r0 : T_api_Write) (r1 : Bool), e = .returned (Value.tuple #[Value.agg #[Value.string r0.Key, Value.string r0.Val, Value.bool r0.Drop], Value.bool r1]) ∧ R r0 r1 w')

def F_towpathlaw14_LaneTrips_k2 (i : Int) (again_ : Int → Int → World → Prop) (at_1 : Int) (w6 : World) : Prop :=
  again_ at_1 (IntKind.i64.wrap (i + 1)) w6

def F_towpathlaw14_LaneTrips_k4 (k : Int) (again_1 : Int → Int → Int → World → Prop) (at_3 : Int) (out1 : Int) (w15 : World) : Prop :=
  again_1 at_3 out1 (IntKind.i64.wrap (k + 1)) w15

def F_towpathlaw14_LaneTrips_k6 (m_ : Int) (again_2 : Bool → Int → World → Prop) (later1 : Bool) (w17 : World) : Prop :=
  again_2 later1 (IntKind.i64.wrap (m_ + 1)) w17

def F_towpathlaw14_LaneTrips_k9 (R : Bool → World → Prop) (l_ : Option Addr) (k : Int) (again_1 : Int → Int → Int → World → Prop) (at_4 : Int) (out2 : Int) (again_3 : Int → Int → World → Prop) (t209 : Bool) (w27 : World) : Prop :=
  (t209 = true → (C_lane_Lane_Acked l_ w27 (fun (v211 : Int) w28 => ((v211 != 0) = true → (R false w28)) ∧
  ((v211 != 0) = false → (again_3 (IntKind.i64.wrap (at_4 + 1)) (IntKind.i64.wrap (out2 - 1)) w28))))) ∧
  (t209 = false → (F_towpathlaw14_LaneTrips_k4 k again_1 (IntKind.i64.wrap (at_4 + 1)) out2 w27))

def F_towpathlaw14_LaneTrips_L8 (R : Bool → World → Prop) (b_ : Nat) (l_ : Option Addr) (k : Int) (again_1 : Int → Int → Int → World → Prop) (again_3 : Int → Int → World → Prop) (at_4 : Int) (out2 : Int) (w26 : World) : Prop :=
  ∃ (v194 : Slc), w26.cell? ⟨b_, 5, none⟩ = some (Value.slice v194.ptr v194.len v194.cap) ∧ (((decide (at_4 < ((v194.len : Nat) : Int))) = true → (∃ (v199 : Slc), w26.cell? ⟨b_, 5, none⟩ = some (Value.slice v199.ptr v199.len v199.cap) ∧ (IsAt v199.ptr ∧ (0 ≤ at_4 ∧ at_4 < ((v199.len : Nat) : Int) ∧ (∃ (v202 : Int), w26.cell? ⟨(pblk v199.ptr), (poff v199.ptr) + at_4.toNat, none⟩ = some (Value.int .u8 v202) ∧ (F_towpathlaw14_LaneTrips_k9 R l_ k again_1 at_4 out2 again_3 (((Int.tmod v202 3) == 0) && (decide (out2 > 0))) w26)))))) ∧
  ((decide (at_4 < ((v194.len : Nat) : Int))) = false → (F_towpathlaw14_LaneTrips_k9 R l_ k again_1 at_4 out2 again_3 false w26)))

def F_towpathlaw14_LaneTrips_k7 (R : Bool → World → Prop) (b_ : Nat) (l_ : Option Addr) (at_2 : Int) (out : Int) (k : Int) (again_1 : Int → Int → Int → World → Prop) (t189 : Bool) (w25 : World) : Prop :=
  (t189 = true → (R false w25)) ∧
  (t189 = false → (∃ (I : Int → Int → World → Prop) (μ : Int → Int → World → Nat), I at_2 (IntKind.i64.wrap (out + 1)) w25 ∧
  ∀ (at_4 : Int) (out2 : Int) w, I at_4 out2 w → F_towpathlaw14_LaneTrips_L8 R b_ l_ k again_1 (fun (at_4' : Int) (out2' : Int) w' => I at_4' out2' w' ∧ μ at_4' out2' w' < μ at_4 out2 w) at_4 out2 w))

def F_towpathlaw14_LaneTrips_L5 (R : Bool → World → Prop) (b_ : Nat) (l_ : Option Addr) (b_1 : Nat) (at_2 : Int) (out : Int) (k : Int) (again_1 : Int → Int → Int → World → Prop) (again_2 : Bool → Int → World → Prop) (later : Bool) (m_ : Int) (w16 : World) : Prop :=
  ∃ (v93 : Slc), w16.cell? ⟨b_1, 1, none⟩ = some (Value.slice v93.ptr v93.len v93.cap) ∧ (((decide (m_ < ((v93.len : Nat) : Int))) = true → ((later = true → (∀ w18, Ext w16 w18 → (F_towpathlaw14_LaneTrips_k6 m_ again_2 true w18))) ∧
  (later = false → (∃ (v101 : Slc), w16.cell? ⟨b_1, 1, none⟩ = some (Value.slice v101.ptr v101.len v101.cap) ∧ (IsAt v101.ptr ∧ (0 ≤ m_ ∧ m_ < ((v101.len : Nat) : Int) ∧ (∃ (v105 : ByteArray), w16.cell? ⟨(pblk v101.ptr), (poff v101.ptr) + m_.toNat * 3, none⟩ = some (Value.string v105) ∧ (∃ (v107 : Slc), w16.cell? ⟨b_1, 1, none⟩ = some (Value.slice v107.ptr v107.len v107.cap) ∧ (IsAt v107.ptr ∧ (0 ≤ k ∧ k < ((v107.len : Nat) : Int) ∧ (∃ (v111 : ByteArray), w16.cell? ⟨(pblk v107.ptr), (poff v107.ptr) + k.toNat * 3, none⟩ = some (Value.string v111) ∧ (∀ w19, Ext w16 w19 → (F_towpathlaw14_LaneTrips_k6 m_ again_2 (v105.toList == v111.toList) w19))))))))))))) ∧
  ((decide (m_ < ((v93.len : Nat) : Int))) = false → ((later = true → (F_towpathlaw14_LaneTrips_k4 k again_1 at_2 out w16)) ∧
  (later = false → (C_lane_Lane_Next l_ w16 (fun (s : Int) (v117_1 : T_api_Req) (ok : Bool) w20 => ∀ b_2 w21, b_2 = w20.heap.size → w21 = w20.alloc (Obj.cells ([Value.int .u8 0, Value.int .i64 0, Value.int .i64 0, Value.string ByteArray.empty, Value.string ByteArray.empty, Value.bool false, Value.string ByteArray.empty, Value.string ByteArray.empty, Value.slice none 0 0]).toArray ty_api_Req (0, 0)) → (Writable w21 b_2 0 9 ∧ (∀ w22, w22 = World.puts b_2 0 [Value.int .u8 v117_1.Kind, Value.int .i64 v117_1.From, Value.int .i64 v117_1.Number, Value.string v117_1.Write.Key, Value.string v117_1.Write.Val, Value.bool v117_1.Write.Drop, Value.string v117_1.Key, Value.string v117_1.End, Value.slice v117_1.Beyond.ptr v117_1.Beyond.len v117_1.Beyond.cap] w21 → (∀ w23, (∃ k, w23 = w22.drewN k) → (∃ (v123 : T_api_Config), CellsAt w23 b_ 0 [Value.int .i64 v123.Lanes, Value.int .i64 v123.Shards, Value.int .i64 v123.Window, Value.int .i64 v123.Queue] ∧ (∃ (v125 : Slc), w23.cell? ⟨b_1, 1, none⟩ = some (Value.slice v125.ptr v125.len v125.cap) ∧ (IsAt v125.ptr ∧ (0 ≤ k ∧ k < ((v125.len : Nat) : Int) ∧ (∃ (v129 : ByteArray), w23.cell? ⟨(pblk v125.ptr), (poff v125.ptr) + k.toNat * 3, none⟩ = some (Value.string v129) ∧ (C_conf_Shard v123 v129 w23 (fun (shard : Int) (f : Int) w24 => (∀ w29, (∃ k, w29 = w24.drewN k) → (((((!ok) || (f != 0)) || (s != shard)) = true → (F_towpathlaw14_LaneTrips_k7 R b_ l_ at_2 out k again_1 true w29)) ∧
  ((((!ok) || (f != 0)) || (s != shard)) = false → (∃ (v146 : Int), w29.cell? ⟨b_2, 0, none⟩ = some (Value.int .u8 v146) ∧ (((v146 != 1) = true → (F_towpathlaw14_LaneTrips_k7 R b_ l_ at_2 out k again_1 true w29)) ∧
  ((v146 != 1) = false → (∃ (v151 : Int), w29.cell? ⟨b_2, 1, none⟩ = some (Value.int .i64 v151) ∧ (∃ (v154 : Int), w29.cell? ⟨b_, 0, none⟩ = some (Value.int .i64 v154) ∧ (((v151 != v154) = true → (F_towpathlaw14_LaneTrips_k7 R b_ l_ at_2 out k again_1 true w29)) ∧
  ((v151 != v154) = false → (∃ (v159 : Int), w29.cell? ⟨b_2, 2, none⟩ = some (Value.int .i64 v159) ∧ (∃ (v161 : Int), w29.cell? ⟨b_1, 0, none⟩ = some (Value.int .i64 v161) ∧ (((v159 != v161) = true → (F_towpathlaw14_LaneTrips_k7 R b_ l_ at_2 out k again_1 true w29)) ∧
  ((v159 != v161) = false → (∃ (v166 : T_api_Write), CellsAt w29 b_2 3 [Value.string v166.Key, Value.string v166.Val, Value.bool v166.Drop] ∧ (∃ (v168 : Slc), w29.cell? ⟨b_1, 1, none⟩ = some (Value.slice v168.ptr v168.len v168.cap) ∧ (IsAt v168.ptr ∧ (0 ≤ k ∧ k < ((v168.len : Nat) : Int) ∧ (∃ (v171 : T_api_Write), CellsAt w29 (pblk v168.ptr) ((poff v168.ptr) + k.toNat * 3) [Value.string v171.Key, Value.string v171.Val, Value.bool v171.Drop] ∧ (((!(((v166.Key == v171.Key) && (v166.Val == v171.Val)) && (v166.Drop == v171.Drop))) = true → (F_towpathlaw14_LaneTrips_k7 R b_ l_ at_2 out k again_1 true w29)) ∧
  ((!(((v166.Key == v171.Key) && (v166.Val == v171.Val)) && (v166.Drop == v171.Drop))) = false → (C_lane_Lane_Ready l_ w29 (fun (v176 : Bool) w30 => ((v176 = true → (F_towpathlaw14_LaneTrips_k7 R b_ l_ at_2 out k again_1 true w30)) ∧
  (v176 = false → (∃ (v182 : Int), w30.cell? ⟨b_1, 0, none⟩ = some (Value.int .i64 v182) ∧ (C_lane_Lane_Holds l_ w30 (fun (v180 : Int) w31 => w31.cell? ⟨b_1, 0, none⟩ = some (Value.int .i64 v182) ∧ (((v180 != v182) = true → (F_towpathlaw14_LaneTrips_k7 R b_ l_ at_2 out k again_1 true w31)) ∧
  ((v180 != v182) = false → (C_lane_Lane_Sent l_ w31 (fun (v187 : Int) w32 => (F_towpathlaw14_LaneTrips_k7 R b_ l_ at_2 out k again_1 (v187 != 0) w32)))))))))))))))))))))))))))))))))))))))))))))))))

def F_towpathlaw14_LaneTrips_k12 (R : Bool → World → Prop) (out3 : Int) (again_4 : Int → World → Prop) (t250 : Bool) (w39 : World) : Prop :=
  (t250 = true → (R false w39)) ∧
  (t250 = false → (again_4 (IntKind.i64.wrap (out3 - 1)) w39))

def F_towpathlaw14_LaneTrips_k13 (R : Bool → World → Prop) (i : Int) (again_ : Int → Int → World → Prop) (at_2 : Int) (t279 : Bool) (w44 : World) : Prop :=
  (t279 = true → (R false w44)) ∧
  (t279 = false → (F_towpathlaw14_LaneTrips_k2 i again_ at_2 w44))

def F_towpathlaw14_LaneTrips_L11 (R : Bool → World → Prop) (l_ : Option Addr) (i : Int) (again_ : Int → Int → World → Prop) (b_1 : Nat) (at_2 : Int) (again_4 : Int → World → Prop) (out3 : Int) (w37 : World) : Prop :=
  ((decide (out3 > 0)) = true → (C_lane_Lane_Done l_ w37 (fun (v237 : Int) (g : Int) w38 => C_lane_Lane_Ready l_ w38 (fun (v241 : Bool) w40 => ((v241 || (g != 10)) = true → (F_towpathlaw14_LaneTrips_k12 R out3 again_4 true w40)) ∧
  ((v241 || (g != 10)) = false → (C_lane_Lane_Acked l_ w40 (fun (v248 : Int) w41 => F_towpathlaw14_LaneTrips_k12 R out3 again_4 (v248 != 0) w41))))))) ∧
  ((decide (out3 > 0)) = false → (C_lane_Lane_Ready l_ w37 (fun (v252 : Bool) w42 => C_lane_Lane_Done l_ w42 (fun (n_ : Int) (g1 : Int) w43 => ((!v252) = true → (F_towpathlaw14_LaneTrips_k13 R i again_ at_2 true w43)) ∧
  ((!v252) = false → (C_lane_Lane_Acked l_ w43 (fun (v262 : Int) w45 => (((v262 != 9) || (g1 != 0)) = true → (F_towpathlaw14_LaneTrips_k13 R i again_ at_2 true w45)) ∧
  (((v262 != 9) || (g1 != 0)) = false → (∃ (v272 : Int), w45.cell? ⟨b_1, 0, none⟩ = some (Value.int .i64 v272) ∧ (((n_ != v272) = true → (F_towpathlaw14_LaneTrips_k13 R i again_ at_2 true w45)) ∧
  ((n_ != v272) = false → (C_lane_Lane_Holds l_ w45 (fun (v277 : Int) w46 => F_towpathlaw14_LaneTrips_k13 R i again_ at_2 (v277 != 0) w46)))))))))))))

def F_towpathlaw14_LaneTrips_k10 (R : Bool → World → Prop) (l_ : Option Addr) (i : Int) (again_ : Int → Int → World → Prop) (b_1 : Nat) (at_2 : Int) (out : Int) (t230 : Bool) (w36 : World) : Prop :=
  (t230 = true → (R false w36)) ∧
  (t230 = false → (∃ (I : Int → World → Prop) (μ : Int → World → Nat), I out w36 ∧
  ∀ (out3 : Int) w, I out3 w → F_towpathlaw14_LaneTrips_L11 R l_ i again_ b_1 at_2 (fun (out3' : Int) w' => I out3' w' ∧ μ out3' w' < μ out3 w) out3 w))

def F_towpathlaw14_LaneTrips_L3 (R : Bool → World → Prop) (b_ : Nat) (l_ : Option Addr) (i : Int) (again_ : Int → Int → World → Prop) (b_1 : Nat) (again_1 : Int → Int → Int → World → Prop) (at_2 : Int) (out : Int) (k : Int) (w14 : World) : Prop :=
  ∃ (v84 : Slc), w14.cell? ⟨b_1, 1, none⟩ = some (Value.slice v84.ptr v84.len v84.cap) ∧ (((decide (k < ((v84.len : Nat) : Int))) = true → (∃ (I : Bool → Int → World → Prop) (μ : Bool → Int → World → Nat), I false (IntKind.i64.wrap (k + 1)) w14 ∧
  ∀ (later : Bool) (m_ : Int) w, I later m_ w → F_towpathlaw14_LaneTrips_L5 R b_ l_ b_1 at_2 out k again_1 (fun (later' : Bool) (m_' : Int) w' => I later' m_' w' ∧ μ later' m_' w' < μ later m_ w) later m_ w)) ∧
  ((decide (k < ((v84.len : Nat) : Int))) = false → (C_lane_Lane_Next l_ w14 (fun (v221 : Int) (v221_1 : T_api_Req) (more : Bool) w33 => ∀ b_3 w34, b_3 = w33.heap.size → w34 = w33.alloc (Obj.cells ([Value.int .u8 0, Value.int .i64 0, Value.int .i64 0, Value.string ByteArray.empty, Value.string ByteArray.empty, Value.bool false, Value.string ByteArray.empty, Value.string ByteArray.empty, Value.slice none 0 0]).toArray ty_api_Req (0, 0)) → (Writable w34 b_3 0 9 ∧ (∀ w35, w35 = World.puts b_3 0 [Value.int .u8 v221_1.Kind, Value.int .i64 v221_1.From, Value.int .i64 v221_1.Number, Value.string v221_1.Write.Key, Value.string v221_1.Write.Val, Value.bool v221_1.Write.Drop, Value.string v221_1.Key, Value.string v221_1.End, Value.slice v221_1.Beyond.ptr v221_1.Beyond.len v221_1.Beyond.cap] w34 → ((more = true → (F_towpathlaw14_LaneTrips_k10 R l_ i again_ b_1 at_2 out true w35)) ∧
  (more = false → (C_lane_Lane_Sent l_ w35 (fun (v228 : Int) w47 => F_towpathlaw14_LaneTrips_k10 R l_ i again_ b_1 at_2 out (v228 != 9) w47))))))))))

def F_towpathlaw14_LaneTrips_L1 (R : Bool → World → Prop) (b_ : Nat) (l_ : Option Addr) (again_ : Int → Int → World → Prop) (at_ : Int) (i : Int) (w5 : World) : Prop :=
  ∃ (v60 : Slc), w5.cell? ⟨b_, 4, none⟩ = some (Value.slice v60.ptr v60.len v60.cap) ∧ (((decide (i < ((v60.len : Nat) : Int))) = true → (∃ (v66 : Slc), w5.cell? ⟨b_, 4, none⟩ = some (Value.slice v66.ptr v66.len v66.cap) ∧ (IsAt v66.ptr ∧ (0 ≤ i ∧ i < ((v66.len : Nat) : Int) ∧ (∃ (v69 : T_api_Txn), CellsAt w5 (pblk v66.ptr) ((poff v66.ptr) + i.toNat * 2) [Value.int .i64 v69.Number, Value.slice v69.Writes.ptr v69.Writes.len v69.Writes.cap] ∧ (∀ b_1 w7, b_1 = w5.heap.size → w7 = w5.alloc (Obj.cells ([Value.int .i64 0, Value.slice none 0 0]).toArray ty_api_Txn (0, 0)) → (Writable w7 b_1 0 2 ∧ (∀ w8, w8 = World.puts b_1 0 [Value.int .i64 v69.Number, Value.slice v69.Writes.ptr v69.Writes.len v69.Writes.cap] w7 → (∀ w9, (∃ k, w9 = w8.drewN k) → (∃ (v71 : T_api_Txn), CellsAt w9 b_1 0 [Value.int .i64 v71.Number, Value.slice v71.Writes.ptr v71.Writes.len v71.Writes.cap] ∧ (∃ (v73 : T_api_Txn), CellsAt w9 b_1 0 [Value.int .i64 v73.Number, Value.slice v73.Writes.ptr v73.Writes.len v73.Writes.cap] ∧ (C_lane_Lane_Take l_ v71 w9 (fun (v72 : Int) w10 => CellsAt w10 b_1 0 [Value.int .i64 v73.Number, Value.slice v73.Writes.ptr v73.Writes.len v73.Writes.cap] ∧ (C_record_Check v73 w10 (fun (v74 : Int) w11 => (((v72 != v74) = true → (R false w11)) ∧
  ((v72 != v74) = false → (∃ (v76 : T_api_Txn), CellsAt w11 b_1 0 [Value.int .i64 v76.Number, Value.slice v76.Writes.ptr v76.Writes.len v76.Writes.cap] ∧ (C_record_Check v76 w11 (fun (v77 : Int) w12 => ((v77 != 0) = true → (C_lane_Lane_Holds l_ w12 (fun (v80 : Int) w13 => ((v80 != 0) = true → (R false w13)) ∧
  ((v80 != 0) = false → (F_towpathlaw14_LaneTrips_k2 i again_ at_ w13))))) ∧
  ((v77 != 0) = false → (∃ (I : Int → Int → Int → World → Prop) (μ : Int → Int → Int → World → Nat), I at_ 0 0 w12 ∧
  ∀ (at_2 : Int) (out : Int) (k : Int) w, I at_2 out k w → F_towpathlaw14_LaneTrips_L3 R b_ l_ i again_ b_1 (fun (at_2' : Int) (out' : Int) (k' : Int) w' => I at_2' out' k' w' ∧ μ at_2' out' k' w' < μ at_2 out k w) at_2 out k w)))))))))))))))))))))) ∧
  ((decide (i < ((v60.len : Nat) : Int))) = false → (R true w5)))

def F_towpathlaw14_LaneTrips_k0 (R : Bool → World → Prop) (b_ : Nat) (t45 : Bool) (w2 : World) : Prop :=
  (t45 = true → (C_towpathlaw14_alive w2 (fun (v46 : Bool) w3 => R v46 w3))) ∧
  (t45 = false → (∃ (v50 : Int), w2.cell? ⟨b_, 0, none⟩ = some (Value.int .i64 v50) ∧ (∃ (v52 : T_api_Config), CellsAt w2 b_ 0 [Value.int .i64 v52.Lanes, Value.int .i64 v52.Shards, Value.int .i64 v52.Window, Value.int .i64 v52.Queue] ∧ (C_lane_New v50 v52 w2 (fun (l_ : Option Addr) (e : Int) w4 => ((e != 0) = true → (R false w4)) ∧
  ((e != 0) = false → (∃ (I : Int → Int → World → Prop) (μ : Int → Int → World → Nat), I 0 0 w4 ∧
  ∀ (at_ : Int) (i : Int) w, I at_ i w → F_towpathlaw14_LaneTrips_L1 R b_ l_ (fun (at_' : Int) (i' : Int) w' => I at_' i' w' ∧ μ at_' i' w' < μ at_ i w) at_ i w)))))))

def F_towpathlaw14_LaneTrips (x : T_towpathlaw14_Trip) (R : Bool → World → Prop) (w : World) : Prop :=
  ∀ b_ w1, b_ = w.heap.size → w1 = w.alloc (Obj.cells ([Value.int .i64 x.Config.Lanes, Value.int .i64 x.Config.Shards, Value.int .i64 x.Config.Window, Value.int .i64 x.Config.Queue, Value.slice x.Txns.ptr x.Txns.len x.Txns.cap, Value.slice x.Acks.ptr x.Acks.len x.Acks.cap]).toArray ty_towpathlaw14_Trip (0, 0)) → (C_towpathlaw14_alive w1 (fun (v25 : Bool) w48 => ((!v25) = true → (F_towpathlaw14_LaneTrips_k0 R b_ true w48)) ∧
  ((!v25) = false → (∃ (v29 : T_api_Config), CellsAt w48 b_ 0 [Value.int .i64 v29.Lanes, Value.int .i64 v29.Shards, Value.int .i64 v29.Window, Value.int .i64 v29.Queue] ∧ (C_conf_Check v29 w48 (fun (v30 : Int) w49 => ((v30 != 0) = true → (F_towpathlaw14_LaneTrips_k0 R b_ true w49)) ∧
  ((v30 != 0) = false → (∃ (v35 : Slc), w49.cell? ⟨b_, 4, none⟩ = some (Value.slice v35.ptr v35.len v35.cap) ∧ (C_towpathlaw01_TxnsSize v35 w49 (fun (v36 : Int) w50 => ∀ b_4 w51, b_4 = w50.heap.size → w51 = w50.alloc (Obj.cells ([Value.int .i64 v36]).toArray ty_int (0, 0)) → (C_towpathlaw01_Beyond (Slc.mk (some ⟨b_4, 0, none⟩) 1 1) w51 (fun (v38 : Bool) w52 => (v38 = true → (F_towpathlaw14_LaneTrips_k0 R b_ true w52)) ∧
  (v38 = false → (∃ (v42 : Slc), w52.cell? ⟨b_, 4, none⟩ = some (Value.slice v42.ptr v42.len v42.cap) ∧ (F_towpathlaw14_LaneTrips_k0 R b_ (decide (((v42.len : Nat) : Int) > 100)) w52)))))))))))))))

def F_towpathlaw01_Beyond_L0 (l_ : Slc) (R : Bool → World → Prop) (again_ : Int → Int → World → Prop) (n_ : Int) (i : Int) (w1 : World) : Prop :=
  ((decide (i < ((l_.len : Nat) : Int))) = true → (IsAt l_.ptr ∧ (0 ≤ i ∧ i < ((l_.len : Nat) : Int) ∧ (∃ (v15 : Int), w1.cell? ⟨(pblk l_.ptr), (poff l_.ptr) + i.toNat, none⟩ = some (Value.int .i64 v15) ∧ (((decide ((IntKind.i64.wrap (n_ + v15)) > 1048576)) = true → (R true w1)) ∧
  ((decide ((IntKind.i64.wrap (n_ + v15)) > 1048576)) = false → (again_ (IntKind.i64.wrap (n_ + v15)) (IntKind.i64.wrap (i + 1)) w1))))))) ∧
  ((decide (i < ((l_.len : Nat) : Int))) = false → (R false w1))

def F_towpathlaw01_Beyond (l_ : Slc) (R : Bool → World → Prop) (w : World) : Prop :=
  ∃ (I : Int → Int → World → Prop) (μ : Int → Int → World → Nat), I 0 0 w ∧
  ∀ (n_ : Int) (i : Int) w, I n_ i w → F_towpathlaw01_Beyond_L0 l_ R (fun (n_' : Int) (i' : Int) w' => I n_' i' w' ∧ μ n_' i' w' < μ n_ i w) n_ i w

def F_lane_New_k0 (number : Int) (R : Option Addr → Int → World → Prop) (b_ : Nat) (t10 : Bool) (w3 : World) : Prop :=
  (t10 = true → (R none 1 w3)) ∧
  (t10 = false → (∃ (v20 : T_api_Config), CellsAt w3 b_ 0 [Value.int .i64 v20.Lanes, Value.int .i64 v20.Shards, Value.int .i64 v20.Window, Value.int .i64 v20.Queue] ∧ (∀ b_1 w4, b_1 = w3.heap.size → w4 = w3.alloc (Obj.cells ([Value.int .i64 number, Value.int .i64 v20.Lanes, Value.int .i64 v20.Shards, Value.int .i64 v20.Window, Value.int .i64 v20.Queue, Value.iface 96 (Value.agg #[])]).toArray ty_lane_Lane (0, 0)) → (R (some ⟨b_1, 0, none⟩) 0 w4))))

def F_lane_New (number : Int) (c : T_api_Config) (R : Option Addr → Int → World → Prop) (w : World) : Prop :=
  ∀ b_ w1, b_ = w.heap.size → w1 = w.alloc (Obj.cells ([Value.int .i64 c.Lanes, Value.int .i64 c.Shards, Value.int .i64 c.Window, Value.int .i64 c.Queue]).toArray ty_api_Config (0, 0)) → (∃ (v7 : T_api_Config), CellsAt w1 b_ 0 [Value.int .i64 v7.Lanes, Value.int .i64 v7.Shards, Value.int .i64 v7.Window, Value.int .i64 v7.Queue] ∧ (C_conf_Check v7 w1 (fun (v8 : Int) w2 => ((v8 != 0) = true → (R none 7 w2)) ∧
  ((v8 != 0) = false → (((decide (number < 1)) = true → (F_lane_New_k0 number R b_ true w2)) ∧
  ((decide (number < 1)) = false → (∃ (v16 : Int), w2.cell? ⟨b_, 0, none⟩ = some (Value.int .i64 v16) ∧ (F_lane_New_k0 number R b_ (decide (number > v16)) w2))))))))

def F_towpathlaw14_alive_k0 (R : Bool → World → Prop) (l_ : Option Addr) (t42 : Bool) (w5 : World) : Prop :=
  (t42 = true → (R false w5)) ∧
  (t42 = false → (C_lane_Lane_Next l_ w5 (fun (s : Int) (v45_1 : T_api_Req) (ok : Bool) w6 => ∀ b_1 w7, b_1 = w6.heap.size → w7 = w6.alloc (Obj.cells ([Value.int .u8 0, Value.int .i64 0, Value.int .i64 0, Value.string ByteArray.empty, Value.string ByteArray.empty, Value.bool false, Value.string ByteArray.empty, Value.string ByteArray.empty, Value.slice none 0 0]).toArray ty_api_Req (0, 0)) → (Writable w7 b_1 0 9 ∧ (∀ w8, w8 = World.puts b_1 0 [Value.int .u8 v45_1.Kind, Value.int .i64 v45_1.From, Value.int .i64 v45_1.Number, Value.string v45_1.Write.Key, Value.string v45_1.Write.Val, Value.bool v45_1.Write.Drop, Value.string v45_1.Key, Value.string v45_1.End, Value.slice v45_1.Beyond.ptr v45_1.Beyond.len v45_1.Beyond.cap] w7 → (C_lane_Lane_Done l_ w8 (fun (v51 : Int) (g : Int) w9 => ((ok && (s == 0)) = true → (∃ (v61 : T_api_Write), CellsAt w9 b_1 3 [Value.string v61.Key, Value.string v61.Val, Value.bool v61.Drop] ∧ (((((v61.Key == (ByteArray.mk #[98])) && (v61.Val == (ByteArray.mk #[50]))) && (v61.Drop == false)) = true → (∃ (v67 : Int), w9.cell? ⟨b_1, 1, none⟩ = some (Value.int .i64 v67) ∧ (((v67 == 1) = true → (∃ (v72 : Int), w9.cell? ⟨b_1, 2, none⟩ = some (Value.int .i64 v72) ∧ (((v72 == 4) = true → (C_lane_Lane_Holds l_ w9 (fun (v77 : Int) w10 => R ((v77 == 4) && (g == 10)) w10))) ∧
  ((v72 == 4) = false → (R false w9))))) ∧
  ((v67 == 1) = false → (R false w9))))) ∧
  ((((v61.Key == (ByteArray.mk #[98])) && (v61.Val == (ByteArray.mk #[50]))) && (v61.Drop == false)) = false → (R false w9))))) ∧
  ((ok && (s == 0)) = false → (R false w9)))))))))

def F_towpathlaw14_alive (R : Bool → World → Prop) (w : World) : Prop :=
  ∀ b_ w1, b_ = w.heap.size → w1 = w.alloc (Obj.cells ([Value.int .i64 0, Value.int .i64 0, Value.int .i64 0, Value.int .i64 0]).toArray ty_api_Config (0, 0)) → (Writable w1 b_ 0 4 ∧ (∀ w2, w2 = World.puts b_ 0 [Value.int .i64 1, Value.int .i64 1, Value.int .i64 1, Value.int .i64 1] w1 → (∃ (v13 : T_api_Config), CellsAt w2 b_ 0 [Value.int .i64 v13.Lanes, Value.int .i64 v13.Shards, Value.int .i64 v13.Window, Value.int .i64 v13.Queue] ∧ (C_lane_New 1 v13 w2 (fun (l_ : Option Addr) (e : Int) w3 => ∃ (v18 : T_api_Config), CellsAt w3 b_ 0 [Value.int .i64 v18.Lanes, Value.int .i64 v18.Shards, Value.int .i64 v18.Window, Value.int .i64 v18.Queue] ∧ (C_lane_New 2 v18 w3 (fun (v19 : Option Addr) (f : Int) w4 => (((e != 0) || (f != 1)) = true → (F_towpathlaw14_alive_k0 R l_ true w4)) ∧
  (((e != 0) || (f != 1)) = false → (C_lane_Lane_Sent l_ w4 (fun (v30 : Int) w11 => ((v30 != 9) = true → (F_towpathlaw14_alive_k0 R l_ true w11)) ∧
  ((v30 != 9) = false → (∀ b_2 w12, b_2 = w11.heap.size → w12 = w11.alloc (Obj.cells ([Value.string (ByteArray.mk #[97]), Value.string (ByteArray.mk #[49]), Value.bool false, Value.string (ByteArray.mk #[98]), Value.string (ByteArray.mk #[50]), Value.bool false, Value.string (ByteArray.mk #[97]), Value.string ByteArray.empty, Value.bool true]).toArray ty_api_Write (0, 0)) → (C_lane_Lane_Take l_ (T_api_Txn.mk 4 (Slc.mk (some ⟨b_2, 0, none⟩) 3 3)) w12 (fun (v40 : Int) w13 => F_towpathlaw14_alive_k0 R l_ (v40 != 0) w13))))))))))))))

def F_conf_Check_k1 (R : Int → World → Prop) (t19 : Int) (again_ : Int → World → Prop) (t32 : Bool) (w6 : World) : Prop :=
  (t32 = true → (R 7 w6)) ∧
  (t32 = false → (again_ (IntKind.i64.wrap (t19 + 1)) w6))

def F_conf_Check_L0 (R : Int → World → Prop) (b_1 : Nat) (again_ : Int → World → Prop) (t19 : Int) (w3 : World) : Prop :=
  ((decide (t19 < ((4 : Nat) : Int))) = true → (0 ≤ t19 ∧ t19 < (4 : Int) ∧ (∃ (v22 : Arr2_Int), CellsAt w3 b_1 (0 + t19.toNat * 2) [Value.int .i64 v22.e0, Value.int .i64 v22.e1] ∧ (∀ b_2 w4, b_2 = w3.heap.size → w4 = w3.alloc (Obj.cells ([Value.int .i64 0, Value.int .i64 0]).toArray ty_2_int (0, 0)) → (Writable w4 b_2 0 2 ∧ (∀ w5, w5 = World.puts b_2 0 [Value.int .i64 v22.e0, Value.int .i64 v22.e1] w4 → (0 ≤ (0 : Int) ∧ (0 : Int) < (2 : Int) ∧ (∃ (v24 : Int), w5.cell? ⟨b_2, 0, none⟩ = some (Value.int .i64 v24) ∧ (((decide (v24 < 1)) = true → (F_conf_Check_k1 R t19 again_ true w5)) ∧
  ((decide (v24 < 1)) = false → (0 ≤ (0 : Int) ∧ (0 : Int) < (2 : Int) ∧ (∃ (v28 : Int), w5.cell? ⟨b_2, 0, none⟩ = some (Value.int .i64 v28) ∧ (0 ≤ (1 : Int) ∧ (1 : Int) < (2 : Int) ∧ (∃ (v30 : Int), w5.cell? ⟨b_2, 1, none⟩ = some (Value.int .i64 v30) ∧ (F_conf_Check_k1 R t19 again_ (decide (v28 > v30)) w5))))))))))))))) ∧
  ((decide (t19 < ((4 : Nat) : Int))) = false → (R 0 w3))

def F_conf_Check (c : T_api_Config) (R : Int → World → Prop) (w : World) : Prop :=
  ∀ b_ w1, b_ = w.heap.size → w1 = w.alloc (Obj.cells ([Value.int .i64 c.Lanes, Value.int .i64 c.Shards, Value.int .i64 c.Window, Value.int .i64 c.Queue]).toArray ty_api_Config (0, 0)) → (∃ (v6 : Int), w1.cell? ⟨b_, 0, none⟩ = some (Value.int .i64 v6) ∧ (∃ (v9 : Int), w1.cell? ⟨b_, 1, none⟩ = some (Value.int .i64 v9) ∧ (∃ (v12 : Int), w1.cell? ⟨b_, 2, none⟩ = some (Value.int .i64 v12) ∧ (∃ (v15 : Int), w1.cell? ⟨b_, 3, none⟩ = some (Value.int .i64 v15) ∧ (∀ b_1 w2, b_1 = w1.heap.size → w2 = w1.alloc (Obj.cells ([Value.int .i64 v6, Value.int .i64 16, Value.int .i64 v9, Value.int .i64 16, Value.int .i64 v12, Value.int .i64 64, Value.int .i64 v15, Value.int .i64 16]).toArray ty_2_int (0, 0)) → (∃ (I : Int → World → Prop) (μ : Int → World → Nat), I 0 w2 ∧
  ∀ (t19 : Int) w, I t19 w → F_conf_Check_L0 R b_1 (fun (t19' : Int) w' => I t19' w' ∧ μ t19' w' < μ t19 w) t19 w))))))

def F_towpathlaw01_TxnsSize_L0 (l_ : Slc) (R : Int → World → Prop) (again_ : Int → Int → World → Prop) (n_ : Int) (i : Int) (w1 : World) : Prop :=
  (((decide (i < ((l_.len : Nat) : Int))) && (decide (n_ ≤ 1048576))) = true → (IsAt l_.ptr ∧ (0 ≤ i ∧ i < ((l_.len : Nat) : Int) ∧ (∃ (v21 : T_api_Txn), CellsAt w1 (pblk l_.ptr) ((poff l_.ptr) + i.toNat * 2) [Value.int .i64 v21.Number, Value.slice v21.Writes.ptr v21.Writes.len v21.Writes.cap] ∧ (C_towpathlaw01_TxnSize v21 w1 (fun (v22 : Int) w2 => again_ (IntKind.i64.wrap (n_ + v22)) (IntKind.i64.wrap (i + 1)) w2)))))) ∧
  (((decide (i < ((l_.len : Nat) : Int))) && (decide (n_ ≤ 1048576))) = false → (R n_ w1))

def F_towpathlaw01_TxnsSize (l_ : Slc) (R : Int → World → Prop) (w : World) : Prop :=
  ∃ (I : Int → Int → World → Prop) (μ : Int → Int → World → Nat), I ((l_.len : Nat) : Int) 0 w ∧
  ∀ (n_ : Int) (i : Int) w, I n_ i w → F_towpathlaw01_TxnsSize_L0 l_ R (fun (n_' : Int) (i' : Int) w' => I n_' i' w' ∧ μ n_' i' w' < μ n_ i w) n_ i w

def F_lane_Lane_Take (l_ : Option Addr) (t_ : T_api_Txn) (R : Int → World → Prop) (w : World) : Prop :=
  ∀ b_ w1, b_ = w.heap.size → w1 = w.alloc (Obj.cells ([Value.int .i64 t_.Number, Value.slice t_.Writes.ptr t_.Writes.len t_.Writes.cap]).toArray ty_api_Txn (0, 0)) → (C_lane_Lane_gone l_ w1 (fun (v9 : Bool) w2 => (v9 = true → (R 2 w2)) ∧
  (v9 = false → (C_lane_Lane_busy l_ w2 (fun (v12 : Option Addr) (ok : Bool) w3 => (ok = true → (R 10 w3)) ∧
  (ok = false → (∃ (v16 : T_api_Txn), CellsAt w3 b_ 0 [Value.int .i64 v16.Number, Value.slice v16.Writes.ptr v16.Writes.len v16.Writes.cap] ∧ (C_record_Check v16 w3 (fun (v17 : Int) w4 => ((v17 != 0) = true → (R v17 w4)) ∧
  ((v17 != 0) = false → (∀ w5, (∃ k, w5 = w4.drewN k) → (∃ (v23 : Int), w5.cell? ⟨b_, 0, none⟩ = some (Value.int .i64 v23) ∧ (∃ (v24 : T_api_Txn), CellsAt w5 b_ 0 [Value.int .i64 v24.Number, Value.slice v24.Writes.ptr v24.Writes.len v24.Writes.cap] ∧ (C_lane_counting v24 w5 (fun (v25 : Slc) w6 => w6.cell? ⟨b_, 0, none⟩ = some (Value.int .i64 v23) ∧ (∀ b_1 w7, b_1 = w6.heap.size → w7 = w6.alloc (Obj.cells ([Value.int .i64 v23, Value.slice v25.ptr v25.len v25.cap, Value.int .i64 0]).toArray ty_lane_busy (0, 0)) → ((IsAt l_ ∧ (Writable w7 (pblk l_) ((poff l_) + 5) 1 ∧ (∀ w8, w8 = World.puts (pblk l_) ((poff l_) + 5) [Value.iface 102 (Value.pointer (some ⟨b_1, 0, none⟩))] w7 → ((R 0 w8))))))))))))))))))))))

def F_record_Check_k0 (R : Int → World → Prop) (t23 : Bool) (w2 : World) : Prop :=
  (t23 = true → (R 1 w2)) ∧
  (t23 = false → (R 0 w2))

def F_record_Check (t_ : T_api_Txn) (R : Int → World → Prop) (w : World) : Prop :=
  ∀ b_ w1, b_ = w.heap.size → w1 = w.alloc (Obj.cells ([Value.int .i64 t_.Number, Value.slice t_.Writes.ptr t_.Writes.len t_.Writes.cap]).toArray ty_api_Txn (0, 0)) → (∃ (v5 : Int), w1.cell? ⟨b_, 0, none⟩ = some (Value.int .i64 v5) ∧ (((decide (v5 < 1)) = true → (F_record_Check_k0 R true w1)) ∧
  ((decide (v5 < 1)) = false → (∃ (v9 : Int), w1.cell? ⟨b_, 0, none⟩ = some (Value.int .i64 v9) ∧ (((decide (v9 > 65536)) = true → (F_record_Check_k0 R true w1)) ∧
  ((decide (v9 > 65536)) = false → (∃ (v14 : Slc), w1.cell? ⟨b_, 1, none⟩ = some (Value.slice v14.ptr v14.len v14.cap) ∧ (((decide (((v14.len : Nat) : Int) > 32)) = true → (F_record_Check_k0 R true w1)) ∧
  ((decide (((v14.len : Nat) : Int) > 32)) = false → (∃ (v20 : Slc), w1.cell? ⟨b_, 1, none⟩ = some (Value.slice v20.ptr v20.len v20.cap) ∧ (C_slices_ContainsFunc_api_Write_api_Write v20 (Value.func (.func 62) #[] #[]) w1 (fun (v22 : Bool) w3 => F_record_Check_k0 R v22 w3))))))))))))

def F_lane_Lane_Holds (l_ : Option Addr) (R : Int → World → Prop) (w : World) : Prop :=
  C_lane_Lane_busy l_ w (fun (b_ : Option Addr) (ok : Bool) w1 => (ok = true → (IsAt b_ ∧ (∃ (v14 : Int), w1.cell? ⟨(pblk b_), (poff b_), none⟩ = some (Value.int .i64 v14) ∧ (R v14 w1)))) ∧
  (ok = false → (R 0 w1)))

def F_lane_Lane_Next_k0 (l_ : Option Addr) (R : Int → T_api_Req → Bool → World → Prop) (b_ : Nat) (w_ : Option Addr) (ok : Bool) (w4 : World) : Prop :=
  ((!ok) = true → (Writable w4 b_ 0 9 ∧ (∀ w5, w5 = World.puts b_ 0 [Value.int .u8 0, Value.int .i64 0, Value.int .i64 0, Value.string ByteArray.empty, Value.string ByteArray.empty, Value.bool false, Value.string ByteArray.empty, Value.string ByteArray.empty, Value.slice none 0 0] w4 → (∃ (res1 : T_api_Req), CellsAt w5 b_ 0 [Value.int .u8 res1.Kind, Value.int .i64 res1.From, Value.int .i64 res1.Number, Value.string res1.Write.Key, Value.string res1.Write.Val, Value.bool res1.Write.Drop, Value.string res1.Key, Value.string res1.End, Value.slice res1.Beyond.ptr res1.Beyond.len res1.Beyond.cap] ∧ (R 0 res1 false w5))))) ∧
  ((!ok) = false → (∀ w6, (∃ k, w6 = w4.drewN k) → (IsAt l_ ∧ (∃ (v27 : T_api_Config), CellsAt w6 (pblk l_) ((poff l_) + 1) [Value.int .i64 v27.Lanes, Value.int .i64 v27.Shards, Value.int .i64 v27.Window, Value.int .i64 v27.Queue] ∧ (IsAt w_ ∧ (∃ (v29 : ByteArray), w6.cell? ⟨(pblk w_), (poff w_), none⟩ = some (Value.string v29) ∧ (C_conf_Shard v27 v29 w6 (fun (s : Int) (v30_1 : Int) w7 => (∀ w8, (∃ k, w8 = w7.drewN k) → (IsAt l_ ∧ (∃ (v37 : Int), w8.cell? ⟨(pblk l_), (poff l_), none⟩ = some (Value.int .i64 v37) ∧ (IsAt w_ ∧ (∃ (v40 : T_api_Write), CellsAt w8 (pblk w_) (poff w_) [Value.string v40.Key, Value.string v40.Val, Value.bool v40.Drop] ∧ (C_lane_Lane_Holds l_ w8 (fun (v39 : Int) w9 => CellsAt w9 (pblk w_) (poff w_) [Value.string v40.Key, Value.string v40.Val, Value.bool v40.Drop] ∧ w9.cell? ⟨(pblk l_), (poff l_), none⟩ = some (Value.int .i64 v37) ∧ (Writable w9 b_ 0 9 ∧ (∀ w10, w10 = World.puts b_ 0 [Value.int .u8 1, Value.int .i64 v37, Value.int .i64 v39, Value.string v40.Key, Value.string v40.Val, Value.bool v40.Drop, Value.string ByteArray.empty, Value.string ByteArray.empty, Value.slice none 0 0] w9 → ((∃ (res2 : T_api_Req), CellsAt w10 b_ 0 [Value.int .u8 res2.Kind, Value.int .i64 res2.From, Value.int .i64 res2.Number, Value.string res2.Write.Key, Value.string res2.Write.Val, Value.bool res2.Write.Drop, Value.string res2.Key, Value.string res2.End, Value.slice res2.Beyond.ptr res2.Beyond.len res2.Beyond.cap] ∧ (R s res2 true w10))))))))))))))))))))

def F_lane_Lane_Next (l_ : Option Addr) (R : Int → T_api_Req → Bool → World → Prop) (w : World) : Prop :=
  ∀ b_ w1, b_ = w.heap.size → w1 = w.alloc (Obj.cells ([Value.int .u8 0, Value.int .i64 0, Value.int .i64 0, Value.string ByteArray.empty, Value.string ByteArray.empty, Value.bool false, Value.string ByteArray.empty, Value.string ByteArray.empty, Value.slice none 0 0]).toArray ty_api_Req (0, 0)) → (C_lane_Lane_gone l_ w1 (fun (v10 : Bool) w2 => (v10 = true → (Writable w2 b_ 0 9 ∧ (∀ w3, w3 = World.puts b_ 0 [Value.int .u8 0, Value.int .i64 0, Value.int .i64 0, Value.string ByteArray.empty, Value.string ByteArray.empty, Value.bool false, Value.string ByteArray.empty, Value.string ByteArray.empty, Value.slice none 0 0] w2 → (∃ (res : T_api_Req), CellsAt w3 b_ 0 [Value.int .u8 res.Kind, Value.int .i64 res.From, Value.int .i64 res.Number, Value.string res.Write.Key, Value.string res.Write.Val, Value.bool res.Write.Drop, Value.string res.Key, Value.string res.End, Value.slice res.Beyond.ptr res.Beyond.len res.Beyond.cap] ∧ (R 0 res false w3))))) ∧
  (v10 = false → (IsAt l_ ∧ (∃ (v16 : Value), w2.cell? ⟨(pblk l_), (poff l_) + 5, none⟩ = some (v16) ∧ ((∃ (r : T_lane_none), v16 = Value.iface 96 (Value.agg #[]) ∧ (C_lane_none_next (T_lane_none.mk ) w2 (fun (v17 : T_api_Write) (ok1 : Bool) w11 => ∀ b_1 w12, b_1 = w11.heap.size → w12 = w11.alloc (Obj.cells ([Value.string ByteArray.empty, Value.string ByteArray.empty, Value.bool false]).toArray ty_api_Write (0, 0)) → (Writable w12 b_1 0 3 ∧ (∀ w13, w13 = World.puts b_1 0 [Value.string v17.Key, Value.string v17.Val, Value.bool v17.Drop] w12 → (F_lane_Lane_Next_k0 l_ R b_ (some ⟨b_1, 0, none⟩) ok1 w13)))))) ∨
  (∃ (r1 : Option Addr), v16 = Value.iface 102 (Value.pointer r1) ∧ (C_lane_busy_next r1 w2 (fun (v171 : T_api_Write) (ok2 : Bool) w14 => ∀ b_2 w15, b_2 = w14.heap.size → w15 = w14.alloc (Obj.cells ([Value.string ByteArray.empty, Value.string ByteArray.empty, Value.bool false]).toArray ty_api_Write (0, 0)) → (Writable w15 b_2 0 3 ∧ (∀ w16, w16 = World.puts b_2 0 [Value.string v171.Key, Value.string v171.Val, Value.bool v171.Drop] w15 → (F_lane_Lane_Next_k0 l_ R b_ (some ⟨b_2, 0, none⟩) ok2 w16))))))))))))

def F_conf_Shard (c : T_api_Config) (key : ByteArray) (R : Int → Int → World → Prop) (w : World) : Prop :=
  ∀ b_ w1, b_ = w.heap.size → w1 = w.alloc (Obj.cells ([Value.int .i64 c.Lanes, Value.int .i64 c.Shards, Value.int .i64 c.Window, Value.int .i64 c.Queue]).toArray ty_api_Config (0, 0)) → (∃ (v7 : T_api_Config), CellsAt w1 b_ 0 [Value.int .i64 v7.Lanes, Value.int .i64 v7.Shards, Value.int .i64 v7.Window, Value.int .i64 v7.Queue] ∧ (C_conf_Check v7 w1 (fun (v8 : Int) w2 => ((v8 != 0) = true → (R 0 v8 w2)) ∧
  ((v8 != 0) = false → ((((key.toList == ByteArray.empty.toList) || (decide (((key.size : Nat) : Int) > 64))) = true → (R 0 1 w2)) ∧
  (((key.toList == ByteArray.empty.toList) || (decide (((key.size : Nat) : Int) > 64))) = false → (∃ (v20 : Int), (∀ w', Ext w2 w' → C_sum_Hash key w' (fun (v20' : Int) w'' => v20' = v20 ∧ Ext w' w'')) ∧ (∃ (v22 : Int), w2.cell? ⟨b_, 1, none⟩ = some (Value.int .i64 v22) ∧ ((IntKind.u32.wrap v22) ≠ 0 ∧ (∀ w4, Ext w2 w4 → (R (IntKind.i64.wrap (Int.tmod v20 (IntKind.u32.wrap v22))) 0 w4)))))))))))

def F_lane_Lane_Ready (l_ : Option Addr) (R : Bool → World → Prop) (w : World) : Prop :=
  C_lane_Lane_busy l_ w (fun (b_ : Option Addr) (ok : Bool) w1 => (ok = true → (IsAt b_ ∧ (∃ (v15 : Slc), w1.cell? ⟨(pblk b_), (poff b_) + 1, none⟩ = some (Value.slice v15.ptr v15.len v15.cap) ∧ (((((v15.len : Nat) : Int) == 0) = true → (IsAt b_ ∧ (∃ (v23 : Int), w1.cell? ⟨(pblk b_), (poff b_) + 2, none⟩ = some (Value.int .i64 v23) ∧ (R (v23 == 0) w1)))) ∧
  ((((v15.len : Nat) : Int) == 0) = false → (R false w1)))))) ∧
  (ok = false → (R false w1)))

def F_lane_Lane_Sent_k0 (R : Int → World → Prop) (b_ : Option Addr) (t21 : Bool) (w3 : World) : Prop :=
  (t21 = true → (R 9 w3)) ∧
  (t21 = false → (IsAt b_ ∧ (∃ (v26 : Slc), w3.cell? ⟨(pblk b_), (poff b_) + 1, none⟩ = some (Value.slice v26.ptr v26.len v26.cap) ∧ ((0 ≤ (1 : Int) ∧ (1 : Int) ≤ ((v26.len : Nat) : Int) ∧ ((v26.len : Nat) : Int) ≤ ((v26.cap : Nat) : Int) ∧ ((v26.cap : Nat) : Int) ≤ ((v26.cap : Nat) : Int)) ∧ (∀ s, s = Slc.cut 3 v26 1 ((v26.len : Nat) : Int) ((v26.cap : Nat) : Int) → (IsAt b_ ∧ (Writable w3 (pblk b_) ((poff b_) + 1) 1 ∧ (∀ w4, w4 = World.puts (pblk b_) ((poff b_) + 1) [Value.slice s.ptr s.len s.cap] w3 → (IsAt b_ ∧ (∃ (v33 : Int), w4.cell? ⟨(pblk b_), (poff b_) + 2, none⟩ = some (Value.int .i64 v33) ∧ (Writable w4 (pblk b_) ((poff b_) + 2) 1 ∧ (∀ w5, w5 = World.puts (pblk b_) ((poff b_) + 2) [Value.int .i64 (IntKind.i64.wrap (v33 + 1))] w4 → (R 0 w5)))))))))))))

def F_lane_Lane_Sent (l_ : Option Addr) (R : Int → World → Prop) (w : World) : Prop :=
  C_lane_Lane_gone l_ w (fun (v6 : Bool) w1 => (v6 = true → (R 2 w1)) ∧
  (v6 = false → (C_lane_Lane_busy l_ w1 (fun (b_ : Option Addr) (ok : Bool) w2 => ((!ok) = true → (F_lane_Lane_Sent_k0 R b_ true w2)) ∧
  ((!ok) = false → (IsAt b_ ∧ (∃ (v18 : Slc), w2.cell? ⟨(pblk b_), (poff b_) + 1, none⟩ = some (Value.slice v18.ptr v18.len v18.cap) ∧ (F_lane_Lane_Sent_k0 R b_ (((v18.len : Nat) : Int) == 0) w2))))))))

def F_lane_Lane_Acked_k0 (R : Int → World → Prop) (b_ : Option Addr) (t20 : Bool) (w3 : World) : Prop :=
  (t20 = true → (R 9 w3)) ∧
  (t20 = false → (IsAt b_ ∧ (∃ (v24 : Int), w3.cell? ⟨(pblk b_), (poff b_) + 2, none⟩ = some (Value.int .i64 v24) ∧ (Writable w3 (pblk b_) ((poff b_) + 2) 1 ∧ (∀ w4, w4 = World.puts (pblk b_) ((poff b_) + 2) [Value.int .i64 (IntKind.i64.wrap (v24 - 1))] w3 → (R 0 w4))))))

def F_lane_Lane_Acked (l_ : Option Addr) (R : Int → World → Prop) (w : World) : Prop :=
  C_lane_Lane_gone l_ w (fun (v6 : Bool) w1 => (v6 = true → (R 2 w1)) ∧
  (v6 = false → (C_lane_Lane_busy l_ w1 (fun (b_ : Option Addr) (ok : Bool) w2 => ((!ok) = true → (F_lane_Lane_Acked_k0 R b_ true w2)) ∧
  ((!ok) = false → (IsAt b_ ∧ (∃ (v18 : Int), w2.cell? ⟨(pblk b_), (poff b_) + 2, none⟩ = some (Value.int .i64 v18) ∧ (F_lane_Lane_Acked_k0 R b_ (v18 == 0) w2))))))))

def F_lane_Lane_Done (l_ : Option Addr) (R : Int → Int → World → Prop) (w : World) : Prop :=
  C_lane_Lane_gone l_ w (fun (v7 : Bool) w1 => (v7 = true → (R 0 2 w1)) ∧
  (v7 = false → (C_lane_Lane_busy l_ w1 (fun (b_ : Option Addr) (ok : Bool) w2 => ((!ok) = true → (R 0 9 w2)) ∧
  ((!ok) = false → (C_lane_Lane_Ready l_ w2 (fun (v18 : Bool) w3 => ((!v18) = true → (R 0 10 w3)) ∧
  ((!v18) = false → (IsAt l_ ∧ (Writable w3 (pblk l_) ((poff l_) + 5) 1 ∧ (∀ w4, w4 = World.puts (pblk l_) ((poff l_) + 5) [Value.iface 96 (Value.agg #[])] w3 → (IsAt b_ ∧ (∃ (v28 : Int), w4.cell? ⟨(pblk b_), (poff b_), none⟩ = some (Value.int .i64 v28) ∧ (R v28 0 w4))))))))))))))

def F_towpathlaw01_TxnSize (t_ : T_api_Txn) (R : Int → World → Prop) (w : World) : Prop :=
  ∀ b_ w1, b_ = w.heap.size → w1 = w.alloc (Obj.cells ([Value.int .i64 t_.Number, Value.slice t_.Writes.ptr t_.Writes.len t_.Writes.cap]).toArray ty_api_Txn (0, 0)) → (∃ (v4 : Slc), w1.cell? ⟨b_, 1, none⟩ = some (Value.slice v4.ptr v4.len v4.cap) ∧ (C_towpathlaw01_WritesSize v4 w1 (fun (v5 : Int) w2 => R (IntKind.i64.wrap (1 + v5)) w2)))

def F_lane_Lane_gone (l_ : Option Addr) (R : Bool → World → Prop) (w : World) : Prop :=
  (l_.isNone = true → (R true w)) ∧
  (l_.isNone = false → (IsAt l_ ∧ (∃ (v9 : Value), w.cell? ⟨(pblk l_), (poff l_) + 5, none⟩ = some (v9) ∧ (IfV v9 ∧ (R (isNilIf v9) w)))))

def F_lane_Lane_busy_k0 (R : Option Addr → Bool → World → Prop) (b_ : Option Addr) (ok : Bool) (w2 : World) : Prop :=
  R b_ ok w2

def F_lane_Lane_busy (l_ : Option Addr) (R : Option Addr → Bool → World → Prop) (w : World) : Prop :=
  C_lane_Lane_gone l_ w (fun (v7 : Bool) w1 => (v7 = true → (R none false w1)) ∧
  (v7 = false → (IsAt l_ ∧ (∃ (v12 : Value), w1.cell? ⟨(pblk l_), (poff l_) + 5, none⟩ = some (v12) ∧ ((∃ (b_1 : Option Addr), v12 = Value.iface 102 (Value.pointer b_1) ∧ (F_lane_Lane_busy_k0 R b_1 true w1)) ∨
  (NotIf 102 v12 ∧ (F_lane_Lane_busy_k0 R none false w1)))))))

def F_lane_counting_k1 (t9 : Int) (again_ : Slc → Int → World → Prop) (out1 : Slc) (w3 : World) : Prop :=
  again_ out1 (IntKind.i64.wrap (t9 + 1)) w3

def F_lane_counting_L0 (R : Slc → World → Prop) (b_ : Nat) (v7 : Slc) (again_ : Slc → Int → World → Prop) (out : Slc) (t9 : Int) (w2 : World) : Prop :=
  ((decide (t9 < ((v7.len : Nat) : Int))) = true → (IsAt v7.ptr ∧ (0 ≤ t9 ∧ t9 < ((v7.len : Nat) : Int) ∧ (∃ (v13 : T_api_Write), CellsAt w2 (pblk v7.ptr) ((poff v7.ptr) + t9.toNat * 3) [Value.string v13.Key, Value.string v13.Val, Value.bool v13.Drop] ∧ (∀ b_1 w4, b_1 = w2.heap.size → w4 = w2.alloc (Obj.cells ([Value.string ByteArray.empty, Value.string ByteArray.empty, Value.bool false]).toArray ty_api_Write (0, 0)) → (Writable w4 b_1 0 3 ∧ (∀ w5, w5 = World.puts b_1 0 [Value.string v13.Key, Value.string v13.Val, Value.bool v13.Drop] w4 → (∃ (v15 : Slc), w5.cell? ⟨b_, 1, none⟩ = some (Value.slice v15.ptr v15.len v15.cap) ∧ ((0 ≤ IntKind.i64.wrap (t9 + 1) ∧ IntKind.i64.wrap (t9 + 1) ≤ ((v15.len : Nat) : Int) ∧ ((v15.len : Nat) : Int) ≤ ((v15.cap : Nat) : Int) ∧ ((v15.cap : Nat) : Int) ≤ ((v15.cap : Nat) : Int)) ∧ (∀ s, s = Slc.cut 3 v15 (IntKind.i64.wrap (t9 + 1)) ((v15.len : Nat) : Int) ((v15.cap : Nat) : Int) → (C_slices_ContainsFunc_api_Write_api_Write s (Value.func (.func 88) #[] #[Value.pointer (some ⟨b_1, 0, none⟩)]) w5 (fun (v20 : Bool) w6 => ((!v20) = true → (∃ (v23 : T_api_Write), CellsAt w6 b_1 0 [Value.string v23.Key, Value.string v23.Val, Value.bool v23.Drop] ∧ (∀ b_2 w7, b_2 = w6.heap.size → w7 = w6.alloc (Obj.cells ([Value.string v23.Key, Value.string v23.Val, Value.bool v23.Drop]).toArray ty_api_Write (0, 0)) → (∃ src, SrcAt w7 (Slc.mk (some ⟨b_2, 0, none⟩) 1 1) 3 src ∧ AppendW 3 40 ty_api_Write [Value.string ByteArray.empty, Value.string ByteArray.empty, Value.bool false] out src 1 w7 (fun out2 w8 => F_lane_counting_k1 t9 again_ out2 w8))))) ∧
  ((!v20) = false → (F_lane_counting_k1 t9 again_ out w6)))))))))))))) ∧
  ((decide (t9 < ((v7.len : Nat) : Int))) = false → (R out w2))

def F_lane_counting (t_ : T_api_Txn) (R : Slc → World → Prop) (w : World) : Prop :=
  ∀ b_ w1, b_ = w.heap.size → w1 = w.alloc (Obj.cells ([Value.int .i64 t_.Number, Value.slice t_.Writes.ptr t_.Writes.len t_.Writes.cap]).toArray ty_api_Txn (0, 0)) → (∃ (v7 : Slc), w1.cell? ⟨b_, 1, none⟩ = some (Value.slice v7.ptr v7.len v7.cap) ∧ (∃ (I : Slc → Int → World → Prop) (μ : Slc → Int → World → Nat), I (Slc.mk none 0 0) 0 w1 ∧
  ∀ (out : Slc) (t9 : Int) w, I out t9 w → F_lane_counting_L0 R b_ v7 (fun (out' : Slc) (t9' : Int) w' => I out' t9' w' ∧ μ out' t9' w' < μ out t9 w) out t9 w))

def F_record_Check_1 (w_ : T_api_Write) (R : Bool → World → Prop) (w : World) : Prop :=
  ∀ b_ w1, b_ = w.heap.size → w1 = w.alloc (Obj.cells ([Value.string w_.Key, Value.string w_.Val, Value.bool w_.Drop]).toArray ty_api_Write (0, 0)) → (∃ (v4 : ByteArray), w1.cell? ⟨b_, 0, none⟩ = some (Value.string v4) ∧ (((v4.toList == ByteArray.empty.toList) = true → (R true w1)) ∧
  ((v4.toList == ByteArray.empty.toList) = false → (∃ (v8 : ByteArray), w1.cell? ⟨b_, 0, none⟩ = some (Value.string v8) ∧ (((decide (((v8.size : Nat) : Int) > 64)) = true → (R true w1)) ∧
  ((decide (((v8.size : Nat) : Int) > 64)) = false → (∃ (v14 : ByteArray), w1.cell? ⟨b_, 1, none⟩ = some (Value.string v14) ∧ (((decide (((v14.size : Nat) : Int) > 1024)) = true → (R true w1)) ∧
  ((decide (((v14.size : Nat) : Int) > 1024)) = false → (∃ (v20 : Bool), w1.cell? ⟨b_, 2, none⟩ = some (Value.bool v20) ∧ ((v20 = true → (∃ (v23 : ByteArray), w1.cell? ⟨b_, 1, none⟩ = some (Value.string v23) ∧ (R (!(v23.toList == ByteArray.empty.toList)) w1))) ∧
  (v20 = false → (R false w1)))))))))))))

def F_slices_ContainsFunc_api_Write_api_Write (s : Slc) (f : Value) (R : Bool → World → Prop) (w : World) : Prop :=
  C_slices_IndexFunc_api_Write_api_Write s f w (fun (v7 : Int) w1 => R (decide (v7 ≥ 0)) w1)

def F_sum_Hash_L0 (key : ByteArray) (R : Int → World → Prop) (again_ : Int → Int → World → Prop) (h_ : Int) (t7 : Int) (w1 : World) : Prop :=
  ((decide (t7 < ((key.size : Nat) : Int))) = true → (0 ≤ t7 ∧ t7 < ((key.size : Nat) : Int) ∧ (again_ (IntKind.u32.wrap ((bxor .u32 h_ (IntKind.u32.wrap (byteAt key t7))) * 16777619)) (IntKind.i64.wrap (t7 + 1)) w1))) ∧
  ((decide (t7 < ((key.size : Nat) : Int))) = false → (R h_ w1))

def F_sum_Hash (key : ByteArray) (R : Int → World → Prop) (w : World) : Prop :=
  ∃ (I : Int → Int → World → Prop) (μ : Int → Int → World → Nat), I 2166136261 0 w ∧
  ∀ (h_ : Int) (t7 : Int) w, I h_ t7 w → F_sum_Hash_L0 key R (fun (h_' : Int) (t7' : Int) w' => I h_' t7' w' ∧ μ h_' t7' w' < μ h_ t7 w) h_ t7 w

def F_towpathlaw01_WritesSize_L0 (l_ : Slc) (R : Int → World → Prop) (again_ : Int → Int → World → Prop) (n_ : Int) (i : Int) (w1 : World) : Prop :=
  (((decide (i < ((l_.len : Nat) : Int))) && (decide (n_ ≤ 1048576))) = true → (IsAt l_.ptr ∧ (0 ≤ i ∧ i < ((l_.len : Nat) : Int) ∧ (∃ (v22 : ByteArray), w1.cell? ⟨(pblk l_.ptr), (poff l_.ptr) + i.toNat * 3, none⟩ = some (Value.string v22) ∧ (IsAt l_.ptr ∧ (0 ≤ i ∧ i < ((l_.len : Nat) : Int) ∧ (∃ (v29 : ByteArray), w1.cell? ⟨(pblk l_.ptr), ((poff l_.ptr) + i.toNat * 3) + 1, none⟩ = some (Value.string v29) ∧ (∀ w2, Ext w1 w2 → (again_ (IntKind.i64.wrap ((IntKind.i64.wrap (n_ + ((v22.size : Nat) : Int))) + ((v29.size : Nat) : Int))) (IntKind.i64.wrap (i + 1)) w2))))))))) ∧
  (((decide (i < ((l_.len : Nat) : Int))) && (decide (n_ ≤ 1048576))) = false → (R n_ w1))

def F_towpathlaw01_WritesSize (l_ : Slc) (R : Int → World → Prop) (w : World) : Prop :=
  ∃ (I : Int → Int → World → Prop) (μ : Int → Int → World → Nat), I ((l_.len : Nat) : Int) 0 w ∧
  ∀ (n_ : Int) (i : Int) w, I n_ i w → F_towpathlaw01_WritesSize_L0 l_ R (fun (n_' : Int) (i' : Int) w' => I n_' i' w' ∧ μ n_' i' w' < μ n_ i w) n_ i w

def F_lane_counting_1 (x : T_api_Write) (t1 : Option Addr) (R : Bool → World → Prop) (w : World) : Prop :=
  ∀ b_ w1, b_ = w.heap.size → w1 = w.alloc (Obj.cells ([Value.string x.Key, Value.string x.Val, Value.bool x.Drop]).toArray ty_api_Write (0, 0)) → (∃ (v5 : ByteArray), w1.cell? ⟨b_, 0, none⟩ = some (Value.string v5) ∧ (IsAt t1 ∧ (∃ (v7 : ByteArray), w1.cell? ⟨(pblk t1), (poff t1), none⟩ = some (Value.string v7) ∧ (R (v5.toList == v7.toList) w1))))

def F_slices_IndexFunc_api_Write_api_Write_L0 (s : Slc) (f : Value) (R : Int → World → Prop) (again_ : Int → World → Prop) (t8 : Int) (w1 : World) : Prop :=
  ((decide (t8 < ((s.len : Nat) : Int))) = true → (IsAt s.ptr ∧ (0 ≤ t8 ∧ t8 < ((s.len : Nat) : Int) ∧ (∃ (v15 : T_api_Write), CellsAt w1 (pblk s.ptr) ((poff s.ptr) + t8.toNat * 3) [Value.string v15.Key, Value.string v15.Val, Value.bool v15.Drop] ∧ (CallsV (P := Try.prog) f #[Value.agg #[Value.string v15.Key, Value.string v15.Val, Value.bool v15.Drop]] w1 (fun e' w2 => ∃ (v16 : Bool), e' = Ending.returned (Value.bool v16) ∧ ((v16 = true → (R t8 w2)) ∧
  (v16 = false → (again_ (IntKind.i64.wrap (t8 + 1)) w2))))))))) ∧
  ((decide (t8 < ((s.len : Nat) : Int))) = false → (R (-1) w1))

def F_slices_IndexFunc_api_Write_api_Write (s : Slc) (f : Value) (R : Int → World → Prop) (w : World) : Prop :=
  ∃ (I : Int → World → Prop) (μ : Int → World → Nat), I 0 w ∧
  ∀ (t8 : Int) w, I t8 w → F_slices_IndexFunc_api_Write_api_Write_L0 s f R (fun (t8' : Int) w' => I t8' w' ∧ μ t8' w' < μ t8 w) t8 w

def F_lane_none_next (t0 : T_lane_none) (R : T_api_Write → Bool → World → Prop) (w : World) : Prop :=
  ∀ b_ w1, b_ = w.heap.size → w1 = w.alloc (Obj.cells ([]).toArray ty_lane_none (0, 0)) → (∀ b_1 w2, b_1 = w1.heap.size → w2 = w1.alloc (Obj.cells ([Value.string ByteArray.empty, Value.string ByteArray.empty, Value.bool false]).toArray ty_api_Write (0, 0)) → (Writable w2 b_1 0 3 ∧ (∀ w3, w3 = World.puts b_1 0 [Value.string ByteArray.empty, Value.string ByteArray.empty, Value.bool false] w2 → (∃ (res : T_api_Write), CellsAt w3 b_1 0 [Value.string res.Key, Value.string res.Val, Value.bool res.Drop] ∧ (R res false w3)))))

def F_lane_busy_next (b_ : Option Addr) (R : T_api_Write → Bool → World → Prop) (w : World) : Prop :=
  ∀ b_1 w1, b_1 = w.heap.size → w1 = w.alloc (Obj.cells ([Value.string ByteArray.empty, Value.string ByteArray.empty, Value.bool false]).toArray ty_api_Write (0, 0)) → (IsAt b_ ∧ (∃ (v7 : Slc), w1.cell? ⟨(pblk b_), (poff b_) + 1, none⟩ = some (Value.slice v7.ptr v7.len v7.cap) ∧ (((((v7.len : Nat) : Int) == 0) = true → (Writable w1 b_1 0 3 ∧ (∀ w2, w2 = World.puts b_1 0 [Value.string ByteArray.empty, Value.string ByteArray.empty, Value.bool false] w1 → (∃ (res : T_api_Write), CellsAt w2 b_1 0 [Value.string res.Key, Value.string res.Val, Value.bool res.Drop] ∧ (R res false w2))))) ∧
  ((((v7.len : Nat) : Int) == 0) = false → (IsAt b_ ∧ (∃ (v14 : Slc), w1.cell? ⟨(pblk b_), (poff b_) + 1, none⟩ = some (Value.slice v14.ptr v14.len v14.cap) ∧ (IsAt v14.ptr ∧ (0 ≤ (0 : Int) ∧ (0 : Int) < ((v14.len : Nat) : Int) ∧ (∃ (v16 : T_api_Write), CellsAt w1 (pblk v14.ptr) (poff v14.ptr) [Value.string v16.Key, Value.string v16.Val, Value.bool v16.Drop] ∧ (Writable w1 b_1 0 3 ∧ (∀ w3, w3 = World.puts b_1 0 [Value.string v16.Key, Value.string v16.Val, Value.bool v16.Drop] w1 → (∃ (res1 : T_api_Write), CellsAt w3 b_1 0 [Value.string res1.Key, Value.string res1.Val, Value.bool res1.Drop] ∧ (R res1 true w3)))))))))))))

def Ok_T_api_Config (w : World) (x : T_api_Config) : Prop := ((-9223372036854775808) ≤ x.Lanes ∧ x.Lanes ≤ 9223372036854775807) ∧ ((-9223372036854775808) ≤ x.Shards ∧ x.Shards ≤ 9223372036854775807) ∧ ((-9223372036854775808) ≤ x.Window ∧ x.Window ≤ 9223372036854775807) ∧ ((-9223372036854775808) ≤ x.Queue ∧ x.Queue ≤ 9223372036854775807)

def Ok_T_api_Write (w : World) (x : T_api_Write) : Prop := (x.Key.size ≤ 140737488351232) ∧ (x.Val.size ≤ 140737488351232) ∧ True

def Ok_T_api_Txn (w : World) (x : T_api_Txn) : Prop := ((-9223372036854775808) ≤ x.Number ∧ x.Number ≤ 9223372036854775807) ∧ (OkSl w x.Writes 3 40 (fun es => ∃ e_ : T_api_Write, es = [Value.string e_.Key, Value.string e_.Val, Value.bool e_.Drop] ∧ (Ok_T_api_Write w e_)))

def Ok_T_towpathlaw14_Trip (w : World) (x : T_towpathlaw14_Trip) : Prop := (Ok_T_api_Config w x.Config) ∧ (OkSl w x.Txns 2 32 (fun es => ∃ e_ : T_api_Txn, es = [Value.int .i64 e_.Number, Value.slice e_.Writes.ptr e_.Writes.len e_.Writes.cap] ∧ (Ok_T_api_Txn w e_))) ∧ (OkSl w x.Acks 1 1 (fun es => ∃ e_ : Int, es = [Value.int .u8 e_] ∧ (0 ≤ e_ ∧ e_ ≤ 255)))

end Go.Proofs.Ytfmkemmgakdddaa
