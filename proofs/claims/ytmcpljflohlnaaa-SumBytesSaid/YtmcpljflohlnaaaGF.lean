/- WRITTEN BY PROGRAM (dec.py): for each Go function the clean formula F, the call's contract C, and the proof S that F gives C. -/
import Derived.Test.YtmcpljflohlnaaaRows
import Derived.Test.YtmcpljflohlnaaaCore
namespace Go.Proofs.Ytmcpljflohlnaaa
open Go
set_option linter.unusedVariables false


abbrev ty_int : TypeId := 3

abbrev ty_uint8 : TypeId := 5

abbrev ty_towpathlaw01_Place : TypeId := 70

abbrev ty_256_uint32 : TypeId := 92

structure T_towpathlaw01_Place where
  From : Int
  N : Int

def C_towpathlaw01_NumFits (x : Int) (w : World) (R : Bool → World → Prop) : Prop :=
  Calls Try.prog 3 #[Value.int .i64 x] w (fun e w' => ∃ (r0 : Bool), e = .returned (Value.bool r0) ∧ R r0 w')

def C_towpathlaw01_NumBare (x : Int) (w : World) (R : Bool → World → Prop) : Prop :=
  Calls Try.prog 4 #[Value.int .u64 x] w (fun e w' => ∃ (r0 : Bool), e = .returned (Value.bool r0) ∧ R r0 w')

def C_towpathlaw03_SumKeys (key : ByteArray) (w : World) (R : Bool → World → Prop) : Prop :=
  Calls Try.prog 5 #[Value.string key] w (fun e w' => ∃ (r0 : Bool), e = .returned (Value.bool r0) ∧ R r0 w')

def C_towpathlaw01_NumTurns (x : Int) (n_ : Int) (y : Int) (w : World) (R : Bool → World → Prop) : Prop :=
  Calls Try.prog 6 #[Value.int .u32 x, Value.int .i64 n_, Value.int .i64 y] w (fun e w' => ∃ (r0 : Bool), e = .returned (Value.bool r0) ∧ R r0 w')

def C_towpathlaw01_NumPlaces (x : Int) (v : Int) (p : T_towpathlaw01_Place) (w : World) (R : Bool → World → Prop) : Prop :=
  Calls Try.prog 7 #[Value.int .u64 x, Value.int .u64 v, Value.agg #[Value.int .i64 p.From, Value.int .i64 p.N]] w (fun e w' => ∃ (r0 : Bool), e = .returned (Value.bool r0) ∧ R r0 w')

def C_towpathlaw03_SumBytes (b_ : Slc) (before : Int) (w : World) (R : Bool → World → Prop) : Prop :=
  Calls Try.prog 8 #[Value.slice b_.ptr b_.len b_.cap, Value.int .u32 before] w (fun e w' => ∃ (r0 : Bool), e = .returned (Value.bool r0) ∧ R r0 w')

def C_towpathlaw03_SumJoins (a_ : Slc) (b_ : Slc) (sum0 : Int) (w : World) (R : Bool → World → Prop) : Prop :=
  Calls Try.prog 9 #[Value.slice a_.ptr a_.len a_.cap, Value.slice b_.ptr b_.len b_.cap, Value.int .u32 sum0] w (fun e w' => ∃ (r0 : Bool), e = .returned (Value.bool r0) ∧ R r0 w')

def C_towpathlaw03_SumBursts (b_ : Slc) (at_ : Int) (turned : Int) (w : World) (R : Bool → World → Prop) : Prop :=
  Calls Try.prog 10 #[Value.slice b_.ptr b_.len b_.cap, Value.int .u32 at_, Value.int .u32 turned] w (fun e w' => ∃ (r0 : Bool), e = .returned (Value.bool r0) ∧ R r0 w')

def C_towpathlaw01_NumBack (x : Int) (y : Int) (w : World) (R : Bool → World → Prop) : Prop :=
  Calls Try.prog 11 #[Value.int .i64 x, Value.int .u64 y] w (fun e w' => ∃ (r0 : Bool), e = .returned (Value.bool r0) ∧ R r0 w')

def C_towpathlaw01_NumSets (x : Int) (v : Int) (p : T_towpathlaw01_Place) (w : World) (R : Bool → World → Prop) : Prop :=
  Calls Try.prog 12 #[Value.int .u64 x, Value.int .u64 v, Value.agg #[Value.int .i64 p.From, Value.int .i64 p.N]] w (fun e w' => ∃ (r0 : Bool), e = .returned (Value.bool r0) ∧ R r0 w')

def C_towpathlaw01_NumRound (x : Int) (a_ : Int) (b_ : Int) (w : World) (R : Bool → World → Prop) : Prop :=
  Calls Try.prog 13 #[Value.int .u32 x, Value.int .i16 a_, Value.int .i16 b_] w (fun e w' => ∃ (r0 : Bool), e = .returned (Value.bool r0) ∧ R r0 w')

def C_num_Fit_int8_int64 (x : Int) (w : World) (R : Int → Bool → World → Prop) : Prop :=
  Calls Try.prog 14 #[Value.int .i64 x] w (fun e w' => ∃ (r0 : Int) (r1 : Bool), e = .returned (Value.tuple #[Value.int .i8 r0, Value.bool r1]) ∧ R r0 r1 w')

def C_num_Fit_int16_int64 (x : Int) (w : World) (R : Int → Bool → World → Prop) : Prop :=
  Calls Try.prog 15 #[Value.int .i64 x] w (fun e w' => ∃ (r0 : Int) (r1 : Bool), e = .returned (Value.tuple #[Value.int .i16 r0, Value.bool r1]) ∧ R r0 r1 w')

def C_num_Fit_int32_int64 (x : Int) (w : World) (R : Int → Bool → World → Prop) : Prop :=
  Calls Try.prog 16 #[Value.int .i64 x] w (fun e w' => ∃ (r0 : Int) (r1 : Bool), e = .returned (Value.tuple #[Value.int .i32 r0, Value.bool r1]) ∧ R r0 r1 w')

def C_num_Fit_int64_int64 (x : Int) (w : World) (R : Int → Bool → World → Prop) : Prop :=
  Calls Try.prog 17 #[Value.int .i64 x] w (fun e w' => ∃ (r0 : Int) (r1 : Bool), e = .returned (Value.tuple #[Value.int .i64 r0, Value.bool r1]) ∧ R r0 r1 w')

def C_num_Fit_int_int64 (x : Int) (w : World) (R : Int → Bool → World → Prop) : Prop :=
  Calls Try.prog 18 #[Value.int .i64 x] w (fun e w' => ∃ (r0 : Int) (r1 : Bool), e = .returned (Value.tuple #[Value.int .i64 r0, Value.bool r1]) ∧ R r0 r1 w')

def C_num_Fit_uint8_int64 (x : Int) (w : World) (R : Int → Bool → World → Prop) : Prop :=
  Calls Try.prog 19 #[Value.int .i64 x] w (fun e w' => ∃ (r0 : Int) (r1 : Bool), e = .returned (Value.tuple #[Value.int .u8 r0, Value.bool r1]) ∧ R r0 r1 w')

def C_num_Fit_uint16_int64 (x : Int) (w : World) (R : Int → Bool → World → Prop) : Prop :=
  Calls Try.prog 20 #[Value.int .i64 x] w (fun e w' => ∃ (r0 : Int) (r1 : Bool), e = .returned (Value.tuple #[Value.int .u16 r0, Value.bool r1]) ∧ R r0 r1 w')

def C_num_Fit_uint32_int64 (x : Int) (w : World) (R : Int → Bool → World → Prop) : Prop :=
  Calls Try.prog 21 #[Value.int .i64 x] w (fun e w' => ∃ (r0 : Int) (r1 : Bool), e = .returned (Value.tuple #[Value.int .u32 r0, Value.bool r1]) ∧ R r0 r1 w')

def C_num_Fit_uint64_int64 (x : Int) (w : World) (R : Int → Bool → World → Prop) : Prop :=
  Calls Try.prog 22 #[Value.int .i64 x] w (fun e w' => ∃ (r0 : Int) (r1 : Bool), e = .returned (Value.tuple #[Value.int .u64 r0, Value.bool r1]) ∧ R r0 r1 w')

def C_towpathlaw01_size (x : Int) (w : World) (R : Int → World → Prop) : Prop :=
  Calls Try.prog 23 #[Value.int .i64 x] w (fun e w' => ∃ (r0 : Int), e = .returned (Value.int .u64 r0) ∧ R r0 w')

def C_towpathlaw01_fits (ok : Bool) (got : Int) (x : Int) (want : Bool) (w : World) (R : Bool → World → Prop) : Prop :=
  Calls Try.prog 24 #[Value.bool ok, Value.int .i64 got, Value.int .i64 x, Value.bool want] w (fun e w' => ∃ (r0 : Bool), e = .returned (Value.bool r0) ∧ R r0 w')

def C_towpathref01_In (neg : Bool) (size : Int) (bits : Int) (signed : Bool) (w : World) (R : Bool → World → Prop) : Prop :=
  Calls Try.prog 25 #[Value.bool neg, Value.int .u64 size, Value.int .i64 bits, Value.bool signed] w (fun e w' => ∃ (r0 : Bool), e = .returned (Value.bool r0) ∧ R r0 w')

def C_num_Fit_int8_uint64 (x : Int) (w : World) (R : Int → Bool → World → Prop) : Prop :=
  Calls Try.prog 26 #[Value.int .u64 x] w (fun e w' => ∃ (r0 : Int) (r1 : Bool), e = .returned (Value.tuple #[Value.int .i8 r0, Value.bool r1]) ∧ R r0 r1 w')

def C_num_Fit_int16_uint64 (x : Int) (w : World) (R : Int → Bool → World → Prop) : Prop :=
  Calls Try.prog 27 #[Value.int .u64 x] w (fun e w' => ∃ (r0 : Int) (r1 : Bool), e = .returned (Value.tuple #[Value.int .i16 r0, Value.bool r1]) ∧ R r0 r1 w')

def C_num_Fit_int32_uint64 (x : Int) (w : World) (R : Int → Bool → World → Prop) : Prop :=
  Calls Try.prog 28 #[Value.int .u64 x] w (fun e w' => ∃ (r0 : Int) (r1 : Bool), e = .returned (Value.tuple #[Value.int .i32 r0, Value.bool r1]) ∧ R r0 r1 w')

def C_num_Fit_int64_uint64 (x : Int) (w : World) (R : Int → Bool → World → Prop) : Prop :=
  Calls Try.prog 29 #[Value.int .u64 x] w (fun e w' => ∃ (r0 : Int) (r1 : Bool), e = .returned (Value.tuple #[Value.int .i64 r0, Value.bool r1]) ∧ R r0 r1 w')

def C_num_Fit_int_uint64 (x : Int) (w : World) (R : Int → Bool → World → Prop) : Prop :=
  Calls Try.prog 30 #[Value.int .u64 x] w (fun e w' => ∃ (r0 : Int) (r1 : Bool), e = .returned (Value.tuple #[Value.int .i64 r0, Value.bool r1]) ∧ R r0 r1 w')

def C_num_Fit_uint8_uint64 (x : Int) (w : World) (R : Int → Bool → World → Prop) : Prop :=
  Calls Try.prog 31 #[Value.int .u64 x] w (fun e w' => ∃ (r0 : Int) (r1 : Bool), e = .returned (Value.tuple #[Value.int .u8 r0, Value.bool r1]) ∧ R r0 r1 w')

def C_num_Fit_towpathlaw01_Named_uint64 (x : Int) (w : World) (R : Int → Bool → World → Prop) : Prop :=
  Calls Try.prog 32 #[Value.int .u64 x] w (fun e w' => ∃ (r0 : Int) (r1 : Bool), e = .returned (Value.tuple #[Value.int .u16 r0, Value.bool r1]) ∧ R r0 r1 w')

def C_num_Fit_uint32_uint64 (x : Int) (w : World) (R : Int → Bool → World → Prop) : Prop :=
  Calls Try.prog 33 #[Value.int .u64 x] w (fun e w' => ∃ (r0 : Int) (r1 : Bool), e = .returned (Value.tuple #[Value.int .u32 r0, Value.bool r1]) ∧ R r0 r1 w')

def C_num_Fit_uint64_uint64 (x : Int) (w : World) (R : Int → Bool → World → Prop) : Prop :=
  Calls Try.prog 34 #[Value.int .u64 x] w (fun e w' => ∃ (r0 : Int) (r1 : Bool), e = .returned (Value.tuple #[Value.int .u64 r0, Value.bool r1]) ∧ R r0 r1 w')

def C_num_Fit_int8_towpathlaw01_Named (x : Int) (w : World) (R : Int → Bool → World → Prop) : Prop :=
  Calls Try.prog 35 #[Value.int .u16 x] w (fun e w' => ∃ (r0 : Int) (r1 : Bool), e = .returned (Value.tuple #[Value.int .i8 r0, Value.bool r1]) ∧ R r0 r1 w')

def C_towpathlaw01_bare (ok : Bool) (got : Int) (x : Int) (want : Bool) (w : World) (R : Bool → World → Prop) : Prop :=
  Calls Try.prog 36 #[Value.bool ok, Value.int .u64 got, Value.int .u64 x, Value.bool want] w (fun e w' => ∃ (r0 : Bool), e = .returned (Value.bool r0) ∧ R r0 w')

def C_towpathlaw01_Beyond (l_ : Slc) (w : World) (R : Bool → World → Prop) : Prop :=
  Calls Try.prog 37 #[Value.slice l_.ptr l_.len l_.cap] w (fun e w' => ∃ (r0 : Bool), e = .returned (Value.bool r0) ∧ R r0 w')

def C_sum_Hash (key : ByteArray) (w : World) (R : Int → World → Prop) : Prop :=
  Calls Try.prog 38 #[Value.string key] w (fun e w' => ∃ (r0 : Int), e = .returned (Value.int .u32 r0) ∧ R r0 w')

def C_towpathref03_Hash (key : ByteArray) (w : World) (R : Int → World → Prop) : Prop :=
  Calls Try.prog 39 #[Value.string key] w (fun e w' => ∃ (r0 : Int), e = .returned (Value.int .u32 r0) ∧ R r0 w')

def C_num_Turn (x : Int) (n_ : Int) (w : World) (R : Int → World → Prop) : Prop :=
  Calls Try.prog 40 #[Value.int .u32 x, Value.int .i64 n_] w (fun e w' => ∃ (r0 : Int), e = .returned (Value.int .u32 r0) ∧ R r0 w')

def C_towpathref01_Turn (x : Int) (n_ : Int) (w : World) (R : Int → World → Prop) : Prop :=
  Calls Try.prog 41 #[Value.int .u32 x, Value.int .i64 n_] w (fun e w' => ∃ (r0 : Int), e = .returned (Value.int .u32 r0) ∧ R r0 w')

def C_num_Zigzag (x : Int) (w : World) (R : Int → World → Prop) : Prop :=
  Calls Try.prog 42 #[Value.int .i64 x] w (fun e w' => ∃ (r0 : Int), e = .returned (Value.int .u64 r0) ∧ R r0 w')

def C_towpathref01_Zigzag (x : Int) (w : World) (R : Int → World → Prop) : Prop :=
  Calls Try.prog 43 #[Value.int .i64 x] w (fun e w' => ∃ (r0 : Int), e = .returned (Value.int .u64 r0) ∧ R r0 w')

def C_num_Zagzig (x : Int) (w : World) (R : Int → World → Prop) : Prop :=
  Calls Try.prog 44 #[Value.int .u64 x] w (fun e w' => ∃ (r0 : Int), e = .returned (Value.int .i64 r0) ∧ R r0 w')

def C_towpathref01_Zagzig (x : Int) (w : World) (R : Int → World → Prop) : Prop :=
  Calls Try.prog 45 #[Value.int .u64 x] w (fun e w' => ∃ (r0 : Int), e = .returned (Value.int .i64 r0) ∧ R r0 w')

def C_num_Bits (x : Int) (from_ : Int) (n_ : Int) (w : World) (R : Int → Bool → World → Prop) : Prop :=
  Calls Try.prog 46 #[Value.int .u64 x, Value.int .i64 from_, Value.int .i64 n_] w (fun e w' => ∃ (r0 : Int) (r1 : Bool), e = .returned (Value.tuple #[Value.int .u64 r0, Value.bool r1]) ∧ R r0 r1 w')

def C_num_Put (x : Int) (from_ : Int) (n_ : Int) (v : Int) (w : World) (R : Int → Bool → World → Prop) : Prop :=
  Calls Try.prog 47 #[Value.int .u64 x, Value.int .i64 from_, Value.int .i64 n_, Value.int .u64 v] w (fun e w' => ∃ (r0 : Int) (r1 : Bool), e = .returned (Value.tuple #[Value.int .u64 r0, Value.bool r1]) ∧ R r0 r1 w')

def C_towpathref01_Bits (x : Int) (from_ : Int) (n_ : Int) (w : World) (R : Int → Bool → World → Prop) : Prop :=
  Calls Try.prog 48 #[Value.int .u64 x, Value.int .i64 from_, Value.int .i64 n_] w (fun e w' => ∃ (r0 : Int) (r1 : Bool), e = .returned (Value.tuple #[Value.int .u64 r0, Value.bool r1]) ∧ R r0 r1 w')

def C_towpathref01_Put (x : Int) (from_ : Int) (n_ : Int) (v : Int) (w : World) (R : Int → Bool → World → Prop) : Prop :=
  Calls Try.prog 49 #[Value.int .u64 x, Value.int .i64 from_, Value.int .i64 n_, Value.int .u64 v] w (fun e w' => ∃ (r0 : Int) (r1 : Bool), e = .returned (Value.tuple #[Value.int .u64 r0, Value.bool r1]) ∧ R r0 r1 w')

def C_towpathlaw01_TwinBytes (l_ : Slc) (w : World) (R : Slc → World → Prop) : Prop :=
  Calls Try.prog 50 #[Value.slice l_.ptr l_.len l_.cap] w (fun e w' => ∃ (r0 : Slc), e = .returned (Value.slice r0.ptr r0.len r0.cap) ∧ R r0 w')

def C_sum_CRC (b_ : Slc) (w : World) (R : Int → World → Prop) : Prop :=
  Calls Try.prog 51 #[Value.slice b_.ptr b_.len b_.cap] w (fun e w' => ∃ (r0 : Int), e = .returned (Value.int .u32 r0) ∧ R r0 w')

def C_towpathref03_CRC (b_ : Slc) (w : World) (R : Int → World → Prop) : Prop :=
  Calls Try.prog 52 #[Value.slice b_.ptr b_.len b_.cap] w (fun e w' => ∃ (r0 : Int), e = .returned (Value.int .u32 r0) ∧ R r0 w')

def C_sum_More (sum : Int) (b_ : Slc) (w : World) (R : Int → World → Prop) : Prop :=
  Calls Try.prog 53 #[Value.int .u32 sum, Value.slice b_.ptr b_.len b_.cap] w (fun e w' => ∃ (r0 : Int), e = .returned (Value.int .u32 r0) ∧ R r0 w')

def C_towpathref03_More (sum : Int) (b_ : Slc) (w : World) (R : Int → World → Prop) : Prop :=
  Calls Try.prog 54 #[Value.int .u32 sum, Value.slice b_.ptr b_.len b_.cap] w (fun e w' => ∃ (r0 : Int), e = .returned (Value.int .u32 r0) ∧ R r0 w')

def C_towpathlaw01_LeftBytes (t_ : Slc) (l_ : Slc) (w : World) (R : Bool → World → Prop) : Prop :=
  Calls Try.prog 55 #[Value.slice t_.ptr t_.len t_.cap, Value.slice l_.ptr l_.len l_.cap] w (fun e w' => ∃ (r0 : Bool), e = .returned (Value.bool r0) ∧ R r0 w')

def C_towpathlaw03_alive (w : World) (R : Bool → World → Prop) : Prop :=
  Calls Try.prog 56 #[] w (fun e w' => ∃ (r0 : Bool), e = .returned (Value.bool r0) ∧ R r0 w')

def C_num_Fit_int64_int16 (x : Int) (w : World) (R : Int → Bool → World → Prop) : Prop :=
  Calls Try.prog 57 #[Value.int .i16 x] w (fun e w' => ∃ (r0 : Int) (r1 : Bool), e = .returned (Value.tuple #[Value.int .i64 r0, Value.bool r1]) ∧ R r0 r1 w')

def C_num_Fit_uint64_uint32 (x : Int) (w : World) (R : Int → Bool → World → Prop) : Prop :=
  Calls Try.prog 58 #[Value.int .u32 x] w (fun e w' => ∃ (r0 : Int) (r1 : Bool), e = .returned (Value.tuple #[Value.int .u64 r0, Value.bool r1]) ∧ R r0 r1 w')

def C_towpathlaw01_alive (w : World) (R : Bool → World → Prop) : Prop :=
  Calls Try.prog 59 #[] w (fun e w' => ∃ (r0 : Bool), e = .returned (Value.bool r0) ∧ R r0 w')

def C_towpathref01_power (n_ : Int) (w : World) (R : Int → World → Prop) : Prop :=
  Calls Try.prog 60 #[Value.int .i64 n_] w (fun e w' => ∃ (r0 : Int), e = .returned (Value.int .u64 r0) ∧ R r0 w')

def C_math_bits_RotateLeft32 (x : Int) (k : Int) (w : World) (R : Int → World → Prop) : Prop :=
  Calls Try.prog 61 #[Value.int .u32 x, Value.int .i64 k] w (fun e w' => ∃ (r0 : Int), e = .returned (Value.int .u32 r0) ∧ R r0 w')

def C_num_many (from_ : Int) (n_ : Int) (w : World) (R : Bool → World → Prop) : Prop :=
  Calls Try.prog 62 #[Value.int .i64 from_, Value.int .i64 n_] w (fun e w' => ∃ (r0 : Bool), e = .returned (Value.bool r0) ∧ R r0 w')

def C_towpathref01_Many (from_ : Int) (n_ : Int) (w : World) (R : Bool → World → Prop) : Prop :=
  Calls Try.prog 63 #[Value.int .i64 from_, Value.int .i64 n_] w (fun e w' => ∃ (r0 : Bool), e = .returned (Value.bool r0) ∧ R r0 w')

def C_towpathref01_bit (x : Int) (at_ : Int) (w : World) (R : Int → World → Prop) : Prop :=
  Calls Try.prog 64 #[Value.int .u64 x, Value.int .i64 at_] w (fun e w' => ∃ (r0 : Int), e = .returned (Value.int .u64 r0) ∧ R r0 w')

def C_sum_table (w : World) (R : List Int → World → Prop) : Prop :=
  Calls Try.prog 65 #[] w (fun e w' => ∃ (r0 : List Int), r0.length = 256 ∧ e = .returned (Value.agg (List.map (Value.int .u32) r0).toArray) ∧ R r0 w')

def C_num_Fit_int8_int (x : Int) (w : World) (R : Int → Bool → World → Prop) : Prop :=
  Calls Try.prog 66 #[Value.int .i64 x] w (fun e w' => ∃ (r0 : Int) (r1 : Bool), e = .returned (Value.tuple #[Value.int .i8 r0, Value.bool r1]) ∧ R r0 r1 w')

def F_towpathlaw01_NumFits (x : Int) (R : Bool → World → Prop) (w : World) : Prop :=
  C_num_Fit_int8_int64 x w (fun (a_ : Int) (ok1 : Bool) w1 => C_num_Fit_int16_int64 x w1 (fun (b_ : Int) (ok2 : Bool) w2 => C_num_Fit_int32_int64 x w2 (fun (c : Int) (ok3 : Bool) w3 => C_num_Fit_int64_int64 x w3 (fun (d : Int) (ok4 : Bool) w4 => C_num_Fit_int_int64 x w4 (fun (e : Int) (ok5 : Bool) w5 => C_num_Fit_uint8_int64 x w5 (fun (f : Int) (ok6 : Bool) w6 => C_num_Fit_uint16_int64 x w6 (fun (g : Int) (ok7 : Bool) w7 => C_num_Fit_uint32_int64 x w7 (fun (h_ : Int) (ok8 : Bool) w8 => C_num_Fit_uint64_int64 x w8 (fun (i : Int) (ok9 : Bool) w9 => C_towpathlaw01_size x w9 (fun (v71 : Int) w10 => C_towpathref01_In (decide (x < 0)) v71 8 true w10 (fun (v78 : Bool) w11 => C_towpathlaw01_fits ok1 (IntKind.i64.wrap a_) x v78 w11 (fun (v79 : Bool) w12 => (v79 = true → (C_towpathref01_In (decide (x < 0)) v71 16 true w12 (fun (v87 : Bool) w13 => C_towpathlaw01_fits ok2 (IntKind.i64.wrap b_) x v87 w13 (fun (v88 : Bool) w14 => (v88 = true → (C_towpathref01_In (decide (x < 0)) v71 32 true w14 (fun (v97 : Bool) w15 => C_towpathlaw01_fits ok3 (IntKind.i64.wrap c) x v97 w15 (fun (v98 : Bool) w16 => (v98 = true → (C_towpathlaw01_fits ok4 d x true w16 (fun (v104 : Bool) w17 => (v104 = true → (C_towpathlaw01_fits ok5 e x true w17 (fun (v110 : Bool) w18 => (v110 = true → (C_towpathref01_In (decide (x < 0)) v71 8 false w18 (fun (v119 : Bool) w19 => C_towpathlaw01_fits ok6 (IntKind.i64.wrap f) x v119 w19 (fun (v120 : Bool) w20 => (v120 = true → (C_towpathref01_In (decide (x < 0)) v71 16 false w20 (fun (v129 : Bool) w21 => C_towpathlaw01_fits ok7 (IntKind.i64.wrap g) x v129 w21 (fun (v130 : Bool) w22 => (v130 = true → (C_towpathref01_In (decide (x < 0)) v71 32 false w22 (fun (v139 : Bool) w23 => C_towpathlaw01_fits ok8 (IntKind.i64.wrap h_) x v139 w23 (fun (v140 : Bool) w24 => (v140 = true → (C_towpathref01_In (decide (x < 0)) v71 64 false w24 (fun (v149 : Bool) w25 => C_towpathlaw01_fits ok9 (IntKind.i64.wrap i) x v149 w25 (fun (v150 : Bool) w26 => R v150 w26)))) ∧
  (v140 = false → (R false w24)))))) ∧
  (v130 = false → (R false w22)))))) ∧
  (v120 = false → (R false w20)))))) ∧
  (v110 = false → (R false w18))))) ∧
  (v104 = false → (R false w17))))) ∧
  (v98 = false → (R false w16)))))) ∧
  (v88 = false → (R false w14)))))) ∧
  (v79 = false → (R false w12))))))))))))))

def F_towpathlaw01_NumBare (x : Int) (R : Bool → World → Prop) (w : World) : Prop :=
  C_num_Fit_int8_uint64 x w (fun (a_ : Int) (ok1 : Bool) w1 => C_num_Fit_int16_uint64 x w1 (fun (b_ : Int) (ok2 : Bool) w2 => C_num_Fit_int32_uint64 x w2 (fun (c : Int) (ok3 : Bool) w3 => C_num_Fit_int64_uint64 x w3 (fun (d : Int) (ok4 : Bool) w4 => C_num_Fit_int_uint64 x w4 (fun (e : Int) (ok5 : Bool) w5 => C_num_Fit_uint8_uint64 x w5 (fun (f : Int) (ok6 : Bool) w6 => C_num_Fit_towpathlaw01_Named_uint64 x w6 (fun (g : Int) (ok7 : Bool) w7 => C_num_Fit_uint32_uint64 x w7 (fun (h_ : Int) (ok8 : Bool) w8 => C_num_Fit_uint64_uint64 x w8 (fun (i : Int) (ok9 : Bool) w9 => C_num_Fit_int8_towpathlaw01_Named (IntKind.u16.wrap x) w9 (fun (small : Int) (ok : Bool) w10 => C_towpathref01_In false x 8 true w10 (fun (v79 : Bool) w11 => C_towpathlaw01_bare ok1 (IntKind.u64.wrap a_) x v79 w11 (fun (v80 : Bool) w12 => (v80 = true → (C_towpathref01_In false x 16 true w12 (fun (v87 : Bool) w13 => C_towpathlaw01_bare ok2 (IntKind.u64.wrap b_) x v87 w13 (fun (v88 : Bool) w14 => (v88 = true → (C_towpathref01_In false x 32 true w14 (fun (v96 : Bool) w15 => C_towpathlaw01_bare ok3 (IntKind.u64.wrap c) x v96 w15 (fun (v97 : Bool) w16 => (v97 = true → (C_towpathref01_In false x 64 true w16 (fun (v105 : Bool) w17 => C_towpathlaw01_bare ok4 (IntKind.u64.wrap d) x v105 w17 (fun (v106 : Bool) w18 => (v106 = true → (C_towpathref01_In false x 64 true w18 (fun (v114 : Bool) w19 => C_towpathlaw01_bare ok5 (IntKind.u64.wrap e) x v114 w19 (fun (v115 : Bool) w20 => (v115 = true → (C_towpathref01_In false x 8 false w20 (fun (v123 : Bool) w21 => C_towpathlaw01_bare ok6 (IntKind.u64.wrap f) x v123 w21 (fun (v124 : Bool) w22 => (v124 = true → (C_towpathref01_In false x 16 false w22 (fun (v132 : Bool) w23 => C_towpathlaw01_bare ok7 (IntKind.u64.wrap g) x v132 w23 (fun (v133 : Bool) w24 => (v133 = true → (C_towpathref01_In false x 32 false w24 (fun (v141 : Bool) w25 => C_towpathlaw01_bare ok8 (IntKind.u64.wrap h_) x v141 w25 (fun (v142 : Bool) w26 => (v142 = true → (C_towpathlaw01_bare ok9 i x true w26 (fun (v148 : Bool) w27 => (v148 = true → (C_towpathref01_In false (IntKind.u64.wrap (IntKind.u16.wrap x)) 8 true w27 (fun (v160 : Bool) w28 => C_towpathlaw01_bare ok (IntKind.u64.wrap small) (IntKind.u64.wrap (IntKind.u16.wrap x)) v160 w28 (fun (v161 : Bool) w29 => R v161 w29)))) ∧
  (v148 = false → (R false w27))))) ∧
  (v142 = false → (R false w26)))))) ∧
  (v133 = false → (R false w24)))))) ∧
  (v124 = false → (R false w22)))))) ∧
  (v115 = false → (R false w20)))))) ∧
  (v106 = false → (R false w18)))))) ∧
  (v97 = false → (R false w16)))))) ∧
  (v88 = false → (R false w14)))))) ∧
  (v80 = false → (R false w12))))))))))))))

def F_towpathlaw03_SumKeys (key : ByteArray) (R : Bool → World → Prop) (w : World) : Prop :=
  ∀ b_ w1, b_ = w.heap.size → w1 = w.alloc (Obj.cells ([Value.int .i64 ((key.size : Nat) : Int)]).toArray ty_int (0, 0)) → (C_towpathlaw01_Beyond (Slc.mk (some ⟨b_, 0, none⟩) 1 1) w1 (fun (v6 : Bool) w2 => (v6 = true → (R true w2)) ∧
  (v6 = false → (C_sum_Hash key w2 (fun (v9 : Int) w3 => C_towpathref03_Hash key w3 (fun (v11 : Int) w4 => R (v9 == v11) w4))))))

def F_towpathlaw01_NumTurns (x : Int) (n_ : Int) (y : Int) (R : Bool → World → Prop) (w : World) : Prop :=
  C_num_Turn x n_ w (fun (v9 : Int) w1 => C_towpathref01_Turn x n_ w1 (fun (v12 : Int) w2 => ((v9 == v12) = true → (C_num_Zigzag y w2 (fun (v16 : Int) w3 => C_towpathref01_Zigzag y w3 (fun (v18 : Int) w4 => ((v16 == v18) = true → (C_num_Zagzig (IntKind.u64.wrap y) w4 (fun (v24 : Int) w5 => C_towpathref01_Zagzig (IntKind.u64.wrap y) w5 (fun (v27 : Int) w6 => R (v24 == v27) w6)))) ∧
  ((v16 == v18) = false → (R false w4)))))) ∧
  ((v9 == v12) = false → (R false w2))))

def F_towpathlaw01_NumPlaces (x : Int) (v : Int) (p : T_towpathlaw01_Place) (R : Bool → World → Prop) (w : World) : Prop :=
  ∀ b_ w1, b_ = w.heap.size → w1 = w.alloc (Obj.cells ([Value.int .i64 p.From, Value.int .i64 p.N]).toArray ty_towpathlaw01_Place (0, 0)) → (∃ (v18 : Int), w1.cell? ⟨b_, 0, none⟩ = some (Value.int .i64 v18) ∧ (∃ (v20 : Int), w1.cell? ⟨b_, 1, none⟩ = some (Value.int .i64 v20) ∧ (C_num_Bits x v18 v20 w1 (fun (a_ : Int) (ok : Bool) w2 => ∃ (v27 : Int), w2.cell? ⟨b_, 0, none⟩ = some (Value.int .i64 v27) ∧ (∃ (v29 : Int), w2.cell? ⟨b_, 1, none⟩ = some (Value.int .i64 v29) ∧ (C_num_Put x v27 v29 v w2 (fun (b_1 : Int) (is : Bool) w3 => ∃ (v37 : Int), w3.cell? ⟨b_, 0, none⟩ = some (Value.int .i64 v37) ∧ (∃ (v39 : Int), w3.cell? ⟨b_, 1, none⟩ = some (Value.int .i64 v39) ∧ (C_towpathref01_Bits x v37 v39 w3 (fun (want : Int) (there : Bool) w4 => ∃ (v46 : Int), w4.cell? ⟨b_, 0, none⟩ = some (Value.int .i64 v46) ∧ (∃ (v48 : Int), w4.cell? ⟨b_, 1, none⟩ = some (Value.int .i64 v48) ∧ (C_towpathref01_Put x v46 v48 v w4 (fun (put : Int) (may : Bool) w5 => R ((((a_ == want) && (ok == there)) && (b_1 == put)) && (is == may)) w5)))))))))))))

def F_towpathlaw03_SumBytes (b_ : Slc) (before : Int) (R : Bool → World → Prop) (w : World) : Prop :=
  ∀ b_1 w1, b_1 = w.heap.size → w1 = w.alloc (Obj.cells ([Value.int .i64 ((b_.len : Nat) : Int)]).toArray ty_int (0, 0)) → (C_towpathlaw01_Beyond (Slc.mk (some ⟨b_1, 0, none⟩) 1 1) w1 (fun (v9 : Bool) w2 => (v9 = true → (R true w2)) ∧
  (v9 = false → (C_towpathlaw01_TwinBytes b_ w2 (fun (v11 : Slc) w3 => C_sum_CRC v11 w3 (fun (v13 : Int) w4 => C_towpathref03_CRC b_ w4 (fun (v15 : Int) w5 => ((v13 == v15) = true → (C_sum_More before v11 w5 (fun (v20 : Int) w6 => C_towpathref03_More before b_ w6 (fun (v23 : Int) w7 => ((v20 == v23) = true → (C_towpathlaw01_LeftBytes v11 b_ w7 (fun (v29 : Bool) w8 => R v29 w8))) ∧
  ((v20 == v23) = false → (R false w7)))))) ∧
  ((v13 == v15) = false → (R false w5)))))))))

def F_towpathlaw03_SumJoins_k0 (a_ : Slc) (b_ : Slc) (sum0 : Int) (R : Bool → World → Prop) (t17 : Bool) (w1 : World) : Prop :=
  (t17 = true → (C_towpathlaw03_alive w1 (fun (v18 : Bool) w2 => R v18 w2))) ∧
  (t17 = false → (∃ src, SrcAt w1 a_ 1 src ∧ AppendW 1 1 ty_uint8 [Value.int .u8 0] (Slc.mk none 0 0) src a_.len w1 (fun both w3 => ∃ src, SrcAt w3 b_ 1 src ∧ AppendW 1 1 ty_uint8 [Value.int .u8 0] both src b_.len w3 (fun both1 w4 => C_sum_CRC a_ w4 (fun (v26 : Int) w5 => C_sum_More v26 b_ w5 (fun (v28 : Int) w6 => C_sum_CRC both1 w6 (fun (v30 : Int) w7 => ((v28 == v30) = true → (C_sum_More sum0 a_ w7 (fun (v35 : Int) w8 => C_sum_More v35 b_ w8 (fun (v37 : Int) w9 => C_sum_More sum0 both1 w9 (fun (v40 : Int) w10 => ((v37 == v40) = true → (C_sum_More sum0 (Slc.mk none 0 0) w10 (fun (v45 : Int) w11 => R (v45 == sum0) w11))) ∧
  ((v37 == v40) = false → (R false w10))))))) ∧
  ((v28 == v30) = false → (R false w7)))))))))

def F_towpathlaw03_SumJoins (a_ : Slc) (b_ : Slc) (sum0 : Int) (R : Bool → World → Prop) (w : World) : Prop :=
  C_towpathlaw03_alive w (fun (v8 : Bool) w12 => ((!v8) = true → (F_towpathlaw03_SumJoins_k0 a_ b_ sum0 R true w12)) ∧
  ((!v8) = false → (∀ b_1 w13, b_1 = w12.heap.size → w13 = w12.alloc (Obj.cells ([Value.int .i64 ((a_.len : Nat) : Int), Value.int .i64 ((b_.len : Nat) : Int)]).toArray ty_int (0, 0)) → (C_towpathlaw01_Beyond (Slc.mk (some ⟨b_1, 0, none⟩) 2 2) w13 (fun (v16 : Bool) w14 => F_towpathlaw03_SumJoins_k0 a_ b_ sum0 R v16 w14)))))

def F_towpathlaw01_NumBack (x : Int) (y : Int) (R : Bool → World → Prop) (w : World) : Prop :=
  C_num_Fit_int16_int64 x w (fun (a_ : Int) (ok : Bool) w1 => C_num_Fit_int64_int16 a_ w1 (fun (back : Int) (is : Bool) w2 => C_num_Fit_uint32_uint64 y w2 (fun (b_ : Int) (fit : Bool) w3 => C_num_Fit_uint64_uint32 b_ w3 (fun (again_ : Int) (yes : Bool) w4 => C_towpathlaw01_alive w4 (fun (v33 : Bool) w5 => (((((v33 && is) && yes) && ((!ok) || (back == x))) && ((!fit) || (again_ == y))) = true → (C_num_Zigzag x w5 (fun (v60 : Int) w6 => C_num_Zagzig v60 w6 (fun (v61 : Int) w7 => ((v61 == x) = true → (C_num_Zagzig y w7 (fun (v67 : Int) w8 => C_num_Zigzag v67 w8 (fun (v68 : Int) w9 => R (v68 == y) w9)))) ∧
  ((v61 == x) = false → (R false w7)))))) ∧
  (((((v33 && is) && yes) && ((!ok) || (back == x))) && ((!fit) || (again_ == y))) = false → (R false w5)))))))

def F_towpathlaw01_NumSets (x : Int) (v : Int) (p : T_towpathlaw01_Place) (R : Bool → World → Prop) (w : World) : Prop :=
  ∀ b_ w1, b_ = w.heap.size → w1 = w.alloc (Obj.cells ([Value.int .i64 p.From, Value.int .i64 p.N]).toArray ty_towpathlaw01_Place (0, 0)) → (∃ (v23 : Int), w1.cell? ⟨b_, 0, none⟩ = some (Value.int .i64 v23) ∧ (∃ (v25 : Int), w1.cell? ⟨b_, 1, none⟩ = some (Value.int .i64 v25) ∧ (C_num_Put x v23 v25 v w1 (fun (y : Int) (ok : Bool) w2 => ((!ok) = true → (C_towpathlaw01_alive w2 (fun (v32 : Bool) w3 => R (v32 && (y == 0)) w3))) ∧
  ((!ok) = false → (∃ (v40 : Int), w2.cell? ⟨b_, 0, none⟩ = some (Value.int .i64 v40) ∧ (∃ (v42 : Int), w2.cell? ⟨b_, 1, none⟩ = some (Value.int .i64 v42) ∧ (C_num_Bits y v40 v42 w2 (fun (got : Int) (is : Bool) w4 => ∃ (v49 : Int), w4.cell? ⟨b_, 0, none⟩ = some (Value.int .i64 v49) ∧ (C_num_Bits y 0 v49 w4 (fun (low : Int) (one : Bool) w5 => ∃ (v56 : Int), w5.cell? ⟨b_, 0, none⟩ = some (Value.int .i64 v56) ∧ (C_num_Bits x 0 v56 w5 (fun (was : Int) (two : Bool) w6 => ∃ (v61 : Int), w6.cell? ⟨b_, 0, none⟩ = some (Value.int .i64 v61) ∧ (∃ (v63 : Int), w6.cell? ⟨b_, 1, none⟩ = some (Value.int .i64 v63) ∧ (C_num_Bits y (IntKind.i64.wrap (v61 + v63)) (IntKind.i64.wrap (64 - (IntKind.i64.wrap (v61 + v63)))) w6 (fun (high : Int) (three : Bool) w7 => C_num_Bits x (IntKind.i64.wrap (v61 + v63)) (IntKind.i64.wrap (64 - (IntKind.i64.wrap (v61 + v63)))) w7 (fun (old : Int) (four : Bool) w8 => C_towpathlaw01_alive w8 (fun (v81 : Bool) w9 => R ((((((((v81 && is) && one) && two) && three) && four) && (got == v)) && (low == was)) && (high == old)) w9))))))))))))))))))

def F_towpathlaw01_NumRound (x : Int) (a_ : Int) (b_ : Int) (R : Bool → World → Prop) (w : World) : Prop :=
  C_num_Turn x (IntKind.i64.wrap a_) w (fun (v16 : Int) w1 => C_towpathlaw01_alive w1 (fun (v17 : Bool) w2 => (v17 = true → (C_num_Turn v16 (IntKind.i64.wrap b_) w2 (fun (v21 : Int) w3 => C_num_Turn x (IntKind.i64.wrap ((IntKind.i64.wrap a_) + (IntKind.i64.wrap b_))) w3 (fun (v26 : Int) w4 => ((v21 == v26) = true → (C_num_Turn x (IntKind.i64.wrap ((IntKind.i64.wrap a_) + 32)) w4 (fun (v33 : Int) w5 => ((v33 == v16) = true → (C_num_Turn v16 (IntKind.i64.wrap (0 - (IntKind.i64.wrap a_))) w5 (fun (v41 : Int) w6 => R (v41 == x) w6))) ∧
  ((v33 == v16) = false → (R false w5))))) ∧
  ((v21 == v26) = false → (R false w4)))))) ∧
  (v17 = false → (R false w2))))

def F_num_Fit_int8_int64 (x : Int) (R : Int → Bool → World → Prop) (w : World) : Prop :=
  ((((IntKind.i64.wrap (IntKind.i8.wrap x)) != x) || (!((decide (x < 0)) == (decide ((IntKind.i8.wrap x) < 0))))) = true → (R 0 false w)) ∧
  ((((IntKind.i64.wrap (IntKind.i8.wrap x)) != x) || (!((decide (x < 0)) == (decide ((IntKind.i8.wrap x) < 0))))) = false → (R (IntKind.i8.wrap x) true w))

def F_num_Fit_int16_int64 (x : Int) (R : Int → Bool → World → Prop) (w : World) : Prop :=
  ((((IntKind.i64.wrap (IntKind.i16.wrap x)) != x) || (!((decide (x < 0)) == (decide ((IntKind.i16.wrap x) < 0))))) = true → (R 0 false w)) ∧
  ((((IntKind.i64.wrap (IntKind.i16.wrap x)) != x) || (!((decide (x < 0)) == (decide ((IntKind.i16.wrap x) < 0))))) = false → (R (IntKind.i16.wrap x) true w))

def F_num_Fit_int32_int64 (x : Int) (R : Int → Bool → World → Prop) (w : World) : Prop :=
  ((((IntKind.i64.wrap (IntKind.i32.wrap x)) != x) || (!((decide (x < 0)) == (decide ((IntKind.i32.wrap x) < 0))))) = true → (R 0 false w)) ∧
  ((((IntKind.i64.wrap (IntKind.i32.wrap x)) != x) || (!((decide (x < 0)) == (decide ((IntKind.i32.wrap x) < 0))))) = false → (R (IntKind.i32.wrap x) true w))

def F_num_Fit_int64_int64 (x : Int) (R : Int → Bool → World → Prop) (w : World) : Prop :=
  (((x != x) || (!((decide (x < 0)) == (decide (x < 0))))) = true → (R 0 false w)) ∧
  (((x != x) || (!((decide (x < 0)) == (decide (x < 0))))) = false → (R x true w))

def F_num_Fit_int_int64 (x : Int) (R : Int → Bool → World → Prop) (w : World) : Prop :=
  (((x != x) || (!((decide (x < 0)) == (decide (x < 0))))) = true → (R 0 false w)) ∧
  (((x != x) || (!((decide (x < 0)) == (decide (x < 0))))) = false → (R x true w))

def F_num_Fit_uint8_int64 (x : Int) (R : Int → Bool → World → Prop) (w : World) : Prop :=
  ((((IntKind.i64.wrap (IntKind.u8.wrap x)) != x) || (!((decide (x < 0)) == (decide ((IntKind.u8.wrap x) < 0))))) = true → (R 0 false w)) ∧
  ((((IntKind.i64.wrap (IntKind.u8.wrap x)) != x) || (!((decide (x < 0)) == (decide ((IntKind.u8.wrap x) < 0))))) = false → (R (IntKind.u8.wrap x) true w))

def F_num_Fit_uint16_int64 (x : Int) (R : Int → Bool → World → Prop) (w : World) : Prop :=
  ((((IntKind.i64.wrap (IntKind.u16.wrap x)) != x) || (!((decide (x < 0)) == (decide ((IntKind.u16.wrap x) < 0))))) = true → (R 0 false w)) ∧
  ((((IntKind.i64.wrap (IntKind.u16.wrap x)) != x) || (!((decide (x < 0)) == (decide ((IntKind.u16.wrap x) < 0))))) = false → (R (IntKind.u16.wrap x) true w))

def F_num_Fit_uint32_int64 (x : Int) (R : Int → Bool → World → Prop) (w : World) : Prop :=
  ((((IntKind.i64.wrap (IntKind.u32.wrap x)) != x) || (!((decide (x < 0)) == (decide ((IntKind.u32.wrap x) < 0))))) = true → (R 0 false w)) ∧
  ((((IntKind.i64.wrap (IntKind.u32.wrap x)) != x) || (!((decide (x < 0)) == (decide ((IntKind.u32.wrap x) < 0))))) = false → (R (IntKind.u32.wrap x) true w))

def F_num_Fit_uint64_int64 (x : Int) (R : Int → Bool → World → Prop) (w : World) : Prop :=
  ((((IntKind.i64.wrap (IntKind.u64.wrap x)) != x) || (!((decide (x < 0)) == (decide ((IntKind.u64.wrap x) < 0))))) = true → (R 0 false w)) ∧
  ((((IntKind.i64.wrap (IntKind.u64.wrap x)) != x) || (!((decide (x < 0)) == (decide ((IntKind.u64.wrap x) < 0))))) = false → (R (IntKind.u64.wrap x) true w))

def F_towpathlaw01_size (x : Int) (R : Int → World → Prop) (w : World) : Prop :=
  ((decide (x < 0)) = true → (R (IntKind.u64.wrap (0 - (IntKind.u64.wrap x))) w)) ∧
  ((decide (x < 0)) = false → (R (IntKind.u64.wrap x) w))

def F_towpathlaw01_fits (ok : Bool) (got : Int) (x : Int) (want : Bool) (R : Bool → World → Prop) (w : World) : Prop :=
  ((!want) = true → (R ((!ok) && (got == 0)) w)) ∧
  ((!want) = false → (R (ok && (got == x)) w))

def F_towpathref01_In_k0 (neg : Bool) (size : Int) (R : Bool → World → Prop) (room : Int) (w1 : World) : Prop :=
  ((decide (room ≥ 64)) = true → (R true w1)) ∧
  ((decide (room ≥ 64)) = false → (C_towpathref01_power room w1 (fun (v25 : Int) w2 => R ((decide (size < v25)) || (neg && (size == v25))) w2)))

def F_towpathref01_In (neg : Bool) (size : Int) (bits : Int) (signed : Bool) (R : Bool → World → Prop) (w : World) : Prop :=
  ((size == 0) = true → (R true w)) ∧
  ((size == 0) = false → (((neg && (!signed)) = true → (R false w)) ∧
  ((neg && (!signed)) = false → ((signed = true → (F_towpathref01_In_k0 neg size R (IntKind.i64.wrap (bits - 1)) w)) ∧
  (signed = false → (F_towpathref01_In_k0 neg size R bits w))))))

def F_num_Fit_int8_uint64 (x : Int) (R : Int → Bool → World → Prop) (w : World) : Prop :=
  ((((IntKind.u64.wrap (IntKind.i8.wrap x)) != x) || (!((decide (x < 0)) == (decide ((IntKind.i8.wrap x) < 0))))) = true → (R 0 false w)) ∧
  ((((IntKind.u64.wrap (IntKind.i8.wrap x)) != x) || (!((decide (x < 0)) == (decide ((IntKind.i8.wrap x) < 0))))) = false → (R (IntKind.i8.wrap x) true w))

def F_num_Fit_int16_uint64 (x : Int) (R : Int → Bool → World → Prop) (w : World) : Prop :=
  ((((IntKind.u64.wrap (IntKind.i16.wrap x)) != x) || (!((decide (x < 0)) == (decide ((IntKind.i16.wrap x) < 0))))) = true → (R 0 false w)) ∧
  ((((IntKind.u64.wrap (IntKind.i16.wrap x)) != x) || (!((decide (x < 0)) == (decide ((IntKind.i16.wrap x) < 0))))) = false → (R (IntKind.i16.wrap x) true w))

def F_num_Fit_int32_uint64 (x : Int) (R : Int → Bool → World → Prop) (w : World) : Prop :=
  ((((IntKind.u64.wrap (IntKind.i32.wrap x)) != x) || (!((decide (x < 0)) == (decide ((IntKind.i32.wrap x) < 0))))) = true → (R 0 false w)) ∧
  ((((IntKind.u64.wrap (IntKind.i32.wrap x)) != x) || (!((decide (x < 0)) == (decide ((IntKind.i32.wrap x) < 0))))) = false → (R (IntKind.i32.wrap x) true w))

def F_num_Fit_int64_uint64 (x : Int) (R : Int → Bool → World → Prop) (w : World) : Prop :=
  ((((IntKind.u64.wrap (IntKind.i64.wrap x)) != x) || (!((decide (x < 0)) == (decide ((IntKind.i64.wrap x) < 0))))) = true → (R 0 false w)) ∧
  ((((IntKind.u64.wrap (IntKind.i64.wrap x)) != x) || (!((decide (x < 0)) == (decide ((IntKind.i64.wrap x) < 0))))) = false → (R (IntKind.i64.wrap x) true w))

def F_num_Fit_int_uint64 (x : Int) (R : Int → Bool → World → Prop) (w : World) : Prop :=
  ((((IntKind.u64.wrap (IntKind.i64.wrap x)) != x) || (!((decide (x < 0)) == (decide ((IntKind.i64.wrap x) < 0))))) = true → (R 0 false w)) ∧
  ((((IntKind.u64.wrap (IntKind.i64.wrap x)) != x) || (!((decide (x < 0)) == (decide ((IntKind.i64.wrap x) < 0))))) = false → (R (IntKind.i64.wrap x) true w))

def F_num_Fit_uint8_uint64 (x : Int) (R : Int → Bool → World → Prop) (w : World) : Prop :=
  ((((IntKind.u64.wrap (IntKind.u8.wrap x)) != x) || (!((decide (x < 0)) == (decide ((IntKind.u8.wrap x) < 0))))) = true → (R 0 false w)) ∧
  ((((IntKind.u64.wrap (IntKind.u8.wrap x)) != x) || (!((decide (x < 0)) == (decide ((IntKind.u8.wrap x) < 0))))) = false → (R (IntKind.u8.wrap x) true w))

def F_num_Fit_towpathlaw01_Named_uint64 (x : Int) (R : Int → Bool → World → Prop) (w : World) : Prop :=
  ((((IntKind.u64.wrap (IntKind.u16.wrap x)) != x) || (!((decide (x < 0)) == (decide ((IntKind.u16.wrap x) < 0))))) = true → (R 0 false w)) ∧
  ((((IntKind.u64.wrap (IntKind.u16.wrap x)) != x) || (!((decide (x < 0)) == (decide ((IntKind.u16.wrap x) < 0))))) = false → (R (IntKind.u16.wrap x) true w))

def F_num_Fit_uint32_uint64 (x : Int) (R : Int → Bool → World → Prop) (w : World) : Prop :=
  ((((IntKind.u64.wrap (IntKind.u32.wrap x)) != x) || (!((decide (x < 0)) == (decide ((IntKind.u32.wrap x) < 0))))) = true → (R 0 false w)) ∧
  ((((IntKind.u64.wrap (IntKind.u32.wrap x)) != x) || (!((decide (x < 0)) == (decide ((IntKind.u32.wrap x) < 0))))) = false → (R (IntKind.u32.wrap x) true w))

def F_num_Fit_uint64_uint64 (x : Int) (R : Int → Bool → World → Prop) (w : World) : Prop :=
  (((x != x) || (!((decide (x < 0)) == (decide (x < 0))))) = true → (R 0 false w)) ∧
  (((x != x) || (!((decide (x < 0)) == (decide (x < 0))))) = false → (R x true w))

def F_num_Fit_int8_towpathlaw01_Named (x : Int) (R : Int → Bool → World → Prop) (w : World) : Prop :=
  ((((IntKind.u16.wrap (IntKind.i8.wrap x)) != x) || (!((decide (x < 0)) == (decide ((IntKind.i8.wrap x) < 0))))) = true → (R 0 false w)) ∧
  ((((IntKind.u16.wrap (IntKind.i8.wrap x)) != x) || (!((decide (x < 0)) == (decide ((IntKind.i8.wrap x) < 0))))) = false → (R (IntKind.i8.wrap x) true w))

def F_towpathlaw01_bare (ok : Bool) (got : Int) (x : Int) (want : Bool) (R : Bool → World → Prop) (w : World) : Prop :=
  ((!want) = true → (R ((!ok) && (got == 0)) w)) ∧
  ((!want) = false → (R (ok && (got == x)) w))

def F_towpathlaw01_Beyond_L0 (l_ : Slc) (R : Bool → World → Prop) (again_ : Int → Int → World → Prop) (n_ : Int) (i : Int) (w1 : World) : Prop :=
  ((decide (i < ((l_.len : Nat) : Int))) = true → (IsAt l_.ptr ∧ (0 ≤ i ∧ i < ((l_.len : Nat) : Int) ∧ (∃ (v15 : Int), w1.cell? ⟨(pblk l_.ptr), (poff l_.ptr) + i.toNat, none⟩ = some (Value.int .i64 v15) ∧ (((decide ((IntKind.i64.wrap (n_ + v15)) > 1048576)) = true → (R true w1)) ∧
  ((decide ((IntKind.i64.wrap (n_ + v15)) > 1048576)) = false → (again_ (IntKind.i64.wrap (n_ + v15)) (IntKind.i64.wrap (i + 1)) w1))))))) ∧
  ((decide (i < ((l_.len : Nat) : Int))) = false → (R false w1))

def F_towpathlaw01_Beyond (l_ : Slc) (R : Bool → World → Prop) (w : World) : Prop :=
  ∃ (I : Int → Int → World → Prop) (μ : Int → Int → World → Nat), I 0 0 w ∧
  ∀ (n_ : Int) (i : Int) w, I n_ i w → F_towpathlaw01_Beyond_L0 l_ R (fun (n_' : Int) (i' : Int) w' => I n_' i' w' ∧ μ n_' i' w' < μ n_ i w) n_ i w

def F_sum_Hash_L0 (key : ByteArray) (R : Int → World → Prop) (again_ : Int → Int → World → Prop) (h_ : Int) (t7 : Int) (w1 : World) : Prop :=
  ((decide (t7 < ((key.size : Nat) : Int))) = true → (0 ≤ t7 ∧ t7 < ((key.size : Nat) : Int) ∧ (again_ (IntKind.u32.wrap ((bxor .u32 h_ (IntKind.u32.wrap (byteAt key t7))) * 16777619)) (IntKind.i64.wrap (t7 + 1)) w1))) ∧
  ((decide (t7 < ((key.size : Nat) : Int))) = false → (R h_ w1))

def F_sum_Hash (key : ByteArray) (R : Int → World → Prop) (w : World) : Prop :=
  ∃ (I : Int → Int → World → Prop) (μ : Int → Int → World → Nat), I 2166136261 0 w ∧
  ∀ (h_ : Int) (t7 : Int) w, I h_ t7 w → F_sum_Hash_L0 key R (fun (h_' : Int) (t7' : Int) w' => I h_' t7' w' ∧ μ h_' t7' w' < μ h_ t7 w) h_ t7 w

def F_towpathref03_Hash_L0 (key : ByteArray) (R : Int → World → Prop) (again_ : Int → Int → World → Prop) (h_ : Int) (i : Int) (w1 : World) : Prop :=
  ((decide (i < ((key.size : Nat) : Int))) = true → (0 ≤ i ∧ i < ((key.size : Nat) : Int) ∧ (again_ (IntKind.u32.wrap ((bxor .u32 h_ (IntKind.u32.wrap (byteAt key i))) * 16777619)) (IntKind.i64.wrap (i + 1)) w1))) ∧
  ((decide (i < ((key.size : Nat) : Int))) = false → (R h_ w1))

def F_towpathref03_Hash (key : ByteArray) (R : Int → World → Prop) (w : World) : Prop :=
  ∃ (I : Int → Int → World → Prop) (μ : Int → Int → World → Nat), I 2166136261 0 w ∧
  ∀ (h_ : Int) (i : Int) w, I h_ i w → F_towpathref03_Hash_L0 key R (fun (h_' : Int) (i' : Int) w' => I h_' i' w' ∧ μ h_' i' w' < μ h_ i w) h_ i w

def F_num_Turn (x : Int) (n_ : Int) (R : Int → World → Prop) (w : World) : Prop :=
  C_math_bits_RotateLeft32 x (band .i64 n_ 31) w (fun (v8 : Int) w1 => R v8 w1)

def F_towpathref01_Turn_L1 (R : Int → World → Prop) (k : Int) (again_ : Int → Int → World → Prop) (x1 : Int) (i : Int) (w2 : World) : Prop :=
  ((decide (i < k)) = true → (again_ (IntKind.u32.wrap ((IntKind.u32.wrap (2 * x1)) + (IntKind.u32.wrap (Int.tdiv x1 2147483648)))) (IntKind.i64.wrap (i + 1)) w2)) ∧
  ((decide (i < k)) = false → (R x1 w2))

def F_towpathref01_Turn_k0 (x : Int) (R : Int → World → Prop) (k : Int) (w1 : World) : Prop :=
  ∃ (I : Int → Int → World → Prop) (μ : Int → Int → World → Nat), I x 0 w1 ∧
  ∀ (x1 : Int) (i : Int) w, I x1 i w → F_towpathref01_Turn_L1 R k (fun (x1' : Int) (i' : Int) w' => I x1' i' w' ∧ μ x1' i' w' < μ x1 i w) x1 i w

def F_towpathref01_Turn (x : Int) (n_ : Int) (R : Int → World → Prop) (w : World) : Prop :=
  ((decide ((Int.tmod n_ 32) < 0)) = true → (F_towpathref01_Turn_k0 x R (IntKind.i64.wrap ((Int.tmod n_ 32) + 32)) w)) ∧
  ((decide ((Int.tmod n_ 32) < 0)) = false → (F_towpathref01_Turn_k0 x R (Int.tmod n_ 32) w))

def F_num_Zigzag (x : Int) (R : Int → World → Prop) (w : World) : Prop :=
  R (bxor .u64 (IntKind.u64.wrap ((IntKind.u64.wrap x) * 2 ^ 1)) (IntKind.u64.wrap (Int.fdiv x (2 ^ 63)))) w

def F_towpathref01_Zigzag (x : Int) (R : Int → World → Prop) (w : World) : Prop :=
  ((decide (x ≥ 0)) = true → (R (IntKind.u64.wrap (2 * (IntKind.u64.wrap x))) w)) ∧
  ((decide (x ≥ 0)) = false → (R (IntKind.u64.wrap ((IntKind.u64.wrap (2 * (IntKind.u64.wrap (IntKind.i64.wrap ((-1) - x))))) + 1)) w))

def F_num_Zagzig (x : Int) (R : Int → World → Prop) (w : World) : Prop :=
  R (bxor .i64 (IntKind.i64.wrap (Int.fdiv x (2 ^ 1))) (IntKind.i64.wrap (0 - (IntKind.i64.wrap (band .u64 x 1))))) w

def F_towpathref01_Zagzig (x : Int) (R : Int → World → Prop) (w : World) : Prop :=
  (((Int.tmod x 2) == 0) = true → (R (IntKind.i64.wrap (IntKind.u64.wrap (Int.tdiv x 2))) w)) ∧
  (((Int.tmod x 2) == 0) = false → (R (IntKind.i64.wrap ((-1) - (IntKind.i64.wrap (IntKind.u64.wrap (Int.tdiv x 2))))) w))

def F_num_Bits (x : Int) (from_ : Int) (n_ : Int) (R : Int → Bool → World → Prop) (w : World) : Prop :=
  C_num_many from_ n_ w (fun (v10 : Bool) w1 => ((!v10) = true → (R 0 false w1)) ∧
  ((!v10) = false → (0 ≤ from_ ∧ (0 ≤ n_ ∧ (∀ w2, (∃ k, w2 = w1.drewN k) → (R (band .u64 (Int.fdiv x (2 ^ (min from_.toNat 64))) (IntKind.u64.wrap ((IntKind.u64.wrap (1 * 2 ^ (min n_.toNat 64))) - 1))) true w2))))))

def F_num_Put_k0 (x : Int) (from_ : Int) (n_ : Int) (v : Int) (R : Int → Bool → World → Prop) (t19 : Bool) (w1 : World) : Prop :=
  (t19 = true → (R 0 false w1)) ∧
  (t19 = false → (0 ≤ n_ ∧ (0 ≤ from_ ∧ (0 ≤ from_ ∧ (∀ w2, (∃ k, w2 = w1.drewN k) → (R (bor .u64 (bandnot .u64 x (IntKind.u64.wrap ((IntKind.u64.wrap ((IntKind.u64.wrap (1 * 2 ^ (min n_.toNat 64))) - 1)) * 2 ^ (min from_.toNat 64)))) (IntKind.u64.wrap (v * 2 ^ (min from_.toNat 64)))) true w2))))))

def F_num_Put (x : Int) (from_ : Int) (n_ : Int) (v : Int) (R : Int → Bool → World → Prop) (w : World) : Prop :=
  C_num_many from_ n_ w (fun (v12 : Bool) w3 => ((!v12) = true → (F_num_Put_k0 x from_ n_ v R true w3)) ∧
  ((!v12) = false → (0 ≤ n_ ∧ (F_num_Put_k0 x from_ n_ v R ((Int.fdiv v (2 ^ (min n_.toNat 64))) != 0) w3))))

def F_towpathref01_Bits_L0 (x : Int) (from_ : Int) (R : Int → Bool → World → Prop) (again_ : Int → Int → World → Prop) (v : Int) (i : Int) (w2 : World) : Prop :=
  ((decide (i ≥ 0)) = true → (C_towpathref01_bit x (IntKind.i64.wrap (from_ + i)) w2 (fun (v26 : Int) w3 => again_ (IntKind.u64.wrap ((IntKind.u64.wrap (2 * v)) + v26)) (IntKind.i64.wrap (i - 1)) w3))) ∧
  ((decide (i ≥ 0)) = false → (R v true w2))

def F_towpathref01_Bits (x : Int) (from_ : Int) (n_ : Int) (R : Int → Bool → World → Prop) (w : World) : Prop :=
  C_towpathref01_Many from_ n_ w (fun (v12 : Bool) w1 => ((!v12) = true → (R 0 false w1)) ∧
  ((!v12) = false → (∃ (I : Int → Int → World → Prop) (μ : Int → Int → World → Nat), I 0 (IntKind.i64.wrap (n_ - 1)) w1 ∧
  ∀ (v : Int) (i : Int) w, I v i w → F_towpathref01_Bits_L0 x from_ R (fun (v' : Int) (i' : Int) w' => I v' i' w' ∧ μ v' i' w' < μ v i w) v i w)))

def F_towpathref01_Put_k2 (out : Int) (i : Int) (again_ : Int → Int → World → Prop) (b_ : Int) (w4 : World) : Prop :=
  again_ (IntKind.u64.wrap ((IntKind.u64.wrap (2 * out)) + b_)) (IntKind.i64.wrap (i - 1)) w4

def F_towpathref01_Put_L1 (x : Int) (from_ : Int) (n_ : Int) (v : Int) (R : Int → Bool → World → Prop) (again_ : Int → Int → World → Prop) (out : Int) (i : Int) (w2 : World) : Prop :=
  ((decide (i ≥ 0)) = true → (C_towpathref01_bit x i w2 (fun (v33 : Int) w3 => (((decide (i ≥ from_)) && (decide (i < (IntKind.i64.wrap (from_ + n_))))) = true → (C_towpathref01_bit v (IntKind.i64.wrap (i - from_)) w3 (fun (v48 : Int) w5 => F_towpathref01_Put_k2 out i again_ v48 w5))) ∧
  (((decide (i ≥ from_)) && (decide (i < (IntKind.i64.wrap (from_ + n_))))) = false → (F_towpathref01_Put_k2 out i again_ v33 w3))))) ∧
  ((decide (i ≥ 0)) = false → (R out true w2))

def F_towpathref01_Put_k0 (x : Int) (from_ : Int) (n_ : Int) (v : Int) (R : Int → Bool → World → Prop) (t26 : Bool) (w1 : World) : Prop :=
  (t26 = true → (R 0 false w1)) ∧
  (t26 = false → (∃ (I : Int → Int → World → Prop) (μ : Int → Int → World → Nat), I 0 63 w1 ∧
  ∀ (out : Int) (i : Int) w, I out i w → F_towpathref01_Put_L1 x from_ n_ v R (fun (out' : Int) (i' : Int) w' => I out' i' w' ∧ μ out' i' w' < μ out i w) out i w))

def F_towpathref01_Put (x : Int) (from_ : Int) (n_ : Int) (v : Int) (R : Int → Bool → World → Prop) (w : World) : Prop :=
  C_towpathref01_Many from_ n_ w (fun (v15 : Bool) w6 => ((!v15) = true → (F_towpathref01_Put_k0 x from_ n_ v R true w6)) ∧
  ((!v15) = false → (((decide (n_ < 64)) = true → (C_towpathref01_power n_ w6 (fun (v23 : Int) w7 => F_towpathref01_Put_k0 x from_ n_ v R (decide (v ≥ v23)) w7))) ∧
  ((decide (n_ < 64)) = false → (F_towpathref01_Put_k0 x from_ n_ v R false w6)))))

def F_towpathlaw01_TwinBytes_L0 (l_ : Slc) (R : Slc → World → Prop) (again_ : Slc → Int → World → Prop) (t_ : Slc) (i : Int) (w2 : World) : Prop :=
  ((decide (i < ((l_.len : Nat) : Int))) = true → (IsAt l_.ptr ∧ (0 ≤ i ∧ i < ((l_.len : Nat) : Int) ∧ (∃ (v19 : Int), w2.cell? ⟨(pblk l_.ptr), (poff l_.ptr) + i.toNat, none⟩ = some (Value.int .u8 v19) ∧ (∀ b_1 w3, b_1 = w2.heap.size → w3 = w2.alloc (Obj.cells ([Value.int .u8 v19]).toArray ty_uint8 (0, 0)) → (∃ src, SrcAt w3 (Slc.mk (some ⟨b_1, 0, none⟩) 1 1) 1 src ∧ AppendW 1 1 ty_uint8 [Value.int .u8 0] t_ src 1 w3 (fun t_1 w4 => again_ t_1 (IntKind.i64.wrap (i + 1)) w4))))))) ∧
  ((decide (i < ((l_.len : Nat) : Int))) = false → (∀ b_2 w5, b_2 = w2.heap.size → w5 = w2.alloc (Obj.cells ([Value.int .u8 77]).toArray ty_uint8 (0, 0)) → (∃ src, SrcAt w5 (Slc.mk (some ⟨b_2, 0, none⟩) 1 1) 1 src ∧ AppendW 1 1 ty_uint8 [Value.int .u8 0] t_ src 1 w5 (fun v24 w6 => 0 ≤ ((l_.len : Nat) : Int) ∧ ((l_.len : Nat) : Int) ≤ ((v24.cap : Nat) : Int) ∧ (R (Slc.mk v24.ptr (((l_.len : Nat) : Int).toNat) v24.cap) w6)))))

def F_towpathlaw01_TwinBytes (l_ : Slc) (R : Slc → World → Prop) (w : World) : Prop :=
  0 ≤ (0 : Int) ∧ (0 : Int) ≤ IntKind.i64.wrap (((l_.len : Nat) : Int) + 1) ∧ (1 : Int) * (IntKind.i64.wrap (((l_.len : Nat) : Int) + 1)) ≤ 281474976710656 ∧ (∀ b_ w1, b_ = w.heap.size → w1 = w.alloc (Obj.cells (repCells ((IntKind.i64.wrap (((l_.len : Nat) : Int) + 1)).toNat) [Value.int .u8 0]) ty_uint8 (0, 0)) → (∃ (I : Slc → Int → World → Prop) (μ : Slc → Int → World → Nat), I (Slc.mk (some ⟨b_, 0, none⟩) 0 ((IntKind.i64.wrap (((l_.len : Nat) : Int) + 1)).toNat)) 0 w1 ∧
  ∀ (t_ : Slc) (i : Int) w, I t_ i w → F_towpathlaw01_TwinBytes_L0 l_ R (fun (t_' : Slc) (i' : Int) w' => I t_' i' w' ∧ μ t_' i' w' < μ t_ i w) t_ i w))

def F_sum_CRC (b_ : Slc) (R : Int → World → Prop) (w : World) : Prop :=
  C_sum_More 0 b_ w (fun (v4 : Int) w1 => R v4 w1)

def F_towpathref03_CRC (b_ : Slc) (R : Int → World → Prop) (w : World) : Prop :=
  C_towpathref03_More 0 b_ w (fun (v4 : Int) w1 => R v4 w1)

def F_sum_More_L0 (b_ : Slc) (R : Int → World → Prop) (b_1 : Nat) (again_ : Int → Int → World → Prop) (c : Int) (t14 : Int) (w4 : World) : Prop :=
  ((decide (t14 < ((b_.len : Nat) : Int))) = true → (IsAt b_.ptr ∧ (0 ≤ t14 ∧ t14 < ((b_.len : Nat) : Int) ∧ (∃ (x : Int), w4.cell? ⟨(pblk b_.ptr), (poff b_.ptr) + t14.toNat, none⟩ = some (Value.int .u8 x) ∧ (0 ≤ bxor .u8 (IntKind.u8.wrap c) x ∧ bxor .u8 (IntKind.u8.wrap c) x < (256 : Int) ∧ (∃ (v23 : Int), w4.cell? ⟨b_1, 0 + (bxor .u8 (IntKind.u8.wrap c) x).toNat, none⟩ = some (Value.int .u32 v23) ∧ (again_ (bxor .u32 v23 (Int.fdiv c (2 ^ 8))) (IntKind.i64.wrap (t14 + 1)) w4))))))) ∧
  ((decide (t14 < ((b_.len : Nat) : Int))) = false → (R (bxor .u32 (IntKind.max .u32) c) w4))

def F_sum_More (sum : Int) (b_ : Slc) (R : Int → World → Prop) (w : World) : Prop :=
  C_sum_table w (fun (v9 : List Int) w1 => (v9.length = 256) → ∀ b_1 w2, b_1 = w1.heap.size → w2 = w1.alloc (Obj.cells ((List.map (Value.int .u32) (List.replicate 256 0))).toArray ty_256_uint32 (0, 0)) → (Writable w2 b_1 0 256 ∧ (∀ w3, w3 = World.puts b_1 0 (List.map (Value.int .u32) v9) w2 → (∃ (I : Int → Int → World → Prop) (μ : Int → Int → World → Nat), I (bxor .u32 (IntKind.max .u32) sum) 0 w3 ∧
  ∀ (c : Int) (t14 : Int) w, I c t14 w → F_sum_More_L0 b_ R b_1 (fun (c' : Int) (t14' : Int) w' => I c' t14' w' ∧ μ c' t14' w' < μ c t14 w) c t14 w))))

def F_towpathref03_More_k2 (k : Int) (again_1 : Int → Int → World → Prop) (c2 : Int) (w3 : World) : Prop :=
  again_1 c2 (IntKind.i64.wrap (k + 1)) w3

def F_towpathref03_More_L1 (i : Int) (again_ : Int → Int → World → Prop) (again_1 : Int → Int → World → Prop) (c1 : Int) (k : Int) (w2 : World) : Prop :=
  ((decide (k < 8)) = true → ((((Int.tmod c1 2) == 1) = true → (F_towpathref03_More_k2 k again_1 (bxor .u32 (IntKind.u32.wrap (Int.tdiv c1 2)) 2197175160) w2)) ∧
  (((Int.tmod c1 2) == 1) = false → (F_towpathref03_More_k2 k again_1 (IntKind.u32.wrap (Int.tdiv c1 2)) w2)))) ∧
  ((decide (k < 8)) = false → (again_ c1 (IntKind.i64.wrap (i + 1)) w2))

def F_towpathref03_More_L0 (b_ : Slc) (R : Int → World → Prop) (again_ : Int → Int → World → Prop) (c : Int) (i : Int) (w1 : World) : Prop :=
  ((decide (i < ((b_.len : Nat) : Int))) = true → (IsAt b_.ptr ∧ (0 ≤ i ∧ i < ((b_.len : Nat) : Int) ∧ (∃ (v21 : Int), w1.cell? ⟨(pblk b_.ptr), (poff b_.ptr) + i.toNat, none⟩ = some (Value.int .u8 v21) ∧ (∃ (I : Int → Int → World → Prop) (μ : Int → Int → World → Nat), I (bxor .u32 c (IntKind.u32.wrap v21)) 0 w1 ∧
  ∀ (c1 : Int) (k : Int) w, I c1 k w → F_towpathref03_More_L1 i again_ (fun (c1' : Int) (k' : Int) w' => I c1' k' w' ∧ μ c1' k' w' < μ c1 k w) c1 k w))))) ∧
  ((decide (i < ((b_.len : Nat) : Int))) = false → (R (IntKind.u32.wrap (4294967295 - c)) w1))

def F_towpathref03_More (sum : Int) (b_ : Slc) (R : Int → World → Prop) (w : World) : Prop :=
  ∃ (I : Int → Int → World → Prop) (μ : Int → Int → World → Nat), I (IntKind.u32.wrap (4294967295 - sum)) 0 w ∧
  ∀ (c : Int) (i : Int) w, I c i w → F_towpathref03_More_L0 b_ R (fun (c' : Int) (i' : Int) w' => I c' i' w' ∧ μ c' i' w' < μ c i w) c i w

def F_towpathlaw01_LeftBytes_L0 (t_ : Slc) (l_ : Slc) (R : Bool → World → Prop) (again_ : Int → World → Prop) (i : Int) (w1 : World) : Prop :=
  ((decide (i < ((l_.len : Nat) : Int))) = true → (IsAt t_.ptr ∧ (0 ≤ i ∧ i < ((t_.len : Nat) : Int) ∧ (∃ (v28 : Int), w1.cell? ⟨(pblk t_.ptr), (poff t_.ptr) + i.toNat, none⟩ = some (Value.int .u8 v28) ∧ (IsAt l_.ptr ∧ (0 ≤ i ∧ i < ((l_.len : Nat) : Int) ∧ (∃ (v32 : Int), w1.cell? ⟨(pblk l_.ptr), (poff l_.ptr) + i.toNat, none⟩ = some (Value.int .u8 v32) ∧ (∀ w2, (∃ k, w2 = w1.drewN k) → (((v28 != v32) = true → (R false w2)) ∧
  ((v28 != v32) = false → (again_ (IntKind.i64.wrap (i + 1)) w2))))))))))) ∧
  ((decide (i < ((l_.len : Nat) : Int))) = false → (0 ≤ IntKind.i64.wrap (((l_.len : Nat) : Int) + 1) ∧ IntKind.i64.wrap (((l_.len : Nat) : Int) + 1) ≤ ((t_.cap : Nat) : Int) ∧ (IsAt t_.ptr ∧ (0 ≤ ((l_.len : Nat) : Int) ∧ ((l_.len : Nat) : Int) < (((IntKind.i64.wrap (((l_.len : Nat) : Int) + 1)).toNat : Nat) : Int) ∧ (∃ (x : Int), w1.cell? ⟨(pblk t_.ptr), (poff t_.ptr) + ((l_.len : Nat) : Int).toNat, none⟩ = some (Value.int .u8 x) ∧ (R (x == 77) w1))))))

def F_towpathlaw01_LeftBytes (t_ : Slc) (l_ : Slc) (R : Bool → World → Prop) (w : World) : Prop :=
  (((((t_.len : Nat) : Int) != ((l_.len : Nat) : Int)) || (decide (((t_.cap : Nat) : Int) ≤ ((l_.len : Nat) : Int)))) = true → (R false w)) ∧
  (((((t_.len : Nat) : Int) != ((l_.len : Nat) : Int)) || (decide (((t_.cap : Nat) : Int) ≤ ((l_.len : Nat) : Int)))) = false → (∃ (I : Int → World → Prop) (μ : Int → World → Nat), I 0 w ∧
  ∀ (i : Int) w, I i w → F_towpathlaw01_LeftBytes_L0 t_ l_ R (fun (i' : Int) w' => I i' w' ∧ μ i' w' < μ i w) i w))

def F_num_Fit_int64_int16 (x : Int) (R : Int → Bool → World → Prop) (w : World) : Prop :=
  ((((IntKind.i16.wrap (IntKind.i64.wrap x)) != x) || (!((decide (x < 0)) == (decide ((IntKind.i64.wrap x) < 0))))) = true → (R 0 false w)) ∧
  ((((IntKind.i16.wrap (IntKind.i64.wrap x)) != x) || (!((decide (x < 0)) == (decide ((IntKind.i64.wrap x) < 0))))) = false → (R (IntKind.i64.wrap x) true w))

def F_num_Fit_uint64_uint32 (x : Int) (R : Int → Bool → World → Prop) (w : World) : Prop :=
  ((((IntKind.u32.wrap (IntKind.u64.wrap x)) != x) || (!((decide (x < 0)) == (decide ((IntKind.u64.wrap x) < 0))))) = true → (R 0 false w)) ∧
  ((((IntKind.u32.wrap (IntKind.u64.wrap x)) != x) || (!((decide (x < 0)) == (decide ((IntKind.u64.wrap x) < 0))))) = false → (R (IntKind.u64.wrap x) true w))

def F_towpathlaw01_alive (R : Bool → World → Prop) (w : World) : Prop :=
  C_num_Fit_int8_int 127 w (fun (a_ : Int) (ok : Bool) w1 => C_num_Fit_int8_int 128 w1 (fun (v14 : Int) (no : Bool) w2 => C_num_Bits 43981 4 8 w2 (fun (b_ : Int) (is : Bool) w3 => C_num_Put 43981 4 8 18 w3 (fun (c : Int) (put : Bool) w4 => ((((((((a_ == 127) && ok) && (!no)) && (b_ == 188)) && is) && (c == 41261)) && put) = true → (C_num_Turn 2147483649 1 w4 (fun (v49 : Int) w5 => ((v49 == 3) = true → (C_num_Zigzag (-2) w5 (fun (v53 : Int) w6 => ((v53 == 3) = true → (C_num_Zagzig 3 w6 (fun (v57 : Int) w7 => R (v57 == (-2)) w7))) ∧
  ((v53 == 3) = false → (R false w6))))) ∧
  ((v49 == 3) = false → (R false w5))))) ∧
  ((((((((a_ == 127) && ok) && (!no)) && (b_ == 188)) && is) && (c == 41261)) && put) = false → (R false w4))))))

def F_towpathref01_power_L0 (n_ : Int) (R : Int → World → Prop) (again_ : Int → Int → World → Prop) (p : Int) (i : Int) (w1 : World) : Prop :=
  ((decide (i < n_)) = true → (again_ (IntKind.u64.wrap (2 * p)) (IntKind.i64.wrap (i + 1)) w1)) ∧
  ((decide (i < n_)) = false → (R p w1))

def F_towpathref01_power (n_ : Int) (R : Int → World → Prop) (w : World) : Prop :=
  ∃ (I : Int → Int → World → Prop) (μ : Int → Int → World → Nat), I 1 0 w ∧
  ∀ (p : Int) (i : Int) w, I p i w → F_towpathref01_power_L0 n_ R (fun (p' : Int) (i' : Int) w' => I p' i' w' ∧ μ p' i' w' < μ p i w) p i w

def F_math_bits_RotateLeft32 (x : Int) (k : Int) (R : Int → World → Prop) (w : World) : Prop :=
  0 ≤ band .u64 (IntKind.u64.wrap k) 31 ∧ (0 ≤ IntKind.u64.wrap (32 - (band .u64 (IntKind.u64.wrap k) 31)) ∧ (R (bor .u32 (IntKind.u32.wrap (x * 2 ^ (min (band .u64 (IntKind.u64.wrap k) 31).toNat 32))) (Int.fdiv x (2 ^ (min (IntKind.u64.wrap (32 - (band .u64 (IntKind.u64.wrap k) 31))).toNat 32)))) w))

def F_num_many (from_ : Int) (n_ : Int) (R : Bool → World → Prop) (w : World) : Prop :=
  R ((((decide (from_ ≥ 0)) && (decide (n_ ≥ 0))) && (decide (from_ ≤ 64))) && (decide (n_ ≤ (IntKind.i64.wrap (64 - from_))))) w

def F_towpathref01_Many (from_ : Int) (n_ : Int) (R : Bool → World → Prop) (w : World) : Prop :=
  R ((((decide (from_ ≥ 0)) && (decide (n_ ≥ 0))) && (decide (from_ ≤ 64))) && (decide (n_ ≤ (IntKind.i64.wrap (64 - from_))))) w

def F_towpathref01_bit_L0 (at_ : Int) (R : Int → World → Prop) (again_ : Int → Int → World → Prop) (x1 : Int) (i : Int) (w1 : World) : Prop :=
  ((decide (i < at_)) = true → (again_ (IntKind.u64.wrap (Int.tdiv x1 2)) (IntKind.i64.wrap (i + 1)) w1)) ∧
  ((decide (i < at_)) = false → (R (Int.tmod x1 2) w1))

def F_towpathref01_bit (x : Int) (at_ : Int) (R : Int → World → Prop) (w : World) : Prop :=
  ∃ (I : Int → Int → World → Prop) (μ : Int → Int → World → Nat), I x 0 w ∧
  ∀ (x1 : Int) (i : Int) w, I x1 i w → F_towpathref01_bit_L0 at_ R (fun (x1' : Int) (i' : Int) w' => I x1' i' w' ∧ μ x1' i' w' < μ x1 i w) x1 i w

def F_sum_table_L1 (b_1 : Nat) (t4 : Int) (again_ : Int → World → Prop) (again_1 : Int → Int → World → Prop) (c : Int) (t9 : Int) (w4 : World) : Prop :=
  ((decide (t9 < 8)) = true → (again_1 (bxor .u32 (Int.fdiv c (2 ^ 1)) (band .u32 2197175160 (IntKind.u32.wrap (0 - (band .u32 c 1))))) (IntKind.i64.wrap (t9 + 1)) w4)) ∧
  ((decide (t9 < 8)) = false → (0 ≤ t4 ∧ t4 < (256 : Int) ∧ (Writable w4 b_1 (0 + t4.toNat) 1 ∧ (∀ w5, w5 = World.puts b_1 (0 + t4.toNat) [Value.int .u32 c] w4 → (again_ (IntKind.i64.wrap (t4 + 1)) w5)))))

def F_sum_table_L0 (R : List Int → World → Prop) (b_ : Nat) (b_1 : Nat) (again_ : Int → World → Prop) (t4 : Int) (w3 : World) : Prop :=
  ((decide (t4 < 256)) = true → (∃ (I : Int → Int → World → Prop) (μ : Int → Int → World → Nat), I (IntKind.u32.wrap t4) 0 w3 ∧
  ∀ (c : Int) (t9 : Int) w, I c t9 w → F_sum_table_L1 b_1 t4 again_ (fun (c' : Int) (t9' : Int) w' => I c' t9' w' ∧ μ c' t9' w' < μ c t9 w) c t9 w)) ∧
  ((decide (t4 < 256)) = false → (∃ (v23 : List Int), (v23.length = 256) ∧ CellsAt w3 b_1 0 (List.map (Value.int .u32) v23) ∧ (Writable w3 b_ 0 256 ∧ (∀ w6, w6 = World.puts b_ 0 (List.map (Value.int .u32) v23) w3 → (∃ (res : List Int), (res.length = 256) ∧ CellsAt w6 b_ 0 (List.map (Value.int .u32) res) ∧ (R res w6))))))

def F_sum_table (R : List Int → World → Prop) (w : World) : Prop :=
  ∀ b_ w1, b_ = w.heap.size → w1 = w.alloc (Obj.cells ((List.map (Value.int .u32) (List.replicate 256 0))).toArray ty_256_uint32 (0, 0)) → (∀ b_1 w2, b_1 = w1.heap.size → w2 = w1.alloc (Obj.cells ((List.map (Value.int .u32) (List.replicate 256 0))).toArray ty_256_uint32 (0, 0)) → (∃ (I : Int → World → Prop) (μ : Int → World → Nat), I 0 w2 ∧
  ∀ (t4 : Int) w, I t4 w → F_sum_table_L0 R b_ b_1 (fun (t4' : Int) w' => I t4' w' ∧ μ t4' w' < μ t4 w) t4 w))

def F_num_Fit_int8_int (x : Int) (R : Int → Bool → World → Prop) (w : World) : Prop :=
  ((((IntKind.i64.wrap (IntKind.i8.wrap x)) != x) || (!((decide (x < 0)) == (decide ((IntKind.i8.wrap x) < 0))))) = true → (R 0 false w)) ∧
  ((((IntKind.i64.wrap (IntKind.i8.wrap x)) != x) || (!((decide (x < 0)) == (decide ((IntKind.i8.wrap x) < 0))))) = false → (R (IntKind.i8.wrap x) true w))

def Ok_T_towpathlaw01_Place (w : World) (x : T_towpathlaw01_Place) : Prop := ((-9223372036854775808) ≤ x.From ∧ x.From ≤ 9223372036854775807) ∧ ((-9223372036854775808) ≤ x.N ∧ x.N ≤ 9223372036854775807)

end Go.Proofs.Ytmcpljflohlnaaa
