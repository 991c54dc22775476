/- WRITTEN BY PROGRAM (dec.py): for each Go function the clean formula F, the call's contract C, and the proof S that F gives C. -/
import Derived.Test.YtpdegdnigcnjiaaRows
import Derived.Test.YtpdegdnigcnjiaaCore
namespace Go.Proofs.Ytpdegdnigcnjiaa
open Go
set_option linter.unusedVariables false


abbrev ty_int : TypeId := 3

abbrev ty_uint8 : TypeId := 5

abbrev ty_string : TypeId := 9

abbrev ty_sl_api_Held : TypeId := 26

abbrev ty_api_Saved : TypeId := 28

abbrev ty_api_Errno : TypeId := 29

abbrev ty_func_int : TypeId := 60

abbrev ty_api_Config : TypeId := 63

abbrev ty_api_Held : TypeId := 73

abbrev ty_ptr_codec_Reader : TypeId := 82

abbrev ty_func_bool_api_Errno_bool : TypeId := 85

abbrev ty_uint64 : TypeId := 86

abbrev ty_api_Version : TypeId := 89

abbrev ty_2_int : TypeId := 119

abbrev ty_shard_Shard : TypeId := 131

abbrev ty_codec_Reader : TypeId := 135

abbrev ty_codec_Writer : TypeId := 142

abbrev ty_chain_mark : TypeId := 159

structure T_api_Config where
  Lanes : Int
  Shards : Int
  Window : Int
  Queue : Int

structure T_api_Saved where
  Mark : Int
  Beyond : Slc
  Held : Slc

structure T_api_Held where
  Key : ByteArray
  Versions : Slc

structure T_api_Version where
  Number : Int
  Val : ByteArray
  Drop : Bool

structure Arr2_Int where
  e0 : Int
  e1 : Int

structure T_chain_mark where
  l : Slc
  at_ : Int

def C_towpathlaw18_DumpParts (c : T_api_Config) (s : T_api_Saved) (w : World) (R : Bool → World → Prop) : Prop :=
  Calls Try.prog 8 #[Value.agg #[Value.int .i64 c.Lanes, Value.int .i64 c.Shards, Value.int .i64 c.Window, Value.int .i64 c.Queue], Value.agg #[Value.int .i64 s.Mark, Value.slice s.Beyond.ptr s.Beyond.len s.Beyond.cap, Value.slice s.Held.ptr s.Held.len s.Held.cap]] w (fun e w' => ∃ (r0 : Bool), e = .returned (Value.bool r0) ∧ R r0 w')

def C_towpathlaw18_alive (w : World) (R : Bool → World → Prop) : Prop :=
  Calls Try.prog 9 #[] w (fun e w' => ∃ (r0 : Bool), e = .returned (Value.bool r0) ∧ R r0 w')

def C_towpathlaw01_Beyond (l_ : Slc) (w : World) (R : Bool → World → Prop) : Prop :=
  Calls Try.prog 10 #[Value.slice l_.ptr l_.len l_.cap] w (fun e w' => ∃ (r0 : Bool), e = .returned (Value.bool r0) ∧ R r0 w')

def C_dump_Decode (b_ : Slc) (w : World) (R : T_api_Saved → Int → World → Prop) : Prop :=
  Calls Try.prog 11 #[Value.slice b_.ptr b_.len b_.cap] w (fun e w' => ∃ (r0 : T_api_Saved) (r1 : Int), e = .returned (Value.tuple #[Value.agg #[Value.int .i64 r0.Mark, Value.slice r0.Beyond.ptr r0.Beyond.len r0.Beyond.cap, Value.slice r0.Held.ptr r0.Held.len r0.Held.cap], Value.int .i64 r1]) ∧ R r0 r1 w')

def C_dump_Encode (s : T_api_Saved) (w : World) (R : Slc → Int → World → Prop) : Prop :=
  Calls Try.prog 12 #[Value.agg #[Value.int .i64 s.Mark, Value.slice s.Beyond.ptr s.Beyond.len s.Beyond.cap, Value.slice s.Held.ptr s.Held.len s.Held.cap]] w (fun e w' => ∃ (r0 : Slc) (r1 : Int), e = .returned (Value.tuple #[Value.slice r0.ptr r0.len r0.cap, Value.int .i64 r1]) ∧ R r0 r1 w')

def C_dump_Check (s : T_api_Saved) (w : World) (R : Int → World → Prop) : Prop :=
  Calls Try.prog 13 #[Value.agg #[Value.int .i64 s.Mark, Value.slice s.Beyond.ptr s.Beyond.len s.Beyond.cap, Value.slice s.Held.ptr s.Held.len s.Held.cap]] w (fun e w' => ∃ (r0 : Int), e = .returned (Value.int .i64 r0) ∧ R r0 w')

def C_towpathlaw01_SameBytes (a_ : Slc) (b_ : Slc) (w : World) (R : Bool → World → Prop) : Prop :=
  Calls Try.prog 14 #[Value.slice a_.ptr a_.len a_.cap, Value.slice b_.ptr b_.len b_.cap] w (fun e w' => ∃ (r0 : Bool), e = .returned (Value.bool r0) ∧ R r0 w')

def C_towpathlaw01_SavedSize (s : T_api_Saved) (w : World) (R : Int → World → Prop) : Prop :=
  Calls Try.prog 29 #[Value.agg #[Value.int .i64 s.Mark, Value.slice s.Beyond.ptr s.Beyond.len s.Beyond.cap, Value.slice s.Held.ptr s.Held.len s.Held.cap]] w (fun e w' => ∃ (r0 : Int), e = .returned (Value.int .i64 r0) ∧ R r0 w')

def C_conf_Check (c : T_api_Config) (w : World) (R : Int → World → Prop) : Prop :=
  Calls Try.prog 30 #[Value.agg #[Value.int .i64 c.Lanes, Value.int .i64 c.Shards, Value.int .i64 c.Window, Value.int .i64 c.Queue]] w (fun e w' => ∃ (r0 : Int), e = .returned (Value.int .i64 r0) ∧ R r0 w')

def C_dump_Split (c : T_api_Config) (s : T_api_Saved) (w : World) (R : Slc → Int → World → Prop) : Prop :=
  Calls Try.prog 31 #[Value.agg #[Value.int .i64 c.Lanes, Value.int .i64 c.Shards, Value.int .i64 c.Window, Value.int .i64 c.Queue], Value.agg #[Value.int .i64 s.Mark, Value.slice s.Beyond.ptr s.Beyond.len s.Beyond.cap, Value.slice s.Held.ptr s.Held.len s.Held.cap]] w (fun e w' => ∃ (r0 : Slc) (r1 : Int), e = .returned (Value.tuple #[Value.slice r0.ptr r0.len r0.cap, Value.int .i64 r1]) ∧ R r0 r1 w')

def C_conf_Shard (c : T_api_Config) (key : ByteArray) (w : World) (R : Int → Int → World → Prop) : Prop :=
  Calls Try.prog 32 #[Value.agg #[Value.int .i64 c.Lanes, Value.int .i64 c.Shards, Value.int .i64 c.Window, Value.int .i64 c.Queue], Value.string key] w (fun e w' => ∃ (r0 : Int) (r1 : Int), e = .returned (Value.tuple #[Value.int .i64 r0, Value.int .i64 r1]) ∧ R r0 r1 w')

def C_towpathlaw01_SameHeld (a_ : T_api_Held) (b_ : T_api_Held) (w : World) (R : Bool → World → Prop) : Prop :=
  Calls Try.prog 33 #[Value.agg #[Value.string a_.Key, Value.slice a_.Versions.ptr a_.Versions.len a_.Versions.cap], Value.agg #[Value.string b_.Key, Value.slice b_.Versions.ptr b_.Versions.len b_.Versions.cap]] w (fun e w' => ∃ (r0 : Bool), e = .returned (Value.bool r0) ∧ R r0 w')

def C_shard_Load (l_ : Slc) (w : World) (R : Option Addr → Int → World → Prop) : Prop :=
  Calls Try.prog 34 #[Value.slice l_.ptr l_.len l_.cap] w (fun e w' => ∃ (r0 : Option Addr) (r1 : Int), e = .returned (Value.tuple #[Value.pointer r0, Value.int .i64 r1]) ∧ R r0 r1 w')

def C_shard_Shard_Get (s : Option Addr) (key : ByteArray) (mark : Int) (w : World) (R : ByteArray → Bool → World → Prop) : Prop :=
  Calls Try.prog 35 #[Value.pointer s, Value.string key, Value.int .i64 mark] w (fun e w' => ∃ (r0 : ByteArray) (r1 : Bool), e = .returned (Value.tuple #[Value.string r0, Value.bool r1]) ∧ R r0 r1 w')

def C_towpathlaw18_sample (w : World) (R : T_api_Saved → World → Prop) : Prop :=
  Calls Try.prog 36 #[] w (fun e w' => ∃ (r0 : T_api_Saved), e = .returned (Value.agg #[Value.int .i64 r0.Mark, Value.slice r0.Beyond.ptr r0.Beyond.len r0.Beyond.cap, Value.slice r0.Held.ptr r0.Held.len r0.Held.cap]) ∧ R r0 w')

def C_codec_NewReader (b_ : Slc) (w : World) (R : Option Addr → World → Prop) : Prop :=
  Calls Try.prog 37 #[Value.slice b_.ptr b_.len b_.cap] w (fun e w' => ∃ (r0 : Option Addr), e = .returned (Value.pointer r0) ∧ R r0 w')

def C_dump_Decode_1 (is : Bool) (f : Int) (t2 : Option Addr) (t3 : Option Addr) (t4 : Option Addr) (w : World) (R : Bool → World → Prop) : Prop :=
  Calls Try.prog 38 #[Value.bool is, Value.int .i64 f, Value.pointer t2, Value.pointer t3, Value.pointer t4] w (fun e w' => ∃ (r0 : Bool), e = .returned (Value.bool r0) ∧ R r0 w')

def C_codec_Reader_Left (r : Option Addr) (w : World) (R : Int → World → Prop) : Prop :=
  Calls Try.prog 39 #[Value.pointer r] w (fun e w' => ∃ (r0 : Int), e = .returned (Value.int .i64 r0) ∧ R r0 w')

def C_codec_Reader_End (r : Option Addr) (w : World) (R : Int → World → Prop) : Prop :=
  Calls Try.prog 40 #[Value.pointer r] w (fun e w' => ∃ (r0 : Int), e = .returned (Value.int .i64 r0) ∧ R r0 w')

def C_dump_Decode_2 (t0 : Option Addr) (t1 : Option Addr) (t2 : Option Addr) (w : World) (R : Int → World → Prop) : Prop :=
  Calls Try.prog 41 #[Value.pointer t0, Value.pointer t1, Value.pointer t2] w (fun e w' => ∃ (r0 : Int), e = .returned (Value.int .i64 r0) ∧ R r0 w')

def C_codec_Reader_Var (r : Option Addr) (w : World) (R : Int → World → Prop) : Prop :=
  Calls Try.prog 42 #[Value.pointer r] w (fun e w' => ∃ (r0 : Int), e = .returned (Value.int .u64 r0) ∧ R r0 w')

def C_dump_Decode_3 (t0 : Option Addr) (t1 : Option Addr) (t2 : Option Addr) (t3 : Option Addr) (w : World) (R : T_api_Version → World → Prop) : Prop :=
  Calls Try.prog 43 #[Value.pointer t0, Value.pointer t1, Value.pointer t2, Value.pointer t3] w (fun e w' => ∃ (r0 : T_api_Version), e = .returned (Value.agg #[Value.int .i64 r0.Number, Value.string r0.Val, Value.bool r0.Drop]) ∧ R r0 w')

def C_codec_Reader_Fixed (r : Option Addr) (width : Int) (w : World) (R : Int → World → Prop) : Prop :=
  Calls Try.prog 44 #[Value.pointer r, Value.int .i64 width] w (fun e w' => ∃ (r0 : Int), e = .returned (Value.int .u64 r0) ∧ R r0 w')

def C_codec_Reader_Text (r : Option Addr) (most : Int) (w : World) (R : ByteArray → World → Prop) : Prop :=
  Calls Try.prog 45 #[Value.pointer r, Value.int .i64 most] w (fun e w' => ∃ (r0 : ByteArray), e = .returned (Value.string r0) ∧ R r0 w')

def C_codec_NewWriter (w : World) (R : Option Addr → World → Prop) : Prop :=
  Calls Try.prog 46 #[] w (fun e w' => ∃ (r0 : Option Addr), e = .returned (Value.pointer r0) ∧ R r0 w')

def C_codec_Writer_Var (w_ : Option Addr) (n_ : Int) (w : World) (R : World → Prop) : Prop :=
  Calls Try.prog 47 #[Value.pointer w_, Value.int .u64 n_] w (fun e w' => e = .returned (Value.tuple #[]) ∧ R w')

def C_codec_Writer_Text (w_ : Option Addr) (s : ByteArray) (w : World) (R : World → Prop) : Prop :=
  Calls Try.prog 48 #[Value.pointer w_, Value.string s] w (fun e w' => e = .returned (Value.tuple #[]) ∧ R w')

def C_codec_Writer_Fixed (w_ : Option Addr) (n_ : Int) (width : Int) (w : World) (R : Int → World → Prop) : Prop :=
  Calls Try.prog 49 #[Value.pointer w_, Value.int .u64 n_, Value.int .i64 width] w (fun e w' => ∃ (r0 : Int), e = .returned (Value.int .i64 r0) ∧ R r0 w')

def C_codec_Writer_Done (w_ : Option Addr) (w : World) (R : Slc → World → Prop) : Prop :=
  Calls Try.prog 50 #[Value.pointer w_] w (fun e w' => ∃ (r0 : Slc), e = .returned (Value.slice r0.ptr r0.len r0.cap) ∧ R r0 w')

def C_slices_BinarySearch_int_int (x : Slc) (target : Int) (w : World) (R : Int → Bool → World → Prop) : Prop :=
  Calls Try.prog 51 #[Value.slice x.ptr x.len x.cap, Value.int .i64 target] w (fun e w' => ∃ (r0 : Int) (r1 : Bool), e = .returned (Value.tuple #[Value.int .i64 r0, Value.bool r1]) ∧ R r0 r1 w')

def C_towpathlaw01_HeldsSize (l_ : Slc) (w : World) (R : Int → World → Prop) : Prop :=
  Calls Try.prog 62 #[Value.slice l_.ptr l_.len l_.cap] w (fun e w' => ∃ (r0 : Int), e = .returned (Value.int .i64 r0) ∧ R r0 w')

def C_slices_Clone_api_Version_api_Version (s : Slc) (w : World) (R : Slc → World → Prop) : Prop :=
  Calls Try.prog 63 #[Value.slice s.ptr s.len s.cap] w (fun e w' => ∃ (r0 : Slc), e = .returned (Value.slice r0.ptr r0.len r0.cap) ∧ R r0 w')

def C_sum_Hash (key : ByteArray) (w : World) (R : Int → World → Prop) : Prop :=
  Calls Try.prog 64 #[Value.string key] w (fun e w' => ∃ (r0 : Int), e = .returned (Value.int .u32 r0) ∧ R r0 w')

def C_towpathlaw01_SameVersions (a_ : Slc) (b_ : Slc) (w : World) (R : Bool → World → Prop) : Prop :=
  Calls Try.prog 65 #[Value.slice a_.ptr a_.len a_.cap, Value.slice b_.ptr b_.len b_.cap] w (fun e w' => ∃ (r0 : Bool), e = .returned (Value.bool r0) ∧ R r0 w')

def C_shard_New (w : World) (R : Option Addr → World → Prop) : Prop :=
  Calls Try.prog 66 #[] w (fun e w' => ∃ (r0 : Option Addr), e = .returned (Value.pointer r0) ∧ R r0 w')

def C_shard_may (key : ByteArray) (w : World) (R : Bool → World → Prop) : Prop :=
  Calls Try.prog 67 #[Value.string key] w (fun e w' => ∃ (r0 : Bool), e = .returned (Value.bool r0) ∧ R r0 w')

def C_chain_Check (l_ : Slc) (w : World) (R : Int → World → Prop) : Prop :=
  Calls Try.prog 68 #[Value.slice l_.ptr l_.len l_.cap] w (fun e w' => ∃ (r0 : Int), e = .returned (Value.int .i64 r0) ∧ R r0 w')

def C_shard_Shard_gone (s : Option Addr) (w : World) (R : Bool → World → Prop) : Prop :=
  Calls Try.prog 69 #[Value.pointer s] w (fun e w' => ∃ (r0 : Bool), e = .returned (Value.bool r0) ∧ R r0 w')

def C_chain_At (l_ : Slc) (mark : Int) (w : World) (R : T_api_Version → Bool → Int → World → Prop) : Prop :=
  Calls Try.prog 70 #[Value.slice l_.ptr l_.len l_.cap, Value.int .i64 mark] w (fun e w' => ∃ (r0 : T_api_Version) (r1 : Bool) (r2 : Int), e = .returned (Value.tuple #[Value.agg #[Value.int .i64 r0.Number, Value.string r0.Val, Value.bool r0.Drop], Value.bool r1, Value.int .i64 r2]) ∧ R r0 r1 r2 w')

def C_slices_Clone_byte_byte (s : Slc) (w : World) (R : Slc → World → Prop) : Prop :=
  Calls Try.prog 71 #[Value.slice s.ptr s.len s.cap] w (fun e w' => ∃ (r0 : Slc), e = .returned (Value.slice r0.ptr r0.len r0.cap) ∧ R r0 w')

def C_codec_Reader_take (r : Option Addr) (next : Value) (w : World) (R : Bool → World → Prop) : Prop :=
  Calls Try.prog 72 #[Value.pointer r, next] w (fun e w' => ∃ (r0 : Bool), e = .returned (Value.bool r0) ∧ R r0 w')

def C_codec_Reader_Var_1 (b_ : Slc) (t1 : Option Addr) (w : World) (R : Int → Int → World → Prop) : Prop :=
  Calls Try.prog 73 #[Value.slice b_.ptr b_.len b_.cap, Value.pointer t1] w (fun e w' => ∃ (r0 : Int) (r1 : Int), e = .returned (Value.tuple #[Value.int .i64 r0, Value.int .i64 r1]) ∧ R r0 r1 w')

def C_codec_short (b_ : Slc) (w : World) (R : Int → Int → Int → World → Prop) : Prop :=
  Calls Try.prog 74 #[Value.slice b_.ptr b_.len b_.cap] w (fun e w' => ∃ (r0 : Int) (r1 : Int) (r2 : Int), e = .returned (Value.tuple #[Value.int .u64 r0, Value.int .i64 r1, Value.int .i64 r2]) ∧ R r0 r1 r2 w')

def C_codec_Reader_Fixed_1 (b_ : Slc) (t1 : Option Addr) (t2 : Option Addr) (w : World) (R : Int → Int → World → Prop) : Prop :=
  Calls Try.prog 75 #[Value.slice b_.ptr b_.len b_.cap, Value.pointer t1, Value.pointer t2] w (fun e w' => ∃ (r0 : Int) (r1 : Int), e = .returned (Value.tuple #[Value.int .i64 r0, Value.int .i64 r1]) ∧ R r0 r1 w')

def C_codec_Reader_Text_1 (b_ : Slc) (t1 : Option Addr) (t2 : Option Addr) (w : World) (R : Int → Int → World → Prop) : Prop :=
  Calls Try.prog 76 #[Value.slice b_.ptr b_.len b_.cap, Value.pointer t1, Value.pointer t2] w (fun e w' => ∃ (r0 : Int) (r1 : Int), e = .returned (Value.tuple #[Value.int .i64 r0, Value.int .i64 r1]) ∧ R r0 r1 w')

def C_codec_Writer_gone (w_ : Option Addr) (w : World) (R : Bool → World → Prop) : Prop :=
  Calls Try.prog 77 #[Value.pointer w_] w (fun e w' => ∃ (r0 : Bool), e = .returned (Value.bool r0) ∧ R r0 w')

def C_cmp_Less_int (x : Int) (y : Int) (w : World) (R : Bool → World → Prop) : Prop :=
  Calls Try.prog 78 #[Value.int .i64 x, Value.int .i64 y] w (fun e w' => ∃ (r0 : Bool), e = .returned (Value.bool r0) ∧ R r0 w')

def C_slices_isNaN_int (x : Int) (w : World) (R : Bool → World → Prop) : Prop :=
  Calls Try.prog 79 #[Value.int .i64 x] w (fun e w' => ∃ (r0 : Bool), e = .returned (Value.bool r0) ∧ R r0 w')

def C_towpathlaw01_VersionsSize (l_ : Slc) (w : World) (R : Int → World → Prop) : Prop :=
  Calls Try.prog 87 #[Value.slice l_.ptr l_.len l_.cap] w (fun e w' => ∃ (r0 : Int), e = .returned (Value.int .i64 r0) ∧ R r0 w')

def C_chain_list_upto (l_ : Slc) (at_ : Int) (w : World) (R : Int → World → Prop) : Prop :=
  Calls Try.prog 88 #[Value.slice l_.ptr l_.len l_.cap, Value.int .i64 at_] w (fun e w' => ∃ (r0 : Int), e = .returned (Value.int .i64 r0) ∧ R r0 w')

def C_cmp_isNaN_int (x : Int) (w : World) (R : Bool → World → Prop) : Prop :=
  Calls Try.prog 89 #[Value.int .i64 x] w (fun e w' => ∃ (r0 : Bool), e = .returned (Value.bool r0) ∧ R r0 w')

def C_sort_Search (n_ : Int) (f : Value) (w : World) (R : Int → World → Prop) : Prop :=
  Calls Try.prog 92 #[Value.int .i64 n_, f] w (fun e w' => ∃ (r0 : Int), e = .returned (Value.int .i64 r0) ∧ R r0 w')

def C_chain_mark_above (m_ : T_chain_mark) (i : Int) (w : World) (R : Bool → World → Prop) : Prop :=
  Calls Try.prog 93 #[Value.agg #[Value.slice m_.l.ptr m_.l.len m_.l.cap, Value.int .i64 m_.at_], Value.int .i64 i] w (fun e w' => ∃ (r0 : Bool), e = .returned (Value.bool r0) ∧ R r0 w')

def F_towpathlaw18_DumpParts_k3 (R : Bool → World → Prop) (l_ : Slc) (b_2 : Nat) (i : Int) (again_ : Int → World → Prop) (n_ : Int) (t108 : Bool) (w11 : World) : Prop :=
  (t108 = true → (R false w11)) ∧
  (t108 = false → (0 ≤ n_ ∧ n_ < ((((l_.len : Nat) : Int).toNat : Nat) : Int) ∧ (∃ (v112 : Int), w11.cell? ⟨b_2, 0 + n_.toNat, none⟩ = some (Value.int .i64 v112) ∧ (0 ≤ n_ ∧ n_ < ((((l_.len : Nat) : Int).toNat : Nat) : Int) ∧ (Writable w11 b_2 (0 + n_.toNat) 1 ∧ (∀ w12, w12 = World.puts b_2 (0 + n_.toNat) [Value.int .i64 (IntKind.i64.wrap (v112 + 1))] w11 → (again_ (IntKind.i64.wrap (i + 1)) w12)))))))

def F_towpathlaw18_DumpParts_L6 (R : Bool → World → Prop) (b_1 : Nat) (l_ : Slc) (whole : Option Addr) (n_1 : Int) (again_1 : Int → World → Prop) (x : Option Addr) (again_2 : Int → World → Prop) (i1 : Int) (w19 : World) : Prop :=
  IsAt l_.ptr ∧ (0 ≤ n_1 ∧ n_1 < ((l_.len : Nat) : Int) ∧ (∃ (v155 : Slc), w19.cell? ⟨(pblk l_.ptr), (poff l_.ptr) + n_1.toNat, none⟩ = some (Value.slice v155.ptr v155.len v155.cap) ∧ (((decide (i1 < ((v155.len : Nat) : Int))) = true → (∀ w20, (∃ k, w20 = w19.drewN k) → (IsAt l_.ptr ∧ (0 ≤ n_1 ∧ n_1 < ((l_.len : Nat) : Int) ∧ (∃ (v165 : Slc), w20.cell? ⟨(pblk l_.ptr), (poff l_.ptr) + n_1.toNat, none⟩ = some (Value.slice v165.ptr v165.len v165.cap) ∧ (IsAt v165.ptr ∧ (0 ≤ i1 ∧ i1 < ((v165.len : Nat) : Int) ∧ (∃ (v169 : ByteArray), w20.cell? ⟨(pblk v165.ptr), (poff v165.ptr) + i1.toNat * 2, none⟩ = some (Value.string v169) ∧ (∃ (v171 : Int), w20.cell? ⟨b_1, 0, none⟩ = some (Value.int .i64 v171) ∧ (C_shard_Shard_Get x v169 v171 w20 (fun (v : ByteArray) (ok : Bool) w21 => (∀ w22, (∃ k, w22 = w21.drewN k) → (IsAt l_.ptr ∧ (0 ≤ n_1 ∧ n_1 < ((l_.len : Nat) : Int) ∧ (∃ (v180 : Slc), w22.cell? ⟨(pblk l_.ptr), (poff l_.ptr) + n_1.toNat, none⟩ = some (Value.slice v180.ptr v180.len v180.cap) ∧ (IsAt v180.ptr ∧ (0 ≤ i1 ∧ i1 < ((v180.len : Nat) : Int) ∧ (∃ (v184 : ByteArray), w22.cell? ⟨(pblk v180.ptr), (poff v180.ptr) + i1.toNat * 2, none⟩ = some (Value.string v184) ∧ (∃ (v186 : Int), w22.cell? ⟨b_1, 0, none⟩ = some (Value.int .i64 v186) ∧ (C_shard_Shard_Get whole v184 v186 w22 (fun (w_ : ByteArray) (is : Bool) w23 => ((((!(v.toList == w_.toList)) || (!(ok == is))) = true → (R false w23)) ∧
  (((!(v.toList == w_.toList)) || (!(ok == is))) = false → (again_2 (IntKind.i64.wrap (i1 + 1)) w23)))))))))))))))))))))))) ∧
  ((decide (i1 < ((v155.len : Nat) : Int))) = false → (again_1 (IntKind.i64.wrap (n_1 + 1)) w19)))))

def F_towpathlaw18_DumpParts_k5 (R : Bool → World → Prop) (b_1 : Nat) (l_ : Slc) (whole : Option Addr) (n_1 : Int) (again_1 : Int → World → Prop) (x : Option Addr) (t150 : Bool) (w18 : World) : Prop :=
  (t150 = true → (R false w18)) ∧
  (t150 = false → (∃ (I : Int → World → Prop) (μ : Int → World → Nat), I 0 w18 ∧
  ∀ (i1 : Int) w, I i1 w → F_towpathlaw18_DumpParts_L6 R b_1 l_ whole n_1 again_1 x (fun (i1' : Int) w' => I i1' w' ∧ μ i1' w' < μ i1 w) i1 w))

def F_towpathlaw18_DumpParts_L4 (R : Bool → World → Prop) (b_1 : Nat) (l_ : Slc) (b_2 : Nat) (whole : Option Addr) (again_1 : Int → World → Prop) (n_1 : Int) (w16 : World) : Prop :=
  ((decide (n_1 < ((l_.len : Nat) : Int))) = true → (IsAt l_.ptr ∧ (0 ≤ n_1 ∧ n_1 < ((l_.len : Nat) : Int) ∧ (∃ (v133 : Slc), w16.cell? ⟨(pblk l_.ptr), (poff l_.ptr) + n_1.toNat, none⟩ = some (Value.slice v133.ptr v133.len v133.cap) ∧ (C_shard_Load v133 w16 (fun (x : Option Addr) (f1 : Int) w17 => ((f1 != 0) = true → (∀ w24, Ext w17 w24 → (F_towpathlaw18_DumpParts_k5 R b_1 l_ whole n_1 again_1 x true w24))) ∧
  ((f1 != 0) = false → (0 ≤ n_1 ∧ n_1 < ((((l_.len : Nat) : Int).toNat : Nat) : Int) ∧ (∃ (v143 : Int), w17.cell? ⟨b_2, 0 + n_1.toNat, none⟩ = some (Value.int .i64 v143) ∧ (IsAt l_.ptr ∧ (0 ≤ n_1 ∧ n_1 < ((l_.len : Nat) : Int) ∧ (∃ (v147 : Slc), w17.cell? ⟨(pblk l_.ptr), (poff l_.ptr) + n_1.toNat, none⟩ = some (Value.slice v147.ptr v147.len v147.cap) ∧ (∀ w25, Ext w17 w25 → (F_towpathlaw18_DumpParts_k5 R b_1 l_ whole n_1 again_1 x (v143 != ((v147.len : Nat) : Int)) w25)))))))))))))) ∧
  ((decide (n_1 < ((l_.len : Nat) : Int))) = false → (R true w16))

def F_towpathlaw18_DumpParts_L2 (R : Bool → World → Prop) (b_ : Nat) (b_1 : Nat) (l_ : Slc) (b_2 : Nat) (again_ : Int → World → Prop) (i : Int) (w8 : World) : Prop :=
  ∃ (v60 : Slc), w8.cell? ⟨b_1, 2, none⟩ = some (Value.slice v60.ptr v60.len v60.cap) ∧ (((decide (i < ((v60.len : Nat) : Int))) = true → (∀ w9, (∃ k, w9 = w8.drewN k) → (∃ (v66 : T_api_Config), CellsAt w9 b_ 0 [Value.int .i64 v66.Lanes, Value.int .i64 v66.Shards, Value.int .i64 v66.Window, Value.int .i64 v66.Queue] ∧ (∃ (v68 : Slc), w9.cell? ⟨b_1, 2, none⟩ = some (Value.slice v68.ptr v68.len v68.cap) ∧ (IsAt v68.ptr ∧ (0 ≤ i ∧ i < ((v68.len : Nat) : Int) ∧ (∃ (v72 : ByteArray), w9.cell? ⟨(pblk v68.ptr), (poff v68.ptr) + i.toNat * 2, none⟩ = some (Value.string v72) ∧ (C_conf_Shard v66 v72 w9 (fun (n_ : Int) (f : Int) w10 => (∀ w13, (∃ k, w13 = w10.drewN k) → (((f != 0) = true → (F_towpathlaw18_DumpParts_k3 R l_ b_2 i again_ n_ true w13)) ∧
  ((f != 0) = false → (0 ≤ n_ ∧ n_ < ((((l_.len : Nat) : Int).toNat : Nat) : Int) ∧ (∃ (v82 : Int), w13.cell? ⟨b_2, 0 + n_.toNat, none⟩ = some (Value.int .i64 v82) ∧ (IsAt l_.ptr ∧ (0 ≤ n_ ∧ n_ < ((l_.len : Nat) : Int) ∧ (∃ (v86 : Slc), w13.cell? ⟨(pblk l_.ptr), (poff l_.ptr) + n_.toNat, none⟩ = some (Value.slice v86.ptr v86.len v86.cap) ∧ (((decide (v82 ≥ ((v86.len : Nat) : Int))) = true → (F_towpathlaw18_DumpParts_k3 R l_ b_2 i again_ n_ true w13)) ∧
  ((decide (v82 ≥ ((v86.len : Nat) : Int))) = false → (IsAt l_.ptr ∧ (0 ≤ n_ ∧ n_ < ((l_.len : Nat) : Int) ∧ (∃ (v94 : Slc), w13.cell? ⟨(pblk l_.ptr), (poff l_.ptr) + n_.toNat, none⟩ = some (Value.slice v94.ptr v94.len v94.cap) ∧ (0 ≤ n_ ∧ n_ < ((((l_.len : Nat) : Int).toNat : Nat) : Int) ∧ (∃ (v98 : Int), w13.cell? ⟨b_2, 0 + n_.toNat, none⟩ = some (Value.int .i64 v98) ∧ (IsAt v94.ptr ∧ (0 ≤ v98 ∧ v98 < ((v94.len : Nat) : Int) ∧ (∃ (v100 : T_api_Held), CellsAt w13 (pblk v94.ptr) ((poff v94.ptr) + v98.toNat * 2) [Value.string v100.Key, Value.slice v100.Versions.ptr v100.Versions.len v100.Versions.cap] ∧ (∃ (v102 : Slc), w13.cell? ⟨b_1, 2, none⟩ = some (Value.slice v102.ptr v102.len v102.cap) ∧ (IsAt v102.ptr ∧ (0 ≤ i ∧ i < ((v102.len : Nat) : Int) ∧ (∃ (v105 : T_api_Held), CellsAt w13 (pblk v102.ptr) ((poff v102.ptr) + i.toNat * 2) [Value.string v105.Key, Value.slice v105.Versions.ptr v105.Versions.len v105.Versions.cap] ∧ (C_towpathlaw01_SameHeld v100 v105 w13 (fun (v106 : Bool) w14 => (F_towpathlaw18_DumpParts_k3 R l_ b_2 i again_ n_ (!v106) w14)))))))))))))))))))))))))))))))))) ∧
  ((decide (i < ((v60.len : Nat) : Int))) = false → (∃ (v117 : Slc), w8.cell? ⟨b_1, 2, none⟩ = some (Value.slice v117.ptr v117.len v117.cap) ∧ (C_shard_Load v117 w8 (fun (whole : Option Addr) (g : Int) w15 => ((g != 0) = true → (R false w15)) ∧
  ((g != 0) = false → (∃ (I : Int → World → Prop) (μ : Int → World → Nat), I 0 w15 ∧
  ∀ (n_1 : Int) w, I n_1 w → F_towpathlaw18_DumpParts_L4 R b_1 l_ b_2 whole (fun (n_1' : Int) w' => I n_1' w' ∧ μ n_1' w' < μ n_1 w) n_1 w)))))))

def F_towpathlaw18_DumpParts_k1 (R : Bool → World → Prop) (b_ : Nat) (b_1 : Nat) (l_ : Slc) (t54 : Bool) (w6 : World) : Prop :=
  (t54 = true → (R false w6)) ∧
  (t54 = false → (0 ≤ ((l_.len : Nat) : Int) ∧ ((l_.len : Nat) : Int) ≤ ((l_.len : Nat) : Int) ∧ (8 : Int) * ((l_.len : Nat) : Int) ≤ 281474976710656 ∧ (∀ b_2 w7, b_2 = w6.heap.size → w7 = w6.alloc (Obj.cells (repCells (((l_.len : Nat) : Int).toNat) [Value.int .i64 0]) ty_int (0, 0)) → (∃ (I : Int → World → Prop) (μ : Int → World → Nat), I 0 w7 ∧
  ∀ (i : Int) w, I i w → F_towpathlaw18_DumpParts_L2 R b_ b_1 l_ b_2 (fun (i' : Int) w' => I i' w' ∧ μ i' w' < μ i w) i w))))

def F_towpathlaw18_DumpParts_k0 (R : Bool → World → Prop) (b_ : Nat) (b_1 : Nat) (t38 : Bool) (w3 : World) : Prop :=
  (t38 = true → (C_towpathlaw18_alive w3 (fun (v39 : Bool) w4 => R v39 w4))) ∧
  (t38 = false → (∃ (v41 : T_api_Config), CellsAt w3 b_ 0 [Value.int .i64 v41.Lanes, Value.int .i64 v41.Shards, Value.int .i64 v41.Window, Value.int .i64 v41.Queue] ∧ (∃ (v42 : T_api_Saved), CellsAt w3 b_1 0 [Value.int .i64 v42.Mark, Value.slice v42.Beyond.ptr v42.Beyond.len v42.Beyond.cap, Value.slice v42.Held.ptr v42.Held.len v42.Held.cap] ∧ (C_dump_Split v41 v42 w3 (fun (l_ : Slc) (e : Int) w5 => ((e != 0) = true → (F_towpathlaw18_DumpParts_k1 R b_ b_1 l_ true w5)) ∧
  ((e != 0) = false → (∃ (v52 : Int), w5.cell? ⟨b_, 1, none⟩ = some (Value.int .i64 v52) ∧ (F_towpathlaw18_DumpParts_k1 R b_ b_1 l_ (((l_.len : Nat) : Int) != v52) w5))))))))

def F_towpathlaw18_DumpParts (c : T_api_Config) (s : T_api_Saved) (R : Bool → World → Prop) (w : World) : Prop :=
  ∀ b_ w1, b_ = w.heap.size → w1 = w.alloc (Obj.cells ([Value.int .i64 c.Lanes, Value.int .i64 c.Shards, Value.int .i64 c.Window, Value.int .i64 c.Queue]).toArray ty_api_Config (0, 0)) → (∀ b_1 w2, b_1 = w1.heap.size → w2 = w1.alloc (Obj.cells ([Value.int .i64 s.Mark, Value.slice s.Beyond.ptr s.Beyond.len s.Beyond.cap, Value.slice s.Held.ptr s.Held.len s.Held.cap]).toArray ty_api_Saved (0, 0)) → (C_towpathlaw18_alive w2 (fun (v21 : Bool) w26 => ((!v21) = true → (F_towpathlaw18_DumpParts_k0 R b_ b_1 true w26)) ∧
  ((!v21) = false → (∃ (v24 : T_api_Saved), CellsAt w26 b_1 0 [Value.int .i64 v24.Mark, Value.slice v24.Beyond.ptr v24.Beyond.len v24.Beyond.cap, Value.slice v24.Held.ptr v24.Held.len v24.Held.cap] ∧ (C_towpathlaw01_SavedSize v24 w26 (fun (v25 : Int) w27 => ∀ b_3 w28, b_3 = w27.heap.size → w28 = w27.alloc (Obj.cells ([Value.int .i64 v25]).toArray ty_int (0, 0)) → (C_towpathlaw01_Beyond (Slc.mk (some ⟨b_3, 0, none⟩) 1 1) w28 (fun (v27 : Bool) w29 => (v27 = true → (F_towpathlaw18_DumpParts_k0 R b_ b_1 true w29)) ∧
  (v27 = false → (∃ (v30 : T_api_Config), CellsAt w29 b_ 0 [Value.int .i64 v30.Lanes, Value.int .i64 v30.Shards, Value.int .i64 v30.Window, Value.int .i64 v30.Queue] ∧ (C_conf_Check v30 w29 (fun (v31 : Int) w30 => ((v31 != 0) = true → (F_towpathlaw18_DumpParts_k0 R b_ b_1 true w30)) ∧
  ((v31 != 0) = false → (∃ (v35 : T_api_Saved), CellsAt w30 b_1 0 [Value.int .i64 v35.Mark, Value.slice v35.Beyond.ptr v35.Beyond.len v35.Beyond.cap, Value.slice v35.Held.ptr v35.Held.len v35.Held.cap] ∧ (C_dump_Check v35 w30 (fun (v36 : Int) w31 => F_towpathlaw18_DumpParts_k0 R b_ b_1 (v36 != 0) w31)))))))))))))))))

def F_towpathlaw18_alive (R : Bool → World → Prop) (w : World) : Prop :=
  C_towpathlaw18_sample w (fun (v6 : T_api_Saved) w1 => C_dump_Encode v6 w1 (fun (b_ : Slc) (e : Int) w2 => ∀ b_1 w3, b_1 = w2.heap.size → w3 = w2.alloc (Obj.cells ([Value.int .u8 0, Value.int .u8 0]).toArray ty_uint8 (0, 0)) → (C_dump_Decode (Slc.mk (some ⟨b_1, 0, none⟩) 2 2) w3 (fun (v12 : T_api_Saved) (f : Int) w4 => ∀ b_2 w5, b_2 = w4.heap.size → w5 = w4.alloc (Obj.cells ([Value.int .i64 0, Value.slice none 0 0, Value.slice none 0 0]).toArray ty_api_Saved (0, 0)) → (Writable w5 b_2 0 3 ∧ (∀ w6, w6 = World.puts b_2 0 [Value.int .i64 v12.Mark, Value.slice v12.Beyond.ptr v12.Beyond.len v12.Beyond.cap, Value.slice v12.Held.ptr v12.Held.len v12.Held.cap] w5 → ((((e == 0) && (f == 5)) = true → (∀ b_3 w7, b_3 = w6.heap.size → w7 = w6.alloc (Obj.cells ([Value.int .i64 4]).toArray ty_int (0, 0)) → (C_dump_Check (T_api_Saved.mk 3 (Slc.mk (some ⟨b_3, 0, none⟩) 1 1) (Slc.mk none 0 0)) w7 (fun (v24 : Int) w8 => ((v24 == 1) = true → (∀ b_4 w9, b_4 = w8.heap.size → w9 = w8.alloc (Obj.cells ([Value.int .u8 3, Value.int .u8 1, Value.int .u8 5, Value.int .u8 2, Value.int .u8 1, Value.int .u8 97, Value.int .u8 2, Value.int .u8 2, Value.int .u8 0, Value.int .u8 1, Value.int .u8 120, Value.int .u8 5, Value.int .u8 1, Value.int .u8 1, Value.int .u8 98, Value.int .u8 1, Value.int .u8 5, Value.int .u8 0, Value.int .u8 0]).toArray ty_uint8 (0, 0)) → (C_towpathlaw01_SameBytes b_ (Slc.mk (some ⟨b_4, 0, none⟩) 19 19) w9 (fun (v30 : Bool) w10 => R v30 w10)))) ∧
  ((v24 == 1) = false → (R false w8)))))) ∧
  (((e == 0) && (f == 5)) = false → (R false w6)))))))))

def F_towpathlaw01_Beyond_L0 (l_ : Slc) (R : Bool → World → Prop) (again_ : Int → Int → World → Prop) (n_ : Int) (i : Int) (w1 : World) : Prop :=
  ((decide (i < ((l_.len : Nat) : Int))) = true → (IsAt l_.ptr ∧ (0 ≤ i ∧ i < ((l_.len : Nat) : Int) ∧ (∃ (v15 : Int), w1.cell? ⟨(pblk l_.ptr), (poff l_.ptr) + i.toNat, none⟩ = some (Value.int .i64 v15) ∧ (((decide ((IntKind.i64.wrap (n_ + v15)) > 1048576)) = true → (R true w1)) ∧
  ((decide ((IntKind.i64.wrap (n_ + v15)) > 1048576)) = false → (again_ (IntKind.i64.wrap (n_ + v15)) (IntKind.i64.wrap (i + 1)) w1))))))) ∧
  ((decide (i < ((l_.len : Nat) : Int))) = false → (R false w1))

def F_towpathlaw01_Beyond (l_ : Slc) (R : Bool → World → Prop) (w : World) : Prop :=
  ∃ (I : Int → Int → World → Prop) (μ : Int → Int → World → Nat), I 0 0 w ∧
  ∀ (n_ : Int) (i : Int) w, I n_ i w → F_towpathlaw01_Beyond_L0 l_ R (fun (n_' : Int) (i' : Int) w' => I n_' i' w' ∧ μ n_' i' w' < μ n_ i w) n_ i w

def F_dump_Decode_k3 (R : T_api_Saved → Int → World → Prop) (b_1 : Nat) (b_2 : Nat) (b_3 : Nat) (w24 : World) : Prop :=
  ∃ (v83 : Int), w24.cell? ⟨b_2, 0, none⟩ = some (Value.int .i64 v83) ∧ (((v83 != 0) = true → (∀ w25, (∃ k, w25 = w24.drewN k) → (∃ (v86 : Int), w25.cell? ⟨b_2, 0, none⟩ = some (Value.int .i64 v86) ∧ (Writable w25 b_1 0 3 ∧ (∀ w26, w26 = World.puts b_1 0 [Value.int .i64 0, Value.slice none 0 0, Value.slice none 0 0] w25 → (w26.cell? ⟨b_2, 0, none⟩ = some (Value.int .i64 v86) ∧ (Writable w26 b_2 0 1 ∧ (∀ w27, w27 = World.puts b_2 0 [Value.int .i64 v86] w26 → ((∃ (res : T_api_Saved), CellsAt w27 b_1 0 [Value.int .i64 res.Mark, Value.slice res.Beyond.ptr res.Beyond.len res.Beyond.cap, Value.slice res.Held.ptr res.Held.len res.Held.cap] ∧ (∃ (res1 : Int), CellsAt w27 b_2 0 [Value.int .i64 res1] ∧ (R res res1 w27)))))))))))) ∧
  ((v83 != 0) = false → (∃ (v88 : Option Addr), w24.cell? ⟨b_3, 0, none⟩ = some (Value.pointer v88) ∧ (C_codec_Reader_Left v88 w24 (fun (v89 : Int) w28 => ((decide (v89 > 0)) = true → (Writable w28 b_1 0 3 ∧ (∀ w29, w29 = World.puts b_1 0 [Value.int .i64 0, Value.slice none 0 0, Value.slice none 0 0] w28 → (Writable w29 b_2 0 1 ∧ (∀ w30, w30 = World.puts b_2 0 [Value.int .i64 4] w29 → (∃ (res2 : T_api_Saved), CellsAt w30 b_1 0 [Value.int .i64 res2.Mark, Value.slice res2.Beyond.ptr res2.Beyond.len res2.Beyond.cap, Value.slice res2.Held.ptr res2.Held.len res2.Held.cap] ∧ (∃ (res3 : Int), CellsAt w30 b_2 0 [Value.int .i64 res3] ∧ (R res2 res3 w30)))))))) ∧
  ((decide (v89 > 0)) = false → (∃ (v93 : T_api_Saved), CellsAt w28 b_1 0 [Value.int .i64 v93.Mark, Value.slice v93.Beyond.ptr v93.Beyond.len v93.Beyond.cap, Value.slice v93.Held.ptr v93.Held.len v93.Held.cap] ∧ (C_dump_Check v93 w28 (fun (v94 : Int) w31 => ((v94 != 0) = true → (Writable w31 b_1 0 3 ∧ (∀ w32, w32 = World.puts b_1 0 [Value.int .i64 0, Value.slice none 0 0, Value.slice none 0 0] w31 → (Writable w32 b_2 0 1 ∧ (∀ w33, w33 = World.puts b_2 0 [Value.int .i64 1] w32 → (∃ (res4 : T_api_Saved), CellsAt w33 b_1 0 [Value.int .i64 res4.Mark, Value.slice res4.Beyond.ptr res4.Beyond.len res4.Beyond.cap, Value.slice res4.Held.ptr res4.Held.len res4.Held.cap] ∧ (∃ (res5 : Int), CellsAt w33 b_2 0 [Value.int .i64 res5] ∧ (R res4 res5 w33)))))))) ∧
  ((v94 != 0) = false → (∃ (v97 : T_api_Saved), CellsAt w31 b_1 0 [Value.int .i64 v97.Mark, Value.slice v97.Beyond.ptr v97.Beyond.len v97.Beyond.cap, Value.slice v97.Held.ptr v97.Held.len v97.Held.cap] ∧ (Writable w31 b_1 0 3 ∧ (∀ w34, w34 = World.puts b_1 0 [Value.int .i64 v97.Mark, Value.slice v97.Beyond.ptr v97.Beyond.len v97.Beyond.cap, Value.slice v97.Held.ptr v97.Held.len v97.Held.cap] w31 → (Writable w34 b_2 0 1 ∧ (∀ w35, w35 = World.puts b_2 0 [Value.int .i64 0] w34 → (∃ (res6 : T_api_Saved), CellsAt w35 b_1 0 [Value.int .i64 res6.Mark, Value.slice res6.Beyond.ptr res6.Beyond.len res6.Beyond.cap, Value.slice res6.Held.ptr res6.Held.len res6.Held.cap] ∧ (∃ (res7 : Int), CellsAt w35 b_2 0 [Value.int .i64 res7] ∧ (R res6 res7 w35))))))))))))))))))

def F_dump_Decode_k7 (b_1 : Nat) (b_2 : Nat) (b_3 : Nat) (b_5 : Nat) (b_6 : Nat) (keys : Int) (again_1 : Int → World → Prop) (b_8 : Nat) (k_ : Int) (again_2 : Int → World → Prop) (t66 : Bool) (w44 : World) : Prop :=
  (t66 = true → (∀ w45, (∃ k, w45 = w44.drewN k) → (∃ (v70 : Slc), w45.cell? ⟨b_8, 1, none⟩ = some (Value.slice v70.ptr v70.len v70.cap) ∧ (C_dump_Decode_3 (some ⟨b_6, 0, none⟩) (some ⟨b_2, 0, none⟩) (some ⟨b_3, 0, none⟩) (some ⟨b_5, 0, none⟩) w45 (fun (v72 : T_api_Version) w46 => w46.cell? ⟨b_8, 1, none⟩ = some (Value.slice v70.ptr v70.len v70.cap) ∧ (∀ b_9 w47, b_9 = w46.heap.size → w47 = w46.alloc (Obj.cells ([Value.int .i64 v72.Number, Value.string v72.Val, Value.bool v72.Drop]).toArray ty_api_Version (0, 0)) → (w47.cell? ⟨b_8, 1, none⟩ = some (Value.slice v70.ptr v70.len v70.cap) ∧ (∃ src, SrcAt w47 (Slc.mk (some ⟨b_9, 0, none⟩) 1 1) 3 src ∧ AppendW 3 32 ty_api_Version [Value.int .i64 0, Value.string ByteArray.empty, Value.bool false] v70 src 1 w47 (fun v74 w48 => (Writable w48 b_8 1 1 ∧ (∀ w49, w49 = World.puts b_8 1 [Value.slice v74.ptr v74.len v74.cap] w48 → ((again_2 (IntKind.i64.wrap (k_ - 1)) w49))))))))))))) ∧
  (t66 = false → (∃ (v77 : Slc), w44.cell? ⟨b_1, 2, none⟩ = some (Value.slice v77.ptr v77.len v77.cap) ∧ (∃ (v78 : T_api_Held), CellsAt w44 b_8 0 [Value.string v78.Key, Value.slice v78.Versions.ptr v78.Versions.len v78.Versions.cap] ∧ (∀ b_10 w50, b_10 = w44.heap.size → w50 = w44.alloc (Obj.cells ([Value.string v78.Key, Value.slice v78.Versions.ptr v78.Versions.len v78.Versions.cap]).toArray ty_api_Held (0, 0)) → (∃ src, SrcAt w50 (Slc.mk (some ⟨b_10, 0, none⟩) 1 1) 2 src ∧ AppendW 2 40 ty_api_Held [Value.string ByteArray.empty, Value.slice none 0 0] v77 src 1 w50 (fun v80 w51 => Writable w51 b_1 2 1 ∧ (∀ w52, w52 = World.puts b_1 2 [Value.slice v80.ptr v80.len v80.cap] w51 → (again_1 (IntKind.u64.wrap (keys - 1)) w52))))))))

def F_dump_Decode_L6 (b_1 : Nat) (b_2 : Nat) (b_3 : Nat) (b_5 : Nat) (b_6 : Nat) (keys : Int) (again_1 : Int → World → Prop) (b_8 : Nat) (again_2 : Int → World → Prop) (k_ : Int) (w43 : World) : Prop :=
  ((decide (k_ > 0)) = true → (∃ (v64 : Int), w43.cell? ⟨b_2, 0, none⟩ = some (Value.int .i64 v64) ∧ (F_dump_Decode_k7 b_1 b_2 b_3 b_5 b_6 keys again_1 b_8 k_ again_2 (v64 == 0) w43))) ∧
  ((decide (k_ > 0)) = false → (F_dump_Decode_k7 b_1 b_2 b_3 b_5 b_6 keys again_1 b_8 k_ again_2 false w43))

def F_dump_Decode_k5 (R : T_api_Saved → Int → World → Prop) (b_1 : Nat) (b_2 : Nat) (b_3 : Nat) (b_5 : Nat) (b_6 : Nat) (keys : Int) (again_1 : Int → World → Prop) (t51 : Bool) (w37 : World) : Prop :=
  (t51 = true → (∃ (v54 : Option Addr), w37.cell? ⟨b_3, 0, none⟩ = some (Value.pointer v54) ∧ (C_codec_Reader_Text v54 64 w37 (fun (v55 : ByteArray) w38 => ∀ b_8 w39, b_8 = w38.heap.size → w39 = w38.alloc (Obj.cells ([Value.string ByteArray.empty, Value.slice none 0 0]).toArray ty_api_Held (0, 0)) → (Writable w39 b_8 0 2 ∧ (∀ w40, w40 = World.puts b_8 0 [Value.string v55, Value.slice none 0 0] w39 → (∃ (v57 : Value), w40.cell? ⟨b_5, 0, none⟩ = some (v57) ∧ (CallsV (P := Try.prog) v57 #[Value.bool false, Value.int .i64 0] w40 (fun e' w41 => ∃ (v58 : Bool), e' = Ending.returned (Value.bool v58) ∧ ((v58 = true → (F_dump_Decode_k3 R b_1 b_2 b_3 w41)) ∧
  (v58 = false → (∃ (v59 : Value), w41.cell? ⟨b_6, 0, none⟩ = some (v59) ∧ (CallsV (P := Try.prog) v59 #[] w41 (fun e' w42 => ∃ (v60 : Int), e' = Ending.returned (Value.int .i64 v60) ∧ (∃ (I : Int → World → Prop) (μ : Int → World → Nat), I v60 w42 ∧
  ∀ (k_ : Int) w, I k_ w → F_dump_Decode_L6 b_1 b_2 b_3 b_5 b_6 keys again_1 b_8 (fun (k_' : Int) w' => I k_' w' ∧ μ k_' w' < μ k_ w) k_ w))))))))))))))) ∧
  (t51 = false → (F_dump_Decode_k3 R b_1 b_2 b_3 w37))

def F_dump_Decode_L4 (R : T_api_Saved → Int → World → Prop) (b_1 : Nat) (b_2 : Nat) (b_3 : Nat) (b_5 : Nat) (b_6 : Nat) (again_1 : Int → World → Prop) (keys : Int) (w36 : World) : Prop :=
  ((decide (keys > 0)) = true → (∃ (v49 : Int), w36.cell? ⟨b_2, 0, none⟩ = some (Value.int .i64 v49) ∧ (F_dump_Decode_k5 R b_1 b_2 b_3 b_5 b_6 keys again_1 (v49 == 0) w36))) ∧
  ((decide (keys > 0)) = false → (F_dump_Decode_k5 R b_1 b_2 b_3 b_5 b_6 keys again_1 false w36))

def F_dump_Decode_k2 (R : T_api_Saved → Int → World → Prop) (b_1 : Nat) (b_2 : Nat) (b_3 : Nat) (b_5 : Nat) (b_6 : Nat) (v41 : Int) (w23 : World) : Prop :=
  ∃ (I : Int → World → Prop) (μ : Int → World → Nat), I v41 w23 ∧
  ∀ (keys : Int) w, I keys w → F_dump_Decode_L4 R b_1 b_2 b_3 b_5 b_6 (fun (keys' : Int) w' => I keys' w' ∧ μ keys' w' < μ keys w) keys w

def F_dump_Decode_k1 (R : T_api_Saved → Int → World → Prop) (b_1 : Nat) (b_2 : Nat) (b_3 : Nat) (b_5 : Nat) (b_6 : Nat) (n_ : Int) (again_ : Int → World → Prop) (t30 : Bool) (w16 : World) : Prop :=
  (t30 = true → (∀ w17, (∃ k, w17 = w16.drewN k) → (∃ (v34 : Slc), w17.cell? ⟨b_1, 1, none⟩ = some (Value.slice v34.ptr v34.len v34.cap) ∧ (∃ (v35 : Value), w17.cell? ⟨b_6, 0, none⟩ = some (v35) ∧ (CallsV (P := Try.prog) v35 #[] w17 (fun e' w18 => ∃ (v36 : Int), e' = Ending.returned (Value.int .i64 v36) ∧ w18.cell? ⟨b_1, 1, none⟩ = some (Value.slice v34.ptr v34.len v34.cap) ∧ (∀ b_7 w19, b_7 = w18.heap.size → w19 = w18.alloc (Obj.cells ([Value.int .i64 v36]).toArray ty_int (0, 0)) → (w19.cell? ⟨b_1, 1, none⟩ = some (Value.slice v34.ptr v34.len v34.cap) ∧ (∃ src, SrcAt w19 (Slc.mk (some ⟨b_7, 0, none⟩) 1 1) 1 src ∧ AppendW 1 8 ty_int [Value.int .i64 0] v34 src 1 w19 (fun v38 w20 => (Writable w20 b_1 1 1 ∧ (∀ w21, w21 = World.puts b_1 1 [Value.slice v38.ptr v38.len v38.cap] w20 → ((again_ (IntKind.i64.wrap (n_ - 1)) w21)))))))))))))) ∧
  (t30 = false → (∃ (v40 : Option Addr), w16.cell? ⟨b_3, 0, none⟩ = some (Value.pointer v40) ∧ (C_codec_Reader_Var v40 w16 (fun (v41 : Int) w22 => ∃ (v42 : Int), w22.cell? ⟨b_2, 0, none⟩ = some (Value.int .i64 v42) ∧ (((v42 == 0) = true → (∃ (v44 : Value), w22.cell? ⟨b_5, 0, none⟩ = some (v44) ∧ (CallsV (P := Try.prog) v44 #[Value.bool false, Value.int .i64 0] w22 (fun e' w53 => ∃ (v45 : Bool), e' = Ending.returned (Value.bool v45) ∧ (F_dump_Decode_k2 R b_1 b_2 b_3 b_5 b_6 v41 w53))))) ∧
  ((v42 == 0) = false → (F_dump_Decode_k2 R b_1 b_2 b_3 b_5 b_6 v41 w22)))))))

def F_dump_Decode_L0 (R : T_api_Saved → Int → World → Prop) (b_1 : Nat) (b_2 : Nat) (b_3 : Nat) (b_5 : Nat) (b_6 : Nat) (again_ : Int → World → Prop) (n_ : Int) (w15 : World) : Prop :=
  ((decide (n_ > 0)) = true → (∃ (v28 : Int), w15.cell? ⟨b_2, 0, none⟩ = some (Value.int .i64 v28) ∧ (F_dump_Decode_k1 R b_1 b_2 b_3 b_5 b_6 n_ again_ (v28 == 0) w15))) ∧
  ((decide (n_ > 0)) = false → (F_dump_Decode_k1 R b_1 b_2 b_3 b_5 b_6 n_ again_ false w15))

def F_dump_Decode (b_ : Slc) (R : T_api_Saved → Int → World → Prop) (w : World) : Prop :=
  ∀ b_1 w1, b_1 = w.heap.size → w1 = w.alloc (Obj.cells ([Value.int .i64 0, Value.slice none 0 0, Value.slice none 0 0]).toArray ty_api_Saved (0, 0)) → (∀ b_2 w2, b_2 = w1.heap.size → w2 = w1.alloc (Obj.cells ([Value.int .i64 0]).toArray ty_api_Errno (0, 0)) → (C_codec_NewReader b_ w2 (fun (v14 : Option Addr) w3 => ∀ b_3 w4, b_3 = w3.heap.size → w4 = w3.alloc (Obj.cells ([Value.pointer none]).toArray ty_ptr_codec_Reader (0, 0)) → (Writable w4 b_3 0 1 ∧ (∀ w5, w5 = World.puts b_3 0 [Value.pointer v14] w4 → (∀ b_4 w6, b_4 = w5.heap.size → w6 = w5.alloc (Obj.cells ([Value.int .i64 0]).toArray ty_int (0, 0)) → (Writable w6 b_4 0 1 ∧ (∀ w7, w7 = World.puts b_4 0 [Value.int .i64 ((b_.len : Nat) : Int)] w6 → (∀ b_5 w8, b_5 = w7.heap.size → w8 = w7.alloc (Obj.cells ([Value.nilFunc]).toArray ty_func_bool_api_Errno_bool (0, 0)) → (Writable w8 b_5 0 1 ∧ (∀ w9, w9 = World.puts b_5 0 [Value.func (.func 38) #[] #[Value.pointer (some ⟨b_2, 0, none⟩), Value.pointer (some ⟨b_3, 0, none⟩), Value.pointer (some ⟨b_4, 0, none⟩)]] w8 → (∀ b_6 w10, b_6 = w9.heap.size → w10 = w9.alloc (Obj.cells ([Value.nilFunc]).toArray ty_func_int (0, 0)) → (Writable w10 b_6 0 1 ∧ (∀ w11, w11 = World.puts b_6 0 [Value.func (.func 41) #[] #[Value.pointer (some ⟨b_2, 0, none⟩), Value.pointer (some ⟨b_3, 0, none⟩), Value.pointer (some ⟨b_5, 0, none⟩)]] w10 → (∃ (v20 : Value), w11.cell? ⟨b_6, 0, none⟩ = some (v20) ∧ (CallsV (P := Try.prog) v20 #[] w11 (fun e' w12 => ∃ (v21 : Int), e' = Ending.returned (Value.int .i64 v21) ∧ (Writable w12 b_1 0 1 ∧ (∀ w13, w13 = World.puts b_1 0 [Value.int .i64 v21] w12 → (∃ (v23 : Value), w13.cell? ⟨b_6, 0, none⟩ = some (v23) ∧ (CallsV (P := Try.prog) v23 #[] w13 (fun e' w14 => ∃ (v24 : Int), e' = Ending.returned (Value.int .i64 v24) ∧ (∃ (I : Int → World → Prop) (μ : Int → World → Nat), I v24 w14 ∧
  ∀ (n_ : Int) w, I n_ w → F_dump_Decode_L0 R b_1 b_2 b_3 b_5 b_6 (fun (n_' : Int) w' => I n_' w' ∧ μ n_' w' < μ n_ w) n_ w)))))))))))))))))))))))

def F_dump_Encode_k3 (t67 : Int) (again_2 : Int → World → Prop) (w15 : World) : Prop :=
  again_2 (IntKind.i64.wrap (t67 + 1)) w15

def F_dump_Encode_L2 (v17 : Option Addr) (t50 : Int) (again_1 : Int → World → Prop) (v65 : Slc) (again_2 : Int → World → Prop) (t67 : Int) (w14 : World) : Prop :=
  ((decide (t67 < ((v65.len : Nat) : Int))) = true → (IsAt v65.ptr ∧ (0 ≤ t67 ∧ t67 < ((v65.len : Nat) : Int) ∧ (∃ (v70 : T_api_Version), CellsAt w14 (pblk v65.ptr) ((poff v65.ptr) + t67.toNat * 3) [Value.int .i64 v70.Number, Value.string v70.Val, Value.bool v70.Drop] ∧ (∀ b_2 w16, b_2 = w14.heap.size → w16 = w14.alloc (Obj.cells ([Value.int .i64 0, Value.string ByteArray.empty, Value.bool false]).toArray ty_api_Version (0, 0)) → (Writable w16 b_2 0 3 ∧ (∀ w17, w17 = World.puts b_2 0 [Value.int .i64 v70.Number, Value.string v70.Val, Value.bool v70.Drop] w16 → (∃ (v73 : Int), w17.cell? ⟨b_2, 0, none⟩ = some (Value.int .i64 v73) ∧ (C_codec_Writer_Var v17 (IntKind.u64.wrap v73) w17 (fun w18 => ∃ (v77 : Bool), w18.cell? ⟨b_2, 2, none⟩ = some (Value.bool v77) ∧ ((v77 = true → (C_codec_Writer_Fixed v17 1 1 w18 (fun (v79 : Int) w19 => F_dump_Encode_k3 t67 again_2 w19))) ∧
  (v77 = false → (C_codec_Writer_Fixed v17 0 1 w18 (fun (v81 : Int) w20 => ∃ (v84 : ByteArray), w20.cell? ⟨b_2, 1, none⟩ = some (Value.string v84) ∧ (C_codec_Writer_Text v17 v84 w20 (fun w21 => F_dump_Encode_k3 t67 again_2 w21)))))))))))))))) ∧
  ((decide (t67 < ((v65.len : Nat) : Int))) = false → (again_1 (IntKind.i64.wrap (t50 + 1)) w14))

def F_dump_Encode_L1 (R : Slc → Int → World → Prop) (v17 : Option Addr) (v48 : Slc) (again_1 : Int → World → Prop) (t50 : Int) (w9 : World) : Prop :=
  ((decide (t50 < ((v48.len : Nat) : Int))) = true → (IsAt v48.ptr ∧ (0 ≤ t50 ∧ t50 < ((v48.len : Nat) : Int) ∧ (∃ (v53 : T_api_Held), CellsAt w9 (pblk v48.ptr) ((poff v48.ptr) + t50.toNat * 2) [Value.string v53.Key, Value.slice v53.Versions.ptr v53.Versions.len v53.Versions.cap] ∧ (∀ b_1 w10, b_1 = w9.heap.size → w10 = w9.alloc (Obj.cells ([Value.string ByteArray.empty, Value.slice none 0 0]).toArray ty_api_Held (0, 0)) → (Writable w10 b_1 0 2 ∧ (∀ w11, w11 = World.puts b_1 0 [Value.string v53.Key, Value.slice v53.Versions.ptr v53.Versions.len v53.Versions.cap] w10 → (∃ (v56 : ByteArray), w11.cell? ⟨b_1, 0, none⟩ = some (Value.string v56) ∧ (C_codec_Writer_Text v17 v56 w11 (fun w12 => ∃ (v60 : Slc), w12.cell? ⟨b_1, 1, none⟩ = some (Value.slice v60.ptr v60.len v60.cap) ∧ (C_codec_Writer_Var v17 (IntKind.u64.wrap ((v60.len : Nat) : Int)) w12 (fun w13 => ∃ (v65 : Slc), w13.cell? ⟨b_1, 1, none⟩ = some (Value.slice v65.ptr v65.len v65.cap) ∧ (∃ (I : Int → World → Prop) (μ : Int → World → Nat), I 0 w13 ∧
  ∀ (t67 : Int) w, I t67 w → F_dump_Encode_L2 v17 t50 again_1 v65 (fun (t67' : Int) w' => I t67' w' ∧ μ t67' w' < μ t67 w) t67 w))))))))))))) ∧
  ((decide (t50 < ((v48.len : Nat) : Int))) = false → (C_codec_Writer_Done v17 w9 (fun (v89 : Slc) w22 => R v89 0 w22)))

def F_dump_Encode_L0 (R : Slc → Int → World → Prop) (b_ : Nat) (v17 : Option Addr) (v30 : Slc) (again_ : Int → World → Prop) (t32 : Int) (w6 : World) : Prop :=
  ((decide (t32 < ((v30.len : Nat) : Int))) = true → (IsAt v30.ptr ∧ (0 ≤ t32 ∧ t32 < ((v30.len : Nat) : Int) ∧ (∃ (n_ : Int), w6.cell? ⟨(pblk v30.ptr), (poff v30.ptr) + t32.toNat, none⟩ = some (Value.int .i64 n_) ∧ (C_codec_Writer_Var v17 (IntKind.u64.wrap n_) w6 (fun w7 => again_ (IntKind.i64.wrap (t32 + 1)) w7)))))) ∧
  ((decide (t32 < ((v30.len : Nat) : Int))) = false → (∃ (v43 : Slc), w6.cell? ⟨b_, 2, none⟩ = some (Value.slice v43.ptr v43.len v43.cap) ∧ (C_codec_Writer_Var v17 (IntKind.u64.wrap ((v43.len : Nat) : Int)) w6 (fun w8 => ∃ (v48 : Slc), w8.cell? ⟨b_, 2, none⟩ = some (Value.slice v48.ptr v48.len v48.cap) ∧ (∃ (I : Int → World → Prop) (μ : Int → World → Nat), I 0 w8 ∧
  ∀ (t50 : Int) w, I t50 w → F_dump_Encode_L1 R v17 v48 (fun (t50' : Int) w' => I t50' w' ∧ μ t50' w' < μ t50 w) t50 w)))))

def F_dump_Encode (s : T_api_Saved) (R : Slc → Int → World → Prop) (w : World) : Prop :=
  ∀ b_ w1, b_ = w.heap.size → w1 = w.alloc (Obj.cells ([Value.int .i64 s.Mark, Value.slice s.Beyond.ptr s.Beyond.len s.Beyond.cap, Value.slice s.Held.ptr s.Held.len s.Held.cap]).toArray ty_api_Saved (0, 0)) → (∃ (v12 : T_api_Saved), CellsAt w1 b_ 0 [Value.int .i64 v12.Mark, Value.slice v12.Beyond.ptr v12.Beyond.len v12.Beyond.cap, Value.slice v12.Held.ptr v12.Held.len v12.Held.cap] ∧ (C_dump_Check v12 w1 (fun (v13 : Int) w2 => ((v13 != 0) = true → (R (Slc.mk none 0 0) v13 w2)) ∧
  ((v13 != 0) = false → (C_codec_NewWriter w2 (fun (v17 : Option Addr) w3 => ∃ (v20 : Int), w3.cell? ⟨b_, 0, none⟩ = some (Value.int .i64 v20) ∧ (C_codec_Writer_Var v17 (IntKind.u64.wrap v20) w3 (fun w4 => ∃ (v25 : Slc), w4.cell? ⟨b_, 1, none⟩ = some (Value.slice v25.ptr v25.len v25.cap) ∧ (C_codec_Writer_Var v17 (IntKind.u64.wrap ((v25.len : Nat) : Int)) w4 (fun w5 => ∃ (v30 : Slc), w5.cell? ⟨b_, 1, none⟩ = some (Value.slice v30.ptr v30.len v30.cap) ∧ (∃ (I : Int → World → Prop) (μ : Int → World → Nat), I 0 w5 ∧
  ∀ (t32 : Int) w, I t32 w → F_dump_Encode_L0 R b_ v17 v30 (fun (t32' : Int) w' => I t32' w' ∧ μ t32' w' < μ t32 w) t32 w)))))))))))

def F_dump_Check_k4 (R : Int → World → Prop) (b_ : Nat) (t60 : Int) (again_2 : Int → World → Prop) (b_2 : Nat) (t77 : Bool) (w11 : World) : Prop :=
  (t77 = true → (R 1 w11)) ∧
  (t77 = false → (∃ (v80 : Slc), w11.cell? ⟨b_, 1, none⟩ = some (Value.slice v80.ptr v80.len v80.cap) ∧ (∃ (v82 : Int), w11.cell? ⟨b_2, 0, none⟩ = some (Value.int .i64 v82) ∧ (C_slices_BinarySearch_int_int v80 v82 w11 (fun (v83 : Int) (ok : Bool) w12 => ∃ (v87 : Int), w12.cell? ⟨b_2, 0, none⟩ = some (Value.int .i64 v87) ∧ (∃ (v89 : Int), w12.cell? ⟨b_, 0, none⟩ = some (Value.int .i64 v89) ∧ ((((decide (v87 > v89)) && (!ok)) = true → (R 1 w12)) ∧
  (((decide (v87 > v89)) && (!ok)) = false → (again_2 (IntKind.i64.wrap (t60 + 1)) w12)))))))))

def F_dump_Check_L3 (R : Int → World → Prop) (b_ : Nat) (t53 : Int) (again_1 : Int → World → Prop) (v58 : Slc) (again_2 : Int → World → Prop) (t60 : Int) (w8 : World) : Prop :=
  ((decide (t60 < ((v58.len : Nat) : Int))) = true → (IsAt v58.ptr ∧ (0 ≤ t60 ∧ t60 < ((v58.len : Nat) : Int) ∧ (∃ (v64 : T_api_Version), CellsAt w8 (pblk v58.ptr) ((poff v58.ptr) + t60.toNat * 3) [Value.int .i64 v64.Number, Value.string v64.Val, Value.bool v64.Drop] ∧ (∀ b_2 w9, b_2 = w8.heap.size → w9 = w8.alloc (Obj.cells ([Value.int .i64 0, Value.string ByteArray.empty, Value.bool false]).toArray ty_api_Version (0, 0)) → (Writable w9 b_2 0 3 ∧ (∀ w10, w10 = World.puts b_2 0 [Value.int .i64 v64.Number, Value.string v64.Val, Value.bool v64.Drop] w9 → (∃ (v66 : Int), w10.cell? ⟨b_2, 0, none⟩ = some (Value.int .i64 v66) ∧ (∃ (v68 : Int), w10.cell? ⟨b_, 0, none⟩ = some (Value.int .i64 v68) ∧ (((decide (v66 ≤ v68)) = true → (((decide (t60 > 0)) = true → (F_dump_Check_k4 R b_ t60 again_2 b_2 true w10)) ∧
  ((decide (t60 > 0)) = false → (∃ (v75 : Bool), w10.cell? ⟨b_2, 2, none⟩ = some (Value.bool v75) ∧ (F_dump_Check_k4 R b_ t60 again_2 b_2 v75 w10))))) ∧
  ((decide (v66 ≤ v68)) = false → (F_dump_Check_k4 R b_ t60 again_2 b_2 false w10)))))))))))) ∧
  ((decide (t60 < ((v58.len : Nat) : Int))) = false → (again_1 (IntKind.i64.wrap (t53 + 1)) w8))

def F_dump_Check_L2 (R : Int → World → Prop) (b_ : Nat) (v51 : Slc) (again_1 : Int → World → Prop) (t53 : Int) (w5 : World) : Prop :=
  ((decide (t53 < ((v51.len : Nat) : Int))) = true → (IsAt v51.ptr ∧ (0 ≤ t53 ∧ t53 < ((v51.len : Nat) : Int) ∧ (∃ (v56 : T_api_Held), CellsAt w5 (pblk v51.ptr) ((poff v51.ptr) + t53.toNat * 2) [Value.string v56.Key, Value.slice v56.Versions.ptr v56.Versions.len v56.Versions.cap] ∧ (∀ b_1 w6, b_1 = w5.heap.size → w6 = w5.alloc (Obj.cells ([Value.string ByteArray.empty, Value.slice none 0 0]).toArray ty_api_Held (0, 0)) → (Writable w6 b_1 0 2 ∧ (∀ w7, w7 = World.puts b_1 0 [Value.string v56.Key, Value.slice v56.Versions.ptr v56.Versions.len v56.Versions.cap] w6 → (∃ (v58 : Slc), w7.cell? ⟨b_1, 1, none⟩ = some (Value.slice v58.ptr v58.len v58.cap) ∧ (∃ (I : Int → World → Prop) (μ : Int → World → Nat), I 0 w7 ∧
  ∀ (t60 : Int) w, I t60 w → F_dump_Check_L3 R b_ t53 again_1 v58 (fun (t60' : Int) w' => I t60' w' ∧ μ t60' w' < μ t60 w) t60 w))))))))) ∧
  ((decide (t53 < ((v51.len : Nat) : Int))) = false → (R 0 w5))

def F_dump_Check_L1 (R : Int → World → Prop) (b_ : Nat) (v26 : Slc) (again_ : Int → Int → World → Prop) (least : Int) (t28 : Int) (w3 : World) : Prop :=
  ((decide (t28 < ((v26.len : Nat) : Int))) = true → (IsAt v26.ptr ∧ (0 ≤ t28 ∧ t28 < ((v26.len : Nat) : Int) ∧ (∃ (n_ : Int), w3.cell? ⟨(pblk v26.ptr), (poff v26.ptr) + t28.toNat, none⟩ = some (Value.int .i64 n_) ∧ ((((decide (n_ < least)) || (decide (n_ > 65536))) = true → (R 1 w3)) ∧
  (((decide (n_ < least)) || (decide (n_ > 65536))) = false → (again_ (IntKind.i64.wrap (n_ + 1)) (IntKind.i64.wrap (t28 + 1)) w3))))))) ∧
  ((decide (t28 < ((v26.len : Nat) : Int))) = false → (∃ (v44 : Slc), w3.cell? ⟨b_, 2, none⟩ = some (Value.slice v44.ptr v44.len v44.cap) ∧ (C_shard_Load v44 w3 (fun (v45 : Option Addr) (e : Int) w4 => ((e != 0) = true → (R 1 w4)) ∧
  ((e != 0) = false → (∃ (v51 : Slc), w4.cell? ⟨b_, 2, none⟩ = some (Value.slice v51.ptr v51.len v51.cap) ∧ (∃ (I : Int → World → Prop) (μ : Int → World → Nat), I 0 w4 ∧
  ∀ (t53 : Int) w, I t53 w → F_dump_Check_L2 R b_ v51 (fun (t53' : Int) w' => I t53' w' ∧ μ t53' w' < μ t53 w) t53 w)))))))

def F_dump_Check_k0 (R : Int → World → Prop) (b_ : Nat) (t21 : Bool) (w2 : World) : Prop :=
  (t21 = true → (R 1 w2)) ∧
  (t21 = false → (∃ (v23 : Int), w2.cell? ⟨b_, 0, none⟩ = some (Value.int .i64 v23) ∧ (∃ (v26 : Slc), w2.cell? ⟨b_, 1, none⟩ = some (Value.slice v26.ptr v26.len v26.cap) ∧ (∃ (I : Int → Int → World → Prop) (μ : Int → Int → World → Nat), I (IntKind.i64.wrap (v23 + 2)) 0 w2 ∧
  ∀ (least : Int) (t28 : Int) w, I least t28 w → F_dump_Check_L1 R b_ v26 (fun (least' : Int) (t28' : Int) w' => I least' t28' w' ∧ μ least' t28' w' < μ least t28 w) least t28 w))))

def F_dump_Check (s : T_api_Saved) (R : Int → World → Prop) (w : World) : Prop :=
  ∀ b_ w1, b_ = w.heap.size → w1 = w.alloc (Obj.cells ([Value.int .i64 s.Mark, Value.slice s.Beyond.ptr s.Beyond.len s.Beyond.cap, Value.slice s.Held.ptr s.Held.len s.Held.cap]).toArray ty_api_Saved (0, 0)) → (∃ (v15 : Int), w1.cell? ⟨b_, 0, none⟩ = some (Value.int .i64 v15) ∧ (((decide (v15 < 0)) = true → (F_dump_Check_k0 R b_ true w1)) ∧
  ((decide (v15 < 0)) = false → (∃ (v19 : Int), w1.cell? ⟨b_, 0, none⟩ = some (Value.int .i64 v19) ∧ (F_dump_Check_k0 R b_ (decide (v19 > 65536)) w1)))))

def F_towpathlaw01_SameBytes_L0 (a_ : Slc) (b_ : Slc) (R : Bool → World → Prop) (again_ : Int → World → Prop) (i : Int) (w1 : World) : Prop :=
  ((decide (i < ((a_.len : Nat) : Int))) = true → (IsAt a_.ptr ∧ (0 ≤ i ∧ i < ((a_.len : Nat) : Int) ∧ (∃ (v20 : Int), w1.cell? ⟨(pblk a_.ptr), (poff a_.ptr) + i.toNat, none⟩ = some (Value.int .u8 v20) ∧ (IsAt b_.ptr ∧ (0 ≤ i ∧ i < ((b_.len : Nat) : Int) ∧ (∃ (v24 : Int), w1.cell? ⟨(pblk b_.ptr), (poff b_.ptr) + i.toNat, none⟩ = some (Value.int .u8 v24) ∧ (∀ w2, Ext w1 w2 → (((v20 != v24) = true → (R false w2)) ∧
  ((v20 != v24) = false → (again_ (IntKind.i64.wrap (i + 1)) w2))))))))))) ∧
  ((decide (i < ((a_.len : Nat) : Int))) = false → (R true w1))

def F_towpathlaw01_SameBytes (a_ : Slc) (b_ : Slc) (R : Bool → World → Prop) (w : World) : Prop :=
  ((((a_.len : Nat) : Int) != ((b_.len : Nat) : Int)) = true → (R false w)) ∧
  ((((a_.len : Nat) : Int) != ((b_.len : Nat) : Int)) = false → (∃ (I : Int → World → Prop) (μ : Int → World → Nat), I 0 w ∧
  ∀ (i : Int) w, I i w → F_towpathlaw01_SameBytes_L0 a_ b_ R (fun (i' : Int) w' => I i' w' ∧ μ i' w' < μ i w) i w))

def F_towpathlaw01_SavedSize (s : T_api_Saved) (R : Int → World → Prop) (w : World) : Prop :=
  ∀ b_ w1, b_ = w.heap.size → w1 = w.alloc (Obj.cells ([Value.int .i64 s.Mark, Value.slice s.Beyond.ptr s.Beyond.len s.Beyond.cap, Value.slice s.Held.ptr s.Held.len s.Held.cap]).toArray ty_api_Saved (0, 0)) → (∃ (v4 : Slc), w1.cell? ⟨b_, 1, none⟩ = some (Value.slice v4.ptr v4.len v4.cap) ∧ (∃ (v7 : Slc), w1.cell? ⟨b_, 2, none⟩ = some (Value.slice v7.ptr v7.len v7.cap) ∧ (∃ (v8 : Int), (∀ w', Ext w1 w' → C_towpathlaw01_HeldsSize v7 w' (fun (v8' : Int) w'' => v8' = v8 ∧ Ext w' w'')) ∧ (∀ w3, Ext w1 w3 → (R (IntKind.i64.wrap (((v4.len : Nat) : Int) + v8)) w3)))))

def F_conf_Check_k1 (R : Int → World → Prop) (t19 : Int) (again_ : Int → World → Prop) (t32 : Bool) (w6 : World) : Prop :=
  (t32 = true → (R 7 w6)) ∧
  (t32 = false → (again_ (IntKind.i64.wrap (t19 + 1)) w6))

def F_conf_Check_L0 (R : Int → World → Prop) (b_1 : Nat) (again_ : Int → World → Prop) (t19 : Int) (w3 : World) : Prop :=
  ((decide (t19 < ((4 : Nat) : Int))) = true → (0 ≤ t19 ∧ t19 < (4 : Int) ∧ (∃ (v22 : Arr2_Int), CellsAt w3 b_1 (0 + t19.toNat * 2) [Value.int .i64 v22.e0, Value.int .i64 v22.e1] ∧ (∀ b_2 w4, b_2 = w3.heap.size → w4 = w3.alloc (Obj.cells ([Value.int .i64 0, Value.int .i64 0]).toArray ty_2_int (0, 0)) → (Writable w4 b_2 0 2 ∧ (∀ w5, w5 = World.puts b_2 0 [Value.int .i64 v22.e0, Value.int .i64 v22.e1] w4 → (0 ≤ (0 : Int) ∧ (0 : Int) < (2 : Int) ∧ (∃ (v24 : Int), w5.cell? ⟨b_2, 0, none⟩ = some (Value.int .i64 v24) ∧ (((decide (v24 < 1)) = true → (F_conf_Check_k1 R t19 again_ true w5)) ∧
  ((decide (v24 < 1)) = false → (0 ≤ (0 : Int) ∧ (0 : Int) < (2 : Int) ∧ (∃ (v28 : Int), w5.cell? ⟨b_2, 0, none⟩ = some (Value.int .i64 v28) ∧ (0 ≤ (1 : Int) ∧ (1 : Int) < (2 : Int) ∧ (∃ (v30 : Int), w5.cell? ⟨b_2, 1, none⟩ = some (Value.int .i64 v30) ∧ (F_conf_Check_k1 R t19 again_ (decide (v28 > v30)) w5))))))))))))))) ∧
  ((decide (t19 < ((4 : Nat) : Int))) = false → (R 0 w3))

def F_conf_Check (c : T_api_Config) (R : Int → World → Prop) (w : World) : Prop :=
  ∀ b_ w1, b_ = w.heap.size → w1 = w.alloc (Obj.cells ([Value.int .i64 c.Lanes, Value.int .i64 c.Shards, Value.int .i64 c.Window, Value.int .i64 c.Queue]).toArray ty_api_Config (0, 0)) → (∃ (v6 : Int), w1.cell? ⟨b_, 0, none⟩ = some (Value.int .i64 v6) ∧ (∃ (v9 : Int), w1.cell? ⟨b_, 1, none⟩ = some (Value.int .i64 v9) ∧ (∃ (v12 : Int), w1.cell? ⟨b_, 2, none⟩ = some (Value.int .i64 v12) ∧ (∃ (v15 : Int), w1.cell? ⟨b_, 3, none⟩ = some (Value.int .i64 v15) ∧ (∀ b_1 w2, b_1 = w1.heap.size → w2 = w1.alloc (Obj.cells ([Value.int .i64 v6, Value.int .i64 16, Value.int .i64 v9, Value.int .i64 16, Value.int .i64 v12, Value.int .i64 64, Value.int .i64 v15, Value.int .i64 16]).toArray ty_2_int (0, 0)) → (∃ (I : Int → World → Prop) (μ : Int → World → Nat), I 0 w2 ∧
  ∀ (t19 : Int) w, I t19 w → F_conf_Check_L0 R b_1 (fun (t19' : Int) w' => I t19' w' ∧ μ t19' w' < μ t19 w) t19 w))))))

def F_dump_Split_L0 (R : Slc → Int → World → Prop) (b_ : Nat) (b_1 : Nat) (v24 : Int) (b_2 : Nat) (v27 : Slc) (again_ : Int → World → Prop) (t29 : Int) (w6 : World) : Prop :=
  ((decide (t29 < ((v27.len : Nat) : Int))) = true → (∃ (v33 : Slc), w6.cell? ⟨b_1, 2, none⟩ = some (Value.slice v33.ptr v33.len v33.cap) ∧ (IsAt v33.ptr ∧ (0 ≤ t29 ∧ t29 < ((v33.len : Nat) : Int) ∧ (∃ (v36 : T_api_Held), CellsAt w6 (pblk v33.ptr) ((poff v33.ptr) + t29.toNat * 2) [Value.string v36.Key, Value.slice v36.Versions.ptr v36.Versions.len v36.Versions.cap] ∧ (∀ b_3 w7, b_3 = w6.heap.size → w7 = w6.alloc (Obj.cells ([Value.string ByteArray.empty, Value.slice none 0 0]).toArray ty_api_Held (0, 0)) → (Writable w7 b_3 0 2 ∧ (∀ w8, w8 = World.puts b_3 0 [Value.string v36.Key, Value.slice v36.Versions.ptr v36.Versions.len v36.Versions.cap] w7 → (∃ (v38 : T_api_Config), CellsAt w8 b_ 0 [Value.int .i64 v38.Lanes, Value.int .i64 v38.Shards, Value.int .i64 v38.Window, Value.int .i64 v38.Queue] ∧ (∃ (v40 : ByteArray), w8.cell? ⟨b_3, 0, none⟩ = some (Value.string v40) ∧ (C_conf_Shard v38 v40 w8 (fun (n_ : Int) (v41_1 : Int) w9 => ∀ w10, (∃ k, w10 = w9.drewN k) → (0 ≤ n_ ∧ n_ < ((v24.toNat : Nat) : Int) ∧ (∃ (v49 : Slc), w10.cell? ⟨b_2, 0 + n_.toNat, none⟩ = some (Value.slice v49.ptr v49.len v49.cap) ∧ (∃ (v51 : ByteArray), w10.cell? ⟨b_3, 0, none⟩ = some (Value.string v51) ∧ (∃ (v53 : Slc), w10.cell? ⟨b_3, 1, none⟩ = some (Value.slice v53.ptr v53.len v53.cap) ∧ (C_slices_Clone_api_Version_api_Version v53 w10 (fun (v54 : Slc) w11 => w11.cell? ⟨b_3, 0, none⟩ = some (Value.string v51) ∧ w11.cell? ⟨b_2, 0 + n_.toNat, none⟩ = some (Value.slice v49.ptr v49.len v49.cap) ∧ (∀ b_4 w12, b_4 = w11.heap.size → w12 = w11.alloc (Obj.cells ([Value.string v51, Value.slice v54.ptr v54.len v54.cap]).toArray ty_api_Held (0, 0)) → (w12.cell? ⟨b_2, 0 + n_.toNat, none⟩ = some (Value.slice v49.ptr v49.len v49.cap) ∧ (∃ src, SrcAt w12 (Slc.mk (some ⟨b_4, 0, none⟩) 1 1) 2 src ∧ AppendW 2 40 ty_api_Held [Value.string ByteArray.empty, Value.slice none 0 0] v49 src 1 w12 (fun v57 w13 => (0 ≤ n_ ∧ n_ < ((v24.toNat : Nat) : Int) ∧ (Writable w13 b_2 (0 + n_.toNat) 1 ∧ (∀ w14, w14 = World.puts b_2 (0 + n_.toNat) [Value.slice v57.ptr v57.len v57.cap] w13 → ((again_ (IntKind.i64.wrap (t29 + 1)) w14))))))))))))))))))))))))))) ∧
  ((decide (t29 < ((v27.len : Nat) : Int))) = false → (R (Slc.mk (some ⟨b_2, 0, none⟩) v24.toNat v24.toNat) 0 w6))

def F_dump_Split (c : T_api_Config) (s : T_api_Saved) (R : Slc → Int → World → Prop) (w : World) : Prop :=
  ∀ b_ w1, b_ = w.heap.size → w1 = w.alloc (Obj.cells ([Value.int .i64 c.Lanes, Value.int .i64 c.Shards, Value.int .i64 c.Window, Value.int .i64 c.Queue]).toArray ty_api_Config (0, 0)) → (∀ b_1 w2, b_1 = w1.heap.size → w2 = w1.alloc (Obj.cells ([Value.int .i64 s.Mark, Value.slice s.Beyond.ptr s.Beyond.len s.Beyond.cap, Value.slice s.Held.ptr s.Held.len s.Held.cap]).toArray ty_api_Saved (0, 0)) → (∃ (v13 : T_api_Config), CellsAt w2 b_ 0 [Value.int .i64 v13.Lanes, Value.int .i64 v13.Shards, Value.int .i64 v13.Window, Value.int .i64 v13.Queue] ∧ (C_conf_Check v13 w2 (fun (v14 : Int) w3 => ((v14 != 0) = true → (R (Slc.mk none 0 0) v14 w3)) ∧
  ((v14 != 0) = false → (∃ (v18 : T_api_Saved), CellsAt w3 b_1 0 [Value.int .i64 v18.Mark, Value.slice v18.Beyond.ptr v18.Beyond.len v18.Beyond.cap, Value.slice v18.Held.ptr v18.Held.len v18.Held.cap] ∧ (C_dump_Check v18 w3 (fun (v19 : Int) w4 => ((v19 != 0) = true → (R (Slc.mk none 0 0) v19 w4)) ∧
  ((v19 != 0) = false → (∃ (v24 : Int), w4.cell? ⟨b_, 1, none⟩ = some (Value.int .i64 v24) ∧ (0 ≤ v24 ∧ v24 ≤ v24 ∧ (24 : Int) * v24 ≤ 281474976710656 ∧ (∀ b_2 w5, b_2 = w4.heap.size → w5 = w4.alloc (Obj.cells (repCells v24.toNat [Value.slice none 0 0]) ty_sl_api_Held (0, 0)) → (∃ (v27 : Slc), w5.cell? ⟨b_1, 2, none⟩ = some (Value.slice v27.ptr v27.len v27.cap) ∧ (∃ (I : Int → World → Prop) (μ : Int → World → Nat), I 0 w5 ∧
  ∀ (t29 : Int) w, I t29 w → F_dump_Split_L0 R b_ b_1 v24 b_2 v27 (fun (t29' : Int) w' => I t29' w' ∧ μ t29' w' < μ t29 w) t29 w))))))))))))))

def F_conf_Shard (c : T_api_Config) (key : ByteArray) (R : Int → Int → World → Prop) (w : World) : Prop :=
  ∀ b_ w1, b_ = w.heap.size → w1 = w.alloc (Obj.cells ([Value.int .i64 c.Lanes, Value.int .i64 c.Shards, Value.int .i64 c.Window, Value.int .i64 c.Queue]).toArray ty_api_Config (0, 0)) → (∃ (v7 : T_api_Config), CellsAt w1 b_ 0 [Value.int .i64 v7.Lanes, Value.int .i64 v7.Shards, Value.int .i64 v7.Window, Value.int .i64 v7.Queue] ∧ (C_conf_Check v7 w1 (fun (v8 : Int) w2 => ((v8 != 0) = true → (R 0 v8 w2)) ∧
  ((v8 != 0) = false → ((((key.toList == ByteArray.empty.toList) || (decide (((key.size : Nat) : Int) > 64))) = true → (R 0 1 w2)) ∧
  (((key.toList == ByteArray.empty.toList) || (decide (((key.size : Nat) : Int) > 64))) = false → (∃ (v20 : Int), (∀ w', Ext w2 w' → C_sum_Hash key w' (fun (v20' : Int) w'' => v20' = v20 ∧ Ext w' w'')) ∧ (∃ (v22 : Int), w2.cell? ⟨b_, 1, none⟩ = some (Value.int .i64 v22) ∧ ((IntKind.u32.wrap v22) ≠ 0 ∧ (∀ w4, Ext w2 w4 → (R (IntKind.i64.wrap (Int.tmod v20 (IntKind.u32.wrap v22))) 0 w4)))))))))))

def F_towpathlaw01_SameHeld (a_ : T_api_Held) (b_ : T_api_Held) (R : Bool → World → Prop) (w : World) : Prop :=
  ∀ b_1 w1, b_1 = w.heap.size → w1 = w.alloc (Obj.cells ([Value.string a_.Key, Value.slice a_.Versions.ptr a_.Versions.len a_.Versions.cap]).toArray ty_api_Held (0, 0)) → (∀ b_2 w2, b_2 = w1.heap.size → w2 = w1.alloc (Obj.cells ([Value.string b_.Key, Value.slice b_.Versions.ptr b_.Versions.len b_.Versions.cap]).toArray ty_api_Held (0, 0)) → (∃ (v6 : ByteArray), w2.cell? ⟨b_1, 0, none⟩ = some (Value.string v6) ∧ (∃ (v8 : ByteArray), w2.cell? ⟨b_2, 0, none⟩ = some (Value.string v8) ∧ (((v6.toList == v8.toList) = true → (∃ (v12 : Slc), w2.cell? ⟨b_1, 1, none⟩ = some (Value.slice v12.ptr v12.len v12.cap) ∧ (∃ (v14 : Slc), w2.cell? ⟨b_2, 1, none⟩ = some (Value.slice v14.ptr v14.len v14.cap) ∧ (C_towpathlaw01_SameVersions v12 v14 w2 (fun (v15 : Bool) w3 => R v15 w3))))) ∧
  ((v6.toList == v8.toList) = false → (R false w2))))))

def F_shard_Load_k1 (R : Option Addr → Int → World → Prop) (v7 : Option Addr) (t10 : Int) (again_ : Int → World → Prop) (b_ : Nat) (t45 : Bool) (w5 : World) : Prop :=
  (t45 = true → (R none 1 w5)) ∧
  (t45 = false → (∀ w6, (∃ k, w6 = w5.drewN k) → (IsAt v7 ∧ (∃ (v50 : Option Nat), w6.cell? ⟨(pblk v7), (poff v7), none⟩ = some (Value.map v50) ∧ (∃ (v52 : ByteArray), w6.cell? ⟨b_, 0, none⟩ = some (Value.string v52) ∧ (∃ (v54 : Slc), w6.cell? ⟨b_, 1, none⟩ = some (Value.slice v54.ptr v54.len v54.cap) ∧ (C_slices_Clone_api_Version_api_Version v54 w6 (fun (v55 : Slc) w7 => w7.cell? ⟨b_, 0, none⟩ = some (Value.string v52) ∧ w7.cell? ⟨(pblk v7), (poff v7), none⟩ = some (Value.map v50) ∧ (∃ (r : Nat) (es : Array MapEntry) (c : Nat), v50 = some r ∧ w7.heap[r]? = some (.map es c) ∧ (MapStr es ∧ (¬ mapHasS es v52 ∧ (∀ w8, w8 = { w7 with heap := w7.heap.setIfInBounds r (.map (es.push ⟨.string v52, Value.slice v55.ptr v55.len v55.cap, c⟩) (c + 1)) } → ((again_ (IntKind.i64.wrap (t10 + 1)) w8))))))))))))))

def F_shard_Load_L0 (l_ : Slc) (R : Option Addr → Int → World → Prop) (v7 : Option Addr) (again_ : Int → World → Prop) (t10 : Int) (w2 : World) : Prop :=
  ((decide (t10 < ((l_.len : Nat) : Int))) = true → (IsAt l_.ptr ∧ (0 ≤ t10 ∧ t10 < ((l_.len : Nat) : Int) ∧ (∃ (v14 : T_api_Held), CellsAt w2 (pblk l_.ptr) ((poff l_.ptr) + t10.toNat * 2) [Value.string v14.Key, Value.slice v14.Versions.ptr v14.Versions.len v14.Versions.cap] ∧ (∀ b_ w3, b_ = w2.heap.size → w3 = w2.alloc (Obj.cells ([Value.string ByteArray.empty, Value.slice none 0 0]).toArray ty_api_Held (0, 0)) → (Writable w3 b_ 0 2 ∧ (∀ w4, w4 = World.puts b_ 0 [Value.string v14.Key, Value.slice v14.Versions.ptr v14.Versions.len v14.Versions.cap] w3 → (∀ w9, (∃ k, w9 = w4.drewN k) → (∃ (v16 : ByteArray), w9.cell? ⟨b_, 0, none⟩ = some (Value.string v16) ∧ (C_shard_may v16 w9 (fun (v17 : Bool) w10 => (((!v17) = true → (F_shard_Load_k1 R v7 t10 again_ b_ true w10)) ∧
  ((!v17) = false → (((decide (t10 > 0)) = true → (IsAt l_.ptr ∧ (0 ≤ IntKind.i64.wrap (t10 - 1) ∧ IntKind.i64.wrap (t10 - 1) < ((l_.len : Nat) : Int) ∧ (∃ (v28 : ByteArray), w10.cell? ⟨(pblk l_.ptr), (poff l_.ptr) + (IntKind.i64.wrap (t10 - 1)).toNat * 2, none⟩ = some (Value.string v28) ∧ (∃ (v30 : ByteArray), w10.cell? ⟨b_, 0, none⟩ = some (Value.string v30) ∧ (((!(Op.bytesLess v28.toList v30.toList)) = true → (F_shard_Load_k1 R v7 t10 again_ b_ true w10)) ∧
  ((!(Op.bytesLess v28.toList v30.toList)) = false → (∃ (v36 : Slc), w10.cell? ⟨b_, 1, none⟩ = some (Value.slice v36.ptr v36.len v36.cap) ∧ (((((v36.len : Nat) : Int) == 0) = true → (F_shard_Load_k1 R v7 t10 again_ b_ true w10)) ∧
  ((((v36.len : Nat) : Int) == 0) = false → (∃ (v42 : Slc), w10.cell? ⟨b_, 1, none⟩ = some (Value.slice v42.ptr v42.len v42.cap) ∧ (C_chain_Check v42 w10 (fun (v43 : Int) w11 => (F_shard_Load_k1 R v7 t10 again_ b_ (v43 != 0) w11)))))))))))))) ∧
  ((decide (t10 > 0)) = false → (∃ (v361 : Slc), w10.cell? ⟨b_, 1, none⟩ = some (Value.slice v361.ptr v361.len v361.cap) ∧ (((((v361.len : Nat) : Int) == 0) = true → (F_shard_Load_k1 R v7 t10 again_ b_ true w10)) ∧
  ((((v361.len : Nat) : Int) == 0) = false → (∃ (v421 : Slc), w10.cell? ⟨b_, 1, none⟩ = some (Value.slice v421.ptr v421.len v421.cap) ∧ (C_chain_Check v421 w10 (fun (v431 : Int) w12 => (F_shard_Load_k1 R v7 t10 again_ b_ (v431 != 0) w12)))))))))))))))))))))) ∧
  ((decide (t10 < ((l_.len : Nat) : Int))) = false → (R v7 0 w2))

def F_shard_Load (l_ : Slc) (R : Option Addr → Int → World → Prop) (w : World) : Prop :=
  C_shard_New w (fun (v7 : Option Addr) w1 => ∃ (I : Int → World → Prop) (μ : Int → World → Nat), I 0 w1 ∧
  ∀ (t10 : Int) w, I t10 w → F_shard_Load_L0 l_ R v7 (fun (t10' : Int) w' => I t10' w' ∧ μ t10' w' < μ t10 w) t10 w)

def F_shard_Shard_Get (s : Option Addr) (key : ByteArray) (mark : Int) (R : ByteArray → Bool → World → Prop) (w : World) : Prop :=
  C_shard_Shard_gone s w (fun (v12 : Bool) w1 => (v12 = true → (R ByteArray.empty false w1)) ∧
  (v12 = false → (IsAt s ∧ (∃ (v18 : Option Nat), w1.cell? ⟨(pblk s), (poff s), none⟩ = some (Value.map v18) ∧ (∃ (es : Array MapEntry) (v20 : Slc), MapAt w1 v18 es ∧ (MapStr es ∧ ((∀ u_, MapGetS es key (Value.slice none 0 0) u_ → u_ = (Value.slice v20.ptr v20.len v20.cap)) ∧ (C_chain_At v20 mark w1 (fun (v22 : T_api_Version) (ok : Bool) (v22_2 : Int) w2 => ∀ b_ w3, b_ = w2.heap.size → w3 = w2.alloc (Obj.cells ([Value.int .i64 0, Value.string ByteArray.empty, Value.bool false]).toArray ty_api_Version (0, 0)) → (Writable w3 b_ 0 3 ∧ (∀ w4, w4 = World.puts b_ 0 [Value.int .i64 v22.Number, Value.string v22.Val, Value.bool v22.Drop] w3 → (∃ (v27 : ByteArray), w4.cell? ⟨b_, 1, none⟩ = some (Value.string v27) ∧ ((ok = true → (∃ (v31 : Bool), w4.cell? ⟨b_, 2, none⟩ = some (Value.bool v31) ∧ (∀ w5, Ext w4 w5 → (R v27 (!v31) w5)))) ∧
  (ok = false → (∀ w6, Ext w4 w6 → (R v27 false w6))))))))))))))))

def F_towpathlaw18_sample (R : T_api_Saved → World → Prop) (w : World) : Prop :=
  ∀ b_ w1, b_ = w.heap.size → w1 = w.alloc (Obj.cells ([Value.int .i64 0, Value.slice none 0 0, Value.slice none 0 0]).toArray ty_api_Saved (0, 0)) → (∀ b_1 w2, b_1 = w1.heap.size → w2 = w1.alloc (Obj.cells ([Value.int .i64 5]).toArray ty_int (0, 0)) → (∀ b_2 w3, b_2 = w2.heap.size → w3 = w2.alloc (Obj.cells ([Value.int .i64 2, Value.string (ByteArray.mk #[120]), Value.bool false, Value.int .i64 5, Value.string ByteArray.empty, Value.bool true]).toArray ty_api_Version (0, 0)) → (∀ b_3 w4, b_3 = w3.heap.size → w4 = w3.alloc (Obj.cells ([Value.int .i64 5, Value.string ByteArray.empty, Value.bool false]).toArray ty_api_Version (0, 0)) → (∀ b_4 w5, b_4 = w4.heap.size → w5 = w4.alloc (Obj.cells ([Value.string (ByteArray.mk #[97]), Value.slice (some ⟨b_2, 0, none⟩) 2 2, Value.string (ByteArray.mk #[98]), Value.slice (some ⟨b_3, 0, none⟩) 1 1]).toArray ty_api_Held (0, 0)) → (Writable w5 b_ 0 3 ∧ (∀ w6, w6 = World.puts b_ 0 [Value.int .i64 3, Value.slice (some ⟨b_1, 0, none⟩) 1 1, Value.slice (some ⟨b_4, 0, none⟩) 2 2] w5 → (∃ (res : T_api_Saved), CellsAt w6 b_ 0 [Value.int .i64 res.Mark, Value.slice res.Beyond.ptr res.Beyond.len res.Beyond.cap, Value.slice res.Held.ptr res.Held.len res.Held.cap] ∧ (R res w6))))))))

def F_codec_NewReader (b_ : Slc) (R : Option Addr → World → Prop) (w : World) : Prop :=
  C_slices_Clone_byte_byte b_ w (fun (v4 : Slc) w1 => ∀ b_1 w2, b_1 = w1.heap.size → w2 = w1.alloc (Obj.cells ([Value.bool true, Value.slice v4.ptr v4.len v4.cap, Value.int .i64 0]).toArray ty_codec_Reader (0, 0)) → (R (some ⟨b_1, 0, none⟩) w2))

def F_dump_Decode_1_k0 (t2 : Option Addr) (t3 : Option Addr) (t4 : Option Addr) (R : Bool → World → Prop) (w1 : World) : Prop :=
  IsAt t3 ∧ (∃ (v23 : Option Addr), w1.cell? ⟨(pblk t3), (poff t3), none⟩ = some (Value.pointer v23) ∧ (C_codec_Reader_Left v23 w1 (fun (v24 : Int) w2 => IsAt t4 ∧ (Writable w2 (pblk t4) (poff t4) 1 ∧ (∀ w3, w3 = World.puts (pblk t4) (poff t4) [Value.int .i64 v24] w2 → (IsAt t2 ∧ (∃ (v25 : Int), w3.cell? ⟨(pblk t2), (poff t2), none⟩ = some (Value.int .i64 v25) ∧ (R (v25 != 0) w3))))))))

def F_dump_Decode_1 (is : Bool) (f : Int) (t2 : Option Addr) (t3 : Option Addr) (t4 : Option Addr) (R : Bool → World → Prop) (w : World) : Prop :=
  IsAt t2 ∧ (∃ (v9 : Int), w.cell? ⟨(pblk t2), (poff t2), none⟩ = some (Value.int .i64 v9) ∧ (((v9 != 0) = true → (F_dump_Decode_1_k0 t2 t3 t4 R w)) ∧
  ((v9 != 0) = false → (∀ w4, (∃ k, w4 = w.drewN k) → (IsAt t3 ∧ (∃ (v12 : Option Addr), w4.cell? ⟨(pblk t3), (poff t3), none⟩ = some (Value.pointer v12) ∧ (IsAt t4 ∧ (∃ (v14 : Int), w4.cell? ⟨(pblk t4), (poff t4), none⟩ = some (Value.int .i64 v14) ∧ (C_codec_Reader_Left v12 w4 (fun (v13 : Int) w5 => w5.cell? ⟨(pblk t4), (poff t4), none⟩ = some (Value.int .i64 v14) ∧ (((v13 == v14) = true → (IsAt t3 ∧ (∃ (v16 : Option Addr), w5.cell? ⟨(pblk t3), (poff t3), none⟩ = some (Value.pointer v16) ∧ (C_codec_Reader_End v16 w5 (fun (v17 : Int) w6 => IsAt t2 ∧ (Writable w6 (pblk t2) (poff t2) 1 ∧ (∀ w7, w7 = World.puts (pblk t2) (poff t2) [Value.int .i64 v17] w6 → (IsAt t2 ∧ (∃ (v18 : Int), w7.cell? ⟨(pblk t2), (poff t2), none⟩ = some (Value.int .i64 v18) ∧ (((v18 == 0) = true → (IsAt t2 ∧ (Writable w7 (pblk t2) (poff t2) 1 ∧ (∀ w8, w8 = World.puts (pblk t2) (poff t2) [Value.int .i64 5] w7 → (F_dump_Decode_1_k0 t2 t3 t4 R w8))))) ∧
  ((v18 == 0) = false → (F_dump_Decode_1_k0 t2 t3 t4 R w7)))))))))))) ∧
  ((v13 == v14) = false → ((is = true → (IsAt t2 ∧ (Writable w5 (pblk t2) (poff t2) 1 ∧ (∀ w9, w9 = World.puts (pblk t2) (poff t2) [Value.int .i64 f] w5 → (F_dump_Decode_1_k0 t2 t3 t4 R w9))))) ∧
  (is = false → (F_dump_Decode_1_k0 t2 t3 t4 R w5)))))))))))))))

def F_codec_Reader_Left (r : Option Addr) (R : Int → World → Prop) (w : World) : Prop :=
  (r.isNone = true → (R 0 w)) ∧
  (r.isNone = false → (IsAt r ∧ (∃ (v8 : Slc), w.cell? ⟨(pblk r), (poff r) + 1, none⟩ = some (Value.slice v8.ptr v8.len v8.cap) ∧ (R ((v8.len : Nat) : Int) w))))

def F_codec_Reader_End_k1 (r : Option Addr) (R : Int → World → Prop) (t13 : Bool) (w2 : World) : Prop :=
  (t13 = true → (R 4 w2)) ∧
  (t13 = false → (IsAt r ∧ (∃ (v30 : Int), w2.cell? ⟨(pblk r), (poff r) + 2, none⟩ = some (Value.int .i64 v30) ∧ (R v30 w2))))

def F_codec_Reader_End_k0 (r : Option Addr) (R : Int → World → Prop) (t3 : Bool) (w1 : World) : Prop :=
  (t3 = true → (R 2 w1)) ∧
  (t3 = false → (IsAt r ∧ (∃ (v17 : Int), w1.cell? ⟨(pblk r), (poff r) + 2, none⟩ = some (Value.int .i64 v17) ∧ (((v17 == 0) = true → (IsAt r ∧ (∃ (v23 : Slc), w1.cell? ⟨(pblk r), (poff r) + 1, none⟩ = some (Value.slice v23.ptr v23.len v23.cap) ∧ (F_codec_Reader_End_k1 r R (decide (((v23.len : Nat) : Int) > 0)) w1)))) ∧
  ((v17 == 0) = false → (F_codec_Reader_End_k1 r R false w1))))))

def F_codec_Reader_End (r : Option Addr) (R : Int → World → Prop) (w : World) : Prop :=
  (r.isNone = true → (F_codec_Reader_End_k0 r R true w)) ∧
  (r.isNone = false → (IsAt r ∧ (∃ (v10 : Bool), w.cell? ⟨(pblk r), (poff r), none⟩ = some (Value.bool v10) ∧ (F_codec_Reader_End_k0 r R (!v10) w))))

def F_dump_Decode_2 (t0 : Option Addr) (t1 : Option Addr) (t2 : Option Addr) (R : Int → World → Prop) (w : World) : Prop :=
  IsAt t0 ∧ (∃ (v5 : Int), w.cell? ⟨(pblk t0), (poff t0), none⟩ = some (Value.int .i64 v5) ∧ (((v5 != 0) = true → (R 0 w)) ∧
  ((v5 != 0) = false → (IsAt t1 ∧ (∃ (v7 : Option Addr), w.cell? ⟨(pblk t1), (poff t1), none⟩ = some (Value.pointer v7) ∧ (C_codec_Reader_Var v7 w (fun (v8 : Int) w1 => IsAt t2 ∧ (∃ (v9 : Value), w1.cell? ⟨(pblk t2), (poff t2), none⟩ = some (v9) ∧ (CallsV (P := Try.prog) v9 #[Value.bool (decide (v8 > 65536)), Value.int .i64 3] w1 (fun e' w2 => ∃ (v12 : Bool), e' = Ending.returned (Value.bool v12) ∧ ((v12 = true → (R 0 w2)) ∧
  (v12 = false → (R (IntKind.i64.wrap v8) w2)))))))))))))

def F_codec_Reader_Var (r : Option Addr) (R : Int → World → Prop) (w : World) : Prop :=
  ∀ b_ w1, b_ = w.heap.size → w1 = w.alloc (Obj.cells ([Value.int .u64 0]).toArray ty_uint64 (0, 0)) → (C_codec_Reader_take r (Value.func (.func 73) #[] #[Value.pointer (some ⟨b_, 0, none⟩)]) w1 (fun (v5 : Bool) w2 => ∃ (v6 : Int), w2.cell? ⟨b_, 0, none⟩ = some (Value.int .u64 v6) ∧ (Writable w2 b_ 0 1 ∧ (∀ w3, w3 = World.puts b_ 0 [Value.int .u64 v6] w2 → (∃ (res : Int), CellsAt w3 b_ 0 [Value.int .u64 res] ∧ (R res w3))))))

def F_dump_Decode_3_k0 (R : T_api_Version → World → Prop) (b_ : Nat) (w6 : World) : Prop :=
  ∃ (v32 : T_api_Version), CellsAt w6 b_ 0 [Value.int .i64 v32.Number, Value.string v32.Val, Value.bool v32.Drop] ∧ (Writable w6 b_ 0 3 ∧ (∀ w7, w7 = World.puts b_ 0 [Value.int .i64 v32.Number, Value.string v32.Val, Value.bool v32.Drop] w6 → (∃ (res1 : T_api_Version), CellsAt w7 b_ 0 [Value.int .i64 res1.Number, Value.string res1.Val, Value.bool res1.Drop] ∧ (R res1 w7))))

def F_dump_Decode_3_k1 (t2 : Option Addr) (t3 : Option Addr) (R : T_api_Version → World → Prop) (b_ : Nat) (t26 : Bool) (w9 : World) : Prop :=
  (t26 = true → (IsAt t2 ∧ (∃ (v27 : Option Addr), w9.cell? ⟨(pblk t2), (poff t2), none⟩ = some (Value.pointer v27) ∧ (C_codec_Reader_Text v27 1024 w9 (fun (v28 : ByteArray) w10 => Writable w10 b_ 1 1 ∧ (∀ w11, w11 = World.puts b_ 1 [Value.string v28] w10 → (IsAt t3 ∧ (∃ (v30 : Value), w11.cell? ⟨(pblk t3), (poff t3), none⟩ = some (v30) ∧ (CallsV (P := Try.prog) v30 #[Value.bool false, Value.int .i64 0] w11 (fun e' w12 => ∃ (v31 : Bool), e' = Ending.returned (Value.bool v31) ∧ (F_dump_Decode_3_k0 R b_ w12))))))))))) ∧
  (t26 = false → (F_dump_Decode_3_k0 R b_ w9))

def F_dump_Decode_3 (t0 : Option Addr) (t1 : Option Addr) (t2 : Option Addr) (t3 : Option Addr) (R : T_api_Version → World → Prop) (w : World) : Prop :=
  ∀ b_ w1, b_ = w.heap.size → w1 = w.alloc (Obj.cells ([Value.int .i64 0, Value.string ByteArray.empty, Value.bool false]).toArray ty_api_Version (0, 0)) → (IsAt t0 ∧ (∃ (v6 : Value), w1.cell? ⟨(pblk t0), (poff t0), none⟩ = some (v6) ∧ (CallsV (P := Try.prog) v6 #[] w1 (fun e' w2 => ∃ (v7 : Int), e' = Ending.returned (Value.int .i64 v7) ∧ (Writable w2 b_ 0 1 ∧ (∀ w3, w3 = World.puts b_ 0 [Value.int .i64 v7] w2 → (IsAt t1 ∧ (∃ (v9 : Int), w3.cell? ⟨(pblk t1), (poff t1), none⟩ = some (Value.int .i64 v9) ∧ (((v9 != 0) = true → (∃ (v11 : T_api_Version), CellsAt w3 b_ 0 [Value.int .i64 v11.Number, Value.string v11.Val, Value.bool v11.Drop] ∧ (Writable w3 b_ 0 3 ∧ (∀ w4, w4 = World.puts b_ 0 [Value.int .i64 v11.Number, Value.string v11.Val, Value.bool v11.Drop] w3 → (∃ (res : T_api_Version), CellsAt w4 b_ 0 [Value.int .i64 res.Number, Value.string res.Val, Value.bool res.Drop] ∧ (R res w4)))))) ∧
  ((v9 != 0) = false → (IsAt t2 ∧ (∃ (v12 : Option Addr), w3.cell? ⟨(pblk t2), (poff t2), none⟩ = some (Value.pointer v12) ∧ (C_codec_Reader_Fixed v12 1 w3 (fun (v13 : Int) w5 => Writable w5 b_ 2 1 ∧ (∀ w8, w8 = World.puts b_ 2 [Value.bool (v13 == 1)] w5 → (IsAt t3 ∧ (∃ (v17 : Value), w8.cell? ⟨(pblk t3), (poff t3), none⟩ = some (v17) ∧ (CallsV (P := Try.prog) v17 #[Value.bool (decide (v13 > 1)), Value.int .i64 4] w8 (fun e' w13 => ∃ (v20 : Bool), e' = Ending.returned (Value.bool v20) ∧ (((!v20) = true → (∃ (v24 : Bool), w13.cell? ⟨b_, 2, none⟩ = some (Value.bool v24) ∧ (F_dump_Decode_3_k1 t2 t3 R b_ (!v24) w13))) ∧
  ((!v20) = false → (F_dump_Decode_3_k1 t2 t3 R b_ false w13))))))))))))))))))))))

def F_codec_Reader_Fixed (r : Option Addr) (width : Int) (R : Int → World → Prop) (w : World) : Prop :=
  ∀ b_ w1, b_ = w.heap.size → w1 = w.alloc (Obj.cells ([Value.int .i64 width]).toArray ty_int (0, 0)) → (∀ b_1 w2, b_1 = w1.heap.size → w2 = w1.alloc (Obj.cells ([Value.int .u64 0]).toArray ty_uint64 (0, 0)) → (C_codec_Reader_take r (Value.func (.func 75) #[] #[Value.pointer (some ⟨b_, 0, none⟩), Value.pointer (some ⟨b_1, 0, none⟩)]) w2 (fun (v7 : Bool) w3 => ∃ (v8 : Int), w3.cell? ⟨b_1, 0, none⟩ = some (Value.int .u64 v8) ∧ (Writable w3 b_1 0 1 ∧ (∀ w4, w4 = World.puts b_1 0 [Value.int .u64 v8] w3 → (∃ (res : Int), CellsAt w4 b_1 0 [Value.int .u64 res] ∧ (R res w4)))))))

def F_codec_Reader_Text (r : Option Addr) (most : Int) (R : ByteArray → World → Prop) (w : World) : Prop :=
  ∀ b_ w1, b_ = w.heap.size → w1 = w.alloc (Obj.cells ([Value.int .i64 most]).toArray ty_int (0, 0)) → (∀ b_1 w2, b_1 = w1.heap.size → w2 = w1.alloc (Obj.cells ([Value.string ByteArray.empty]).toArray ty_string (0, 0)) → (C_codec_Reader_take r (Value.func (.func 76) #[] #[Value.pointer (some ⟨b_, 0, none⟩), Value.pointer (some ⟨b_1, 0, none⟩)]) w2 (fun (v7 : Bool) w3 => ∃ (v8 : ByteArray), w3.cell? ⟨b_1, 0, none⟩ = some (Value.string v8) ∧ (Writable w3 b_1 0 1 ∧ (∀ w4, w4 = World.puts b_1 0 [Value.string v8] w3 → (∃ (res : ByteArray), CellsAt w4 b_1 0 [Value.string res] ∧ (R res w4)))))))

def F_codec_NewWriter (R : Option Addr → World → Prop) (w : World) : Prop :=
  ∀ b_ w1, b_ = w.heap.size → w1 = w.alloc (Obj.cells ([Value.bool true, Value.slice none 0 0]).toArray ty_codec_Writer (0, 0)) → (R (some ⟨b_, 0, none⟩) w1)

def F_codec_Writer_Var_L0 (w_ : Option Addr) (R : World → Prop) (again_ : Int → World → Prop) (n_1 : Int) (w2 : World) : Prop :=
  ((decide (n_1 ≥ 128)) = true → (IsAt w_ ∧ (∃ (v14 : Slc), w2.cell? ⟨(pblk w_), (poff w_) + 1, none⟩ = some (Value.slice v14.ptr v14.len v14.cap) ∧ (∀ b_ w3, b_ = w2.heap.size → w3 = w2.alloc (Obj.cells ([Value.int .u8 (bor .u8 (IntKind.u8.wrap n_1) 128)]).toArray ty_uint8 (0, 0)) → (∃ src, SrcAt w3 (Slc.mk (some ⟨b_, 0, none⟩) 1 1) 1 src ∧ AppendW 1 1 ty_uint8 [Value.int .u8 0] v14 src 1 w3 (fun v19 w4 => IsAt w_ ∧ (Writable w4 (pblk w_) ((poff w_) + 1) 1 ∧ (∀ w5, w5 = World.puts (pblk w_) ((poff w_) + 1) [Value.slice v19.ptr v19.len v19.cap] w4 → (again_ (Int.fdiv n_1 (2 ^ 7)) w5))))))))) ∧
  ((decide (n_1 ≥ 128)) = false → (IsAt w_ ∧ (∃ (v26 : Slc), w2.cell? ⟨(pblk w_), (poff w_) + 1, none⟩ = some (Value.slice v26.ptr v26.len v26.cap) ∧ (∀ b_1 w6, b_1 = w2.heap.size → w6 = w2.alloc (Obj.cells ([Value.int .u8 (IntKind.u8.wrap n_1)]).toArray ty_uint8 (0, 0)) → (∃ src, SrcAt w6 (Slc.mk (some ⟨b_1, 0, none⟩) 1 1) 1 src ∧ AppendW 1 1 ty_uint8 [Value.int .u8 0] v26 src 1 w6 (fun v30 w7 => IsAt w_ ∧ (Writable w7 (pblk w_) ((poff w_) + 1) 1 ∧ (∀ w8, w8 = World.puts (pblk w_) ((poff w_) + 1) [Value.slice v30.ptr v30.len v30.cap] w7 → (R w8)))))))))

def F_codec_Writer_Var (w_ : Option Addr) (n_ : Int) (R : World → Prop) (w : World) : Prop :=
  C_codec_Writer_gone w_ w (fun (v5 : Bool) w1 => (v5 = true → (R w1)) ∧
  (v5 = false → (∃ (I : Int → World → Prop) (μ : Int → World → Nat), I n_ w1 ∧
  ∀ (n_1 : Int) w, I n_1 w → F_codec_Writer_Var_L0 w_ R (fun (n_1' : Int) w' => I n_1' w' ∧ μ n_1' w' < μ n_1 w) n_1 w)))

def F_codec_Writer_Text (w_ : Option Addr) (s : ByteArray) (R : World → Prop) (w : World) : Prop :=
  C_codec_Writer_gone w_ w (fun (v5 : Bool) w1 => (v5 = true → (R w1)) ∧
  (v5 = false → (C_codec_Writer_Var w_ (IntKind.u64.wrap ((s.size : Nat) : Int)) w1 (fun w2 => IsAt w_ ∧ (∃ (v15 : Slc), w2.cell? ⟨(pblk w_), (poff w_) + 1, none⟩ = some (Value.slice v15.ptr v15.len v15.cap) ∧ (AppendW 1 1 ty_uint8 [Value.int .u8 0] v15 (strCells s) s.size w2 (fun v17 w3 => IsAt w_ ∧ (Writable w3 (pblk w_) ((poff w_) + 1) 1 ∧ (∀ w4, w4 = World.puts (pblk w_) ((poff w_) + 1) [Value.slice v17.ptr v17.len v17.cap] w3 → (R w4))))))))))

def F_codec_Writer_Fixed_L0 (w_ : Option Addr) (width : Int) (R : Int → World → Prop) (again_ : Int → Int → World → Prop) (n_1 : Int) (t24 : Int) (w2 : World) : Prop :=
  ((decide (t24 < width)) = true → (IsAt w_ ∧ (∃ (v30 : Slc), w2.cell? ⟨(pblk w_), (poff w_) + 1, none⟩ = some (Value.slice v30.ptr v30.len v30.cap) ∧ (∀ b_ w3, b_ = w2.heap.size → w3 = w2.alloc (Obj.cells ([Value.int .u8 (IntKind.u8.wrap n_1)]).toArray ty_uint8 (0, 0)) → (∃ src, SrcAt w3 (Slc.mk (some ⟨b_, 0, none⟩) 1 1) 1 src ∧ AppendW 1 1 ty_uint8 [Value.int .u8 0] v30 src 1 w3 (fun v34 w4 => IsAt w_ ∧ (Writable w4 (pblk w_) ((poff w_) + 1) 1 ∧ (∀ w5, w5 = World.puts (pblk w_) ((poff w_) + 1) [Value.slice v34.ptr v34.len v34.cap] w4 → (again_ (Int.fdiv n_1 (2 ^ 8)) (IntKind.i64.wrap (t24 + 1)) w5))))))))) ∧
  ((decide (t24 < width)) = false → (R 0 w2))

def F_codec_Writer_Fixed (w_ : Option Addr) (n_ : Int) (width : Int) (R : Int → World → Prop) (w : World) : Prop :=
  C_codec_Writer_gone w_ w (fun (v9 : Bool) w1 => (v9 = true → (R 2 w1)) ∧
  (v9 = false → ((((decide (width < 1)) || (decide (width > 8))) = true → (R 1 w1)) ∧
  (((decide (width < 1)) || (decide (width > 8))) = false → (0 ≤ IntKind.i64.wrap (8 * width) ∧ ((((Int.fdiv n_ (2 ^ (min (IntKind.i64.wrap (8 * width)).toNat 64))) != 0) = true → (R 3 w1)) ∧
  (((Int.fdiv n_ (2 ^ (min (IntKind.i64.wrap (8 * width)).toNat 64))) != 0) = false → (∃ (I : Int → Int → World → Prop) (μ : Int → Int → World → Nat), I n_ 0 w1 ∧
  ∀ (n_1 : Int) (t24 : Int) w, I n_1 t24 w → F_codec_Writer_Fixed_L0 w_ width R (fun (n_1' : Int) (t24' : Int) w' => I n_1' t24' w' ∧ μ n_1' t24' w' < μ n_1 t24 w) n_1 t24 w))))))))

def F_codec_Writer_Done (w_ : Option Addr) (R : Slc → World → Prop) (w : World) : Prop :=
  C_codec_Writer_gone w_ w (fun (v4 : Bool) w1 => (v4 = true → (R (Slc.mk none 0 0) w1)) ∧
  (v4 = false → (IsAt w_ ∧ (∃ (v8 : Slc), w1.cell? ⟨(pblk w_), (poff w_) + 1, none⟩ = some (Value.slice v8.ptr v8.len v8.cap) ∧ (C_slices_Clone_byte_byte v8 w1 (fun (v9 : Slc) w2 => R v9 w2))))))

def F_slices_BinarySearch_int_int_L0 (x : Slc) (target : Int) (R : Int → Bool → World → Prop) (again_ : Int → Int → World → Prop) (i : Int) (j : Int) (w1 : World) : Prop :=
  ((decide (i < j)) = true → (IsAt x.ptr ∧ (0 ≤ IntKind.i64.wrap (Int.fdiv (IntKind.u64.wrap (IntKind.i64.wrap (i + j))) (2 ^ 1)) ∧ IntKind.i64.wrap (Int.fdiv (IntKind.u64.wrap (IntKind.i64.wrap (i + j))) (2 ^ 1)) < ((x.len : Nat) : Int) ∧ (∃ (v25 : Int), w1.cell? ⟨(pblk x.ptr), (poff x.ptr) + (IntKind.i64.wrap (Int.fdiv (IntKind.u64.wrap (IntKind.i64.wrap (i + j))) (2 ^ 1))).toNat, none⟩ = some (Value.int .i64 v25) ∧ (C_cmp_Less_int v25 target w1 (fun (v27 : Bool) w2 => (v27 = true → (again_ (IntKind.i64.wrap ((IntKind.i64.wrap (Int.fdiv (IntKind.u64.wrap (IntKind.i64.wrap (i + j))) (2 ^ 1))) + 1)) j w2)) ∧
  (v27 = false → (again_ i (IntKind.i64.wrap (Int.fdiv (IntKind.u64.wrap (IntKind.i64.wrap (i + j))) (2 ^ 1))) w2)))))))) ∧
  ((decide (i < j)) = false → (((decide (i < ((x.len : Nat) : Int))) = true → (IsAt x.ptr ∧ (0 ≤ i ∧ i < ((x.len : Nat) : Int) ∧ (∃ (v39 : Int), w1.cell? ⟨(pblk x.ptr), (poff x.ptr) + i.toNat, none⟩ = some (Value.int .i64 v39) ∧ (((v39 == target) = true → (R i true w1)) ∧
  ((v39 == target) = false → (IsAt x.ptr ∧ (0 ≤ i ∧ i < ((x.len : Nat) : Int) ∧ (∃ (v46 : Int), w1.cell? ⟨(pblk x.ptr), (poff x.ptr) + i.toNat, none⟩ = some (Value.int .i64 v46) ∧ (C_slices_isNaN_int v46 w1 (fun (v47 : Bool) w3 => (v47 = true → (C_slices_isNaN_int target w3 (fun (v50 : Bool) w4 => R i v50 w4))) ∧
  (v47 = false → (R i false w3))))))))))))) ∧
  ((decide (i < ((x.len : Nat) : Int))) = false → (R i false w1))))

def F_slices_BinarySearch_int_int (x : Slc) (target : Int) (R : Int → Bool → World → Prop) (w : World) : Prop :=
  ∃ (I : Int → Int → World → Prop) (μ : Int → Int → World → Nat), I 0 ((x.len : Nat) : Int) w ∧
  ∀ (i : Int) (j : Int) w, I i j w → F_slices_BinarySearch_int_int_L0 x target R (fun (i' : Int) (j' : Int) w' => I i' j' w' ∧ μ i' j' w' < μ i j w) i j w

def F_towpathlaw01_HeldsSize_L0 (l_ : Slc) (R : Int → World → Prop) (again_ : Int → Int → World → Prop) (n_ : Int) (i : Int) (w1 : World) : Prop :=
  (((decide (i < ((l_.len : Nat) : Int))) && (decide (n_ ≤ 1048576))) = true → (IsAt l_.ptr ∧ (0 ≤ i ∧ i < ((l_.len : Nat) : Int) ∧ (∃ (v22 : ByteArray), w1.cell? ⟨(pblk l_.ptr), (poff l_.ptr) + i.toNat * 2, none⟩ = some (Value.string v22) ∧ (IsAt l_.ptr ∧ (0 ≤ i ∧ i < ((l_.len : Nat) : Int) ∧ (∃ (v29 : Slc), w1.cell? ⟨(pblk l_.ptr), ((poff l_.ptr) + i.toNat * 2) + 1, none⟩ = some (Value.slice v29.ptr v29.len v29.cap) ∧ (∃ (v30 : Int), (∀ w', Ext w1 w' → C_towpathlaw01_VersionsSize v29 w' (fun (v30' : Int) w'' => v30' = v30 ∧ Ext w' w'')) ∧ (∀ w3, Ext w1 w3 → (again_ (IntKind.i64.wrap ((IntKind.i64.wrap (n_ + ((v22.size : Nat) : Int))) + v30)) (IntKind.i64.wrap (i + 1)) w3)))))))))) ∧
  (((decide (i < ((l_.len : Nat) : Int))) && (decide (n_ ≤ 1048576))) = false → (R n_ w1))

def F_towpathlaw01_HeldsSize (l_ : Slc) (R : Int → World → Prop) (w : World) : Prop :=
  ∃ (I : Int → Int → World → Prop) (μ : Int → Int → World → Nat), I ((l_.len : Nat) : Int) 0 w ∧
  ∀ (n_ : Int) (i : Int) w, I n_ i w → F_towpathlaw01_HeldsSize_L0 l_ R (fun (n_' : Int) (i' : Int) w' => I n_' i' w' ∧ μ n_' i' w' < μ n_ i w) n_ i w

def F_slices_Clone_api_Version_api_Version (s : Slc) (R : Slc → World → Prop) (w : World) : Prop :=
  (s.ptr.isNone = true → (R (Slc.mk none 0 0) w)) ∧
  (s.ptr.isNone = false → (∀ b_ w1, b_ = w.heap.size → w1 = w.alloc (Obj.cells ([]).toArray ty_api_Version (0, 0)) → (∃ src, SrcAt w1 s 3 src ∧ AppendW 3 32 ty_api_Version [Value.int .i64 0, Value.string ByteArray.empty, Value.bool false] (Slc.mk (some ⟨b_, 0, none⟩) 0 0) src s.len w1 (fun v7 w2 => R v7 w2))))

def F_sum_Hash_L0 (key : ByteArray) (R : Int → World → Prop) (again_ : Int → Int → World → Prop) (h_ : Int) (t7 : Int) (w1 : World) : Prop :=
  ((decide (t7 < ((key.size : Nat) : Int))) = true → (0 ≤ t7 ∧ t7 < ((key.size : Nat) : Int) ∧ (again_ (IntKind.u32.wrap ((bxor .u32 h_ (IntKind.u32.wrap (byteAt key t7))) * 16777619)) (IntKind.i64.wrap (t7 + 1)) w1))) ∧
  ((decide (t7 < ((key.size : Nat) : Int))) = false → (R h_ w1))

def F_sum_Hash (key : ByteArray) (R : Int → World → Prop) (w : World) : Prop :=
  ∃ (I : Int → Int → World → Prop) (μ : Int → Int → World → Nat), I 2166136261 0 w ∧
  ∀ (h_ : Int) (t7 : Int) w, I h_ t7 w → F_sum_Hash_L0 key R (fun (h_' : Int) (t7' : Int) w' => I h_' t7' w' ∧ μ h_' t7' w' < μ h_ t7 w) h_ t7 w

def F_towpathlaw01_SameVersions_L0 (a_ : Slc) (b_ : Slc) (R : Bool → World → Prop) (again_ : Int → World → Prop) (i : Int) (w1 : World) : Prop :=
  ((decide (i < ((a_.len : Nat) : Int))) = true → (IsAt a_.ptr ∧ (0 ≤ i ∧ i < ((a_.len : Nat) : Int) ∧ (∃ (v20 : T_api_Version), CellsAt w1 (pblk a_.ptr) ((poff a_.ptr) + i.toNat * 3) [Value.int .i64 v20.Number, Value.string v20.Val, Value.bool v20.Drop] ∧ (IsAt b_.ptr ∧ (0 ≤ i ∧ i < ((b_.len : Nat) : Int) ∧ (∃ (v24 : T_api_Version), CellsAt w1 (pblk b_.ptr) ((poff b_.ptr) + i.toNat * 3) [Value.int .i64 v24.Number, Value.string v24.Val, Value.bool v24.Drop] ∧ (∀ w2, Ext w1 w2 → (((!(((v20.Number == v24.Number) && (v20.Val == v24.Val)) && (v20.Drop == v24.Drop))) = true → (R false w2)) ∧
  ((!(((v20.Number == v24.Number) && (v20.Val == v24.Val)) && (v20.Drop == v24.Drop))) = false → (again_ (IntKind.i64.wrap (i + 1)) w2))))))))))) ∧
  ((decide (i < ((a_.len : Nat) : Int))) = false → (R true w1))

def F_towpathlaw01_SameVersions (a_ : Slc) (b_ : Slc) (R : Bool → World → Prop) (w : World) : Prop :=
  ((((a_.len : Nat) : Int) != ((b_.len : Nat) : Int)) = true → (R false w)) ∧
  ((((a_.len : Nat) : Int) != ((b_.len : Nat) : Int)) = false → (∃ (I : Int → World → Prop) (μ : Int → World → Nat), I 0 w ∧
  ∀ (i : Int) w, I i w → F_towpathlaw01_SameVersions_L0 a_ b_ R (fun (i' : Int) w' => I i' w' ∧ μ i' w' < μ i w) i w))

def F_shard_New (R : Option Addr → World → Prop) (w : World) : Prop :=
  ∀ b_ w1, b_ = w.heap.size → w1 = w.alloc (Obj.map #[] 0) → (∀ b_1 w2, b_1 = w1.heap.size → w2 = w1.alloc (Obj.cells ([Value.map (some b_)]).toArray ty_shard_Shard (0, 0)) → (R (some ⟨b_1, 0, none⟩) w2))

def F_shard_may (key : ByteArray) (R : Bool → World → Prop) (w : World) : Prop :=
  R ((!(key.toList == ByteArray.empty.toList)) && (decide (((key.size : Nat) : Int) ≤ 64))) w

def F_chain_Check_k1 (R : Int → World → Prop) (t7 : Int) (again_ : Int → World → Prop) (t49 : Bool) (w4 : World) : Prop :=
  (t49 = true → (R 1 w4)) ∧
  (t49 = false → (again_ (IntKind.i64.wrap (t7 + 1)) w4))

def F_chain_Check_L0 (l_ : Slc) (R : Int → World → Prop) (again_ : Int → World → Prop) (t7 : Int) (w1 : World) : Prop :=
  ((decide (t7 < ((l_.len : Nat) : Int))) = true → (IsAt l_.ptr ∧ (0 ≤ t7 ∧ t7 < ((l_.len : Nat) : Int) ∧ (∃ (v11 : T_api_Version), CellsAt w1 (pblk l_.ptr) ((poff l_.ptr) + t7.toNat * 3) [Value.int .i64 v11.Number, Value.string v11.Val, Value.bool v11.Drop] ∧ (∀ b_ w2, b_ = w1.heap.size → w2 = w1.alloc (Obj.cells ([Value.int .i64 0, Value.string ByteArray.empty, Value.bool false]).toArray ty_api_Version (0, 0)) → (Writable w2 b_ 0 3 ∧ (∀ w3, w3 = World.puts b_ 0 [Value.int .i64 v11.Number, Value.string v11.Val, Value.bool v11.Drop] w2 → (∃ (v13 : Int), w3.cell? ⟨b_, 0, none⟩ = some (Value.int .i64 v13) ∧ (((decide (v13 < 1)) = true → (∀ w5, Ext w3 w5 → (F_chain_Check_k1 R t7 again_ true w5))) ∧
  ((decide (v13 < 1)) = false → (∃ (v17 : Int), w3.cell? ⟨b_, 0, none⟩ = some (Value.int .i64 v17) ∧ (((decide (v17 > 65536)) = true → (∀ w6, Ext w3 w6 → (F_chain_Check_k1 R t7 again_ true w6))) ∧
  ((decide (v17 > 65536)) = false → (∃ (v22 : ByteArray), w3.cell? ⟨b_, 1, none⟩ = some (Value.string v22) ∧ (((decide (((v22.size : Nat) : Int) > 1024)) = true → (∀ w7, Ext w3 w7 → (F_chain_Check_k1 R t7 again_ true w7))) ∧
  ((decide (((v22.size : Nat) : Int) > 1024)) = false → (∃ (v28 : Bool), w3.cell? ⟨b_, 2, none⟩ = some (Value.bool v28) ∧ ((v28 = true → (∃ (v31 : ByteArray), w3.cell? ⟨b_, 1, none⟩ = some (Value.string v31) ∧ (((!(v31.toList == ByteArray.empty.toList)) = true → (∀ w8, Ext w3 w8 → (F_chain_Check_k1 R t7 again_ true w8))) ∧
  ((!(v31.toList == ByteArray.empty.toList)) = false → (((decide (t7 > 0)) = true → (IsAt l_.ptr ∧ (0 ≤ IntKind.i64.wrap (t7 - 1) ∧ IntKind.i64.wrap (t7 - 1) < ((l_.len : Nat) : Int) ∧ (∃ (v44 : Int), w3.cell? ⟨(pblk l_.ptr), (poff l_.ptr) + (IntKind.i64.wrap (t7 - 1)).toNat * 3, none⟩ = some (Value.int .i64 v44) ∧ (∃ (v46 : Int), w3.cell? ⟨b_, 0, none⟩ = some (Value.int .i64 v46) ∧ (∀ w9, Ext w3 w9 → (F_chain_Check_k1 R t7 again_ (decide (v44 ≥ v46)) w9))))))) ∧
  ((decide (t7 > 0)) = false → (∀ w10, Ext w3 w10 → (F_chain_Check_k1 R t7 again_ false w10)))))))) ∧
  (v28 = false → (((decide (t7 > 0)) = true → (IsAt l_.ptr ∧ (0 ≤ IntKind.i64.wrap (t7 - 1) ∧ IntKind.i64.wrap (t7 - 1) < ((l_.len : Nat) : Int) ∧ (∃ (v441 : Int), w3.cell? ⟨(pblk l_.ptr), (poff l_.ptr) + (IntKind.i64.wrap (t7 - 1)).toNat * 3, none⟩ = some (Value.int .i64 v441) ∧ (∃ (v461 : Int), w3.cell? ⟨b_, 0, none⟩ = some (Value.int .i64 v461) ∧ (∀ w11, Ext w3 w11 → (F_chain_Check_k1 R t7 again_ (decide (v441 ≥ v461)) w11))))))) ∧
  ((decide (t7 > 0)) = false → (∀ w12, Ext w3 w12 → (F_chain_Check_k1 R t7 again_ false w12))))))))))))))))))))))) ∧
  ((decide (t7 < ((l_.len : Nat) : Int))) = false → (R 0 w1))

def F_chain_Check (l_ : Slc) (R : Int → World → Prop) (w : World) : Prop :=
  ∃ (I : Int → World → Prop) (μ : Int → World → Nat), I 0 w ∧
  ∀ (t7 : Int) w, I t7 w → F_chain_Check_L0 l_ R (fun (t7' : Int) w' => I t7' w' ∧ μ t7' w' < μ t7 w) t7 w

def F_shard_Shard_gone (s : Option Addr) (R : Bool → World → Prop) (w : World) : Prop :=
  (s.isNone = true → (R true w)) ∧
  (s.isNone = false → (IsAt s ∧ (∃ (v10 : Option Nat), w.cell? ⟨(pblk s), (poff s), none⟩ = some (Value.map v10) ∧ (R v10.isNone w))))

def F_chain_At (l_ : Slc) (mark : Int) (R : T_api_Version → Bool → Int → World → Prop) (w : World) : Prop :=
  ∀ b_ w1, b_ = w.heap.size → w1 = w.alloc (Obj.cells ([Value.int .i64 0, Value.string ByteArray.empty, Value.bool false]).toArray ty_api_Version (0, 0)) → (C_chain_Check l_ w1 (fun (v10 : Int) w2 => ((v10 != 0) = true → (Writable w2 b_ 0 3 ∧ (∀ w3, w3 = World.puts b_ 0 [Value.int .i64 0, Value.string ByteArray.empty, Value.bool false] w2 → (∃ (res : T_api_Version), CellsAt w3 b_ 0 [Value.int .i64 res.Number, Value.string res.Val, Value.bool res.Drop] ∧ (R res false v10 w3))))) ∧
  ((v10 != 0) = false → (C_chain_list_upto l_ mark w2 (fun (v17 : Int) w4 => ((v17 == 0) = true → (Writable w4 b_ 0 3 ∧ (∀ w5, w5 = World.puts b_ 0 [Value.int .i64 0, Value.string ByteArray.empty, Value.bool false] w4 → (∃ (res1 : T_api_Version), CellsAt w5 b_ 0 [Value.int .i64 res1.Number, Value.string res1.Val, Value.bool res1.Drop] ∧ (R res1 false 0 w5))))) ∧
  ((v17 == 0) = false → (IsAt l_.ptr ∧ (0 ≤ IntKind.i64.wrap (v17 - 1) ∧ IntKind.i64.wrap (v17 - 1) < ((l_.len : Nat) : Int) ∧ (∃ (v25 : T_api_Version), CellsAt w4 (pblk l_.ptr) ((poff l_.ptr) + (IntKind.i64.wrap (v17 - 1)).toNat * 3) [Value.int .i64 v25.Number, Value.string v25.Val, Value.bool v25.Drop] ∧ (Writable w4 b_ 0 3 ∧ (∀ w6, w6 = World.puts b_ 0 [Value.int .i64 v25.Number, Value.string v25.Val, Value.bool v25.Drop] w4 → (∃ (res2 : T_api_Version), CellsAt w6 b_ 0 [Value.int .i64 res2.Number, Value.string res2.Val, Value.bool res2.Drop] ∧ (R res2 true 0 w6)))))))))))))

def F_slices_Clone_byte_byte (s : Slc) (R : Slc → World → Prop) (w : World) : Prop :=
  (s.ptr.isNone = true → (R (Slc.mk none 0 0) w)) ∧
  (s.ptr.isNone = false → (∀ b_ w1, b_ = w.heap.size → w1 = w.alloc (Obj.cells ([]).toArray ty_uint8 (0, 0)) → (∃ src, SrcAt w1 s 1 src ∧ AppendW 1 1 ty_uint8 [Value.int .u8 0] (Slc.mk (some ⟨b_, 0, none⟩) 0 0) src s.len w1 (fun v7 w2 => R v7 w2))))

def F_codec_Reader_take_k0 (r : Option Addr) (next : Value) (R : Bool → World → Prop) (t22 : Bool) (w1 : World) : Prop :=
  (t22 = true → (R false w1)) ∧
  (t22 = false → (IsAt r ∧ (∃ (v28 : Slc), w1.cell? ⟨(pblk r), (poff r) + 1, none⟩ = some (Value.slice v28.ptr v28.len v28.cap) ∧ (CallsV (P := Try.prog) next #[Value.slice v28.ptr v28.len v28.cap] w1 (fun e' w2 => ∃ (n_ : Int) (e : Int), e' = Ending.returned (Value.tuple #[Value.int .i64 n_, Value.int .i64 e]) ∧ (((e != 0) = true → (IsAt r ∧ (Writable w2 (pblk r) ((poff r) + 2) 1 ∧ (∀ w3, w3 = World.puts (pblk r) ((poff r) + 2) [Value.int .i64 e] w2 → (R false w3))))) ∧
  ((e != 0) = false → (∀ w4, (∃ k, w4 = w2.drewN k) → (IsAt r ∧ (∃ (v42 : Slc), w4.cell? ⟨(pblk r), (poff r) + 1, none⟩ = some (Value.slice v42.ptr v42.len v42.cap) ∧ (IsAt r ∧ (∃ (v47 : Slc), w4.cell? ⟨(pblk r), (poff r) + 1, none⟩ = some (Value.slice v47.ptr v47.len v47.cap) ∧ (IsAt r ∧ (∃ (v52 : Slc), w4.cell? ⟨(pblk r), (poff r) + 1, none⟩ = some (Value.slice v52.ptr v52.len v52.cap) ∧ ((0 ≤ n_ ∧ n_ ≤ ((v47.len : Nat) : Int) ∧ ((v47.len : Nat) : Int) ≤ ((v52.len : Nat) : Int) ∧ ((v52.len : Nat) : Int) ≤ ((v42.cap : Nat) : Int)) ∧ (∀ s, s = Slc.cut 1 v42 n_ ((v47.len : Nat) : Int) ((v52.len : Nat) : Int) → (IsAt r ∧ (Writable w4 (pblk r) ((poff r) + 1) 1 ∧ (∀ w5, w5 = World.puts (pblk r) ((poff r) + 1) [Value.slice s.ptr s.len s.cap] w4 → (R true w5))))))))))))))))))))

def F_codec_Reader_take (r : Option Addr) (next : Value) (R : Bool → World → Prop) (w : World) : Prop :=
  (r.isNone = true → (F_codec_Reader_take_k0 r next R true w)) ∧
  (r.isNone = false → (IsAt r ∧ (∃ (v13 : Bool), w.cell? ⟨(pblk r), (poff r), none⟩ = some (Value.bool v13) ∧ (((!v13) = true → (F_codec_Reader_take_k0 r next R true w)) ∧
  ((!v13) = false → (IsAt r ∧ (∃ (v20 : Int), w.cell? ⟨(pblk r), (poff r) + 2, none⟩ = some (Value.int .i64 v20) ∧ (F_codec_Reader_take_k0 r next R (v20 != 0) w))))))))

def F_codec_Reader_Var_1 (b_ : Slc) (t1 : Option Addr) (R : Int → Int → World → Prop) (w : World) : Prop :=
  C_codec_short b_ w (fun (v : Int) (size : Int) (e : Int) w1 => IsAt t1 ∧ (Writable w1 (pblk t1) (poff t1) 1 ∧ (∀ w2, w2 = World.puts (pblk t1) (poff t1) [Value.int .u64 v] w1 → (R size e w2))))

def F_codec_short_L0 (b_ : Slc) (R : Int → Int → Int → World → Prop) (again_ : Int → Int → World → Prop) (n_ : Int) (t9 : Int) (w1 : World) : Prop :=
  ((decide (t9 < ((b_.len : Nat) : Int))) = true → (IsAt b_.ptr ∧ (0 ≤ t9 ∧ t9 < ((b_.len : Nat) : Int) ∧ (∃ (c : Int), w1.cell? ⟨(pblk b_.ptr), (poff b_.ptr) + t9.toNat, none⟩ = some (Value.int .u8 c) ∧ (((((t9 == 9) && (decide (c > 1))) || ((decide (t9 > 0)) && (c == 0))) = true → (R 0 0 4 w1)) ∧
  ((((t9 == 9) && (decide (c > 1))) || ((decide (t9 > 0)) && (c == 0))) = false → (0 ≤ IntKind.i64.wrap (7 * t9) ∧ (((decide (c < 128)) = true → (R (bor .u64 n_ (IntKind.u64.wrap ((IntKind.u64.wrap (band .u8 c 127)) * 2 ^ (min (IntKind.i64.wrap (7 * t9)).toNat 64)))) (IntKind.i64.wrap (t9 + 1)) 0 w1)) ∧
  ((decide (c < 128)) = false → (again_ (bor .u64 n_ (IntKind.u64.wrap ((IntKind.u64.wrap (band .u8 c 127)) * 2 ^ (min (IntKind.i64.wrap (7 * t9)).toNat 64)))) (IntKind.i64.wrap (t9 + 1)) w1)))))))))) ∧
  ((decide (t9 < ((b_.len : Nat) : Int))) = false → (R 0 0 5 w1))

def F_codec_short (b_ : Slc) (R : Int → Int → Int → World → Prop) (w : World) : Prop :=
  ∃ (I : Int → Int → World → Prop) (μ : Int → Int → World → Nat), I 0 0 w ∧
  ∀ (n_ : Int) (t9 : Int) w, I n_ t9 w → F_codec_short_L0 b_ R (fun (n_' : Int) (t9' : Int) w' => I n_' t9' w' ∧ μ n_' t9' w' < μ n_ t9 w) n_ t9 w

def F_codec_Reader_Fixed_1_L1 (b_ : Slc) (t1 : Option Addr) (t2 : Option Addr) (R : Int → Int → World → Prop) (again_ : Int → World → Prop) (i : Int) (w2 : World) : Prop :=
  ((decide (i ≥ 0)) = true → (∀ w3, (∃ k, w3 = w2.drewN k) → (IsAt t2 ∧ (∃ (v25 : Int), w3.cell? ⟨(pblk t2), (poff t2), none⟩ = some (Value.int .u64 v25) ∧ (IsAt b_.ptr ∧ (0 ≤ i ∧ i < ((b_.len : Nat) : Int) ∧ (∃ (v30 : Int), w3.cell? ⟨(pblk b_.ptr), (poff b_.ptr) + i.toNat, none⟩ = some (Value.int .u8 v30) ∧ (Writable w3 (pblk t2) (poff t2) 1 ∧ (∀ w4, w4 = World.puts (pblk t2) (poff t2) [Value.int .u64 (bor .u64 (IntKind.u64.wrap (v25 * 2 ^ 8)) (IntKind.u64.wrap v30))] w3 → (again_ (IntKind.i64.wrap (i - 1)) w4)))))))))) ∧
  ((decide (i ≥ 0)) = false → (IsAt t1 ∧ (∃ (v33 : Int), w2.cell? ⟨(pblk t1), (poff t1), none⟩ = some (Value.int .i64 v33) ∧ (R v33 0 w2))))

def F_codec_Reader_Fixed_1_k0 (b_ : Slc) (t1 : Option Addr) (t2 : Option Addr) (R : Int → Int → World → Prop) (t7 : Bool) (w1 : World) : Prop :=
  (t7 = true → (R 0 1 w1)) ∧
  (t7 = false → (IsAt t1 ∧ (∃ (v15 : Int), w1.cell? ⟨(pblk t1), (poff t1), none⟩ = some (Value.int .i64 v15) ∧ (((decide (v15 > ((b_.len : Nat) : Int))) = true → (R 0 5 w1)) ∧
  ((decide (v15 > ((b_.len : Nat) : Int))) = false → (IsAt t1 ∧ (∃ (v19 : Int), w1.cell? ⟨(pblk t1), (poff t1), none⟩ = some (Value.int .i64 v19) ∧ (∃ (I : Int → World → Prop) (μ : Int → World → Nat), I (IntKind.i64.wrap (v19 - 1)) w1 ∧
  ∀ (i : Int) w, I i w → F_codec_Reader_Fixed_1_L1 b_ t1 t2 R (fun (i' : Int) w' => I i' w' ∧ μ i' w' < μ i w) i w))))))))

def F_codec_Reader_Fixed_1 (b_ : Slc) (t1 : Option Addr) (t2 : Option Addr) (R : Int → Int → World → Prop) (w : World) : Prop :=
  IsAt t1 ∧ (∃ (v8 : Int), w.cell? ⟨(pblk t1), (poff t1), none⟩ = some (Value.int .i64 v8) ∧ (((decide (v8 < 1)) = true → (F_codec_Reader_Fixed_1_k0 b_ t1 t2 R true w)) ∧
  ((decide (v8 < 1)) = false → (∃ (v11 : Int), w.cell? ⟨(pblk t1), (poff t1), none⟩ = some (Value.int .i64 v11) ∧ (F_codec_Reader_Fixed_1_k0 b_ t1 t2 R (decide (v11 > 8)) w)))))

def F_codec_Reader_Text_1 (b_ : Slc) (t1 : Option Addr) (t2 : Option Addr) (R : Int → Int → World → Prop) (w : World) : Prop :=
  IsAt t1 ∧ (∃ (v9 : Int), w.cell? ⟨(pblk t1), (poff t1), none⟩ = some (Value.int .i64 v9) ∧ (((decide (v9 < 0)) = true → (R 0 1 w)) ∧
  ((decide (v9 < 0)) = false → (C_codec_short b_ w (fun (n_ : Int) (size : Int) (e : Int) w1 => ((e != 0) = true → (R 0 e w1)) ∧
  ((e != 0) = false → (IsAt t1 ∧ (∃ (v23 : Int), w1.cell? ⟨(pblk t1), (poff t1), none⟩ = some (Value.int .i64 v23) ∧ (((decide (n_ > (IntKind.u64.wrap v23))) = true → (R 0 3 w1)) ∧
  ((decide (n_ > (IntKind.u64.wrap v23))) = false → (((decide (n_ > (IntKind.u64.wrap (IntKind.i64.wrap (((b_.len : Nat) : Int) - size))))) = true → (R 0 5 w1)) ∧
  ((decide (n_ > (IntKind.u64.wrap (IntKind.i64.wrap (((b_.len : Nat) : Int) - size))))) = false → ((0 ≤ size ∧ size ≤ IntKind.i64.wrap (size + (IntKind.i64.wrap n_)) ∧ IntKind.i64.wrap (size + (IntKind.i64.wrap n_)) ≤ ((b_.cap : Nat) : Int) ∧ ((b_.cap : Nat) : Int) ≤ ((b_.cap : Nat) : Int)) ∧ (∀ s, s = Slc.cut 1 b_ size (IntKind.i64.wrap (size + (IntKind.i64.wrap n_))) ((b_.cap : Nat) : Int) → (∃ str : ByteArray, SrcAt w1 s 1 (strCells str) ∧ (IsAt t2 ∧ (Writable w1 (pblk t2) (poff t2) 1 ∧ (∀ w2, w2 = World.puts (pblk t2) (poff t2) [Value.string str] w1 → (R (IntKind.i64.wrap (size + (IntKind.i64.wrap n_))) 0 w2)))))))))))))))))))

def F_codec_Writer_gone (w_ : Option Addr) (R : Bool → World → Prop) (w : World) : Prop :=
  (w_.isNone = true → (R true w)) ∧
  (w_.isNone = false → (IsAt w_ ∧ (∃ (v9 : Bool), w.cell? ⟨(pblk w_), (poff w_), none⟩ = some (Value.bool v9) ∧ (R (!v9) w))))

def F_cmp_Less_int (x : Int) (y : Int) (R : Bool → World → Prop) (w : World) : Prop :=
  C_cmp_isNaN_int x w (fun (v6 : Bool) w1 => (v6 = true → (C_cmp_isNaN_int y w1 (fun (v9 : Bool) w2 => R ((!v9) || (decide (x < y))) w2))) ∧
  (v6 = false → (R (decide (x < y)) w1)))

def F_slices_isNaN_int (x : Int) (R : Bool → World → Prop) (w : World) : Prop :=
  R (x != x) w

def F_towpathlaw01_VersionsSize_L0 (l_ : Slc) (R : Int → World → Prop) (again_ : Int → Int → World → Prop) (n_ : Int) (i : Int) (w1 : World) : Prop :=
  (((decide (i < ((l_.len : Nat) : Int))) && (decide (n_ ≤ 1048576))) = true → (IsAt l_.ptr ∧ (0 ≤ i ∧ i < ((l_.len : Nat) : Int) ∧ (∃ (v22 : ByteArray), w1.cell? ⟨(pblk l_.ptr), ((poff l_.ptr) + i.toNat * 3) + 1, none⟩ = some (Value.string v22) ∧ (again_ (IntKind.i64.wrap (n_ + ((v22.size : Nat) : Int))) (IntKind.i64.wrap (i + 1)) w1))))) ∧
  (((decide (i < ((l_.len : Nat) : Int))) && (decide (n_ ≤ 1048576))) = false → (R n_ w1))

def F_towpathlaw01_VersionsSize (l_ : Slc) (R : Int → World → Prop) (w : World) : Prop :=
  ∃ (I : Int → Int → World → Prop) (μ : Int → Int → World → Nat), I ((l_.len : Nat) : Int) 0 w ∧
  ∀ (n_ : Int) (i : Int) w, I n_ i w → F_towpathlaw01_VersionsSize_L0 l_ R (fun (n_' : Int) (i' : Int) w' => I n_' i' w' ∧ μ n_' i' w' < μ n_ i w) n_ i w

def F_chain_list_upto (l_ : Slc) (at_ : Int) (R : Int → World → Prop) (w : World) : Prop :=
  C_sort_Search ((l_.len : Nat) : Int) (Value.func (.func 93) #[Value.agg #[Value.slice l_.ptr l_.len l_.cap, Value.int .i64 at_]] #[]) w (fun (v11 : Int) w1 => R v11 w1)

def F_cmp_isNaN_int (x : Int) (R : Bool → World → Prop) (w : World) : Prop :=
  R (x != x) w

def F_sort_Search_L0 (f : Value) (R : Int → World → Prop) (again_ : Int → Int → World → Prop) (i : Int) (j : Int) (w1 : World) : Prop :=
  ((decide (i < j)) = true → (CallsV (P := Try.prog) f #[Value.int .i64 (IntKind.i64.wrap (Int.fdiv (IntKind.u64.wrap (IntKind.i64.wrap (i + j))) (2 ^ 1)))] w1 (fun e' w2 => ∃ (v20 : Bool), e' = Ending.returned (Value.bool v20) ∧ (((!v20) = true → (again_ (IntKind.i64.wrap ((IntKind.i64.wrap (Int.fdiv (IntKind.u64.wrap (IntKind.i64.wrap (i + j))) (2 ^ 1))) + 1)) j w2)) ∧
  ((!v20) = false → (again_ i (IntKind.i64.wrap (Int.fdiv (IntKind.u64.wrap (IntKind.i64.wrap (i + j))) (2 ^ 1))) w2)))))) ∧
  ((decide (i < j)) = false → (R i w1))

def F_sort_Search (n_ : Int) (f : Value) (R : Int → World → Prop) (w : World) : Prop :=
  ∃ (I : Int → Int → World → Prop) (μ : Int → Int → World → Nat), I 0 n_ w ∧
  ∀ (i : Int) (j : Int) w, I i j w → F_sort_Search_L0 f R (fun (i' : Int) (j' : Int) w' => I i' j' w' ∧ μ i' j' w' < μ i j w) i j w

def F_chain_mark_above (m_ : T_chain_mark) (i : Int) (R : Bool → World → Prop) (w : World) : Prop :=
  ∀ b_ w1, b_ = w.heap.size → w1 = w.alloc (Obj.cells ([Value.slice m_.l.ptr m_.l.len m_.l.cap, Value.int .i64 m_.at_]).toArray ty_chain_mark (0, 0)) → (∃ (v6 : Slc), w1.cell? ⟨b_, 0, none⟩ = some (Value.slice v6.ptr v6.len v6.cap) ∧ (IsAt v6.ptr ∧ (0 ≤ i ∧ i < ((v6.len : Nat) : Int) ∧ (∃ (v10 : Int), w1.cell? ⟨(pblk v6.ptr), (poff v6.ptr) + i.toNat * 3, none⟩ = some (Value.int .i64 v10) ∧ (∃ (v12 : Int), w1.cell? ⟨b_, 1, none⟩ = some (Value.int .i64 v12) ∧ (∀ w2, Ext w1 w2 → (R (decide (v10 > v12)) w2)))))))

def Ok_T_api_Config (w : World) (x : T_api_Config) : Prop := ((-9223372036854775808) ≤ x.Lanes ∧ x.Lanes ≤ 9223372036854775807) ∧ ((-9223372036854775808) ≤ x.Shards ∧ x.Shards ≤ 9223372036854775807) ∧ ((-9223372036854775808) ≤ x.Window ∧ x.Window ≤ 9223372036854775807) ∧ ((-9223372036854775808) ≤ x.Queue ∧ x.Queue ≤ 9223372036854775807)

def Ok_T_api_Version (w : World) (x : T_api_Version) : Prop := ((-9223372036854775808) ≤ x.Number ∧ x.Number ≤ 9223372036854775807) ∧ (x.Val.size ≤ 140737488351232) ∧ True

def Ok_T_api_Held (w : World) (x : T_api_Held) : Prop := (x.Key.size ≤ 140737488351232) ∧ (OkSl w x.Versions 3 32 (fun es => ∃ e_ : T_api_Version, es = [Value.int .i64 e_.Number, Value.string e_.Val, Value.bool e_.Drop] ∧ (Ok_T_api_Version w e_)))

def Ok_T_api_Saved (w : World) (x : T_api_Saved) : Prop := ((-9223372036854775808) ≤ x.Mark ∧ x.Mark ≤ 9223372036854775807) ∧ (OkSl w x.Beyond 1 8 (fun es => ∃ e_ : Int, es = [Value.int .i64 e_] ∧ ((-9223372036854775808) ≤ e_ ∧ e_ ≤ 9223372036854775807))) ∧ (OkSl w x.Held 2 40 (fun es => ∃ e_ : T_api_Held, es = [Value.string e_.Key, Value.slice e_.Versions.ptr e_.Versions.len e_.Versions.cap] ∧ (Ok_T_api_Held w e_)))

end Go.Proofs.Ytpdegdnigcnjiaa
