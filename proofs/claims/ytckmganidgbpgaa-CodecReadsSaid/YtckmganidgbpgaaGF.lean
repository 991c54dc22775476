/- WRITTEN BY PROGRAM (dec.py): for each Go function the clean formula F, the call's contract C, and the proof S that F gives C. -/
import Derived.Test.YtckmganidgbpgaaRows
import Derived.Test.YtckmganidgbpgaaCore
namespace Go.Proofs.Ytckmganidgbpgaa
open Go
set_option linter.unusedVariables false


abbrev ty_int : TypeId := 3

abbrev ty_uint8 : TypeId := 5

abbrev ty_string : TypeId := 9

abbrev ty_towpathref02_Reader : TypeId := 32

abbrev ty_uint64 : TypeId := 35

abbrev ty_towpathlaw02_Op : TypeId := 37

abbrev ty_codec_Reader : TypeId := 39

abbrev ty_towpathlaw04_Op : TypeId := 44

abbrev ty_disk_Disk : TypeId := 51

abbrev ty_codec_Writer : TypeId := 87

structure T_towpathref02_Reader where
  Gone : Bool
  B : Slc
  At : Int
  Code : Int

structure T_towpathlaw02_Op where
  Kind : Int
  N : Int
  Width : Int
  Text : ByteArray
  Most : Int

structure T_towpathlaw04_Op where
  Kind : Int
  Slot : Int
  At : Int
  B : Slc
  N : Int

def C_towpathlaw02_CodecReads (b_ : Slc) (script : Slc) (w : World) (R : Bool → World → Prop) : Prop :=
  Calls Try.prog 3 #[Value.slice b_.ptr b_.len b_.cap, Value.slice script.ptr script.len script.cap] w (fun e w' => ∃ (r0 : Bool), e = .returned (Value.bool r0) ∧ R r0 w')

def C_towpathlaw04_DiskNone (o_ : T_towpathlaw04_Op) (w : World) (R : Bool → World → Prop) : Prop :=
  Calls Try.prog 4 #[Value.agg #[Value.int .u8 o_.Kind, Value.int .i64 o_.Slot, Value.int .i64 o_.At, Value.slice o_.B.ptr o_.B.len o_.B.cap, Value.int .i64 o_.N]] w (fun e w' => ∃ (r0 : Bool), e = .returned (Value.bool r0) ∧ R r0 w')

def C_towpathlaw04_DiskCuts (n_ : Int) (blocks : Slc) (w : World) (R : Bool → World → Prop) : Prop :=
  Calls Try.prog 5 #[Value.int .u8 n_, Value.slice blocks.ptr blocks.len blocks.cap] w (fun e w' => ∃ (r0 : Bool), e = .returned (Value.bool r0) ∧ R r0 w')

def C_towpathlaw04_DiskPlaces (first : Slc) (at_ : Int) (b_ : Slc) (w : World) (R : Bool → World → Prop) : Prop :=
  Calls Try.prog 6 #[Value.slice first.ptr first.len first.cap, Value.int .u8 at_, Value.slice b_.ptr b_.len b_.cap] w (fun e w' => ∃ (r0 : Bool), e = .returned (Value.bool r0) ∧ R r0 w')

def C_towpathlaw02_CodecApart (n_ : Int) (m : Int) (w : World) (R : Bool → World → Prop) : Prop :=
  Calls Try.prog 7 #[Value.int .u64 n_, Value.int .u64 m] w (fun e w' => ∃ (r0 : Bool), e = .returned (Value.bool r0) ∧ R r0 w')

def C_towpathlaw02_CodecOne (b_ : Slc) (kind : Int) (n_ : Int) (w : World) (R : Bool → World → Prop) : Prop :=
  Calls Try.prog 8 #[Value.slice b_.ptr b_.len b_.cap, Value.int .u8 kind, Value.int .u64 n_] w (fun e w' => ∃ (r0 : Bool), e = .returned (Value.bool r0) ∧ R r0 w')

def C_towpathlaw02_CodecBack (script : Slc) (w : World) (R : Bool → World → Prop) : Prop :=
  Calls Try.prog 9 #[Value.slice script.ptr script.len script.cap] w (fun e w' => ∃ (r0 : Bool), e = .returned (Value.bool r0) ∧ R r0 w')

def C_towpathlaw02_CodecStops (b_ : Slc) (script : Slc) (w : World) (R : Bool → World → Prop) : Prop :=
  Calls Try.prog 10 #[Value.slice b_.ptr b_.len b_.cap, Value.slice script.ptr script.len script.cap] w (fun e w' => ∃ (r0 : Bool), e = .returned (Value.bool r0) ∧ R r0 w')

def C_towpathlaw02_beyond (l_ : Slc) (w : World) (R : Bool → World → Prop) : Prop :=
  Calls Try.prog 11 #[Value.slice l_.ptr l_.len l_.cap] w (fun e w' => ∃ (r0 : Bool), e = .returned (Value.bool r0) ∧ R r0 w')

def C_towpathlaw01_Beyond (l_ : Slc) (w : World) (R : Bool → World → Prop) : Prop :=
  Calls Try.prog 12 #[Value.slice l_.ptr l_.len l_.cap] w (fun e w' => ∃ (r0 : Bool), e = .returned (Value.bool r0) ∧ R r0 w')

def C_towpathlaw01_TwinBytes (l_ : Slc) (w : World) (R : Slc → World → Prop) : Prop :=
  Calls Try.prog 13 #[Value.slice l_.ptr l_.len l_.cap] w (fun e w' => ∃ (r0 : Slc), e = .returned (Value.slice r0.ptr r0.len r0.cap) ∧ R r0 w')

def C_codec_NewReader (b_ : Slc) (w : World) (R : Option Addr → World → Prop) : Prop :=
  Calls Try.prog 14 #[Value.slice b_.ptr b_.len b_.cap] w (fun e w' => ∃ (r0 : Option Addr), e = .returned (Value.pointer r0) ∧ R r0 w')

def C_towpathlaw01_LeftBytes (t_ : Slc) (l_ : Slc) (w : World) (R : Bool → World → Prop) : Prop :=
  Calls Try.prog 15 #[Value.slice t_.ptr t_.len t_.cap, Value.slice l_.ptr l_.len l_.cap] w (fun e w' => ∃ (r0 : Bool), e = .returned (Value.bool r0) ∧ R r0 w')

def C_towpathlaw02_takes (r : Option Addr) (x : T_towpathref02_Reader) (o_ : T_towpathlaw02_Op) (w : World) (R : T_towpathref02_Reader → Bool → World → Prop) : Prop :=
  Calls Try.prog 16 #[Value.pointer r, Value.agg #[Value.bool x.Gone, Value.slice x.B.ptr x.B.len x.B.cap, Value.int .i64 x.At, Value.int .i64 x.Code], Value.agg #[Value.int .u8 o_.Kind, Value.int .u64 o_.N, Value.int .i64 o_.Width, Value.string o_.Text, Value.int .i64 o_.Most]] w (fun e w' => ∃ (r0 : T_towpathref02_Reader) (r1 : Bool), e = .returned (Value.tuple #[Value.agg #[Value.bool r0.Gone, Value.slice r0.B.ptr r0.B.len r0.B.cap, Value.int .i64 r0.At, Value.int .i64 r0.Code], Value.bool r1]) ∧ R r0 r1 w')

def C_codec_Reader_Left (r : Option Addr) (w : World) (R : Int → World → Prop) : Prop :=
  Calls Try.prog 17 #[Value.pointer r] w (fun e w' => ∃ (r0 : Int), e = .returned (Value.int .i64 r0) ∧ R r0 w')

def C_towpathref02_Reader_Left (r : T_towpathref02_Reader) (w : World) (R : Int → World → Prop) : Prop :=
  Calls Try.prog 18 #[Value.agg #[Value.bool r.Gone, Value.slice r.B.ptr r.B.len r.B.cap, Value.int .i64 r.At, Value.int .i64 r.Code]] w (fun e w' => ∃ (r0 : Int), e = .returned (Value.int .i64 r0) ∧ R r0 w')

def C_codec_Reader_End (r : Option Addr) (w : World) (R : Int → World → Prop) : Prop :=
  Calls Try.prog 19 #[Value.pointer r] w (fun e w' => ∃ (r0 : Int), e = .returned (Value.int .i64 r0) ∧ R r0 w')

def C_towpathref02_Reader_End (r : T_towpathref02_Reader) (w : World) (R : Int → World → Prop) : Prop :=
  Calls Try.prog 20 #[Value.agg #[Value.bool r.Gone, Value.slice r.B.ptr r.B.len r.B.cap, Value.int .i64 r.At, Value.int .i64 r.Code]] w (fun e w' => ∃ (r0 : Int), e = .returned (Value.int .i64 r0) ∧ R r0 w')

def C_towpathlaw04_beyond (l_ : Slc) (w : World) (R : Bool → World → Prop) : Prop :=
  Calls Try.prog 21 #[Value.slice l_.ptr l_.len l_.cap] w (fun e w' => ∃ (r0 : Bool), e = .returned (Value.bool r0) ∧ R r0 w')

def C_towpathlaw04_asked (d : Option Addr) (r : Option Addr) (o_ : T_towpathlaw04_Op) (w : World) (R : Bool → World → Prop) : Prop :=
  Calls Try.prog 22 #[Value.pointer d, Value.pointer r, Value.agg #[Value.int .u8 o_.Kind, Value.int .i64 o_.Slot, Value.int .i64 o_.At, Value.slice o_.B.ptr o_.B.len o_.B.cap, Value.int .i64 o_.N]] w (fun e w' => ∃ (r0 : Bool), e = .returned (Value.bool r0) ∧ R r0 w')

def C_towpathlaw04_looks (d : Option Addr) (r : Option Addr) (w : World) (R : Bool → World → Prop) : Prop :=
  Calls Try.prog 23 #[Value.pointer d, Value.pointer r] w (fun e w' => ∃ (r0 : Bool), e = .returned (Value.bool r0) ∧ R r0 w')

def C_towpathlaw04_alive (w : World) (R : Bool → World → Prop) : Prop :=
  Calls Try.prog 24 #[] w (fun e w' => ∃ (r0 : Bool), e = .returned (Value.bool r0) ∧ R r0 w')

def C_disk_New (capacity : Int) (w : World) (R : Option Addr → Int → World → Prop) : Prop :=
  Calls Try.prog 25 #[Value.int .i64 capacity] w (fun e w' => ∃ (r0 : Option Addr) (r1 : Int), e = .returned (Value.tuple #[Value.pointer r0, Value.int .i64 r1]) ∧ R r0 r1 w')

def C_disk_Disk_Cut (d : Option Addr) (n_ : Int) (w : World) (R : Int → World → Prop) : Prop :=
  Calls Try.prog 26 #[Value.pointer d, Value.int .i64 n_] w (fun e w' => ∃ (r0 : Int), e = .returned (Value.int .i64 r0) ∧ R r0 w')

def C_disk_Disk_Write (d : Option Addr) (slot : Int) (at_ : Int) (b_ : Slc) (w : World) (R : Int → World → Prop) : Prop :=
  Calls Try.prog 27 #[Value.pointer d, Value.int .i64 slot, Value.int .i64 at_, Value.slice b_.ptr b_.len b_.cap] w (fun e w' => ∃ (r0 : Int), e = .returned (Value.int .i64 r0) ∧ R r0 w')

def C_disk_Disk_Dead (d : Option Addr) (w : World) (R : Bool → World → Prop) : Prop :=
  Calls Try.prog 28 #[Value.pointer d] w (fun e w' => ∃ (r0 : Bool), e = .returned (Value.bool r0) ∧ R r0 w')

def C_disk_Disk_Read (d : Option Addr) (slot : Int) (w : World) (R : Slc → Int → World → Prop) : Prop :=
  Calls Try.prog 29 #[Value.pointer d, Value.int .i64 slot] w (fun e w' => ∃ (r0 : Slc) (r1 : Int), e = .returned (Value.tuple #[Value.slice r0.ptr r0.len r0.cap, Value.int .i64 r1]) ∧ R r0 r1 w')

def C_towpathlaw01_SameBytes (a_ : Slc) (b_ : Slc) (w : World) (R : Bool → World → Prop) : Prop :=
  Calls Try.prog 30 #[Value.slice a_.ptr a_.len a_.cap, Value.slice b_.ptr b_.len b_.cap] w (fun e w' => ∃ (r0 : Bool), e = .returned (Value.bool r0) ∧ R r0 w')

def C_disk_Disk_Writes (d : Option Addr) (w : World) (R : Int → World → Prop) : Prop :=
  Calls Try.prog 31 #[Value.pointer d] w (fun e w' => ∃ (r0 : Int), e = .returned (Value.int .i64 r0) ∧ R r0 w')

def C_disk_Disk_Mend (d : Option Addr) (w : World) (R : Int → World → Prop) : Prop :=
  Calls Try.prog 32 #[Value.pointer d] w (fun e w' => ∃ (r0 : Int), e = .returned (Value.int .i64 r0) ∧ R r0 w')

def C_codec_NewWriter (w : World) (R : Option Addr → World → Prop) : Prop :=
  Calls Try.prog 33 #[] w (fun e w' => ∃ (r0 : Option Addr), e = .returned (Value.pointer r0) ∧ R r0 w')

def C_codec_Writer_Var (w_ : Option Addr) (n_ : Int) (w : World) (R : World → Prop) : Prop :=
  Calls Try.prog 34 #[Value.pointer w_, Value.int .u64 n_] w (fun e w' => e = .returned (Value.tuple #[]) ∧ R w')

def C_codec_Writer_Done (w_ : Option Addr) (w : World) (R : Slc → World → Prop) : Prop :=
  Calls Try.prog 35 #[Value.pointer w_] w (fun e w' => ∃ (r0 : Slc), e = .returned (Value.slice r0.ptr r0.len r0.cap) ∧ R r0 w')

def C_towpathlaw02_alive (w : World) (R : Bool → World → Prop) : Prop :=
  Calls Try.prog 36 #[] w (fun e w' => ∃ (r0 : Bool), e = .returned (Value.bool r0) ∧ R r0 w')

def C_codec_Reader_Var (r : Option Addr) (w : World) (R : Int → World → Prop) : Prop :=
  Calls Try.prog 37 #[Value.pointer r] w (fun e w' => ∃ (r0 : Int), e = .returned (Value.int .u64 r0) ∧ R r0 w')

def C_codec_Writer_Int (w_ : Option Addr) (n_ : Int) (w : World) (R : World → Prop) : Prop :=
  Calls Try.prog 38 #[Value.pointer w_, Value.int .i64 n_] w (fun e w' => e = .returned (Value.tuple #[]) ∧ R w')

def C_codec_Reader_Int (r : Option Addr) (w : World) (R : Int → World → Prop) : Prop :=
  Calls Try.prog 39 #[Value.pointer r] w (fun e w' => ∃ (r0 : Int), e = .returned (Value.int .i64 r0) ∧ R r0 w')

def C_codec_Writer_Text (w_ : Option Addr) (s : ByteArray) (w : World) (R : World → Prop) : Prop :=
  Calls Try.prog 40 #[Value.pointer w_, Value.string s] w (fun e w' => e = .returned (Value.tuple #[]) ∧ R w')

def C_codec_Reader_Text (r : Option Addr) (most : Int) (w : World) (R : ByteArray → World → Prop) : Prop :=
  Calls Try.prog 41 #[Value.pointer r, Value.int .i64 most] w (fun e w' => ∃ (r0 : ByteArray), e = .returned (Value.string r0) ∧ R r0 w')

def C_codec_Writer_Fixed (w_ : Option Addr) (n_ : Int) (width : Int) (w : World) (R : Int → World → Prop) : Prop :=
  Calls Try.prog 42 #[Value.pointer w_, Value.int .u64 n_, Value.int .i64 width] w (fun e w' => ∃ (r0 : Int), e = .returned (Value.int .i64 r0) ∧ R r0 w')

def C_codec_Reader_Fixed (r : Option Addr) (width : Int) (w : World) (R : Int → World → Prop) : Prop :=
  Calls Try.prog 43 #[Value.pointer r, Value.int .i64 width] w (fun e w' => ∃ (r0 : Int), e = .returned (Value.int .u64 r0) ∧ R r0 w')

def C_slices_Clone_byte_byte (s : Slc) (w : World) (R : Slc → World → Prop) : Prop :=
  Calls Try.prog 44 #[Value.slice s.ptr s.len s.cap] w (fun e w' => ∃ (r0 : Slc), e = .returned (Value.slice r0.ptr r0.len r0.cap) ∧ R r0 w')

def C_towpathref02_Reader_Fixed (r : T_towpathref02_Reader) (width : Int) (w : World) (R : T_towpathref02_Reader → Int → World → Prop) : Prop :=
  Calls Try.prog 45 #[Value.agg #[Value.bool r.Gone, Value.slice r.B.ptr r.B.len r.B.cap, Value.int .i64 r.At, Value.int .i64 r.Code], Value.int .i64 width] w (fun e w' => ∃ (r0 : T_towpathref02_Reader) (r1 : Int), e = .returned (Value.tuple #[Value.agg #[Value.bool r0.Gone, Value.slice r0.B.ptr r0.B.len r0.B.cap, Value.int .i64 r0.At, Value.int .i64 r0.Code], Value.int .u64 r1]) ∧ R r0 r1 w')

def C_towpathref02_Reader_Int (r : T_towpathref02_Reader) (w : World) (R : T_towpathref02_Reader → Int → World → Prop) : Prop :=
  Calls Try.prog 46 #[Value.agg #[Value.bool r.Gone, Value.slice r.B.ptr r.B.len r.B.cap, Value.int .i64 r.At, Value.int .i64 r.Code]] w (fun e w' => ∃ (r0 : T_towpathref02_Reader) (r1 : Int), e = .returned (Value.tuple #[Value.agg #[Value.bool r0.Gone, Value.slice r0.B.ptr r0.B.len r0.B.cap, Value.int .i64 r0.At, Value.int .i64 r0.Code], Value.int .i64 r1]) ∧ R r0 r1 w')

def C_towpathref02_Reader_Text (r : T_towpathref02_Reader) (most : Int) (w : World) (R : T_towpathref02_Reader → ByteArray → World → Prop) : Prop :=
  Calls Try.prog 47 #[Value.agg #[Value.bool r.Gone, Value.slice r.B.ptr r.B.len r.B.cap, Value.int .i64 r.At, Value.int .i64 r.Code], Value.int .i64 most] w (fun e w' => ∃ (r0 : T_towpathref02_Reader) (r1 : ByteArray), e = .returned (Value.tuple #[Value.agg #[Value.bool r0.Gone, Value.slice r0.B.ptr r0.B.len r0.B.cap, Value.int .i64 r0.At, Value.int .i64 r0.Code], Value.string r1]) ∧ R r0 r1 w')

def C_towpathref02_Reader_Var (r : T_towpathref02_Reader) (w : World) (R : T_towpathref02_Reader → Int → World → Prop) : Prop :=
  Calls Try.prog 48 #[Value.agg #[Value.bool r.Gone, Value.slice r.B.ptr r.B.len r.B.cap, Value.int .i64 r.At, Value.int .i64 r.Code]] w (fun e w' => ∃ (r0 : T_towpathref02_Reader) (r1 : Int), e = .returned (Value.tuple #[Value.agg #[Value.bool r0.Gone, Value.slice r0.B.ptr r0.B.len r0.B.cap, Value.int .i64 r0.At, Value.int .i64 r0.Code], Value.int .u64 r1]) ∧ R r0 r1 w')

def C_towpathref04_Disk_Write (d : Option Addr) (slot : Int) (at_ : Int) (b_ : Slc) (w : World) (R : Int → World → Prop) : Prop :=
  Calls Try.prog 49 #[Value.pointer d, Value.int .i64 slot, Value.int .i64 at_, Value.slice b_.ptr b_.len b_.cap] w (fun e w' => ∃ (r0 : Int), e = .returned (Value.int .i64 r0) ∧ R r0 w')

def C_disk_Disk_Clear (d : Option Addr) (slot : Int) (w : World) (R : Int → World → Prop) : Prop :=
  Calls Try.prog 50 #[Value.pointer d, Value.int .i64 slot] w (fun e w' => ∃ (r0 : Int), e = .returned (Value.int .i64 r0) ∧ R r0 w')

def C_towpathref04_Disk_Clear (d : Option Addr) (slot : Int) (w : World) (R : Int → World → Prop) : Prop :=
  Calls Try.prog 51 #[Value.pointer d, Value.int .i64 slot] w (fun e w' => ∃ (r0 : Int), e = .returned (Value.int .i64 r0) ∧ R r0 w')

def C_towpathref04_Disk_Cut (d : Option Addr) (n_ : Int) (w : World) (R : Int → World → Prop) : Prop :=
  Calls Try.prog 52 #[Value.pointer d, Value.int .i64 n_] w (fun e w' => ∃ (r0 : Int), e = .returned (Value.int .i64 r0) ∧ R r0 w')

def C_towpathref04_Disk_Mend (d : Option Addr) (w : World) (R : Int → World → Prop) : Prop :=
  Calls Try.prog 53 #[Value.pointer d] w (fun e w' => ∃ (r0 : Int), e = .returned (Value.int .i64 r0) ∧ R r0 w')

def C_towpathref04_Disk_Read (d : Option Addr) (slot : Int) (w : World) (R : Slc → Int → World → Prop) : Prop :=
  Calls Try.prog 54 #[Value.pointer d, Value.int .i64 slot] w (fun e w' => ∃ (r0 : Slc) (r1 : Int), e = .returned (Value.tuple #[Value.slice r0.ptr r0.len r0.cap, Value.int .i64 r1]) ∧ R r0 r1 w')

def C_towpathref04_Disk_Dead (d : Option Addr) (w : World) (R : Bool → World → Prop) : Prop :=
  Calls Try.prog 55 #[Value.pointer d] w (fun e w' => ∃ (r0 : Bool), e = .returned (Value.bool r0) ∧ R r0 w')

def C_disk_Disk_Capacity (d : Option Addr) (w : World) (R : Int → World → Prop) : Prop :=
  Calls Try.prog 56 #[Value.pointer d] w (fun e w' => ∃ (r0 : Int), e = .returned (Value.int .i64 r0) ∧ R r0 w')

def C_towpathref04_Disk_Capacity (d : Option Addr) (w : World) (R : Int → World → Prop) : Prop :=
  Calls Try.prog 57 #[Value.pointer d] w (fun e w' => ∃ (r0 : Int), e = .returned (Value.int .i64 r0) ∧ R r0 w')

def C_towpathref04_Disk_Writes (d : Option Addr) (w : World) (R : Int → World → Prop) : Prop :=
  Calls Try.prog 58 #[Value.pointer d] w (fun e w' => ∃ (r0 : Int), e = .returned (Value.int .i64 r0) ∧ R r0 w')

def C_disk_Disk_look (d : Option Addr) (slot : Int) (w : World) (R : Int → World → Prop) : Prop :=
  Calls Try.prog 59 #[Value.pointer d, Value.int .i64 slot] w (fun e w' => ∃ (r0 : Int), e = .returned (Value.int .i64 r0) ∧ R r0 w')

def C_disk_Disk_raw (d : Option Addr) (w : World) (R : Int → World → Prop) : Prop :=
  Calls Try.prog 60 #[Value.pointer d] w (fun e w' => ∃ (r0 : Int), e = .returned (Value.int .i64 r0) ∧ R r0 w')

def C_codec_Writer_gone (w_ : Option Addr) (w : World) (R : Bool → World → Prop) : Prop :=
  Calls Try.prog 61 #[Value.pointer w_] w (fun e w' => ∃ (r0 : Bool), e = .returned (Value.bool r0) ∧ R r0 w')

def C_codec_Reader_take (r : Option Addr) (next : Value) (w : World) (R : Bool → World → Prop) : Prop :=
  Calls Try.prog 62 #[Value.pointer r, next] w (fun e w' => ∃ (r0 : Bool), e = .returned (Value.bool r0) ∧ R r0 w')

def C_codec_Reader_Var_1 (b_ : Slc) (t1 : Option Addr) (w : World) (R : Int → Int → World → Prop) : Prop :=
  Calls Try.prog 63 #[Value.slice b_.ptr b_.len b_.cap, Value.pointer t1] w (fun e w' => ∃ (r0 : Int) (r1 : Int), e = .returned (Value.tuple #[Value.int .i64 r0, Value.int .i64 r1]) ∧ R r0 r1 w')

def C_codec_short (b_ : Slc) (w : World) (R : Int → Int → Int → World → Prop) : Prop :=
  Calls Try.prog 64 #[Value.slice b_.ptr b_.len b_.cap] w (fun e w' => ∃ (r0 : Int) (r1 : Int) (r2 : Int), e = .returned (Value.tuple #[Value.int .u64 r0, Value.int .i64 r1, Value.int .i64 r2]) ∧ R r0 r1 r2 w')

def C_num_Zigzag (x : Int) (w : World) (R : Int → World → Prop) : Prop :=
  Calls Try.prog 65 #[Value.int .i64 x] w (fun e w' => ∃ (r0 : Int), e = .returned (Value.int .u64 r0) ∧ R r0 w')

def C_num_Zagzig (x : Int) (w : World) (R : Int → World → Prop) : Prop :=
  Calls Try.prog 66 #[Value.int .u64 x] w (fun e w' => ∃ (r0 : Int), e = .returned (Value.int .i64 r0) ∧ R r0 w')

def C_codec_Reader_Text_1 (b_ : Slc) (t1 : Option Addr) (t2 : Option Addr) (w : World) (R : Int → Int → World → Prop) : Prop :=
  Calls Try.prog 67 #[Value.slice b_.ptr b_.len b_.cap, Value.pointer t1, Value.pointer t2] w (fun e w' => ∃ (r0 : Int) (r1 : Int), e = .returned (Value.tuple #[Value.int .i64 r0, Value.int .i64 r1]) ∧ R r0 r1 w')

def C_codec_Reader_Fixed_1 (b_ : Slc) (t1 : Option Addr) (t2 : Option Addr) (w : World) (R : Int → Int → World → Prop) : Prop :=
  Calls Try.prog 68 #[Value.slice b_.ptr b_.len b_.cap, Value.pointer t1, Value.pointer t2] w (fun e w' => ∃ (r0 : Int) (r1 : Int), e = .returned (Value.tuple #[Value.int .i64 r0, Value.int .i64 r1]) ∧ R r0 r1 w')

def C_towpathref02_Reader_dead (r : T_towpathref02_Reader) (w : World) (R : Bool → World → Prop) : Prop :=
  Calls Try.prog 69 #[Value.agg #[Value.bool r.Gone, Value.slice r.B.ptr r.B.len r.B.cap, Value.int .i64 r.At, Value.int .i64 r.Code]] w (fun e w' => ∃ (r0 : Bool), e = .returned (Value.bool r0) ∧ R r0 w')

def C_towpathref02_Reader_wrong (r : T_towpathref02_Reader) (e : Int) (w : World) (R : T_towpathref02_Reader → World → Prop) : Prop :=
  Calls Try.prog 70 #[Value.agg #[Value.bool r.Gone, Value.slice r.B.ptr r.B.len r.B.cap, Value.int .i64 r.At, Value.int .i64 r.Code], Value.int .i64 e] w (fun e w' => ∃ (r0 : T_towpathref02_Reader), e = .returned (Value.agg #[Value.bool r0.Gone, Value.slice r0.B.ptr r0.B.len r0.B.cap, Value.int .i64 r0.At, Value.int .i64 r0.Code]) ∧ R r0 w')

def C_towpathref01_Zagzig (x : Int) (w : World) (R : Int → World → Prop) : Prop :=
  Calls Try.prog 71 #[Value.int .u64 x] w (fun e w' => ∃ (r0 : Int), e = .returned (Value.int .i64 r0) ∧ R r0 w')

def C_towpathref04_Disk_raw (d : Option Addr) (w : World) (R : Int → World → Prop) : Prop :=
  Calls Try.prog 72 #[Value.pointer d] w (fun e w' => ∃ (r0 : Int), e = .returned (Value.int .i64 r0) ∧ R r0 w')

def F_towpathlaw02_CodecReads_k6 (R : Bool → World → Prop) (i1 : Int) (again_1 : Int → World → Prop) (t109 : Bool) (w17 : World) : Prop :=
  (t109 = true → (R false w17)) ∧
  (t109 = false → (again_1 (IntKind.i64.wrap (i1 + 1)) w17))

def F_towpathlaw02_CodecReads_k5 (R : Bool → World → Prop) (v30 : Option Addr) (b_1 : Nat) (i1 : Int) (again_1 : Int → World → Prop) (next : Option Addr) (ok : Bool) (one : Bool) (two : Bool) (w15 : World) : Prop :=
  IsAt next ∧ (∃ (v85 : T_towpathref02_Reader), CellsAt w15 (pblk next) (poff next) [Value.bool v85.Gone, Value.slice v85.B.ptr v85.B.len v85.B.cap, Value.int .i64 v85.At, Value.int .i64 v85.Code] ∧ (Writable w15 b_1 0 4 ∧ (∀ w16, w16 = World.puts b_1 0 [Value.bool v85.Gone, Value.slice v85.B.ptr v85.B.len v85.B.cap, Value.int .i64 v85.At, Value.int .i64 v85.Code] w15 → (∀ w18, (∃ k, w18 = w16.drewN k) → (((((!ok) || (!one)) || (!two)) = true → (F_towpathlaw02_CodecReads_k6 R i1 again_1 true w18)) ∧
  ((((!ok) || (!one)) || (!two)) = false → (∃ (v99 : T_towpathref02_Reader), CellsAt w18 b_1 0 [Value.bool v99.Gone, Value.slice v99.B.ptr v99.B.len v99.B.cap, Value.int .i64 v99.At, Value.int .i64 v99.Code] ∧ (C_codec_Reader_Left v30 w18 (fun (v98 : Int) w19 => CellsAt w19 b_1 0 [Value.bool v99.Gone, Value.slice v99.B.ptr v99.B.len v99.B.cap, Value.int .i64 v99.At, Value.int .i64 v99.Code] ∧ (C_towpathref02_Reader_Left v99 w19 (fun (v100 : Int) w20 => (((v98 != v100) = true → (F_towpathlaw02_CodecReads_k6 R i1 again_1 true w20)) ∧
  ((v98 != v100) = false → (∃ (v106 : T_towpathref02_Reader), CellsAt w20 b_1 0 [Value.bool v106.Gone, Value.slice v106.B.ptr v106.B.len v106.B.cap, Value.int .i64 v106.At, Value.int .i64 v106.Code] ∧ (C_codec_Reader_End v30 w20 (fun (v105 : Int) w21 => CellsAt w21 b_1 0 [Value.bool v106.Gone, Value.slice v106.B.ptr v106.B.len v106.B.cap, Value.int .i64 v106.At, Value.int .i64 v106.Code] ∧ (C_towpathref02_Reader_End v106 w21 (fun (v107 : Int) w22 => (F_towpathlaw02_CodecReads_k6 R i1 again_1 (v105 != v107) w22)))))))))))))))))))

def F_towpathlaw02_CodecReads_k4 (script : Slc) (R : Bool → World → Prop) (v30 : Option Addr) (b_1 : Nat) (b_2 : Nat) (i1 : Int) (again_1 : Int → World → Prop) (next : Option Addr) (ok : Bool) (one : Bool) (w14 : World) : Prop :=
  ∀ w23, (∃ k, w23 = w14.drewN k) → (∃ (v77 : T_towpathref02_Reader), CellsAt w23 b_2 0 [Value.bool v77.Gone, Value.slice v77.B.ptr v77.B.len v77.B.cap, Value.int .i64 v77.At, Value.int .i64 v77.Code] ∧ (IsAt script.ptr ∧ (0 ≤ i1 ∧ i1 < ((script.len : Nat) : Int) ∧ (∃ (v81 : T_towpathlaw02_Op), CellsAt w23 (pblk script.ptr) ((poff script.ptr) + i1.toNat * 5) [Value.int .u8 v81.Kind, Value.int .u64 v81.N, Value.int .i64 v81.Width, Value.string v81.Text, Value.int .i64 v81.Most] ∧ ((∀ b_3 w24, b_3 = w23.heap.size → w24 = w23.alloc (Obj.cells ([Value.bool false, Value.slice none 0 0, Value.int .i64 0]).toArray ty_codec_Reader (0, 0)) → (CellsAt w24 (pblk script.ptr) ((poff script.ptr) + i1.toNat * 5) [Value.int .u8 v81.Kind, Value.int .u64 v81.N, Value.int .i64 v81.Width, Value.string v81.Text, Value.int .i64 v81.Most] ∧ CellsAt w24 b_2 0 [Value.bool v77.Gone, Value.slice v77.B.ptr v77.B.len v77.B.cap, Value.int .i64 v77.At, Value.int .i64 v77.Code] ∧ ((C_towpathlaw02_takes (some ⟨b_3, 0, none⟩) v77 v81 w24 (fun (v82 : T_towpathref02_Reader) (two1 : Bool) w25 => (∀ b_4 w26, b_4 = w25.heap.size → w26 = w25.alloc (Obj.cells ([Value.bool false, Value.slice none 0 0, Value.int .i64 0, Value.int .i64 0]).toArray ty_towpathref02_Reader (0, 0)) → ((Writable w26 b_4 0 4 ∧ (∀ w27, w27 = World.puts b_4 0 [Value.bool v82.Gone, Value.slice v82.B.ptr v82.B.len v82.B.cap, Value.int .i64 v82.At, Value.int .i64 v82.Code] w26 → ((F_towpathlaw02_CodecReads_k5 R v30 b_1 i1 again_1 next ok one two1 w27)))))))) ∧
  (∀ b_5 w28, b_5 = w24.heap.size → w28 = w24.alloc (Obj.cells ([Value.bool false, Value.slice none 0 0, Value.int .i64 0, Value.int .i64 0]).toArray ty_towpathref02_Reader (0, 0)) → (CellsAt w28 (pblk script.ptr) ((poff script.ptr) + i1.toNat * 5) [Value.int .u8 v81.Kind, Value.int .u64 v81.N, Value.int .i64 v81.Width, Value.string v81.Text, Value.int .i64 v81.Most] ∧ CellsAt w28 b_2 0 [Value.bool v77.Gone, Value.slice v77.B.ptr v77.B.len v77.B.cap, Value.int .i64 v77.At, Value.int .i64 v77.Code] ∧ (C_towpathlaw02_takes (some ⟨b_3, 0, none⟩) v77 v81 w28 (fun (v821 : T_towpathref02_Reader) (two2 : Bool) w29 => (Writable w29 b_5 0 4 ∧ (∀ w30, w30 = World.puts b_5 0 [Value.bool v821.Gone, Value.slice v821.B.ptr v821.B.len v821.B.cap, Value.int .i64 v821.At, Value.int .i64 v821.Code] w29 → ((F_towpathlaw02_CodecReads_k5 R v30 b_1 i1 again_1 next ok one two2 w30))))))))))) ∧
  (∀ b_6 w31, b_6 = w23.heap.size → w31 = w23.alloc (Obj.cells ([Value.bool false, Value.slice none 0 0, Value.int .i64 0, Value.int .i64 0]).toArray ty_towpathref02_Reader (0, 0)) → (CellsAt w31 (pblk script.ptr) ((poff script.ptr) + i1.toNat * 5) [Value.int .u8 v81.Kind, Value.int .u64 v81.N, Value.int .i64 v81.Width, Value.string v81.Text, Value.int .i64 v81.Most] ∧ CellsAt w31 b_2 0 [Value.bool v77.Gone, Value.slice v77.B.ptr v77.B.len v77.B.cap, Value.int .i64 v77.At, Value.int .i64 v77.Code] ∧ (∀ b_7 w32, b_7 = w31.heap.size → w32 = w31.alloc (Obj.cells ([Value.bool false, Value.slice none 0 0, Value.int .i64 0]).toArray ty_codec_Reader (0, 0)) → (CellsAt w32 (pblk script.ptr) ((poff script.ptr) + i1.toNat * 5) [Value.int .u8 v81.Kind, Value.int .u64 v81.N, Value.int .i64 v81.Width, Value.string v81.Text, Value.int .i64 v81.Most] ∧ CellsAt w32 b_2 0 [Value.bool v77.Gone, Value.slice v77.B.ptr v77.B.len v77.B.cap, Value.int .i64 v77.At, Value.int .i64 v77.Code] ∧ (C_towpathlaw02_takes (some ⟨b_7, 0, none⟩) v77 v81 w32 (fun (v822 : T_towpathref02_Reader) (two3 : Bool) w33 => (Writable w33 b_6 0 4 ∧ (∀ w34, w34 = World.puts b_6 0 [Value.bool v822.Gone, Value.slice v822.B.ptr v822.B.len v822.B.cap, Value.int .i64 v822.At, Value.int .i64 v822.Code] w33 → ((F_towpathlaw02_CodecReads_k5 R v30 b_1 i1 again_1 next ok one two3 w34)))))))))))))))

def F_towpathlaw02_CodecReads_k3 (script : Slc) (R : Bool → World → Prop) (v30 : Option Addr) (b_1 : Nat) (b_2 : Nat) (i1 : Int) (again_1 : Int → World → Prop) (next : Option Addr) (ok : Bool) (w13 : World) : Prop :=
  ∀ w35, (∃ k, w35 = w13.drewN k) → (∃ (v66 : T_towpathref02_Reader), CellsAt w35 b_2 0 [Value.bool v66.Gone, Value.slice v66.B.ptr v66.B.len v66.B.cap, Value.int .i64 v66.At, Value.int .i64 v66.Code] ∧ (IsAt script.ptr ∧ (0 ≤ i1 ∧ i1 < ((script.len : Nat) : Int) ∧ (∃ (v70 : T_towpathlaw02_Op), CellsAt w35 (pblk script.ptr) ((poff script.ptr) + i1.toNat * 5) [Value.int .u8 v70.Kind, Value.int .u64 v70.N, Value.int .i64 v70.Width, Value.string v70.Text, Value.int .i64 v70.Most] ∧ ((C_towpathlaw02_takes none v66 v70 w35 (fun (v71 : T_towpathref02_Reader) (one1 : Bool) w36 => (∀ b_8 w37, b_8 = w36.heap.size → w37 = w36.alloc (Obj.cells ([Value.bool false, Value.slice none 0 0, Value.int .i64 0, Value.int .i64 0]).toArray ty_towpathref02_Reader (0, 0)) → ((Writable w37 b_8 0 4 ∧ (∀ w38, w38 = World.puts b_8 0 [Value.bool v71.Gone, Value.slice v71.B.ptr v71.B.len v71.B.cap, Value.int .i64 v71.At, Value.int .i64 v71.Code] w37 → ((F_towpathlaw02_CodecReads_k4 script R v30 b_1 b_2 i1 again_1 next ok one1 w38)))))))) ∧
  (∀ b_9 w39, b_9 = w35.heap.size → w39 = w35.alloc (Obj.cells ([Value.bool false, Value.slice none 0 0, Value.int .i64 0, Value.int .i64 0]).toArray ty_towpathref02_Reader (0, 0)) → (CellsAt w39 (pblk script.ptr) ((poff script.ptr) + i1.toNat * 5) [Value.int .u8 v70.Kind, Value.int .u64 v70.N, Value.int .i64 v70.Width, Value.string v70.Text, Value.int .i64 v70.Most] ∧ CellsAt w39 b_2 0 [Value.bool v66.Gone, Value.slice v66.B.ptr v66.B.len v66.B.cap, Value.int .i64 v66.At, Value.int .i64 v66.Code] ∧ (C_towpathlaw02_takes none v66 v70 w39 (fun (v711 : T_towpathref02_Reader) (one2 : Bool) w40 => (Writable w40 b_9 0 4 ∧ (∀ w41, w41 = World.puts b_9 0 [Value.bool v711.Gone, Value.slice v711.B.ptr v711.B.len v711.B.cap, Value.int .i64 v711.At, Value.int .i64 v711.Code] w40 → ((F_towpathlaw02_CodecReads_k4 script R v30 b_1 b_2 i1 again_1 next ok one2 w41)))))))))))))

def F_towpathlaw02_CodecReads_L2 (script : Slc) (R : Bool → World → Prop) (v30 : Option Addr) (b_1 : Nat) (b_2 : Nat) (again_1 : Int → World → Prop) (i1 : Int) (w12 : World) : Prop :=
  ((decide (i1 < ((script.len : Nat) : Int))) = true → (∀ w42, (∃ k, w42 = w12.drewN k) → (∃ (v56 : T_towpathref02_Reader), CellsAt w42 b_1 0 [Value.bool v56.Gone, Value.slice v56.B.ptr v56.B.len v56.B.cap, Value.int .i64 v56.At, Value.int .i64 v56.Code] ∧ (IsAt script.ptr ∧ (0 ≤ i1 ∧ i1 < ((script.len : Nat) : Int) ∧ (∃ (v60 : T_towpathlaw02_Op), CellsAt w42 (pblk script.ptr) ((poff script.ptr) + i1.toNat * 5) [Value.int .u8 v60.Kind, Value.int .u64 v60.N, Value.int .i64 v60.Width, Value.string v60.Text, Value.int .i64 v60.Most] ∧ ((C_towpathlaw02_takes v30 v56 v60 w42 (fun (v61 : T_towpathref02_Reader) (ok1 : Bool) w43 => (∀ b_10 w44, b_10 = w43.heap.size → w44 = w43.alloc (Obj.cells ([Value.bool false, Value.slice none 0 0, Value.int .i64 0, Value.int .i64 0]).toArray ty_towpathref02_Reader (0, 0)) → ((Writable w44 b_10 0 4 ∧ (∀ w45, w45 = World.puts b_10 0 [Value.bool v61.Gone, Value.slice v61.B.ptr v61.B.len v61.B.cap, Value.int .i64 v61.At, Value.int .i64 v61.Code] w44 → ((F_towpathlaw02_CodecReads_k3 script R v30 b_1 b_2 i1 again_1 (some ⟨b_10, 0, none⟩) ok1 w45)))))))) ∧
  (∀ b_11 w46, b_11 = w42.heap.size → w46 = w42.alloc (Obj.cells ([Value.bool false, Value.slice none 0 0, Value.int .i64 0, Value.int .i64 0]).toArray ty_towpathref02_Reader (0, 0)) → (CellsAt w46 (pblk script.ptr) ((poff script.ptr) + i1.toNat * 5) [Value.int .u8 v60.Kind, Value.int .u64 v60.N, Value.int .i64 v60.Width, Value.string v60.Text, Value.int .i64 v60.Most] ∧ CellsAt w46 b_1 0 [Value.bool v56.Gone, Value.slice v56.B.ptr v56.B.len v56.B.cap, Value.int .i64 v56.At, Value.int .i64 v56.Code] ∧ (C_towpathlaw02_takes v30 v56 v60 w46 (fun (v611 : T_towpathref02_Reader) (ok2 : Bool) w47 => (Writable w47 b_11 0 4 ∧ (∀ w48, w48 = World.puts b_11 0 [Value.bool v611.Gone, Value.slice v611.B.ptr v611.B.len v611.B.cap, Value.int .i64 v611.At, Value.int .i64 v611.Code] w47 → ((F_towpathlaw02_CodecReads_k3 script R v30 b_1 b_2 i1 again_1 (some ⟨b_11, 0, none⟩) ok2 w48))))))))))))))) ∧
  ((decide (i1 < ((script.len : Nat) : Int))) = false → (∀ b_12 w49, b_12 = w12.heap.size → w49 = w12.alloc (Obj.cells ([Value.bool false, Value.slice none 0 0, Value.int .i64 0]).toArray ty_codec_Reader (0, 0)) → (∀ w50, (∃ k, w50 = w49.drewN k) → (∃ (v114 : T_towpathref02_Reader), CellsAt w50 b_1 0 [Value.bool v114.Gone, Value.slice v114.B.ptr v114.B.len v114.B.cap, Value.int .i64 v114.At, Value.int .i64 v114.Code] ∧ (C_codec_Reader_Left v30 w50 (fun (v113 : Int) w51 => CellsAt w51 b_1 0 [Value.bool v114.Gone, Value.slice v114.B.ptr v114.B.len v114.B.cap, Value.int .i64 v114.At, Value.int .i64 v114.Code] ∧ (C_towpathref02_Reader_Left v114 w51 (fun (v115 : Int) w52 => (((v113 == v115) = true → (∃ (v120 : T_towpathref02_Reader), CellsAt w52 b_1 0 [Value.bool v120.Gone, Value.slice v120.B.ptr v120.B.len v120.B.cap, Value.int .i64 v120.At, Value.int .i64 v120.Code] ∧ (C_codec_Reader_End v30 w52 (fun (v119 : Int) w53 => CellsAt w53 b_1 0 [Value.bool v120.Gone, Value.slice v120.B.ptr v120.B.len v120.B.cap, Value.int .i64 v120.At, Value.int .i64 v120.Code] ∧ (C_towpathref02_Reader_End v120 w53 (fun (v121 : Int) w54 => (((v119 == v121) = true → (C_codec_Reader_Left none w54 (fun (v126 : Int) w55 => (((v126 == 0) = true → (C_codec_Reader_End none w55 (fun (v131 : Int) w56 => (((v131 == 2) = true → (C_codec_Reader_Left (some ⟨b_12, 0, none⟩) w56 (fun (v136 : Int) w57 => (((v136 == 0) = true → (C_codec_Reader_End (some ⟨b_12, 0, none⟩) w57 (fun (v141 : Int) w58 => (R (v141 == 2) w58)))) ∧
  ((v136 == 0) = false → (R false w57)))))) ∧
  ((v131 == 2) = false → (R false w56)))))) ∧
  ((v126 == 0) = false → (R false w55)))))) ∧
  ((v119 == v121) = false → (R false w54))))))))) ∧
  ((v113 == v115) = false → (R false w52)))))))))))

def F_towpathlaw02_CodecReads_L1 (b_ : Slc) (script : Slc) (R : Bool → World → Prop) (v28 : Slc) (v30 : Option Addr) (again_ : Int → World → Prop) (i : Int) (w5 : World) : Prop :=
  ((decide (i < ((v28.len : Nat) : Int))) = true → (IsAt v28.ptr ∧ (0 ≤ i ∧ i < ((v28.len : Nat) : Int) ∧ (Writable w5 (pblk v28.ptr) ((poff v28.ptr) + i.toNat) 1 ∧ (∀ w6, w6 = World.puts (pblk v28.ptr) ((poff v28.ptr) + i.toNat) [Value.int .u8 238] w5 → (again_ (IntKind.i64.wrap (i + 1)) w6)))))) ∧
  ((decide (i < ((v28.len : Nat) : Int))) = false → (C_towpathlaw01_TwinBytes b_ w5 (fun (v45 : Slc) w7 => ∀ b_1 w8, b_1 = w7.heap.size → w8 = w7.alloc (Obj.cells ([Value.bool false, Value.slice none 0 0, Value.int .i64 0, Value.int .i64 0]).toArray ty_towpathref02_Reader (0, 0)) → (Writable w8 b_1 0 4 ∧ (∀ w9, w9 = World.puts b_1 0 [Value.bool false, Value.slice v45.ptr v45.len v45.cap, Value.int .i64 0, Value.int .i64 0] w8 → (∀ b_2 w10, b_2 = w9.heap.size → w10 = w9.alloc (Obj.cells ([Value.bool false, Value.slice none 0 0, Value.int .i64 0, Value.int .i64 0]).toArray ty_towpathref02_Reader (0, 0)) → (Writable w10 b_2 0 4 ∧ (∀ w11, w11 = World.puts b_2 0 [Value.bool true, Value.slice none 0 0, Value.int .i64 0, Value.int .i64 0] w10 → (∃ (I : Int → World → Prop) (μ : Int → World → Nat), I 0 w11 ∧
  ∀ (i1 : Int) w, I i1 w → F_towpathlaw02_CodecReads_L2 script R v30 b_1 b_2 (fun (i1' : Int) w' => I i1' w' ∧ μ i1' w' < μ i1 w) i1 w)))))))))

def F_towpathlaw02_CodecReads_k0 (b_ : Slc) (script : Slc) (R : Bool → World → Prop) (t26 : Bool) (w1 : World) : Prop :=
  (t26 = true → (R true w1)) ∧
  (t26 = false → (C_towpathlaw01_TwinBytes b_ w1 (fun (v28 : Slc) w2 => C_codec_NewReader v28 w2 (fun (v30 : Option Addr) w3 => C_towpathlaw01_LeftBytes v28 b_ w3 (fun (v33 : Bool) w4 => ((!v33) = true → (R false w4)) ∧
  ((!v33) = false → (∃ (I : Int → World → Prop) (μ : Int → World → Nat), I 0 w4 ∧
  ∀ (i : Int) w, I i w → F_towpathlaw02_CodecReads_L1 b_ script R v28 v30 (fun (i' : Int) w' => I i' w' ∧ μ i' w' < μ i w) i w)))))))

def F_towpathlaw02_CodecReads (b_ : Slc) (script : Slc) (R : Bool → World → Prop) (w : World) : Prop :=
  C_towpathlaw02_beyond script w (fun (v20 : Bool) w59 => (v20 = true → (F_towpathlaw02_CodecReads_k0 b_ script R true w59)) ∧
  (v20 = false → (∀ b_13 w60, b_13 = w59.heap.size → w60 = w59.alloc (Obj.cells ([Value.int .i64 ((b_.len : Nat) : Int)]).toArray ty_int (0, 0)) → (C_towpathlaw01_Beyond (Slc.mk (some ⟨b_13, 0, none⟩) 1 1) w60 (fun (v25 : Bool) w61 => F_towpathlaw02_CodecReads_k0 b_ script R v25 w61)))))

def F_towpathlaw04_DiskNone (o_ : T_towpathlaw04_Op) (R : Bool → World → Prop) (w : World) : Prop :=
  ∀ b_ w1, b_ = w.heap.size → w1 = w.alloc (Obj.cells ([Value.int .u8 o_.Kind, Value.int .i64 o_.Slot, Value.int .i64 o_.At, Value.slice o_.B.ptr o_.B.len o_.B.cap, Value.int .i64 o_.N]).toArray ty_towpathlaw04_Op (0, 0)) → (∃ (v6 : T_towpathlaw04_Op), CellsAt w1 b_ 0 [Value.int .u8 v6.Kind, Value.int .i64 v6.Slot, Value.int .i64 v6.At, Value.slice v6.B.ptr v6.B.len v6.B.cap, Value.int .i64 v6.N] ∧ (∀ b_1 w2, b_1 = w1.heap.size → w2 = w1.alloc (Obj.cells ([Value.int .u8 v6.Kind, Value.int .i64 v6.Slot, Value.int .i64 v6.At, Value.slice v6.B.ptr v6.B.len v6.B.cap, Value.int .i64 v6.N]).toArray ty_towpathlaw04_Op (0, 0)) → (C_towpathlaw04_beyond (Slc.mk (some ⟨b_1, 0, none⟩) 1 1) w2 (fun (v8 : Bool) w3 => (v8 = true → (R true w3)) ∧
  (v8 = false → (∀ b_2 w4, b_2 = w3.heap.size → w4 = w3.alloc (Obj.cells ([Value.bool false, Value.int .i64 0, Value.slice none 0 0, Value.slice none 0 0, Value.int .i64 0, Value.bool false, Value.int .i64 0]).toArray ty_disk_Disk (0, 0)) → (∃ (v13 : T_towpathlaw04_Op), CellsAt w4 b_ 0 [Value.int .u8 v13.Kind, Value.int .i64 v13.Slot, Value.int .i64 v13.At, Value.slice v13.B.ptr v13.B.len v13.B.cap, Value.int .i64 v13.N] ∧ (C_towpathlaw04_asked none none v13 w4 (fun (v14 : Bool) w5 => (v14 = true → (∃ (v18 : T_towpathlaw04_Op), CellsAt w5 b_ 0 [Value.int .u8 v18.Kind, Value.int .i64 v18.Slot, Value.int .i64 v18.At, Value.slice v18.B.ptr v18.B.len v18.B.cap, Value.int .i64 v18.N] ∧ (C_towpathlaw04_asked (some ⟨b_2, 0, none⟩) none v18 w5 (fun (v19 : Bool) w6 => (v19 = true → (C_towpathlaw04_looks none none w6 (fun (v24 : Bool) w7 => (v24 = true → (C_towpathlaw04_looks (some ⟨b_2, 0, none⟩) none w7 (fun (v29 : Bool) w8 => R v29 w8))) ∧
  (v24 = false → (R false w7))))) ∧
  (v19 = false → (R false w6)))))) ∧
  (v14 = false → (R false w5)))))))))))

def F_towpathlaw04_DiskCuts_k4 (R : Bool → World → Prop) (asked : Int) (i : Int) (again_ : Slc → Int → Int → World → Prop) (want1 : Slc) (t89 : Bool) (w10 : World) : Prop :=
  (t89 = true → (R false w10)) ∧
  (t89 = false → (again_ want1 (IntKind.i64.wrap (asked + 1)) (IntKind.i64.wrap (i + 1)) w10))

def F_towpathlaw04_DiskCuts_k3 (R : Bool → World → Prop) (d : Option Addr) (asked : Int) (i : Int) (again_ : Slc → Int → Int → World → Prop) (want1 : Slc) (w8 : World) : Prop :=
  C_disk_Disk_Read d 1 w8 (fun (got : Slc) (g : Int) w9 => ((g != 0) = true → (F_towpathlaw04_DiskCuts_k4 R asked i again_ want1 true w9)) ∧
  ((g != 0) = false → (C_towpathlaw01_SameBytes got want1 w9 (fun (v87 : Bool) w11 => F_towpathlaw04_DiskCuts_k4 R asked i again_ want1 (!v87) w11))))

def F_towpathlaw04_DiskCuts_k5 (R : Bool → World → Prop) (d : Option Addr) (want : Slc) (asked : Int) (i : Int) (again_ : Slc → Int → Int → World → Prop) (b_1 : Slc) (t64 : Bool) (w12 : World) : Prop :=
  (t64 = true → (R false w12)) ∧
  (t64 = false → (∃ src, SrcAt w12 b_1 1 src ∧ AppendW 1 1 ty_uint8 [Value.int .u8 0] want src b_1.len w12 (fun want2 w13 => F_towpathlaw04_DiskCuts_k3 R d asked i again_ want2 w13)))

def F_towpathlaw04_DiskCuts_k6 (R : Bool → World → Prop) (d : Option Addr) (want : Slc) (asked : Int) (i : Int) (again_ : Slc → Int → Int → World → Prop) (t74 : Bool) (w15 : World) : Prop :=
  (t74 = true → (R false w15)) ∧
  (t74 = false → (F_towpathlaw04_DiskCuts_k3 R d asked i again_ want w15))

def F_towpathlaw04_DiskCuts_k2 (n_ : Int) (R : Bool → World → Prop) (d : Option Addr) (want : Slc) (asked : Int) (i : Int) (again_ : Slc → Int → Int → World → Prop) (b_1 : Slc) (w6 : World) : Prop :=
  C_disk_Disk_Write d 1 ((want.len : Nat) : Int) b_1 w6 (fun (v54 : Int) w7 => ((decide (asked < (IntKind.i64.wrap n_))) = true → (((v54 != 0) = true → (F_towpathlaw04_DiskCuts_k5 R d want asked i again_ b_1 true w7)) ∧
  ((v54 != 0) = false → (C_disk_Disk_Dead d w7 (fun (v63 : Bool) w14 => F_towpathlaw04_DiskCuts_k5 R d want asked i again_ b_1 v63 w14))))) ∧
  ((decide (asked < (IntKind.i64.wrap n_))) = false → (((v54 != 11) = true → (F_towpathlaw04_DiskCuts_k6 R d want asked i again_ true w7)) ∧
  ((v54 != 11) = false → (C_disk_Disk_Dead d w7 (fun (v72 : Bool) w16 => F_towpathlaw04_DiskCuts_k6 R d want asked i again_ (!v72) w16))))))

def F_towpathlaw04_DiskCuts_L1 (n_ : Int) (blocks : Slc) (R : Bool → World → Prop) (d : Option Addr) (again_ : Slc → Int → Int → World → Prop) (want : Slc) (asked : Int) (i : Int) (w5 : World) : Prop :=
  ((decide (i < ((blocks.len : Nat) : Int))) = true → (IsAt blocks.ptr ∧ (0 ≤ i ∧ i < ((blocks.len : Nat) : Int) ∧ (∃ (b_ : Slc), w5.cell? ⟨(pblk blocks.ptr), (poff blocks.ptr) + i.toNat, none⟩ = some (Value.slice b_.ptr b_.len b_.cap) ∧ (((decide (((b_.len : Nat) : Int) > 64)) = true → (0 ≤ (64 : Int) ∧ (64 : Int) ≤ ((b_.cap : Nat) : Int) ∧ (F_towpathlaw04_DiskCuts_k2 n_ R d want asked i again_ (Slc.mk b_.ptr 64 b_.cap) w5))) ∧
  ((decide (((b_.len : Nat) : Int) > 64)) = false → (F_towpathlaw04_DiskCuts_k2 n_ R d want asked i again_ b_ w5))))))) ∧
  ((decide (i < ((blocks.len : Nat) : Int))) = false → (C_disk_Disk_Writes d w5 (fun (v91 : Int) w17 => ((v91 == (if (IntKind.i64.wrap n_) < asked then (IntKind.i64.wrap n_) else asked)) = true → (C_disk_Disk_Mend d w17 (fun (v99 : Int) w18 => ((v99 == 0) = true → (∀ b_2 w19, b_2 = w18.heap.size → w19 = w18.alloc (Obj.cells ([Value.int .u8 120]).toArray ty_uint8 (0, 0)) → (∃ (T_ k_ : Nat), w19.shape? b_2 = some (T_, k_) ∧ (∀ w20, w20 = w19.freeze ⟨b_2, k_, none⟩ 1 → (C_disk_Disk_Write d 0 0 (Slc.mk (some ⟨b_2, 0, none⟩) 1 1) w20 (fun (v106 : Int) w21 => ((v106 == 0) = true → (C_disk_Disk_Writes d w21 (fun (v111 : Int) w22 => R (v111 == (IntKind.i64.wrap ((if (IntKind.i64.wrap n_) < asked then (IntKind.i64.wrap n_) else asked) + 1))) w22))) ∧
  ((v106 == 0) = false → (R false w21)))))))) ∧
  ((v99 == 0) = false → (R false w18))))) ∧
  ((v91 == (if (IntKind.i64.wrap n_) < asked then (IntKind.i64.wrap n_) else asked)) = false → (R false w17)))))

def F_towpathlaw04_DiskCuts_k0 (n_ : Int) (blocks : Slc) (R : Bool → World → Prop) (d : Option Addr) (t34 : Bool) (w4 : World) : Prop :=
  (t34 = true → (R false w4)) ∧
  (t34 = false → (∃ (I : Slc → Int → Int → World → Prop) (μ : Slc → Int → Int → World → Nat), I (Slc.mk none 0 0) 0 0 w4 ∧
  ∀ (want : Slc) (asked : Int) (i : Int) w, I want asked i w → F_towpathlaw04_DiskCuts_L1 n_ blocks R d (fun (want' : Slc) (asked' : Int) (i' : Int) w' => I want' asked' i' w' ∧ μ want' asked' i' w' < μ want asked i w) want asked i w))

def F_towpathlaw04_DiskCuts (n_ : Int) (blocks : Slc) (R : Bool → World → Prop) (w : World) : Prop :=
  C_towpathlaw04_alive w (fun (v14 : Bool) w1 => (((!v14) || (decide (((blocks.len : Nat) : Int) > 300))) = true → (C_towpathlaw04_alive w1 (fun (v21 : Bool) w2 => R v21 w2))) ∧
  (((!v14) || (decide (((blocks.len : Nat) : Int) > 300))) = false → (C_disk_New 65536 w1 (fun (d : Option Addr) (e : Int) w3 => ((e != 0) = true → (F_towpathlaw04_DiskCuts_k0 n_ blocks R d true w3)) ∧
  ((e != 0) = false → (C_disk_Disk_Cut d (IntKind.i64.wrap n_) w3 (fun (v32 : Int) w23 => F_towpathlaw04_DiskCuts_k0 n_ blocks R d (v32 != 0) w23)))))))

def F_towpathlaw04_DiskPlaces_k6 (R : Bool → World → Prop) (got : Slc) (i : Int) (again_ : Int → World → Prop) (want : Int) (w13 : World) : Prop :=
  IsAt got.ptr ∧ (0 ≤ i ∧ i < ((got.len : Nat) : Int) ∧ (∃ (v140 : Int), w13.cell? ⟨(pblk got.ptr), (poff got.ptr) + i.toNat, none⟩ = some (Value.int .u8 v140) ∧ (((v140 != want) = true → (R false w13)) ∧
  ((v140 != want) = false → (again_ (IntKind.i64.wrap (i + 1)) w13)))))

def F_towpathlaw04_DiskPlaces_L5 (at_ : Int) (R : Bool → World → Prop) (first1 : Slc) (b_1 : Slc) (got : Slc) (again_ : Int → World → Prop) (i : Int) (w12 : World) : Prop :=
  ((decide (i < ((got.len : Nat) : Int))) = true → ((((decide (i ≥ (Int.tmod (IntKind.i64.wrap at_) (IntKind.i64.wrap (((first1.len : Nat) : Int) + 1))))) && (decide (i < (IntKind.i64.wrap ((Int.tmod (IntKind.i64.wrap at_) (IntKind.i64.wrap (((first1.len : Nat) : Int) + 1))) + ((b_1.len : Nat) : Int)))))) = true → (IsAt b_1.ptr ∧ (0 ≤ IntKind.i64.wrap (i - (Int.tmod (IntKind.i64.wrap at_) (IntKind.i64.wrap (((first1.len : Nat) : Int) + 1)))) ∧ IntKind.i64.wrap (i - (Int.tmod (IntKind.i64.wrap at_) (IntKind.i64.wrap (((first1.len : Nat) : Int) + 1)))) < ((b_1.len : Nat) : Int) ∧ (∃ (want1 : Int), w12.cell? ⟨(pblk b_1.ptr), (poff b_1.ptr) + (IntKind.i64.wrap (i - (Int.tmod (IntKind.i64.wrap at_) (IntKind.i64.wrap (((first1.len : Nat) : Int) + 1))))).toNat, none⟩ = some (Value.int .u8 want1) ∧ (F_towpathlaw04_DiskPlaces_k6 R got i again_ want1 w12))))) ∧
  (((decide (i ≥ (Int.tmod (IntKind.i64.wrap at_) (IntKind.i64.wrap (((first1.len : Nat) : Int) + 1))))) && (decide (i < (IntKind.i64.wrap ((Int.tmod (IntKind.i64.wrap at_) (IntKind.i64.wrap (((first1.len : Nat) : Int) + 1))) + ((b_1.len : Nat) : Int)))))) = false → (IsAt first1.ptr ∧ (0 ≤ i ∧ i < ((first1.len : Nat) : Int) ∧ (∃ (want2 : Int), w12.cell? ⟨(pblk first1.ptr), (poff first1.ptr) + i.toNat, none⟩ = some (Value.int .u8 want2) ∧ (F_towpathlaw04_DiskPlaces_k6 R got i again_ want2 w12))))))) ∧
  ((decide (i < ((got.len : Nat) : Int))) = false → (R true w12))

def F_towpathlaw04_DiskPlaces_k4 (at_ : Int) (R : Bool → World → Prop) (first1 : Slc) (b_1 : Slc) (got : Slc) (t109 : Bool) (w11 : World) : Prop :=
  (t109 = true → (R false w11)) ∧
  (t109 = false → (∃ (I : Int → World → Prop) (μ : Int → World → Nat), I 0 w11 ∧
  ∀ (i : Int) w, I i w → F_towpathlaw04_DiskPlaces_L5 at_ R first1 b_1 got (fun (i' : Int) w' => I i' w' ∧ μ i' w' < μ i w) i w))

def F_towpathlaw04_DiskPlaces_k3 (at_ : Int) (R : Bool → World → Prop) (first1 : Slc) (b_1 : Slc) (d : Option Addr) (v56 : Int) (got : Slc) (t78 : Bool) (w9 : World) : Prop :=
  (t78 = true → (R false w9)) ∧
  (t78 = false → (((decide ((IntKind.i64.wrap ((Int.tmod (IntKind.i64.wrap at_) (IntKind.i64.wrap (((first1.len : Nat) : Int) + 1))) + ((b_1.len : Nat) : Int))) > 100)) = true → (((v56 == 13) = true → (C_towpathlaw01_SameBytes got first1 w9 (fun (v89 : Bool) w10 => R v89 w10))) ∧
  ((v56 == 13) = false → (R false w9)))) ∧
  ((decide ((IntKind.i64.wrap ((Int.tmod (IntKind.i64.wrap at_) (IntKind.i64.wrap (((first1.len : Nat) : Int) + 1))) + ((b_1.len : Nat) : Int))) > 100)) = false → ((((v56 != 0) || (((got.len : Nat) : Int) != (if (IntKind.i64.wrap ((Int.tmod (IntKind.i64.wrap at_) (IntKind.i64.wrap (((first1.len : Nat) : Int) + 1))) + ((b_1.len : Nat) : Int))) > ((first1.len : Nat) : Int) then (IntKind.i64.wrap ((Int.tmod (IntKind.i64.wrap at_) (IntKind.i64.wrap (((first1.len : Nat) : Int) + 1))) + ((b_1.len : Nat) : Int))) else ((first1.len : Nat) : Int)))) = true → (F_towpathlaw04_DiskPlaces_k4 at_ R first1 b_1 got true w9)) ∧
  (((v56 != 0) || (((got.len : Nat) : Int) != (if (IntKind.i64.wrap ((Int.tmod (IntKind.i64.wrap at_) (IntKind.i64.wrap (((first1.len : Nat) : Int) + 1))) + ((b_1.len : Nat) : Int))) > ((first1.len : Nat) : Int) then (IntKind.i64.wrap ((Int.tmod (IntKind.i64.wrap at_) (IntKind.i64.wrap (((first1.len : Nat) : Int) + 1))) + ((b_1.len : Nat) : Int))) else ((first1.len : Nat) : Int)))) = false → (C_disk_Disk_Writes d w9 (fun (v107 : Int) w14 => F_towpathlaw04_DiskPlaces_k4 at_ R first1 b_1 got (v107 != 3) w14)))))))

def F_towpathlaw04_DiskPlaces_k2 (at_ : Int) (R : Bool → World → Prop) (first1 : Slc) (b_1 : Slc) (d : Option Addr) (t46 : Bool) (w5 : World) : Prop :=
  (t46 = true → (R false w5)) ∧
  (t46 = false → ((IntKind.i64.wrap (((first1.len : Nat) : Int) + 1)) ≠ 0 ∧ (C_disk_Disk_Write d 0 (Int.tmod (IntKind.i64.wrap at_) (IntKind.i64.wrap (((first1.len : Nat) : Int) + 1))) b_1 w5 (fun (v56 : Int) w6 => C_disk_Disk_Read d 0 w6 (fun (got : Slc) (g : Int) w7 => C_disk_Disk_Read d 1 w7 (fun (other : Slc) (h_ : Int) w8 => (((g != 0) || (h_ != 0)) = true → (F_towpathlaw04_DiskPlaces_k3 at_ R first1 b_1 d v56 got true w8)) ∧
  (((g != 0) || (h_ != 0)) = false → (C_towpathlaw01_SameBytes other first1 w8 (fun (v76 : Bool) w15 => F_towpathlaw04_DiskPlaces_k3 at_ R first1 b_1 d v56 got (!v76) w15)))))))))

def F_towpathlaw04_DiskPlaces_k1 (at_ : Int) (R : Bool → World → Prop) (first1 : Slc) (b_1 : Slc) (w3 : World) : Prop :=
  C_disk_New 100 w3 (fun (d : Option Addr) (e : Int) w4 => ((e != 0) = true → (F_towpathlaw04_DiskPlaces_k2 at_ R first1 b_1 d true w4)) ∧
  ((e != 0) = false → (C_disk_Disk_Write d 0 0 first1 w4 (fun (v38 : Int) w16 => ((v38 != 0) = true → (F_towpathlaw04_DiskPlaces_k2 at_ R first1 b_1 d true w16)) ∧
  ((v38 != 0) = false → (C_disk_Disk_Write d 1 0 first1 w16 (fun (v44 : Int) w17 => F_towpathlaw04_DiskPlaces_k2 at_ R first1 b_1 d (v44 != 0) w17)))))))

def F_towpathlaw04_DiskPlaces_k0 (at_ : Int) (b_ : Slc) (R : Bool → World → Prop) (first1 : Slc) (w2 : World) : Prop :=
  ((decide (((b_.len : Nat) : Int) > 64)) = true → (0 ≤ (64 : Int) ∧ (64 : Int) ≤ ((b_.cap : Nat) : Int) ∧ (F_towpathlaw04_DiskPlaces_k1 at_ R first1 (Slc.mk b_.ptr 64 b_.cap) w2))) ∧
  ((decide (((b_.len : Nat) : Int) > 64)) = false → (F_towpathlaw04_DiskPlaces_k1 at_ R first1 b_ w2))

def F_towpathlaw04_DiskPlaces (first : Slc) (at_ : Int) (b_ : Slc) (R : Bool → World → Prop) (w : World) : Prop :=
  C_towpathlaw04_alive w (fun (v17 : Bool) w1 => ((!v17) = true → (R false w1)) ∧
  ((!v17) = false → (((decide (((first.len : Nat) : Int) > 64)) = true → (0 ≤ (64 : Int) ∧ (64 : Int) ≤ ((first.cap : Nat) : Int) ∧ (F_towpathlaw04_DiskPlaces_k0 at_ b_ R (Slc.mk first.ptr 64 first.cap) w1))) ∧
  ((decide (((first.len : Nat) : Int) > 64)) = false → (F_towpathlaw04_DiskPlaces_k0 at_ b_ R first w1)))))

def F_towpathlaw02_CodecApart (n_ : Int) (m : Int) (R : Bool → World → Prop) (w : World) : Prop :=
  C_codec_NewWriter w (fun (v10 : Option Addr) w1 => C_codec_NewWriter w1 (fun (v11 : Option Addr) w2 => C_codec_Writer_Var v10 n_ w2 (fun w3 => C_codec_Writer_Var v11 m w3 (fun w4 => C_codec_Writer_Done v10 w4 (fun (v19 : Slc) w5 => C_codec_Writer_Done v11 w5 (fun (v21 : Slc) w6 => C_towpathlaw02_alive w6 (fun (v22 : Bool) w7 => (((((!v22) || (((v19.len : Nat) : Int) == 0)) || (((v21.len : Nat) : Int) == 0)) || ((decide (n_ > m)) && (decide (((v19.len : Nat) : Int) < ((v21.len : Nat) : Int))))) = true → (R false w7)) ∧
  (((((!v22) || (((v19.len : Nat) : Int) == 0)) || (((v21.len : Nat) : Int) == 0)) || ((decide (n_ > m)) && (decide (((v19.len : Nat) : Int) < ((v21.len : Nat) : Int))))) = false → (((n_ == m) = true → (C_towpathlaw01_SameBytes v19 v21 w7 (fun (v51 : Bool) w8 => R v51 w8))) ∧
  ((n_ == m) = false → (∀ w9, (∃ k, w9 = w7.drewN k) → (0 ≤ (if ((v21.len : Nat) : Int) < ((v19.len : Nat) : Int) then ((v21.len : Nat) : Int) else ((v19.len : Nat) : Int)) ∧ (if ((v21.len : Nat) : Int) < ((v19.len : Nat) : Int) then ((v21.len : Nat) : Int) else ((v19.len : Nat) : Int)) ≤ ((v19.cap : Nat) : Int) ∧ (0 ≤ (if ((v21.len : Nat) : Int) < ((v19.len : Nat) : Int) then ((v21.len : Nat) : Int) else ((v19.len : Nat) : Int)) ∧ (if ((v21.len : Nat) : Int) < ((v19.len : Nat) : Int) then ((v21.len : Nat) : Int) else ((v19.len : Nat) : Int)) ≤ ((v21.cap : Nat) : Int) ∧ (C_towpathlaw01_SameBytes (Slc.mk v19.ptr ((if ((v21.len : Nat) : Int) < ((v19.len : Nat) : Int) then ((v21.len : Nat) : Int) else ((v19.len : Nat) : Int)).toNat) v19.cap) (Slc.mk v21.ptr ((if ((v21.len : Nat) : Int) < ((v19.len : Nat) : Int) then ((v21.len : Nat) : Int) else ((v19.len : Nat) : Int)).toNat) v21.cap) w9 (fun (v63 : Bool) w10 => (R (!v63) w10))))))))))))))))

def F_towpathlaw02_CodecOne_k4 (R : Bool → World → Prop) (i : Int) (again_ : Int → World → Prop) (t109 : Bool) (w13 : World) : Prop :=
  (t109 = true → (R false w13)) ∧
  (t109 = false → (again_ (IntKind.i64.wrap (i + 1)) w13))

def F_towpathlaw02_CodecOne_L3 (R : Bool → World → Prop) (v91 : Slc) (again_ : Int → World → Prop) (i : Int) (w11 : World) : Prop :=
  ((decide (i < ((v91.len : Nat) : Int))) = true → (0 ≤ i ∧ i ≤ ((v91.cap : Nat) : Int) ∧ (C_codec_NewReader (Slc.mk v91.ptr i.toNat v91.cap) w11 (fun (v101 : Option Addr) w12 => C_codec_Reader_Var v101 w12 (fun (v103 : Int) w14 => ((v103 != 0) = true → (F_towpathlaw02_CodecOne_k4 R i again_ true w14)) ∧
  ((v103 != 0) = false → (C_codec_Reader_End v101 w14 (fun (v107 : Int) w15 => F_towpathlaw02_CodecOne_k4 R i again_ (v107 != 5) w15)))))))) ∧
  ((decide (i < ((v91.len : Nat) : Int))) = false → (R ((decide (((v91.len : Nat) : Int) ≥ 1)) && (decide (((v91.len : Nat) : Int) ≤ 10))) w11))

def F_towpathlaw02_CodecOne_k2 (n_ : Int) (R : Bool → World → Prop) (t85 : Bool) (w7 : World) : Prop :=
  (t85 = true → (R false w7)) ∧
  (t85 = false → (C_codec_NewWriter w7 (fun (v86 : Option Addr) w8 => C_codec_Writer_Var v86 n_ w8 (fun w9 => C_codec_Writer_Done v86 w9 (fun (v91 : Slc) w10 => ∃ (I : Int → World → Prop) (μ : Int → World → Nat), I 0 w10 ∧
  ∀ (i : Int) w, I i w → F_towpathlaw02_CodecOne_L3 R v91 (fun (i' : Int) w' => I i' w' ∧ μ i' w' < μ i w) i w)))))

def F_towpathlaw02_CodecOne_k1 (b_ : Slc) (kind : Int) (n_ : Int) (R : Bool → World → Prop) (v24 : Option Addr) (v25 : Option Addr) (w5 : World) : Prop :=
  C_codec_Reader_Left v24 w5 (fun (v49 : Int) w6 => ∀ w16, (∃ k, w16 = w6.drewN k) → (((decide ((IntKind.i64.wrap (((b_.len : Nat) : Int) - v49)) > 0)) = true → (0 ≤ IntKind.i64.wrap (((b_.len : Nat) : Int) - v49) ∧ IntKind.i64.wrap (((b_.len : Nat) : Int) - v49) ≤ ((b_.cap : Nat) : Int) ∧ (C_codec_Writer_Done v25 w16 (fun (v55 : Slc) w17 => (C_towpathlaw01_SameBytes v55 (Slc.mk b_.ptr ((IntKind.i64.wrap (((b_.len : Nat) : Int) - v49)).toNat) b_.cap) w17 (fun (v59 : Bool) w18 => (((!v59) = true → (F_towpathlaw02_CodecOne_k2 n_ R true w18)) ∧
  ((!v59) = false → ((((IntKind.i64.wrap (((b_.len : Nat) : Int) - v49)) == 0) = true → (C_codec_Reader_End v24 w18 (fun (v67 : Int) w19 => (((v67 == 0) = true → (F_towpathlaw02_CodecOne_k2 n_ R ((decide (((b_.len : Nat) : Int) > 0)) && ((Int.tmod kind 3) != 2)) w19)) ∧
  ((v67 == 0) = false → (C_codec_Reader_End v24 w19 (fun (v71 : Int) w20 => (F_towpathlaw02_CodecOne_k2 n_ R (((v71 == 3) && (decide (((b_.len : Nat) : Int) > 0))) && ((Int.tmod kind 3) != 2)) w20)))))))) ∧
  (((IntKind.i64.wrap (((b_.len : Nat) : Int) - v49)) == 0) = false → (F_towpathlaw02_CodecOne_k2 n_ R false w18))))))))))) ∧
  ((decide ((IntKind.i64.wrap (((b_.len : Nat) : Int) - v49)) > 0)) = false → ((((IntKind.i64.wrap (((b_.len : Nat) : Int) - v49)) == 0) = true → (C_codec_Reader_End v24 w16 (fun (v671 : Int) w21 => (((v671 == 0) = true → (F_towpathlaw02_CodecOne_k2 n_ R ((decide (((b_.len : Nat) : Int) > 0)) && ((Int.tmod kind 3) != 2)) w21)) ∧
  ((v671 == 0) = false → (C_codec_Reader_End v24 w21 (fun (v711 : Int) w22 => (F_towpathlaw02_CodecOne_k2 n_ R (((v711 == 3) && (decide (((b_.len : Nat) : Int) > 0))) && ((Int.tmod kind 3) != 2)) w22)))))))) ∧
  (((IntKind.i64.wrap (((b_.len : Nat) : Int) - v49)) == 0) = false → (F_towpathlaw02_CodecOne_k2 n_ R false w16))))))

def F_towpathlaw02_CodecOne_k0 (b_ : Slc) (kind : Int) (n_ : Int) (R : Bool → World → Prop) (t21 : Bool) (w1 : World) : Prop :=
  (t21 = true → (C_towpathlaw02_alive w1 (fun (v22 : Bool) w2 => R v22 w2))) ∧
  (t21 = false → (C_codec_NewReader b_ w1 (fun (v24 : Option Addr) w3 => C_codec_NewWriter w3 (fun (v25 : Option Addr) w4 => (((Int.tmod kind 3) == 0) = true → (C_codec_Reader_Var v24 w4 (fun (v38 : Int) w23 => C_codec_Writer_Var v25 v38 w23 (fun w24 => F_towpathlaw02_CodecOne_k1 b_ kind n_ R v24 v25 w24)))) ∧
  (((Int.tmod kind 3) == 0) = false → ((((Int.tmod kind 3) == 1) = true → (C_codec_Reader_Int v24 w4 (fun (v44 : Int) w25 => C_codec_Writer_Int v25 v44 w25 (fun w26 => F_towpathlaw02_CodecOne_k1 b_ kind n_ R v24 v25 w26)))) ∧
  (((Int.tmod kind 3) == 1) = false → (C_codec_Reader_Text v24 ((b_.len : Nat) : Int) w4 (fun (v32 : ByteArray) w27 => C_codec_Writer_Text v25 v32 w27 (fun w28 => F_towpathlaw02_CodecOne_k1 b_ kind n_ R v24 v25 w28))))))))))

def F_towpathlaw02_CodecOne (b_ : Slc) (kind : Int) (n_ : Int) (R : Bool → World → Prop) (w : World) : Prop :=
  C_towpathlaw02_alive w (fun (v14 : Bool) w29 => ((!v14) = true → (F_towpathlaw02_CodecOne_k0 b_ kind n_ R true w29)) ∧
  ((!v14) = false → (∀ b_1 w30, b_1 = w29.heap.size → w30 = w29.alloc (Obj.cells ([Value.int .i64 ((b_.len : Nat) : Int)]).toArray ty_int (0, 0)) → (C_towpathlaw01_Beyond (Slc.mk (some ⟨b_1, 0, none⟩) 1 1) w30 (fun (v20 : Bool) w31 => F_towpathlaw02_CodecOne_k0 b_ kind n_ R v20 w31)))))

def F_towpathlaw02_CodecBack_k2 (i : Int) (again_ : Slc → Int → World → Prop) (put1 : Slc) (w5 : World) : Prop :=
  again_ put1 (IntKind.i64.wrap (i + 1)) w5

def F_towpathlaw02_CodecBack_k3 (put : Slc) (i : Int) (again_ : Slc → Int → World → Prop) (b_ : Nat) (w8 : World) : Prop :=
  ∃ (v58 : T_towpathlaw02_Op), CellsAt w8 b_ 0 [Value.int .u8 v58.Kind, Value.int .u64 v58.N, Value.int .i64 v58.Width, Value.string v58.Text, Value.int .i64 v58.Most] ∧ (∀ b_1 w9, b_1 = w8.heap.size → w9 = w8.alloc (Obj.cells ([Value.int .u8 v58.Kind, Value.int .u64 v58.N, Value.int .i64 v58.Width, Value.string v58.Text, Value.int .i64 v58.Most]).toArray ty_towpathlaw02_Op (0, 0)) → (∃ src, SrcAt w9 (Slc.mk (some ⟨b_1, 0, none⟩) 1 1) 5 src ∧ AppendW 5 48 ty_towpathlaw02_Op [Value.int .u8 0, Value.int .u64 0, Value.int .i64 0, Value.string ByteArray.empty, Value.int .i64 0] put src 1 w9 (fun put2 w10 => F_towpathlaw02_CodecBack_k2 i again_ put2 w10)))

def F_towpathlaw02_CodecBack_k6 (R : Bool → World → Prop) (i1 : Int) (again_1 : Int → World → Prop) (t119 : Bool) (w21 : World) : Prop :=
  (t119 = true → (R false w21)) ∧
  (t119 = false → (again_1 (IntKind.i64.wrap (i1 + 1)) w21))

def F_towpathlaw02_CodecBack_k5 (R : Bool → World → Prop) (v63 : Option Addr) (i1 : Int) (again_1 : Int → World → Prop) (ok : Bool) (w20 : World) : Prop :=
  ((!ok) = true → (F_towpathlaw02_CodecBack_k6 R i1 again_1 true w20)) ∧
  ((!ok) = false → (C_codec_Reader_End v63 w20 (fun (v112 : Int) w22 => ((v112 != 0) = true → (C_codec_Reader_Left v63 w22 (fun (v116 : Int) w23 => F_towpathlaw02_CodecBack_k6 R i1 again_1 (v116 == 0) w23))) ∧
  ((v112 != 0) = false → (F_towpathlaw02_CodecBack_k6 R i1 again_1 false w22)))))

def F_towpathlaw02_CodecBack_L4 (R : Bool → World → Prop) (put : Slc) (v63 : Option Addr) (again_1 : Int → World → Prop) (i1 : Int) (w17 : World) : Prop :=
  ((decide (i1 < ((put.len : Nat) : Int))) = true → (IsAt put.ptr ∧ (0 ≤ i1 ∧ i1 < ((put.len : Nat) : Int) ∧ (∃ (v73 : T_towpathlaw02_Op), CellsAt w17 (pblk put.ptr) ((poff put.ptr) + i1.toNat * 5) [Value.int .u8 v73.Kind, Value.int .u64 v73.N, Value.int .i64 v73.Width, Value.string v73.Text, Value.int .i64 v73.Most] ∧ (∀ b_2 w18, b_2 = w17.heap.size → w18 = w17.alloc (Obj.cells ([Value.int .u8 0, Value.int .u64 0, Value.int .i64 0, Value.string ByteArray.empty, Value.int .i64 0]).toArray ty_towpathlaw02_Op (0, 0)) → (Writable w18 b_2 0 5 ∧ (∀ w19, w19 = World.puts b_2 0 [Value.int .u8 v73.Kind, Value.int .u64 v73.N, Value.int .i64 v73.Width, Value.string v73.Text, Value.int .i64 v73.Most] w18 → (∃ (v75 : Int), w19.cell? ⟨b_2, 0, none⟩ = some (Value.int .u8 v75) ∧ (((v75 == 1) = true → (∀ w24, (∃ k, w24 = w19.drewN k) → (∃ (v85 : Int), w24.cell? ⟨b_2, 2, none⟩ = some (Value.int .i64 v85) ∧ (∃ (v88 : Int), w24.cell? ⟨b_2, 1, none⟩ = some (Value.int .u64 v88) ∧ (C_codec_Reader_Fixed v63 v85 w24 (fun (v86 : Int) w25 => w25.cell? ⟨b_2, 1, none⟩ = some (Value.int .u64 v88) ∧ (F_towpathlaw02_CodecBack_k5 R v63 i1 again_1 (v86 == v88) w25))))))) ∧
  ((v75 == 1) = false → (((v75 == 3) = true → (∀ w26, (∃ k, w26 = w19.drewN k) → (∃ (v95 : Int), w26.cell? ⟨b_2, 1, none⟩ = some (Value.int .u64 v95) ∧ (C_codec_Reader_Int v63 w26 (fun (v93 : Int) w27 => w27.cell? ⟨b_2, 1, none⟩ = some (Value.int .u64 v95) ∧ (F_towpathlaw02_CodecBack_k5 R v63 i1 again_1 (v93 == (IntKind.i64.wrap v95)) w27)))))) ∧
  ((v75 == 3) = false → (((v75 == 4) = true → (∀ w28, (∃ k, w28 = w19.drewN k) → (∃ (v102 : ByteArray), w28.cell? ⟨b_2, 3, none⟩ = some (Value.string v102) ∧ (∃ (v106 : ByteArray), w28.cell? ⟨b_2, 3, none⟩ = some (Value.string v106) ∧ (C_codec_Reader_Text v63 ((v102.size : Nat) : Int) w28 (fun (v104 : ByteArray) w29 => w29.cell? ⟨b_2, 3, none⟩ = some (Value.string v106) ∧ (F_towpathlaw02_CodecBack_k5 R v63 i1 again_1 (v104.toList == v106.toList) w29))))))) ∧
  ((v75 == 4) = false → (∀ w30, (∃ k, w30 = w19.drewN k) → (∃ (v79 : Int), w30.cell? ⟨b_2, 1, none⟩ = some (Value.int .u64 v79) ∧ (C_codec_Reader_Var v63 w30 (fun (v77 : Int) w31 => w31.cell? ⟨b_2, 1, none⟩ = some (Value.int .u64 v79) ∧ (F_towpathlaw02_CodecBack_k5 R v63 i1 again_1 (v77 == v79) w31))))))))))))))))))) ∧
  ((decide (i1 < ((put.len : Nat) : Int))) = false → (C_codec_Reader_End v63 w17 (fun (v121 : Int) w32 => ((v121 == 0) = true → (C_codec_Reader_Left v63 w32 (fun (v125 : Int) w33 => R (v125 == 0) w33))) ∧
  ((v121 == 0) = false → (R false w32)))))

def F_towpathlaw02_CodecBack_L1 (script : Slc) (R : Bool → World → Prop) (v18 : Option Addr) (again_ : Slc → Int → World → Prop) (put : Slc) (i : Int) (w4 : World) : Prop :=
  ((decide (i < ((script.len : Nat) : Int))) = true → (IsAt script.ptr ∧ (0 ≤ i ∧ i < ((script.len : Nat) : Int) ∧ (∃ (v28 : T_towpathlaw02_Op), CellsAt w4 (pblk script.ptr) ((poff script.ptr) + i.toNat * 5) [Value.int .u8 v28.Kind, Value.int .u64 v28.N, Value.int .i64 v28.Width, Value.string v28.Text, Value.int .i64 v28.Most] ∧ (∀ b_ w6, b_ = w4.heap.size → w6 = w4.alloc (Obj.cells ([Value.int .u8 0, Value.int .u64 0, Value.int .i64 0, Value.string ByteArray.empty, Value.int .i64 0]).toArray ty_towpathlaw02_Op (0, 0)) → (Writable w6 b_ 0 5 ∧ (∀ w7, w7 = World.puts b_ 0 [Value.int .u8 v28.Kind, Value.int .u64 v28.N, Value.int .i64 v28.Width, Value.string v28.Text, Value.int .i64 v28.Most] w6 → (∃ (v30 : Int), w7.cell? ⟨b_, 0, none⟩ = some (Value.int .u8 v30) ∧ (((v30 == 1) = true → (∃ (v39 : Int), w7.cell? ⟨b_, 1, none⟩ = some (Value.int .u64 v39) ∧ (∃ (v41 : Int), w7.cell? ⟨b_, 2, none⟩ = some (Value.int .i64 v41) ∧ (C_codec_Writer_Fixed v18 v39 v41 w7 (fun (v42 : Int) w11 => ((v42 != 0) = true → (F_towpathlaw02_CodecBack_k2 i again_ put w11)) ∧
  ((v42 != 0) = false → (F_towpathlaw02_CodecBack_k3 put i again_ b_ w11))))))) ∧
  ((v30 == 1) = false → (((v30 == 3) = true → (∃ (v48 : Int), w7.cell? ⟨b_, 1, none⟩ = some (Value.int .u64 v48) ∧ (C_codec_Writer_Int v18 (IntKind.i64.wrap v48) w7 (fun w12 => F_towpathlaw02_CodecBack_k3 put i again_ b_ w12)))) ∧
  ((v30 == 3) = false → (((v30 == 4) = true → (∃ (v55 : ByteArray), w7.cell? ⟨b_, 3, none⟩ = some (Value.string v55) ∧ (C_codec_Writer_Text v18 v55 w7 (fun w13 => F_towpathlaw02_CodecBack_k3 put i again_ b_ w13)))) ∧
  ((v30 == 4) = false → (∃ (v33 : Int), w7.cell? ⟨b_, 1, none⟩ = some (Value.int .u64 v33) ∧ (C_codec_Writer_Var v18 v33 w7 (fun w14 => F_towpathlaw02_CodecBack_k3 put i again_ b_ w14))))))))))))))))) ∧
  ((decide (i < ((script.len : Nat) : Int))) = false → (C_codec_Writer_Done v18 w4 (fun (v62 : Slc) w15 => C_codec_NewReader v62 w15 (fun (v63 : Option Addr) w16 => ∃ (I : Int → World → Prop) (μ : Int → World → Nat), I 0 w16 ∧
  ∀ (i1 : Int) w, I i1 w → F_towpathlaw02_CodecBack_L4 R put v63 (fun (i1' : Int) w' => I i1' w' ∧ μ i1' w' < μ i1 w) i1 w))))

def F_towpathlaw02_CodecBack_k0 (script : Slc) (R : Bool → World → Prop) (t16 : Bool) (w1 : World) : Prop :=
  (t16 = true → (C_towpathlaw02_alive w1 (fun (v17 : Bool) w2 => R v17 w2))) ∧
  (t16 = false → (C_codec_NewWriter w1 (fun (v18 : Option Addr) w3 => ∃ (I : Slc → Int → World → Prop) (μ : Slc → Int → World → Nat), I (Slc.mk none 0 0) 0 w3 ∧
  ∀ (put : Slc) (i : Int) w, I put i w → F_towpathlaw02_CodecBack_L1 script R v18 (fun (put' : Slc) (i' : Int) w' => I put' i' w' ∧ μ put' i' w' < μ put i w) put i w)))

def F_towpathlaw02_CodecBack (script : Slc) (R : Bool → World → Prop) (w : World) : Prop :=
  C_towpathlaw02_alive w (fun (v11 : Bool) w34 => ((!v11) = true → (F_towpathlaw02_CodecBack_k0 script R true w34)) ∧
  ((!v11) = false → (C_towpathlaw02_beyond script w34 (fun (v15 : Bool) w35 => F_towpathlaw02_CodecBack_k0 script R v15 w35))))

def F_towpathlaw02_CodecStops_k5 (R : Bool → World → Prop) (i : Int) (again_ : Int → World → Prop) (t96 : Bool) (w12 : World) : Prop :=
  (t96 = true → (R false w12)) ∧
  (t96 = false → (again_ (IntKind.i64.wrap (i + 1)) w12))

def F_towpathlaw02_CodecStops_k4 (R : Bool → World → Prop) (v26 : Option Addr) (v44 : Int) (v46 : Int) (i : Int) (again_ : Int → World → Prop) (zero : Bool) (w11 : World) : Prop :=
  ((!zero) = true → (F_towpathlaw02_CodecStops_k5 R i again_ true w11)) ∧
  ((!zero) = false → (C_codec_Reader_Left v26 w11 (fun (v87 : Int) w13 => ((v87 != v44) = true → (F_towpathlaw02_CodecStops_k5 R i again_ true w13)) ∧
  ((v87 != v44) = false → (C_codec_Reader_End v26 w13 (fun (v93 : Int) w14 => F_towpathlaw02_CodecStops_k5 R i again_ (v93 != v46) w14))))))

def F_towpathlaw02_CodecStops_L3 (script : Slc) (R : Bool → World → Prop) (v26 : Option Addr) (v44 : Int) (v46 : Int) (again_ : Int → World → Prop) (i : Int) (w8 : World) : Prop :=
  ((decide (i < ((script.len : Nat) : Int))) = true → (IsAt script.ptr ∧ (0 ≤ i ∧ i < ((script.len : Nat) : Int) ∧ (∃ (v58 : T_towpathlaw02_Op), CellsAt w8 (pblk script.ptr) ((poff script.ptr) + i.toNat * 5) [Value.int .u8 v58.Kind, Value.int .u64 v58.N, Value.int .i64 v58.Width, Value.string v58.Text, Value.int .i64 v58.Most] ∧ (∀ b_1 w9, b_1 = w8.heap.size → w9 = w8.alloc (Obj.cells ([Value.int .u8 0, Value.int .u64 0, Value.int .i64 0, Value.string ByteArray.empty, Value.int .i64 0]).toArray ty_towpathlaw02_Op (0, 0)) → (Writable w9 b_1 0 5 ∧ (∀ w10, w10 = World.puts b_1 0 [Value.int .u8 v58.Kind, Value.int .u64 v58.N, Value.int .i64 v58.Width, Value.string v58.Text, Value.int .i64 v58.Most] w9 → (∃ (v60 : Int), w10.cell? ⟨b_1, 0, none⟩ = some (Value.int .u8 v60) ∧ (((v60 == 1) = true → (∃ (v68 : Int), w10.cell? ⟨b_1, 2, none⟩ = some (Value.int .i64 v68) ∧ (C_codec_Reader_Fixed v26 v68 w10 (fun (v69 : Int) w15 => F_towpathlaw02_CodecStops_k4 R v26 v44 v46 i again_ (v69 == 0) w15)))) ∧
  ((v60 == 1) = false → (((v60 == 3) = true → (C_codec_Reader_Int v26 w10 (fun (v74 : Int) w16 => F_towpathlaw02_CodecStops_k4 R v26 v44 v46 i again_ (v74 == 0) w16))) ∧
  ((v60 == 3) = false → (((v60 == 4) = true → (∃ (v80 : Int), w10.cell? ⟨b_1, 4, none⟩ = some (Value.int .i64 v80) ∧ (C_codec_Reader_Text v26 v80 w10 (fun (v81 : ByteArray) w17 => F_towpathlaw02_CodecStops_k4 R v26 v44 v46 i again_ (v81.toList == ByteArray.empty.toList) w17)))) ∧
  ((v60 == 4) = false → (C_codec_Reader_Var v26 w10 (fun (v62 : Int) w18 => F_towpathlaw02_CodecStops_k4 R v26 v44 v46 i again_ (v62 == 0) w18)))))))))))))))) ∧
  ((decide (i < ((script.len : Nat) : Int))) = false → (R true w8))

def F_towpathlaw02_CodecStops_k2 (script : Slc) (R : Bool → World → Prop) (v26 : Option Addr) (w5 : World) : Prop :=
  C_codec_Reader_Left v26 w5 (fun (v44 : Int) w6 => C_codec_Reader_End v26 w6 (fun (v46 : Int) w7 => ((v46 == 0) = true → (R false w7)) ∧
  ((v46 == 0) = false → (∃ (I : Int → World → Prop) (μ : Int → World → Nat), I 0 w7 ∧
  ∀ (i : Int) w, I i w → F_towpathlaw02_CodecStops_L3 script R v26 v44 v46 (fun (i' : Int) w' => I i' w' ∧ μ i' w' < μ i w) i w))))

def F_towpathlaw02_CodecStops_k1 (script : Slc) (R : Bool → World → Prop) (v26 : Option Addr) (w4 : World) : Prop :=
  C_codec_Reader_Left v26 w4 (fun (v39 : Int) w19 => ((v39 == 0) = true → (C_codec_Reader_Fixed v26 1 w19 (fun (v42 : Int) w20 => F_towpathlaw02_CodecStops_k2 script R v26 w20))) ∧
  ((v39 == 0) = false → (F_towpathlaw02_CodecStops_k2 script R v26 w19)))

def F_towpathlaw02_CodecStops_L6 (script : Slc) (R : Bool → World → Prop) (v26 : Option Addr) (again_1 : World → Prop) (w21 : World) : Prop :=
  C_codec_Reader_Left v26 w21 (fun (v28 : Int) w22 => ((decide (v28 > 0)) = true → (C_codec_Reader_Left v26 w22 (fun (v31 : Int) w23 => C_codec_Reader_Var v26 w23 (fun (v33 : Int) w24 => C_codec_Reader_Left v26 w24 (fun (v35 : Int) w25 => ((v35 == v31) = true → (F_towpathlaw02_CodecStops_k1 script R v26 w25)) ∧
  ((v35 == v31) = false → (again_1 w25))))))) ∧
  ((decide (v28 > 0)) = false → (F_towpathlaw02_CodecStops_k1 script R v26 w22)))

def F_towpathlaw02_CodecStops_k0 (b_ : Slc) (script : Slc) (R : Bool → World → Prop) (t23 : Bool) (w1 : World) : Prop :=
  (t23 = true → (C_towpathlaw02_alive w1 (fun (v24 : Bool) w2 => R v24 w2))) ∧
  (t23 = false → (C_codec_NewReader b_ w1 (fun (v26 : Option Addr) w3 => ∃ (I : World → Prop) (μ : World → Nat), I w3 ∧
  ∀ w, I w → F_towpathlaw02_CodecStops_L6 script R v26 (fun w' => I w' ∧ μ w' < μ w) w)))

def F_towpathlaw02_CodecStops (b_ : Slc) (script : Slc) (R : Bool → World → Prop) (w : World) : Prop :=
  C_towpathlaw02_alive w (fun (v12 : Bool) w26 => ((!v12) = true → (F_towpathlaw02_CodecStops_k0 b_ script R true w26)) ∧
  ((!v12) = false → (C_towpathlaw02_beyond script w26 (fun (v16 : Bool) w27 => (v16 = true → (F_towpathlaw02_CodecStops_k0 b_ script R true w27)) ∧
  (v16 = false → (∀ b_2 w28, b_2 = w27.heap.size → w28 = w27.alloc (Obj.cells ([Value.int .i64 ((b_.len : Nat) : Int)]).toArray ty_int (0, 0)) → (C_towpathlaw01_Beyond (Slc.mk (some ⟨b_2, 0, none⟩) 1 1) w28 (fun (v22 : Bool) w29 => F_towpathlaw02_CodecStops_k0 b_ script R v22 w29))))))))

def F_towpathlaw02_beyond_L0 (l_ : Slc) (R : Bool → World → Prop) (again_ : Int → Int → World → Prop) (n_ : Int) (i : Int) (w1 : World) : Prop :=
  ((decide (i < ((l_.len : Nat) : Int))) = true → (IsAt l_.ptr ∧ (0 ≤ i ∧ i < ((l_.len : Nat) : Int) ∧ (∃ (v17 : ByteArray), w1.cell? ⟨(pblk l_.ptr), ((poff l_.ptr) + i.toNat * 5) + 3, none⟩ = some (Value.string v17) ∧ (((decide ((IntKind.i64.wrap ((IntKind.i64.wrap (n_ + 10)) + ((v17.size : Nat) : Int))) > 1048576)) = true → (R true w1)) ∧
  ((decide ((IntKind.i64.wrap ((IntKind.i64.wrap (n_ + 10)) + ((v17.size : Nat) : Int))) > 1048576)) = false → (again_ (IntKind.i64.wrap ((IntKind.i64.wrap (n_ + 10)) + ((v17.size : Nat) : Int))) (IntKind.i64.wrap (i + 1)) w1))))))) ∧
  ((decide (i < ((l_.len : Nat) : Int))) = false → (R false w1))

def F_towpathlaw02_beyond (l_ : Slc) (R : Bool → World → Prop) (w : World) : Prop :=
  ∃ (I : Int → Int → World → Prop) (μ : Int → Int → World → Nat), I 0 0 w ∧
  ∀ (n_ : Int) (i : Int) w, I n_ i w → F_towpathlaw02_beyond_L0 l_ R (fun (n_' : Int) (i' : Int) w' => I n_' i' w' ∧ μ n_' i' w' < μ n_ i w) n_ i w

def F_towpathlaw01_Beyond_L0 (l_ : Slc) (R : Bool → World → Prop) (again_ : Int → Int → World → Prop) (n_ : Int) (i : Int) (w1 : World) : Prop :=
  ((decide (i < ((l_.len : Nat) : Int))) = true → (IsAt l_.ptr ∧ (0 ≤ i ∧ i < ((l_.len : Nat) : Int) ∧ (∃ (v15 : Int), w1.cell? ⟨(pblk l_.ptr), (poff l_.ptr) + i.toNat, none⟩ = some (Value.int .i64 v15) ∧ (((decide ((IntKind.i64.wrap (n_ + v15)) > 1048576)) = true → (R true w1)) ∧
  ((decide ((IntKind.i64.wrap (n_ + v15)) > 1048576)) = false → (again_ (IntKind.i64.wrap (n_ + v15)) (IntKind.i64.wrap (i + 1)) w1))))))) ∧
  ((decide (i < ((l_.len : Nat) : Int))) = false → (R false w1))

def F_towpathlaw01_Beyond (l_ : Slc) (R : Bool → World → Prop) (w : World) : Prop :=
  ∃ (I : Int → Int → World → Prop) (μ : Int → Int → World → Nat), I 0 0 w ∧
  ∀ (n_ : Int) (i : Int) w, I n_ i w → F_towpathlaw01_Beyond_L0 l_ R (fun (n_' : Int) (i' : Int) w' => I n_' i' w' ∧ μ n_' i' w' < μ n_ i w) n_ i w

def F_towpathlaw01_TwinBytes_L0 (l_ : Slc) (R : Slc → World → Prop) (again_ : Slc → Int → World → Prop) (t_ : Slc) (i : Int) (w2 : World) : Prop :=
  ((decide (i < ((l_.len : Nat) : Int))) = true → (IsAt l_.ptr ∧ (0 ≤ i ∧ i < ((l_.len : Nat) : Int) ∧ (∃ (v19 : Int), w2.cell? ⟨(pblk l_.ptr), (poff l_.ptr) + i.toNat, none⟩ = some (Value.int .u8 v19) ∧ (∀ b_1 w3, b_1 = w2.heap.size → w3 = w2.alloc (Obj.cells ([Value.int .u8 v19]).toArray ty_uint8 (0, 0)) → (∃ src, SrcAt w3 (Slc.mk (some ⟨b_1, 0, none⟩) 1 1) 1 src ∧ AppendW 1 1 ty_uint8 [Value.int .u8 0] t_ src 1 w3 (fun t_1 w4 => again_ t_1 (IntKind.i64.wrap (i + 1)) w4))))))) ∧
  ((decide (i < ((l_.len : Nat) : Int))) = false → (∀ b_2 w5, b_2 = w2.heap.size → w5 = w2.alloc (Obj.cells ([Value.int .u8 77]).toArray ty_uint8 (0, 0)) → (∃ src, SrcAt w5 (Slc.mk (some ⟨b_2, 0, none⟩) 1 1) 1 src ∧ AppendW 1 1 ty_uint8 [Value.int .u8 0] t_ src 1 w5 (fun v24 w6 => 0 ≤ ((l_.len : Nat) : Int) ∧ ((l_.len : Nat) : Int) ≤ ((v24.cap : Nat) : Int) ∧ (R (Slc.mk v24.ptr (((l_.len : Nat) : Int).toNat) v24.cap) w6)))))

def F_towpathlaw01_TwinBytes (l_ : Slc) (R : Slc → World → Prop) (w : World) : Prop :=
  0 ≤ (0 : Int) ∧ (0 : Int) ≤ IntKind.i64.wrap (((l_.len : Nat) : Int) + 1) ∧ (1 : Int) * (IntKind.i64.wrap (((l_.len : Nat) : Int) + 1)) ≤ 281474976710656 ∧ (∀ b_ w1, b_ = w.heap.size → w1 = w.alloc (Obj.cells (repCells ((IntKind.i64.wrap (((l_.len : Nat) : Int) + 1)).toNat) [Value.int .u8 0]) ty_uint8 (0, 0)) → (∃ (I : Slc → Int → World → Prop) (μ : Slc → Int → World → Nat), I (Slc.mk (some ⟨b_, 0, none⟩) 0 ((IntKind.i64.wrap (((l_.len : Nat) : Int) + 1)).toNat)) 0 w1 ∧
  ∀ (t_ : Slc) (i : Int) w, I t_ i w → F_towpathlaw01_TwinBytes_L0 l_ R (fun (t_' : Slc) (i' : Int) w' => I t_' i' w' ∧ μ t_' i' w' < μ t_ i w) t_ i w))

def F_codec_NewReader (b_ : Slc) (R : Option Addr → World → Prop) (w : World) : Prop :=
  C_slices_Clone_byte_byte b_ w (fun (v4 : Slc) w1 => ∀ b_1 w2, b_1 = w1.heap.size → w2 = w1.alloc (Obj.cells ([Value.bool true, Value.slice v4.ptr v4.len v4.cap, Value.int .i64 0]).toArray ty_codec_Reader (0, 0)) → (R (some ⟨b_1, 0, none⟩) w2))

def F_towpathlaw01_LeftBytes_L0 (t_ : Slc) (l_ : Slc) (R : Bool → World → Prop) (again_ : Int → World → Prop) (i : Int) (w1 : World) : Prop :=
  ((decide (i < ((l_.len : Nat) : Int))) = true → (IsAt t_.ptr ∧ (0 ≤ i ∧ i < ((t_.len : Nat) : Int) ∧ (∃ (v28 : Int), w1.cell? ⟨(pblk t_.ptr), (poff t_.ptr) + i.toNat, none⟩ = some (Value.int .u8 v28) ∧ (IsAt l_.ptr ∧ (0 ≤ i ∧ i < ((l_.len : Nat) : Int) ∧ (∃ (v32 : Int), w1.cell? ⟨(pblk l_.ptr), (poff l_.ptr) + i.toNat, none⟩ = some (Value.int .u8 v32) ∧ (∀ w2, Ext w1 w2 → (((v28 != v32) = true → (R false w2)) ∧
  ((v28 != v32) = false → (again_ (IntKind.i64.wrap (i + 1)) w2))))))))))) ∧
  ((decide (i < ((l_.len : Nat) : Int))) = false → (0 ≤ IntKind.i64.wrap (((l_.len : Nat) : Int) + 1) ∧ IntKind.i64.wrap (((l_.len : Nat) : Int) + 1) ≤ ((t_.cap : Nat) : Int) ∧ (IsAt t_.ptr ∧ (0 ≤ ((l_.len : Nat) : Int) ∧ ((l_.len : Nat) : Int) < (((IntKind.i64.wrap (((l_.len : Nat) : Int) + 1)).toNat : Nat) : Int) ∧ (∃ (x : Int), w1.cell? ⟨(pblk t_.ptr), (poff t_.ptr) + ((l_.len : Nat) : Int).toNat, none⟩ = some (Value.int .u8 x) ∧ (R (x == 77) w1))))))

def F_towpathlaw01_LeftBytes (t_ : Slc) (l_ : Slc) (R : Bool → World → Prop) (w : World) : Prop :=
  (((((t_.len : Nat) : Int) != ((l_.len : Nat) : Int)) || (decide (((t_.cap : Nat) : Int) ≤ ((l_.len : Nat) : Int)))) = true → (R false w)) ∧
  (((((t_.len : Nat) : Int) != ((l_.len : Nat) : Int)) || (decide (((t_.cap : Nat) : Int) ≤ ((l_.len : Nat) : Int)))) = false → (∃ (I : Int → World → Prop) (μ : Int → World → Nat), I 0 w ∧
  ∀ (i : Int) w, I i w → F_towpathlaw01_LeftBytes_L0 t_ l_ R (fun (i' : Int) w' => I i' w' ∧ μ i' w' < μ i w) i w))

def F_towpathlaw02_takes (r : Option Addr) (x : T_towpathref02_Reader) (o_ : T_towpathlaw02_Op) (R : T_towpathref02_Reader → Bool → World → Prop) (w : World) : Prop :=
  ∀ b_ w1, b_ = w.heap.size → w1 = w.alloc (Obj.cells ([Value.bool x.Gone, Value.slice x.B.ptr x.B.len x.B.cap, Value.int .i64 x.At, Value.int .i64 x.Code]).toArray ty_towpathref02_Reader (0, 0)) → (∀ b_1 w2, b_1 = w1.heap.size → w2 = w1.alloc (Obj.cells ([Value.int .u8 o_.Kind, Value.int .u64 o_.N, Value.int .i64 o_.Width, Value.string o_.Text, Value.int .i64 o_.Most]).toArray ty_towpathlaw02_Op (0, 0)) → (∀ b_2 w3, b_2 = w2.heap.size → w3 = w2.alloc (Obj.cells ([Value.bool false, Value.slice none 0 0, Value.int .i64 0, Value.int .i64 0]).toArray ty_towpathref02_Reader (0, 0)) → (∃ (v17 : Int), w3.cell? ⟨b_1, 0, none⟩ = some (Value.int .u8 v17) ∧ (((v17 == 1) = true → (∃ (v21 : T_towpathref02_Reader), CellsAt w3 b_ 0 [Value.bool v21.Gone, Value.slice v21.B.ptr v21.B.len v21.B.cap, Value.int .i64 v21.At, Value.int .i64 v21.Code] ∧ (∃ (v23 : Int), w3.cell? ⟨b_1, 2, none⟩ = some (Value.int .i64 v23) ∧ (C_towpathref02_Reader_Fixed v21 v23 w3 (fun (v24 : T_towpathref02_Reader) (n_ : Int) w4 => ∀ b_3 w5, b_3 = w4.heap.size → w5 = w4.alloc (Obj.cells ([Value.bool false, Value.slice none 0 0, Value.int .i64 0, Value.int .i64 0]).toArray ty_towpathref02_Reader (0, 0)) → (Writable w5 b_3 0 4 ∧ (∀ w6, w6 = World.puts b_3 0 [Value.bool v24.Gone, Value.slice v24.B.ptr v24.B.len v24.B.cap, Value.int .i64 v24.At, Value.int .i64 v24.Code] w5 → (∀ w7, (∃ k, w7 = w6.drewN k) → (∃ (v27 : T_towpathref02_Reader), CellsAt w7 b_3 0 [Value.bool v27.Gone, Value.slice v27.B.ptr v27.B.len v27.B.cap, Value.int .i64 v27.At, Value.int .i64 v27.Code] ∧ (∃ (v30 : Int), w7.cell? ⟨b_1, 2, none⟩ = some (Value.int .i64 v30) ∧ (C_codec_Reader_Fixed r v30 w7 (fun (v31 : Int) w8 => CellsAt w8 b_3 0 [Value.bool v27.Gone, Value.slice v27.B.ptr v27.B.len v27.B.cap, Value.int .i64 v27.At, Value.int .i64 v27.Code] ∧ (Writable w8 b_2 0 4 ∧ (∀ w9, w9 = World.puts b_2 0 [Value.bool v27.Gone, Value.slice v27.B.ptr v27.B.len v27.B.cap, Value.int .i64 v27.At, Value.int .i64 v27.Code] w8 → ((∃ (res : T_towpathref02_Reader), CellsAt w9 b_2 0 [Value.bool res.Gone, Value.slice res.B.ptr res.B.len res.B.cap, Value.int .i64 res.At, Value.int .i64 res.Code] ∧ (R res (v31 == n_) w9))))))))))))))))) ∧
  ((v17 == 1) = false → (((v17 == 3) = true → (∃ (v37 : T_towpathref02_Reader), CellsAt w3 b_ 0 [Value.bool v37.Gone, Value.slice v37.B.ptr v37.B.len v37.B.cap, Value.int .i64 v37.At, Value.int .i64 v37.Code] ∧ (C_towpathref02_Reader_Int v37 w3 (fun (v38 : T_towpathref02_Reader) (n_1 : Int) w10 => ∀ b_4 w11, b_4 = w10.heap.size → w11 = w10.alloc (Obj.cells ([Value.bool false, Value.slice none 0 0, Value.int .i64 0, Value.int .i64 0]).toArray ty_towpathref02_Reader (0, 0)) → (Writable w11 b_4 0 4 ∧ (∀ w12, w12 = World.puts b_4 0 [Value.bool v38.Gone, Value.slice v38.B.ptr v38.B.len v38.B.cap, Value.int .i64 v38.At, Value.int .i64 v38.Code] w11 → (∀ w13, (∃ k, w13 = w12.drewN k) → (∃ (v41 : T_towpathref02_Reader), CellsAt w13 b_4 0 [Value.bool v41.Gone, Value.slice v41.B.ptr v41.B.len v41.B.cap, Value.int .i64 v41.At, Value.int .i64 v41.Code] ∧ (C_codec_Reader_Int r w13 (fun (v43 : Int) w14 => CellsAt w14 b_4 0 [Value.bool v41.Gone, Value.slice v41.B.ptr v41.B.len v41.B.cap, Value.int .i64 v41.At, Value.int .i64 v41.Code] ∧ (Writable w14 b_2 0 4 ∧ (∀ w15, w15 = World.puts b_2 0 [Value.bool v41.Gone, Value.slice v41.B.ptr v41.B.len v41.B.cap, Value.int .i64 v41.At, Value.int .i64 v41.Code] w14 → ((∃ (res1 : T_towpathref02_Reader), CellsAt w15 b_2 0 [Value.bool res1.Gone, Value.slice res1.B.ptr res1.B.len res1.B.cap, Value.int .i64 res1.At, Value.int .i64 res1.Code] ∧ (R res1 (v43 == n_1) w15))))))))))))))) ∧
  ((v17 == 3) = false → (((v17 == 4) = true → (∃ (v49 : T_towpathref02_Reader), CellsAt w3 b_ 0 [Value.bool v49.Gone, Value.slice v49.B.ptr v49.B.len v49.B.cap, Value.int .i64 v49.At, Value.int .i64 v49.Code] ∧ (∃ (v51 : Int), w3.cell? ⟨b_1, 4, none⟩ = some (Value.int .i64 v51) ∧ (C_towpathref02_Reader_Text v49 v51 w3 (fun (v52 : T_towpathref02_Reader) (s : ByteArray) w16 => ∀ b_5 w17, b_5 = w16.heap.size → w17 = w16.alloc (Obj.cells ([Value.bool false, Value.slice none 0 0, Value.int .i64 0, Value.int .i64 0]).toArray ty_towpathref02_Reader (0, 0)) → (Writable w17 b_5 0 4 ∧ (∀ w18, w18 = World.puts b_5 0 [Value.bool v52.Gone, Value.slice v52.B.ptr v52.B.len v52.B.cap, Value.int .i64 v52.At, Value.int .i64 v52.Code] w17 → (∀ w19, (∃ k, w19 = w18.drewN k) → (∃ (v55 : T_towpathref02_Reader), CellsAt w19 b_5 0 [Value.bool v55.Gone, Value.slice v55.B.ptr v55.B.len v55.B.cap, Value.int .i64 v55.At, Value.int .i64 v55.Code] ∧ (∃ (v58 : Int), w19.cell? ⟨b_1, 4, none⟩ = some (Value.int .i64 v58) ∧ (C_codec_Reader_Text r v58 w19 (fun (v59 : ByteArray) w20 => CellsAt w20 b_5 0 [Value.bool v55.Gone, Value.slice v55.B.ptr v55.B.len v55.B.cap, Value.int .i64 v55.At, Value.int .i64 v55.Code] ∧ (Writable w20 b_2 0 4 ∧ (∀ w21, w21 = World.puts b_2 0 [Value.bool v55.Gone, Value.slice v55.B.ptr v55.B.len v55.B.cap, Value.int .i64 v55.At, Value.int .i64 v55.Code] w20 → ((∃ (res2 : T_towpathref02_Reader), CellsAt w21 b_2 0 [Value.bool res2.Gone, Value.slice res2.B.ptr res2.B.len res2.B.cap, Value.int .i64 res2.At, Value.int .i64 res2.Code] ∧ (R res2 (v59.toList == s.toList) w21))))))))))))))))) ∧
  ((v17 == 4) = false → (∃ (v63 : T_towpathref02_Reader), CellsAt w3 b_ 0 [Value.bool v63.Gone, Value.slice v63.B.ptr v63.B.len v63.B.cap, Value.int .i64 v63.At, Value.int .i64 v63.Code] ∧ (C_towpathref02_Reader_Var v63 w3 (fun (v64 : T_towpathref02_Reader) (n_2 : Int) w22 => ∀ b_6 w23, b_6 = w22.heap.size → w23 = w22.alloc (Obj.cells ([Value.bool false, Value.slice none 0 0, Value.int .i64 0, Value.int .i64 0]).toArray ty_towpathref02_Reader (0, 0)) → (Writable w23 b_6 0 4 ∧ (∀ w24, w24 = World.puts b_6 0 [Value.bool v64.Gone, Value.slice v64.B.ptr v64.B.len v64.B.cap, Value.int .i64 v64.At, Value.int .i64 v64.Code] w23 → (∀ w25, (∃ k, w25 = w24.drewN k) → (∃ (v67 : T_towpathref02_Reader), CellsAt w25 b_6 0 [Value.bool v67.Gone, Value.slice v67.B.ptr v67.B.len v67.B.cap, Value.int .i64 v67.At, Value.int .i64 v67.Code] ∧ (C_codec_Reader_Var r w25 (fun (v69 : Int) w26 => CellsAt w26 b_6 0 [Value.bool v67.Gone, Value.slice v67.B.ptr v67.B.len v67.B.cap, Value.int .i64 v67.At, Value.int .i64 v67.Code] ∧ (Writable w26 b_2 0 4 ∧ (∀ w27, w27 = World.puts b_2 0 [Value.bool v67.Gone, Value.slice v67.B.ptr v67.B.len v67.B.cap, Value.int .i64 v67.At, Value.int .i64 v67.Code] w26 → ((∃ (res3 : T_towpathref02_Reader), CellsAt w27 b_2 0 [Value.bool res3.Gone, Value.slice res3.B.ptr res3.B.len res3.B.cap, Value.int .i64 res3.At, Value.int .i64 res3.Code] ∧ (R res3 (v69 == n_2) w27)))))))))))))))))))))))

def F_codec_Reader_Left (r : Option Addr) (R : Int → World → Prop) (w : World) : Prop :=
  (r.isNone = true → (R 0 w)) ∧
  (r.isNone = false → (IsAt r ∧ (∃ (v8 : Slc), w.cell? ⟨(pblk r), (poff r) + 1, none⟩ = some (Value.slice v8.ptr v8.len v8.cap) ∧ (R ((v8.len : Nat) : Int) w))))

def F_towpathref02_Reader_Left (r : T_towpathref02_Reader) (R : Int → World → Prop) (w : World) : Prop :=
  ∀ b_ w1, b_ = w.heap.size → w1 = w.alloc (Obj.cells ([Value.bool r.Gone, Value.slice r.B.ptr r.B.len r.B.cap, Value.int .i64 r.At, Value.int .i64 r.Code]).toArray ty_towpathref02_Reader (0, 0)) → (∃ (v4 : Bool), w1.cell? ⟨b_, 0, none⟩ = some (Value.bool v4) ∧ ((v4 = true → (R 0 w1)) ∧
  (v4 = false → (∃ (v6 : Slc), w1.cell? ⟨b_, 1, none⟩ = some (Value.slice v6.ptr v6.len v6.cap) ∧ (∃ (v9 : Int), w1.cell? ⟨b_, 2, none⟩ = some (Value.int .i64 v9) ∧ (R (IntKind.i64.wrap (((v6.len : Nat) : Int) - v9)) w1))))))

def F_codec_Reader_End_k1 (r : Option Addr) (R : Int → World → Prop) (t13 : Bool) (w2 : World) : Prop :=
  (t13 = true → (R 4 w2)) ∧
  (t13 = false → (IsAt r ∧ (∃ (v30 : Int), w2.cell? ⟨(pblk r), (poff r) + 2, none⟩ = some (Value.int .i64 v30) ∧ (R v30 w2))))

def F_codec_Reader_End_k0 (r : Option Addr) (R : Int → World → Prop) (t3 : Bool) (w1 : World) : Prop :=
  (t3 = true → (R 2 w1)) ∧
  (t3 = false → (IsAt r ∧ (∃ (v17 : Int), w1.cell? ⟨(pblk r), (poff r) + 2, none⟩ = some (Value.int .i64 v17) ∧ (((v17 == 0) = true → (IsAt r ∧ (∃ (v23 : Slc), w1.cell? ⟨(pblk r), (poff r) + 1, none⟩ = some (Value.slice v23.ptr v23.len v23.cap) ∧ (F_codec_Reader_End_k1 r R (decide (((v23.len : Nat) : Int) > 0)) w1)))) ∧
  ((v17 == 0) = false → (F_codec_Reader_End_k1 r R false w1))))))

def F_codec_Reader_End (r : Option Addr) (R : Int → World → Prop) (w : World) : Prop :=
  (r.isNone = true → (F_codec_Reader_End_k0 r R true w)) ∧
  (r.isNone = false → (IsAt r ∧ (∃ (v10 : Bool), w.cell? ⟨(pblk r), (poff r), none⟩ = some (Value.bool v10) ∧ (F_codec_Reader_End_k0 r R (!v10) w))))

def F_towpathref02_Reader_End (r : T_towpathref02_Reader) (R : Int → World → Prop) (w : World) : Prop :=
  ∀ b_ w1, b_ = w.heap.size → w1 = w.alloc (Obj.cells ([Value.bool r.Gone, Value.slice r.B.ptr r.B.len r.B.cap, Value.int .i64 r.At, Value.int .i64 r.Code]).toArray ty_towpathref02_Reader (0, 0)) → (∃ (v4 : Bool), w1.cell? ⟨b_, 0, none⟩ = some (Value.bool v4) ∧ ((v4 = true → (R 2 w1)) ∧
  (v4 = false → (∃ (v6 : Int), w1.cell? ⟨b_, 3, none⟩ = some (Value.int .i64 v6) ∧ (((v6 != 0) = true → (∃ (v9 : Int), w1.cell? ⟨b_, 3, none⟩ = some (Value.int .i64 v9) ∧ (R v9 w1))) ∧
  ((v6 != 0) = false → (∃ (v11 : Int), w1.cell? ⟨b_, 2, none⟩ = some (Value.int .i64 v11) ∧ (∃ (v13 : Slc), w1.cell? ⟨b_, 1, none⟩ = some (Value.slice v13.ptr v13.len v13.cap) ∧ (((decide (v11 < ((v13.len : Nat) : Int))) = true → (R 4 w1)) ∧
  ((decide (v11 < ((v13.len : Nat) : Int))) = false → (R 0 w1)))))))))))

def F_towpathlaw04_beyond_L0 (l_ : Slc) (R : Bool → World → Prop) (again_ : Int → Int → World → Prop) (n_ : Int) (i : Int) (w1 : World) : Prop :=
  ((decide (i < ((l_.len : Nat) : Int))) = true → (IsAt l_.ptr ∧ (0 ≤ i ∧ i < ((l_.len : Nat) : Int) ∧ (∃ (v17 : Slc), w1.cell? ⟨(pblk l_.ptr), ((poff l_.ptr) + i.toNat * 5) + 3, none⟩ = some (Value.slice v17.ptr v17.len v17.cap) ∧ (((decide ((IntKind.i64.wrap ((IntKind.i64.wrap (n_ + 1)) + ((v17.len : Nat) : Int))) > 1048576)) = true → (R true w1)) ∧
  ((decide ((IntKind.i64.wrap ((IntKind.i64.wrap (n_ + 1)) + ((v17.len : Nat) : Int))) > 1048576)) = false → (again_ (IntKind.i64.wrap ((IntKind.i64.wrap (n_ + 1)) + ((v17.len : Nat) : Int))) (IntKind.i64.wrap (i + 1)) w1))))))) ∧
  ((decide (i < ((l_.len : Nat) : Int))) = false → (R false w1))

def F_towpathlaw04_beyond (l_ : Slc) (R : Bool → World → Prop) (w : World) : Prop :=
  ∃ (I : Int → Int → World → Prop) (μ : Int → Int → World → Nat), I 0 0 w ∧
  ∀ (n_ : Int) (i : Int) w, I n_ i w → F_towpathlaw04_beyond_L0 l_ R (fun (n_' : Int) (i' : Int) w' => I n_' i' w' ∧ μ n_' i' w' < μ n_ i w) n_ i w

def F_towpathlaw04_asked_L0 (R : Bool → World → Prop) (v22 : Slc) (v30 : Int) (v37 : Int) (v41 : Bool) (again_ : Int → World → Prop) (i : Int) (w6 : World) : Prop :=
  ((decide (i < ((v22.len : Nat) : Int))) = true → (IsAt v22.ptr ∧ (0 ≤ i ∧ i < ((v22.len : Nat) : Int) ∧ (Writable w6 (pblk v22.ptr) ((poff v22.ptr) + i.toNat) 1 ∧ (∀ w7, w7 = World.puts (pblk v22.ptr) ((poff v22.ptr) + i.toNat) [Value.int .u8 238] w6 → (again_ (IntKind.i64.wrap (i + 1)) w7)))))) ∧
  ((decide (i < ((v22.len : Nat) : Int))) = false → (R ((v37 == v30) && v41) w6))

def F_towpathlaw04_asked (d : Option Addr) (r : Option Addr) (o_ : T_towpathlaw04_Op) (R : Bool → World → Prop) (w : World) : Prop :=
  ∀ b_ w1, b_ = w.heap.size → w1 = w.alloc (Obj.cells ([Value.int .u8 o_.Kind, Value.int .i64 o_.Slot, Value.int .i64 o_.At, Value.slice o_.B.ptr o_.B.len o_.B.cap, Value.int .i64 o_.N]).toArray ty_towpathlaw04_Op (0, 0)) → (∃ (v17 : Int), w1.cell? ⟨b_, 0, none⟩ = some (Value.int .u8 v17) ∧ (((v17 == 1) = true → (∃ (v21 : Slc), w1.cell? ⟨b_, 3, none⟩ = some (Value.slice v21.ptr v21.len v21.cap) ∧ (C_towpathlaw01_TwinBytes v21 w1 (fun (v22 : Slc) w2 => ∃ (v25 : Int), w2.cell? ⟨b_, 1, none⟩ = some (Value.int .i64 v25) ∧ (∃ (v27 : Int), w2.cell? ⟨b_, 2, none⟩ = some (Value.int .i64 v27) ∧ (∃ (v29 : Slc), w2.cell? ⟨b_, 3, none⟩ = some (Value.slice v29.ptr v29.len v29.cap) ∧ (C_towpathref04_Disk_Write r v25 v27 v29 w2 (fun (v30 : Int) w3 => ∃ (v33 : Int), w3.cell? ⟨b_, 1, none⟩ = some (Value.int .i64 v33) ∧ (∃ (v35 : Int), w3.cell? ⟨b_, 2, none⟩ = some (Value.int .i64 v35) ∧ (C_disk_Disk_Write d v33 v35 v22 w3 (fun (v37 : Int) w4 => ∃ (v40 : Slc), w4.cell? ⟨b_, 3, none⟩ = some (Value.slice v40.ptr v40.len v40.cap) ∧ (C_towpathlaw01_LeftBytes v22 v40 w4 (fun (v41 : Bool) w5 => ∃ (I : Int → World → Prop) (μ : Int → World → Nat), I 0 w5 ∧
  ∀ (i : Int) w, I i w → F_towpathlaw04_asked_L0 R v22 v30 v37 v41 (fun (i' : Int) w' => I i' w' ∧ μ i' w' < μ i w) i w))))))))))))) ∧
  ((v17 == 1) = false → (((v17 == 2) = true → (∀ w8, (∃ k, w8 = w1.drewN k) → (∃ (v61 : Int), w8.cell? ⟨b_, 1, none⟩ = some (Value.int .i64 v61) ∧ (∃ (v65 : Int), w8.cell? ⟨b_, 1, none⟩ = some (Value.int .i64 v65) ∧ (C_disk_Disk_Clear d v61 w8 (fun (v62 : Int) w9 => w9.cell? ⟨b_, 1, none⟩ = some (Value.int .i64 v65) ∧ (C_towpathref04_Disk_Clear r v65 w9 (fun (v66 : Int) w10 => (R (v62 == v66) w10))))))))) ∧
  ((v17 == 2) = false → (((v17 == 4) = true → (∀ w11, (∃ k, w11 = w1.drewN k) → (∃ (v72 : Int), w11.cell? ⟨b_, 4, none⟩ = some (Value.int .i64 v72) ∧ (∃ (v76 : Int), w11.cell? ⟨b_, 4, none⟩ = some (Value.int .i64 v76) ∧ (C_disk_Disk_Cut d v72 w11 (fun (v73 : Int) w12 => w12.cell? ⟨b_, 4, none⟩ = some (Value.int .i64 v76) ∧ (C_towpathref04_Disk_Cut r v76 w12 (fun (v77 : Int) w13 => (R (v73 == v77) w13))))))))) ∧
  ((v17 == 4) = false → (((v17 == 5) = true → (C_disk_Disk_Mend d w1 (fun (v82 : Int) w14 => C_towpathref04_Disk_Mend r w14 (fun (v84 : Int) w15 => R (v82 == v84) w15)))) ∧
  ((v17 == 5) = false → (∃ (v89 : Int), w1.cell? ⟨b_, 1, none⟩ = some (Value.int .i64 v89) ∧ (C_disk_Disk_Read d v89 w1 (fun (b_1 : Slc) (e : Int) w16 => ∃ (v96 : Int), w16.cell? ⟨b_, 1, none⟩ = some (Value.int .i64 v96) ∧ (C_towpathref04_Disk_Read r v96 w16 (fun (want : Slc) (f : Int) w17 => ((e == f) = true → (C_towpathlaw01_SameBytes b_1 want w17 (fun (v106 : Bool) w18 => R v106 w18))) ∧
  ((e == f) = false → (R false w17))))))))))))))))

def F_towpathlaw04_looks (d : Option Addr) (r : Option Addr) (R : Bool → World → Prop) (w : World) : Prop :=
  C_disk_Disk_Dead d w (fun (v6 : Bool) w1 => C_towpathref04_Disk_Dead r w1 (fun (v8 : Bool) w2 => ((v6 == v8) = true → (C_disk_Disk_Capacity d w2 (fun (v12 : Int) w3 => C_towpathref04_Disk_Capacity r w3 (fun (v14 : Int) w4 => ((v12 == v14) = true → (C_disk_Disk_Writes d w4 (fun (v19 : Int) w5 => C_towpathref04_Disk_Writes r w5 (fun (v21 : Int) w6 => R (v19 == v21) w6)))) ∧
  ((v12 == v14) = false → (R false w4)))))) ∧
  ((v6 == v8) = false → (R false w2))))

def F_towpathlaw04_alive_k0 (R : Bool → World → Prop) (d : Option Addr) (t46 : Bool) (w3 : World) : Prop :=
  (t46 = true → (R false w3)) ∧
  (t46 = false → (C_disk_Disk_Read d 0 w3 (fun (b_ : Slc) (g : Int) w4 => ((g == 0) = true → (∃ str : ByteArray, SrcAt w4 b_ 1 (strCells str) ∧ (((str.toList == (ByteArray.mk #[97, 120, 121, 122]).toList) = true → (C_disk_Disk_Writes d w4 (fun (v61 : Int) w5 => ((v61 == 2) = true → (C_disk_Disk_Cut d 0 w5 (fun (v66 : Int) w6 => ((v66 == 0) = true → (C_disk_Disk_Clear d 1 w6 (fun (v71 : Int) w7 => ((v71 == 11) = true → (C_disk_Disk_Dead d w7 (fun (v76 : Bool) w8 => (v76 = true → (C_disk_Disk_Mend d w8 (fun (v80 : Int) w9 => ((v80 == 0) = true → (C_disk_Disk_Dead d w9 (fun (v85 : Bool) w10 => R (!v85) w10))) ∧
  ((v80 == 0) = false → (R false w9))))) ∧
  (v76 = false → (R false w8))))) ∧
  ((v71 == 11) = false → (R false w7))))) ∧
  ((v66 == 0) = false → (R false w6))))) ∧
  ((v61 == 2) = false → (R false w5))))) ∧
  ((str.toList == (ByteArray.mk #[97, 120, 121, 122]).toList) = false → (R false w4))))) ∧
  ((g == 0) = false → (R false w4)))))

def F_towpathlaw04_alive (R : Bool → World → Prop) (w : World) : Prop :=
  C_disk_New 4 w (fun (d : Option Addr) (e : Int) w1 => C_disk_New (-1) w1 (fun (v12 : Option Addr) (f : Int) w2 => (((e != 0) || (f != 1)) = true → (F_towpathlaw04_alive_k0 R d true w2)) ∧
  (((e != 0) || (f != 1)) = false → (∀ b_1 w11, b_1 = w2.heap.size → w11 = w2.alloc (Obj.cells ([Value.int .u8 97, Value.int .u8 98]).toArray ty_uint8 (0, 0)) → (∃ (T_ k_ : Nat), w11.shape? b_1 = some (T_, k_) ∧ (∀ w12, w12 = w11.freeze ⟨b_1, k_, none⟩ 1 → (C_disk_Disk_Write d 0 0 (Slc.mk (some ⟨b_1, 0, none⟩) 2 2) w12 (fun (v25 : Int) w13 => ((v25 != 0) = true → (F_towpathlaw04_alive_k0 R d true w13)) ∧
  ((v25 != 0) = false → (∀ b_2 w14, b_2 = w13.heap.size → w14 = w13.alloc (Obj.cells ([Value.int .u8 120, Value.int .u8 121, Value.int .u8 122]).toArray ty_uint8 (0, 0)) → (∃ (T_ k_ : Nat), w14.shape? b_2 = some (T_, k_) ∧ (∀ w15, w15 = w14.freeze ⟨b_2, k_, none⟩ 1 → (C_disk_Disk_Write d 0 1 (Slc.mk (some ⟨b_2, 0, none⟩) 3 3) w15 (fun (v32 : Int) w16 => ((v32 != 0) = true → (F_towpathlaw04_alive_k0 R d true w16)) ∧
  ((v32 != 0) = false → (C_disk_Disk_Write d 0 5 (Slc.mk none 0 0) w16 (fun (v37 : Int) w17 => ((v37 != 6) = true → (F_towpathlaw04_alive_k0 R d true w17)) ∧
  ((v37 != 6) = false → (∀ b_3 w18, b_3 = w17.heap.size → w18 = w17.alloc (Obj.cells ([Value.int .u8 122]).toArray ty_uint8 (0, 0)) → (∃ (T_ k_ : Nat), w18.shape? b_3 = some (T_, k_) ∧ (∀ w19, w19 = w18.freeze ⟨b_3, k_, none⟩ 1 → (C_disk_Disk_Write d 0 4 (Slc.mk (some ⟨b_3, 0, none⟩) 1 1) w19 (fun (v44 : Int) w20 => F_towpathlaw04_alive_k0 R d (v44 != 13) w20)))))))))))))))))))))))

def F_disk_New (capacity : Int) (R : Option Addr → Int → World → Prop) (w : World) : Prop :=
  (((decide (capacity < 0)) || (decide (capacity > 16777216))) = true → (R none 1 w)) ∧
  (((decide (capacity < 0)) || (decide (capacity > 16777216))) = false → (∀ b_ w1, b_ = w.heap.size → w1 = w.alloc (Obj.cells ([Value.bool true, Value.int .i64 capacity, Value.slice none 0 0, Value.slice none 0 0, Value.int .i64 (-1), Value.bool false, Value.int .i64 0]).toArray ty_disk_Disk (0, 0)) → (R (some ⟨b_, 0, none⟩) 0 w1)))

def F_disk_Disk_Cut (d : Option Addr) (n_ : Int) (R : Int → World → Prop) (w : World) : Prop :=
  C_disk_Disk_look d 0 w (fun (v7 : Int) w1 => ((v7 != 0) = true → (R v7 w1)) ∧
  ((v7 != 0) = false → (IsAt d ∧ (∃ (v14 : Bool), w1.cell? ⟨(pblk d), (poff d) + 5, none⟩ = some (Value.bool v14) ∧ ((v14 = true → (R 11 w1)) ∧
  (v14 = false → (IsAt d ∧ (Writable w1 (pblk d) ((poff d) + 4) 1 ∧ (∀ w2, w2 = World.puts (pblk d) ((poff d) + 4) [Value.int .i64 (if (-1) > n_ then (-1) else n_)] w1 → (R 0 w2))))))))))

def F_disk_Disk_Write_k0 (d : Option Addr) (slot : Int) (at_ : Int) (b_ : Slc) (R : Int → World → Prop) (w3 : World) : Prop :=
  IsAt d ∧ (0 ≤ slot ∧ slot < (2 : Int) ∧ (∃ (v90 : Slc), w3.cell? ⟨(pblk d), ((poff d) + 2) + slot.toNat, none⟩ = some (Value.slice v90.ptr v90.len v90.cap) ∧ ((0 ≤ at_ ∧ at_ ≤ ((v90.len : Nat) : Int) ∧ ((v90.len : Nat) : Int) ≤ ((v90.cap : Nat) : Int) ∧ ((v90.cap : Nat) : Int) ≤ ((v90.cap : Nat) : Int)) ∧ (∀ s, s = Slc.cut 1 v90 at_ ((v90.len : Nat) : Int) ((v90.cap : Nat) : Int) → (∃ src, SrcAtN w3 b_ (min b_.len s.len) 1 src ∧ CopyW s src w3 (fun w4 => R 0 w4))))))

def F_disk_Disk_Write (d : Option Addr) (slot : Int) (at_ : Int) (b_ : Slc) (R : Int → World → Prop) (w : World) : Prop :=
  C_disk_Disk_look d slot w (fun (v14 : Int) w1 => ((v14 != 0) = true → (R v14 w1)) ∧
  ((v14 != 0) = false → ((((decide (at_ < 0)) || (decide (((b_.len : Nat) : Int) > 64))) = true → (R 1 w1)) ∧
  (((decide (at_ < 0)) || (decide (((b_.len : Nat) : Int) > 64))) = false → (IsAt d ∧ (0 ≤ slot ∧ slot < (2 : Int) ∧ (∃ (v33 : Slc), w1.cell? ⟨(pblk d), ((poff d) + 2) + slot.toNat, none⟩ = some (Value.slice v33.ptr v33.len v33.cap) ∧ (((decide (at_ > ((v33.len : Nat) : Int))) = true → (R 6 w1)) ∧
  ((decide (at_ > ((v33.len : Nat) : Int))) = false → (IsAt d ∧ (∃ (v41 : Int), w1.cell? ⟨(pblk d), (poff d) + 1, none⟩ = some (Value.int .i64 v41) ∧ (((decide (at_ > (IntKind.i64.wrap (v41 - ((b_.len : Nat) : Int))))) = true → (R 13 w1)) ∧
  ((decide (at_ > (IntKind.i64.wrap (v41 - ((b_.len : Nat) : Int))))) = false → (C_disk_Disk_raw d w1 (fun (v47 : Int) w2 => ((v47 != 0) = true → (R v47 w2)) ∧
  ((v47 != 0) = false → (IsAt d ∧ (0 ≤ slot ∧ slot < (2 : Int) ∧ (∃ (v61 : Slc), w2.cell? ⟨(pblk d), ((poff d) + 2) + slot.toNat, none⟩ = some (Value.slice v61.ptr v61.len v61.cap) ∧ (((decide ((IntKind.i64.wrap (at_ + ((b_.len : Nat) : Int))) > ((v61.len : Nat) : Int))) = true → (∀ w5, (∃ k, w5 = w2.drewN k) → (IsAt d ∧ (0 ≤ slot ∧ slot < (2 : Int) ∧ (∃ (v71 : Slc), w5.cell? ⟨(pblk d), ((poff d) + 2) + slot.toNat, none⟩ = some (Value.slice v71.ptr v71.len v71.cap) ∧ (IsAt d ∧ (0 ≤ slot ∧ slot < (2 : Int) ∧ (∃ (v78 : Slc), w5.cell? ⟨(pblk d), ((poff d) + 2) + slot.toNat, none⟩ = some (Value.slice v78.ptr v78.len v78.cap) ∧ (IsAt d ∧ (0 ≤ IntKind.i64.wrap ((IntKind.i64.wrap (at_ + ((b_.len : Nat) : Int))) - ((v78.len : Nat) : Int)) ∧ IntKind.i64.wrap ((IntKind.i64.wrap (at_ + ((b_.len : Nat) : Int))) - ((v78.len : Nat) : Int)) * (1 : Int) ≤ 281474976710656 ∧ AppendW 1 1 ty_uint8 [Value.int .u8 0] v71 (repCells ((IntKind.i64.wrap ((IntKind.i64.wrap (at_ + ((b_.len : Nat) : Int))) - ((v78.len : Nat) : Int))).toNat) [Value.int .u8 0]).toList ((IntKind.i64.wrap ((IntKind.i64.wrap (at_ + ((b_.len : Nat) : Int))) - ((v78.len : Nat) : Int))).toNat) w5 (fun v81 w6 => (0 ≤ slot ∧ slot < (2 : Int) ∧ (Writable w6 (pblk d) (((poff d) + 2) + slot.toNat) 1 ∧ (∀ w7, w7 = World.puts (pblk d) (((poff d) + 2) + slot.toNat) [Value.slice v81.ptr v81.len v81.cap] w6 → ((F_disk_Disk_Write_k0 d slot at_ b_ R w7)))))))))))))))) ∧
  ((decide ((IntKind.i64.wrap (at_ + ((b_.len : Nat) : Int))) > ((v61.len : Nat) : Int))) = false → (F_disk_Disk_Write_k0 d slot at_ b_ R w2))))))))))))))))))))))

def F_disk_Disk_Dead (d : Option Addr) (R : Bool → World → Prop) (w : World) : Prop :=
  ((!d.isNone) = true → (IsAt d ∧ (∃ (v9 : Bool), w.cell? ⟨(pblk d), (poff d) + 5, none⟩ = some (Value.bool v9) ∧ (R v9 w)))) ∧
  ((!d.isNone) = false → (R false w))

def F_disk_Disk_Read (d : Option Addr) (slot : Int) (R : Slc → Int → World → Prop) (w : World) : Prop :=
  C_disk_Disk_look d slot w (fun (v9 : Int) w1 => ((v9 != 0) = true → (R (Slc.mk none 0 0) v9 w1)) ∧
  ((v9 != 0) = false → (IsAt d ∧ (0 ≤ slot ∧ slot < (2 : Int) ∧ (∃ (v18 : Slc), w1.cell? ⟨(pblk d), ((poff d) + 2) + slot.toNat, none⟩ = some (Value.slice v18.ptr v18.len v18.cap) ∧ (C_slices_Clone_byte_byte v18 w1 (fun (v19 : Slc) w2 => R v19 0 w2)))))))

def F_towpathlaw01_SameBytes_L0 (a_ : Slc) (b_ : Slc) (R : Bool → World → Prop) (again_ : Int → World → Prop) (i : Int) (w1 : World) : Prop :=
  ((decide (i < ((a_.len : Nat) : Int))) = true → (IsAt a_.ptr ∧ (0 ≤ i ∧ i < ((a_.len : Nat) : Int) ∧ (∃ (v20 : Int), w1.cell? ⟨(pblk a_.ptr), (poff a_.ptr) + i.toNat, none⟩ = some (Value.int .u8 v20) ∧ (IsAt b_.ptr ∧ (0 ≤ i ∧ i < ((b_.len : Nat) : Int) ∧ (∃ (v24 : Int), w1.cell? ⟨(pblk b_.ptr), (poff b_.ptr) + i.toNat, none⟩ = some (Value.int .u8 v24) ∧ (∀ w2, Ext w1 w2 → (((v20 != v24) = true → (R false w2)) ∧
  ((v20 != v24) = false → (again_ (IntKind.i64.wrap (i + 1)) w2))))))))))) ∧
  ((decide (i < ((a_.len : Nat) : Int))) = false → (R true w1))

def F_towpathlaw01_SameBytes (a_ : Slc) (b_ : Slc) (R : Bool → World → Prop) (w : World) : Prop :=
  ((((a_.len : Nat) : Int) != ((b_.len : Nat) : Int)) = true → (R false w)) ∧
  ((((a_.len : Nat) : Int) != ((b_.len : Nat) : Int)) = false → (∃ (I : Int → World → Prop) (μ : Int → World → Nat), I 0 w ∧
  ∀ (i : Int) w, I i w → F_towpathlaw01_SameBytes_L0 a_ b_ R (fun (i' : Int) w' => I i' w' ∧ μ i' w' < μ i w) i w))

def F_disk_Disk_Writes (d : Option Addr) (R : Int → World → Prop) (w : World) : Prop :=
  (d.isNone = true → (R 0 w)) ∧
  (d.isNone = false → (IsAt d ∧ (∃ (v8 : Int), w.cell? ⟨(pblk d), (poff d) + 6, none⟩ = some (Value.int .i64 v8) ∧ (R v8 w))))

def F_disk_Disk_Mend (d : Option Addr) (R : Int → World → Prop) (w : World) : Prop :=
  C_disk_Disk_look d 0 w (fun (v5 : Int) w1 => ((v5 != 0) = true → (R v5 w1)) ∧
  ((v5 != 0) = false → (IsAt d ∧ (Writable w1 (pblk d) ((poff d) + 5) 1 ∧ (∀ w2, w2 = World.puts (pblk d) ((poff d) + 5) [Value.bool false] w1 → (IsAt d ∧ (Writable w2 (pblk d) ((poff d) + 4) 1 ∧ (∀ w3, w3 = World.puts (pblk d) ((poff d) + 4) [Value.int .i64 (-1)] w2 → (R 0 w3)))))))))

def F_codec_NewWriter (R : Option Addr → World → Prop) (w : World) : Prop :=
  ∀ b_ w1, b_ = w.heap.size → w1 = w.alloc (Obj.cells ([Value.bool true, Value.slice none 0 0]).toArray ty_codec_Writer (0, 0)) → (R (some ⟨b_, 0, none⟩) w1)

def F_codec_Writer_Var_L0 (w_ : Option Addr) (R : World → Prop) (again_ : Int → World → Prop) (n_1 : Int) (w2 : World) : Prop :=
  ((decide (n_1 ≥ 128)) = true → (IsAt w_ ∧ (∃ (v14 : Slc), w2.cell? ⟨(pblk w_), (poff w_) + 1, none⟩ = some (Value.slice v14.ptr v14.len v14.cap) ∧ (∀ b_ w3, b_ = w2.heap.size → w3 = w2.alloc (Obj.cells ([Value.int .u8 (bor .u8 (IntKind.u8.wrap n_1) 128)]).toArray ty_uint8 (0, 0)) → (∃ src, SrcAt w3 (Slc.mk (some ⟨b_, 0, none⟩) 1 1) 1 src ∧ AppendW 1 1 ty_uint8 [Value.int .u8 0] v14 src 1 w3 (fun v19 w4 => IsAt w_ ∧ (Writable w4 (pblk w_) ((poff w_) + 1) 1 ∧ (∀ w5, w5 = World.puts (pblk w_) ((poff w_) + 1) [Value.slice v19.ptr v19.len v19.cap] w4 → (again_ (Int.fdiv n_1 (2 ^ 7)) w5))))))))) ∧
  ((decide (n_1 ≥ 128)) = false → (IsAt w_ ∧ (∃ (v26 : Slc), w2.cell? ⟨(pblk w_), (poff w_) + 1, none⟩ = some (Value.slice v26.ptr v26.len v26.cap) ∧ (∀ b_1 w6, b_1 = w2.heap.size → w6 = w2.alloc (Obj.cells ([Value.int .u8 (IntKind.u8.wrap n_1)]).toArray ty_uint8 (0, 0)) → (∃ src, SrcAt w6 (Slc.mk (some ⟨b_1, 0, none⟩) 1 1) 1 src ∧ AppendW 1 1 ty_uint8 [Value.int .u8 0] v26 src 1 w6 (fun v30 w7 => IsAt w_ ∧ (Writable w7 (pblk w_) ((poff w_) + 1) 1 ∧ (∀ w8, w8 = World.puts (pblk w_) ((poff w_) + 1) [Value.slice v30.ptr v30.len v30.cap] w7 → (R w8)))))))))

def F_codec_Writer_Var (w_ : Option Addr) (n_ : Int) (R : World → Prop) (w : World) : Prop :=
  C_codec_Writer_gone w_ w (fun (v5 : Bool) w1 => (v5 = true → (R w1)) ∧
  (v5 = false → (∃ (I : Int → World → Prop) (μ : Int → World → Nat), I n_ w1 ∧
  ∀ (n_1 : Int) w, I n_1 w → F_codec_Writer_Var_L0 w_ R (fun (n_1' : Int) w' => I n_1' w' ∧ μ n_1' w' < μ n_1 w) n_1 w)))

def F_codec_Writer_Done (w_ : Option Addr) (R : Slc → World → Prop) (w : World) : Prop :=
  C_codec_Writer_gone w_ w (fun (v4 : Bool) w1 => (v4 = true → (R (Slc.mk none 0 0) w1)) ∧
  (v4 = false → (IsAt w_ ∧ (∃ (v8 : Slc), w1.cell? ⟨(pblk w_), (poff w_) + 1, none⟩ = some (Value.slice v8.ptr v8.len v8.cap) ∧ (C_slices_Clone_byte_byte v8 w1 (fun (v9 : Slc) w2 => R v9 w2))))))

def F_towpathlaw02_alive_k0 (R : Bool → World → Prop) (v3 : Option Addr) (t17 : Bool) (w5 : World) : Prop :=
  (t17 = true → (R false w5)) ∧
  (t17 = false → (∀ b_ w6, b_ = w5.heap.size → w6 = w5.alloc (Obj.cells ([Value.int .u8 128, Value.int .u8 0]).toArray ty_uint8 (0, 0)) → (C_codec_NewReader (Slc.mk (some ⟨b_, 0, none⟩) 2 2) w6 (fun (v19 : Option Addr) w7 => C_codec_Writer_Done v3 w7 (fun (v21 : Slc) w8 => ∀ b_1 w9, b_1 = w8.heap.size → w9 = w8.alloc (Obj.cells ([Value.int .u8 172, Value.int .u8 2, Value.int .u8 1, Value.int .u8 2, Value.int .u8 97, Value.int .u8 98, Value.int .u8 52, Value.int .u8 18]).toArray ty_uint8 (0, 0)) → (C_towpathlaw01_SameBytes v21 (Slc.mk (some ⟨b_1, 0, none⟩) 8 8) w9 (fun (v23 : Bool) w10 => (v23 = true → (C_codec_Reader_Var v19 w10 (fun (v26 : Int) w11 => ((v26 == 0) = true → (C_codec_Reader_End v19 w11 (fun (v31 : Int) w12 => ((v31 == 4) = true → (C_codec_Reader_Left v19 w12 (fun (v36 : Int) w13 => R (v36 == 2) w13))) ∧
  ((v31 == 4) = false → (R false w12))))) ∧
  ((v26 == 0) = false → (R false w11))))) ∧
  (v23 = false → (R false w10)))))))))

def F_towpathlaw02_alive (R : Bool → World → Prop) (w : World) : Prop :=
  C_codec_NewWriter w (fun (v3 : Option Addr) w1 => C_codec_Writer_Var v3 300 w1 (fun w2 => C_codec_Writer_Int v3 (-1) w2 (fun w3 => C_codec_Writer_Text v3 (ByteArray.mk #[97, 98]) w3 (fun w4 => C_codec_Writer_Fixed v3 4660 2 w4 (fun (v11 : Int) w14 => ((v11 != 0) = true → (F_towpathlaw02_alive_k0 R v3 true w14)) ∧
  ((v11 != 0) = false → (C_codec_Writer_Fixed v3 256 1 w14 (fun (v15 : Int) w15 => F_towpathlaw02_alive_k0 R v3 (v15 != 3) w15))))))))

def F_codec_Reader_Var (r : Option Addr) (R : Int → World → Prop) (w : World) : Prop :=
  ∀ b_ w1, b_ = w.heap.size → w1 = w.alloc (Obj.cells ([Value.int .u64 0]).toArray ty_uint64 (0, 0)) → (C_codec_Reader_take r (Value.func (.func 63) #[] #[Value.pointer (some ⟨b_, 0, none⟩)]) w1 (fun (v5 : Bool) w2 => ∃ (v6 : Int), w2.cell? ⟨b_, 0, none⟩ = some (Value.int .u64 v6) ∧ (Writable w2 b_ 0 1 ∧ (∀ w3, w3 = World.puts b_ 0 [Value.int .u64 v6] w2 → (∃ (res : Int), CellsAt w3 b_ 0 [Value.int .u64 res] ∧ (R res w3))))))

def F_codec_Writer_Int (w_ : Option Addr) (n_ : Int) (R : World → Prop) (w : World) : Prop :=
  C_num_Zigzag n_ w (fun (v6 : Int) w1 => C_codec_Writer_Var w_ v6 w1 (fun w2 => R w2))

def F_codec_Reader_Int (r : Option Addr) (R : Int → World → Prop) (w : World) : Prop :=
  C_codec_Reader_Var r w (fun (v4 : Int) w1 => C_num_Zagzig v4 w1 (fun (v5 : Int) w2 => R v5 w2))

def F_codec_Writer_Text (w_ : Option Addr) (s : ByteArray) (R : World → Prop) (w : World) : Prop :=
  C_codec_Writer_gone w_ w (fun (v5 : Bool) w1 => (v5 = true → (R w1)) ∧
  (v5 = false → (C_codec_Writer_Var w_ (IntKind.u64.wrap ((s.size : Nat) : Int)) w1 (fun w2 => IsAt w_ ∧ (∃ (v15 : Slc), w2.cell? ⟨(pblk w_), (poff w_) + 1, none⟩ = some (Value.slice v15.ptr v15.len v15.cap) ∧ (AppendW 1 1 ty_uint8 [Value.int .u8 0] v15 (strCells s) s.size w2 (fun v17 w3 => IsAt w_ ∧ (Writable w3 (pblk w_) ((poff w_) + 1) 1 ∧ (∀ w4, w4 = World.puts (pblk w_) ((poff w_) + 1) [Value.slice v17.ptr v17.len v17.cap] w3 → (R w4))))))))))

def F_codec_Reader_Text (r : Option Addr) (most : Int) (R : ByteArray → World → Prop) (w : World) : Prop :=
  ∀ b_ w1, b_ = w.heap.size → w1 = w.alloc (Obj.cells ([Value.int .i64 most]).toArray ty_int (0, 0)) → (∀ b_1 w2, b_1 = w1.heap.size → w2 = w1.alloc (Obj.cells ([Value.string ByteArray.empty]).toArray ty_string (0, 0)) → (C_codec_Reader_take r (Value.func (.func 67) #[] #[Value.pointer (some ⟨b_, 0, none⟩), Value.pointer (some ⟨b_1, 0, none⟩)]) w2 (fun (v7 : Bool) w3 => ∃ (v8 : ByteArray), w3.cell? ⟨b_1, 0, none⟩ = some (Value.string v8) ∧ (Writable w3 b_1 0 1 ∧ (∀ w4, w4 = World.puts b_1 0 [Value.string v8] w3 → (∃ (res : ByteArray), CellsAt w4 b_1 0 [Value.string res] ∧ (R res w4)))))))

def F_codec_Writer_Fixed_L0 (w_ : Option Addr) (width : Int) (R : Int → World → Prop) (again_ : Int → Int → World → Prop) (n_1 : Int) (t24 : Int) (w2 : World) : Prop :=
  ((decide (t24 < width)) = true → (IsAt w_ ∧ (∃ (v30 : Slc), w2.cell? ⟨(pblk w_), (poff w_) + 1, none⟩ = some (Value.slice v30.ptr v30.len v30.cap) ∧ (∀ b_ w3, b_ = w2.heap.size → w3 = w2.alloc (Obj.cells ([Value.int .u8 (IntKind.u8.wrap n_1)]).toArray ty_uint8 (0, 0)) → (∃ src, SrcAt w3 (Slc.mk (some ⟨b_, 0, none⟩) 1 1) 1 src ∧ AppendW 1 1 ty_uint8 [Value.int .u8 0] v30 src 1 w3 (fun v34 w4 => IsAt w_ ∧ (Writable w4 (pblk w_) ((poff w_) + 1) 1 ∧ (∀ w5, w5 = World.puts (pblk w_) ((poff w_) + 1) [Value.slice v34.ptr v34.len v34.cap] w4 → (again_ (Int.fdiv n_1 (2 ^ 8)) (IntKind.i64.wrap (t24 + 1)) w5))))))))) ∧
  ((decide (t24 < width)) = false → (R 0 w2))

def F_codec_Writer_Fixed (w_ : Option Addr) (n_ : Int) (width : Int) (R : Int → World → Prop) (w : World) : Prop :=
  C_codec_Writer_gone w_ w (fun (v9 : Bool) w1 => (v9 = true → (R 2 w1)) ∧
  (v9 = false → ((((decide (width < 1)) || (decide (width > 8))) = true → (R 1 w1)) ∧
  (((decide (width < 1)) || (decide (width > 8))) = false → (0 ≤ IntKind.i64.wrap (8 * width) ∧ ((((Int.fdiv n_ (2 ^ (min (IntKind.i64.wrap (8 * width)).toNat 64))) != 0) = true → (R 3 w1)) ∧
  (((Int.fdiv n_ (2 ^ (min (IntKind.i64.wrap (8 * width)).toNat 64))) != 0) = false → (∃ (I : Int → Int → World → Prop) (μ : Int → Int → World → Nat), I n_ 0 w1 ∧
  ∀ (n_1 : Int) (t24 : Int) w, I n_1 t24 w → F_codec_Writer_Fixed_L0 w_ width R (fun (n_1' : Int) (t24' : Int) w' => I n_1' t24' w' ∧ μ n_1' t24' w' < μ n_1 t24 w) n_1 t24 w))))))))

def F_codec_Reader_Fixed (r : Option Addr) (width : Int) (R : Int → World → Prop) (w : World) : Prop :=
  ∀ b_ w1, b_ = w.heap.size → w1 = w.alloc (Obj.cells ([Value.int .i64 width]).toArray ty_int (0, 0)) → (∀ b_1 w2, b_1 = w1.heap.size → w2 = w1.alloc (Obj.cells ([Value.int .u64 0]).toArray ty_uint64 (0, 0)) → (C_codec_Reader_take r (Value.func (.func 68) #[] #[Value.pointer (some ⟨b_, 0, none⟩), Value.pointer (some ⟨b_1, 0, none⟩)]) w2 (fun (v7 : Bool) w3 => ∃ (v8 : Int), w3.cell? ⟨b_1, 0, none⟩ = some (Value.int .u64 v8) ∧ (Writable w3 b_1 0 1 ∧ (∀ w4, w4 = World.puts b_1 0 [Value.int .u64 v8] w3 → (∃ (res : Int), CellsAt w4 b_1 0 [Value.int .u64 res] ∧ (R res w4)))))))

def F_slices_Clone_byte_byte (s : Slc) (R : Slc → World → Prop) (w : World) : Prop :=
  (s.ptr.isNone = true → (R (Slc.mk none 0 0) w)) ∧
  (s.ptr.isNone = false → (∀ b_ w1, b_ = w.heap.size → w1 = w.alloc (Obj.cells ([]).toArray ty_uint8 (0, 0)) → (∃ src, SrcAt w1 s 1 src ∧ AppendW 1 1 ty_uint8 [Value.int .u8 0] (Slc.mk (some ⟨b_, 0, none⟩) 0 0) src s.len w1 (fun v7 w2 => R v7 w2))))

def F_towpathref02_Reader_Fixed_L0 (width : Int) (R : T_towpathref02_Reader → Int → World → Prop) (b_ : Nat) (b_1 : Nat) (again_ : Int → Int → World → Prop) (n_ : Int) (i : Int) (w9 : World) : Prop :=
  ((decide (i ≥ 0)) = true → (∃ (v38 : Slc), w9.cell? ⟨b_, 1, none⟩ = some (Value.slice v38.ptr v38.len v38.cap) ∧ (∃ (v40 : Int), w9.cell? ⟨b_, 2, none⟩ = some (Value.int .i64 v40) ∧ (IsAt v38.ptr ∧ (0 ≤ IntKind.i64.wrap (v40 + i) ∧ IntKind.i64.wrap (v40 + i) < ((v38.len : Nat) : Int) ∧ (∃ (v44 : Int), w9.cell? ⟨(pblk v38.ptr), (poff v38.ptr) + (IntKind.i64.wrap (v40 + i)).toNat, none⟩ = some (Value.int .u8 v44) ∧ (again_ (IntKind.u64.wrap ((IntKind.u64.wrap (256 * n_)) + (IntKind.u64.wrap v44))) (IntKind.i64.wrap (i - 1)) w9))))))) ∧
  ((decide (i ≥ 0)) = false → (∃ (v48 : Int), w9.cell? ⟨b_, 2, none⟩ = some (Value.int .i64 v48) ∧ (Writable w9 b_ 2 1 ∧ (∀ w10, w10 = World.puts b_ 2 [Value.int .i64 (IntKind.i64.wrap (v48 + width))] w9 → (∃ (v52 : T_towpathref02_Reader), CellsAt w10 b_ 0 [Value.bool v52.Gone, Value.slice v52.B.ptr v52.B.len v52.B.cap, Value.int .i64 v52.At, Value.int .i64 v52.Code] ∧ (Writable w10 b_1 0 4 ∧ (∀ w11, w11 = World.puts b_1 0 [Value.bool v52.Gone, Value.slice v52.B.ptr v52.B.len v52.B.cap, Value.int .i64 v52.At, Value.int .i64 v52.Code] w10 → (∃ (res3 : T_towpathref02_Reader), CellsAt w11 b_1 0 [Value.bool res3.Gone, Value.slice res3.B.ptr res3.B.len res3.B.cap, Value.int .i64 res3.At, Value.int .i64 res3.Code] ∧ (R res3 n_ w11)))))))))

def F_towpathref02_Reader_Fixed (r : T_towpathref02_Reader) (width : Int) (R : T_towpathref02_Reader → Int → World → Prop) (w : World) : Prop :=
  ∀ b_ w1, b_ = w.heap.size → w1 = w.alloc (Obj.cells ([Value.bool r.Gone, Value.slice r.B.ptr r.B.len r.B.cap, Value.int .i64 r.At, Value.int .i64 r.Code]).toArray ty_towpathref02_Reader (0, 0)) → (∀ b_1 w2, b_1 = w1.heap.size → w2 = w1.alloc (Obj.cells ([Value.bool false, Value.slice none 0 0, Value.int .i64 0, Value.int .i64 0]).toArray ty_towpathref02_Reader (0, 0)) → (∃ (v8 : T_towpathref02_Reader), CellsAt w2 b_ 0 [Value.bool v8.Gone, Value.slice v8.B.ptr v8.B.len v8.B.cap, Value.int .i64 v8.At, Value.int .i64 v8.Code] ∧ (C_towpathref02_Reader_dead v8 w2 (fun (v9 : Bool) w3 => (v9 = true → (∃ (v10 : T_towpathref02_Reader), CellsAt w3 b_ 0 [Value.bool v10.Gone, Value.slice v10.B.ptr v10.B.len v10.B.cap, Value.int .i64 v10.At, Value.int .i64 v10.Code] ∧ (Writable w3 b_1 0 4 ∧ (∀ w4, w4 = World.puts b_1 0 [Value.bool v10.Gone, Value.slice v10.B.ptr v10.B.len v10.B.cap, Value.int .i64 v10.At, Value.int .i64 v10.Code] w3 → (∃ (res : T_towpathref02_Reader), CellsAt w4 b_1 0 [Value.bool res.Gone, Value.slice res.B.ptr res.B.len res.B.cap, Value.int .i64 res.At, Value.int .i64 res.Code] ∧ (R res 0 w4)))))) ∧
  (v9 = false → ((((decide (width < 1)) || (decide (width > 8))) = true → (∃ (v17 : T_towpathref02_Reader), CellsAt w3 b_ 0 [Value.bool v17.Gone, Value.slice v17.B.ptr v17.B.len v17.B.cap, Value.int .i64 v17.At, Value.int .i64 v17.Code] ∧ (C_towpathref02_Reader_wrong v17 1 w3 (fun (v18 : T_towpathref02_Reader) w5 => Writable w5 b_1 0 4 ∧ (∀ w6, w6 = World.puts b_1 0 [Value.bool v18.Gone, Value.slice v18.B.ptr v18.B.len v18.B.cap, Value.int .i64 v18.At, Value.int .i64 v18.Code] w5 → (∃ (res1 : T_towpathref02_Reader), CellsAt w6 b_1 0 [Value.bool res1.Gone, Value.slice res1.B.ptr res1.B.len res1.B.cap, Value.int .i64 res1.At, Value.int .i64 res1.Code] ∧ (R res1 0 w6))))))) ∧
  (((decide (width < 1)) || (decide (width > 8))) = false → (∃ (v21 : Slc), w3.cell? ⟨b_, 1, none⟩ = some (Value.slice v21.ptr v21.len v21.cap) ∧ (∃ (v24 : Int), w3.cell? ⟨b_, 2, none⟩ = some (Value.int .i64 v24) ∧ (((decide (width > (IntKind.i64.wrap (((v21.len : Nat) : Int) - v24)))) = true → (∃ (v27 : T_towpathref02_Reader), CellsAt w3 b_ 0 [Value.bool v27.Gone, Value.slice v27.B.ptr v27.B.len v27.B.cap, Value.int .i64 v27.At, Value.int .i64 v27.Code] ∧ (C_towpathref02_Reader_wrong v27 5 w3 (fun (v28 : T_towpathref02_Reader) w7 => Writable w7 b_1 0 4 ∧ (∀ w8, w8 = World.puts b_1 0 [Value.bool v28.Gone, Value.slice v28.B.ptr v28.B.len v28.B.cap, Value.int .i64 v28.At, Value.int .i64 v28.Code] w7 → (∃ (res2 : T_towpathref02_Reader), CellsAt w8 b_1 0 [Value.bool res2.Gone, Value.slice res2.B.ptr res2.B.len res2.B.cap, Value.int .i64 res2.At, Value.int .i64 res2.Code] ∧ (R res2 0 w8))))))) ∧
  ((decide (width > (IntKind.i64.wrap (((v21.len : Nat) : Int) - v24)))) = false → (∃ (I : Int → Int → World → Prop) (μ : Int → Int → World → Nat), I 0 (IntKind.i64.wrap (width - 1)) w3 ∧
  ∀ (n_ : Int) (i : Int) w, I n_ i w → F_towpathref02_Reader_Fixed_L0 width R b_ b_1 (fun (n_' : Int) (i' : Int) w' => I n_' i' w' ∧ μ n_' i' w' < μ n_ i w) n_ i w))))))))))))

def F_towpathref02_Reader_Int (r : T_towpathref02_Reader) (R : T_towpathref02_Reader → Int → World → Prop) (w : World) : Prop :=
  ∀ b_ w1, b_ = w.heap.size → w1 = w.alloc (Obj.cells ([Value.bool r.Gone, Value.slice r.B.ptr r.B.len r.B.cap, Value.int .i64 r.At, Value.int .i64 r.Code]).toArray ty_towpathref02_Reader (0, 0)) → (∀ b_1 w2, b_1 = w1.heap.size → w2 = w1.alloc (Obj.cells ([Value.bool false, Value.slice none 0 0, Value.int .i64 0, Value.int .i64 0]).toArray ty_towpathref02_Reader (0, 0)) → (∃ (v7 : T_towpathref02_Reader), CellsAt w2 b_ 0 [Value.bool v7.Gone, Value.slice v7.B.ptr v7.B.len v7.B.cap, Value.int .i64 v7.At, Value.int .i64 v7.Code] ∧ (C_towpathref02_Reader_Var v7 w2 (fun (v8 : T_towpathref02_Reader) (n_ : Int) w3 => ∀ b_2 w4, b_2 = w3.heap.size → w4 = w3.alloc (Obj.cells ([Value.bool false, Value.slice none 0 0, Value.int .i64 0, Value.int .i64 0]).toArray ty_towpathref02_Reader (0, 0)) → (Writable w4 b_2 0 4 ∧ (∀ w5, w5 = World.puts b_2 0 [Value.bool v8.Gone, Value.slice v8.B.ptr v8.B.len v8.B.cap, Value.int .i64 v8.At, Value.int .i64 v8.Code] w4 → (∃ (v11 : T_towpathref02_Reader), CellsAt w5 b_2 0 [Value.bool v11.Gone, Value.slice v11.B.ptr v11.B.len v11.B.cap, Value.int .i64 v11.At, Value.int .i64 v11.Code] ∧ (C_towpathref02_Reader_dead v11 w5 (fun (v12 : Bool) w6 => (v12 = true → (∃ (v13 : T_towpathref02_Reader), CellsAt w6 b_2 0 [Value.bool v13.Gone, Value.slice v13.B.ptr v13.B.len v13.B.cap, Value.int .i64 v13.At, Value.int .i64 v13.Code] ∧ (Writable w6 b_1 0 4 ∧ (∀ w7, w7 = World.puts b_1 0 [Value.bool v13.Gone, Value.slice v13.B.ptr v13.B.len v13.B.cap, Value.int .i64 v13.At, Value.int .i64 v13.Code] w6 → (∃ (res : T_towpathref02_Reader), CellsAt w7 b_1 0 [Value.bool res.Gone, Value.slice res.B.ptr res.B.len res.B.cap, Value.int .i64 res.At, Value.int .i64 res.Code] ∧ (R res 0 w7)))))) ∧
  (v12 = false → (∀ w8, (∃ k, w8 = w6.drewN k) → (∃ (v14 : T_towpathref02_Reader), CellsAt w8 b_2 0 [Value.bool v14.Gone, Value.slice v14.B.ptr v14.B.len v14.B.cap, Value.int .i64 v14.At, Value.int .i64 v14.Code] ∧ (C_towpathref01_Zagzig n_ w8 (fun (v16 : Int) w9 => CellsAt w9 b_2 0 [Value.bool v14.Gone, Value.slice v14.B.ptr v14.B.len v14.B.cap, Value.int .i64 v14.At, Value.int .i64 v14.Code] ∧ (Writable w9 b_1 0 4 ∧ (∀ w10, w10 = World.puts b_1 0 [Value.bool v14.Gone, Value.slice v14.B.ptr v14.B.len v14.B.cap, Value.int .i64 v14.At, Value.int .i64 v14.Code] w9 → ((∃ (res1 : T_towpathref02_Reader), CellsAt w10 b_1 0 [Value.bool res1.Gone, Value.slice res1.B.ptr res1.B.len res1.B.cap, Value.int .i64 res1.At, Value.int .i64 res1.Code] ∧ (R res1 v16 w10)))))))))))))))))))

def F_towpathref02_Reader_Text (r : T_towpathref02_Reader) (most : Int) (R : T_towpathref02_Reader → ByteArray → World → Prop) (w : World) : Prop :=
  ∀ b_ w1, b_ = w.heap.size → w1 = w.alloc (Obj.cells ([Value.bool r.Gone, Value.slice r.B.ptr r.B.len r.B.cap, Value.int .i64 r.At, Value.int .i64 r.Code]).toArray ty_towpathref02_Reader (0, 0)) → (∀ b_1 w2, b_1 = w1.heap.size → w2 = w1.alloc (Obj.cells ([Value.bool false, Value.slice none 0 0, Value.int .i64 0, Value.int .i64 0]).toArray ty_towpathref02_Reader (0, 0)) → (∃ (v9 : T_towpathref02_Reader), CellsAt w2 b_ 0 [Value.bool v9.Gone, Value.slice v9.B.ptr v9.B.len v9.B.cap, Value.int .i64 v9.At, Value.int .i64 v9.Code] ∧ (C_towpathref02_Reader_dead v9 w2 (fun (v10 : Bool) w3 => (v10 = true → (∃ (v11 : T_towpathref02_Reader), CellsAt w3 b_ 0 [Value.bool v11.Gone, Value.slice v11.B.ptr v11.B.len v11.B.cap, Value.int .i64 v11.At, Value.int .i64 v11.Code] ∧ (Writable w3 b_1 0 4 ∧ (∀ w4, w4 = World.puts b_1 0 [Value.bool v11.Gone, Value.slice v11.B.ptr v11.B.len v11.B.cap, Value.int .i64 v11.At, Value.int .i64 v11.Code] w3 → (∃ (res : T_towpathref02_Reader), CellsAt w4 b_1 0 [Value.bool res.Gone, Value.slice res.B.ptr res.B.len res.B.cap, Value.int .i64 res.At, Value.int .i64 res.Code] ∧ (R res ByteArray.empty w4)))))) ∧
  (v10 = false → (((decide (most < 0)) = true → (∃ (v14 : T_towpathref02_Reader), CellsAt w3 b_ 0 [Value.bool v14.Gone, Value.slice v14.B.ptr v14.B.len v14.B.cap, Value.int .i64 v14.At, Value.int .i64 v14.Code] ∧ (C_towpathref02_Reader_wrong v14 1 w3 (fun (v15 : T_towpathref02_Reader) w5 => Writable w5 b_1 0 4 ∧ (∀ w6, w6 = World.puts b_1 0 [Value.bool v15.Gone, Value.slice v15.B.ptr v15.B.len v15.B.cap, Value.int .i64 v15.At, Value.int .i64 v15.Code] w5 → (∃ (res1 : T_towpathref02_Reader), CellsAt w6 b_1 0 [Value.bool res1.Gone, Value.slice res1.B.ptr res1.B.len res1.B.cap, Value.int .i64 res1.At, Value.int .i64 res1.Code] ∧ (R res1 ByteArray.empty w6))))))) ∧
  ((decide (most < 0)) = false → (∃ (v17 : T_towpathref02_Reader), CellsAt w3 b_ 0 [Value.bool v17.Gone, Value.slice v17.B.ptr v17.B.len v17.B.cap, Value.int .i64 v17.At, Value.int .i64 v17.Code] ∧ (C_towpathref02_Reader_Var v17 w3 (fun (v18 : T_towpathref02_Reader) (n_ : Int) w7 => ∀ b_2 w8, b_2 = w7.heap.size → w8 = w7.alloc (Obj.cells ([Value.bool false, Value.slice none 0 0, Value.int .i64 0, Value.int .i64 0]).toArray ty_towpathref02_Reader (0, 0)) → (Writable w8 b_2 0 4 ∧ (∀ w9, w9 = World.puts b_2 0 [Value.bool v18.Gone, Value.slice v18.B.ptr v18.B.len v18.B.cap, Value.int .i64 v18.At, Value.int .i64 v18.Code] w8 → (∃ (v21 : T_towpathref02_Reader), CellsAt w9 b_2 0 [Value.bool v21.Gone, Value.slice v21.B.ptr v21.B.len v21.B.cap, Value.int .i64 v21.At, Value.int .i64 v21.Code] ∧ (C_towpathref02_Reader_dead v21 w9 (fun (v22 : Bool) w10 => (v22 = true → (∃ (v23 : T_towpathref02_Reader), CellsAt w10 b_ 0 [Value.bool v23.Gone, Value.slice v23.B.ptr v23.B.len v23.B.cap, Value.int .i64 v23.At, Value.int .i64 v23.Code] ∧ (∃ (v25 : Int), w10.cell? ⟨b_2, 3, none⟩ = some (Value.int .i64 v25) ∧ (C_towpathref02_Reader_wrong v23 v25 w10 (fun (v26 : T_towpathref02_Reader) w11 => Writable w11 b_1 0 4 ∧ (∀ w12, w12 = World.puts b_1 0 [Value.bool v26.Gone, Value.slice v26.B.ptr v26.B.len v26.B.cap, Value.int .i64 v26.At, Value.int .i64 v26.Code] w11 → (∃ (res2 : T_towpathref02_Reader), CellsAt w12 b_1 0 [Value.bool res2.Gone, Value.slice res2.B.ptr res2.B.len res2.B.cap, Value.int .i64 res2.At, Value.int .i64 res2.Code] ∧ (R res2 ByteArray.empty w12)))))))) ∧
  (v22 = false → (((decide (n_ > (IntKind.u64.wrap most))) = true → (∃ (v31 : T_towpathref02_Reader), CellsAt w10 b_ 0 [Value.bool v31.Gone, Value.slice v31.B.ptr v31.B.len v31.B.cap, Value.int .i64 v31.At, Value.int .i64 v31.Code] ∧ (C_towpathref02_Reader_wrong v31 3 w10 (fun (v32 : T_towpathref02_Reader) w13 => Writable w13 b_1 0 4 ∧ (∀ w14, w14 = World.puts b_1 0 [Value.bool v32.Gone, Value.slice v32.B.ptr v32.B.len v32.B.cap, Value.int .i64 v32.At, Value.int .i64 v32.Code] w13 → (∃ (res3 : T_towpathref02_Reader), CellsAt w14 b_1 0 [Value.bool res3.Gone, Value.slice res3.B.ptr res3.B.len res3.B.cap, Value.int .i64 res3.At, Value.int .i64 res3.Code] ∧ (R res3 ByteArray.empty w14))))))) ∧
  ((decide (n_ > (IntKind.u64.wrap most))) = false → (∃ (v35 : Slc), w10.cell? ⟨b_, 1, none⟩ = some (Value.slice v35.ptr v35.len v35.cap) ∧ (∃ (v38 : Int), w10.cell? ⟨b_2, 2, none⟩ = some (Value.int .i64 v38) ∧ (((decide (n_ > (IntKind.u64.wrap (IntKind.i64.wrap (((v35.len : Nat) : Int) - v38))))) = true → (∃ (v42 : T_towpathref02_Reader), CellsAt w10 b_ 0 [Value.bool v42.Gone, Value.slice v42.B.ptr v42.B.len v42.B.cap, Value.int .i64 v42.At, Value.int .i64 v42.Code] ∧ (C_towpathref02_Reader_wrong v42 5 w10 (fun (v43 : T_towpathref02_Reader) w15 => Writable w15 b_1 0 4 ∧ (∀ w16, w16 = World.puts b_1 0 [Value.bool v43.Gone, Value.slice v43.B.ptr v43.B.len v43.B.cap, Value.int .i64 v43.At, Value.int .i64 v43.Code] w15 → (∃ (res4 : T_towpathref02_Reader), CellsAt w16 b_1 0 [Value.bool res4.Gone, Value.slice res4.B.ptr res4.B.len res4.B.cap, Value.int .i64 res4.At, Value.int .i64 res4.Code] ∧ (R res4 ByteArray.empty w16))))))) ∧
  ((decide (n_ > (IntKind.u64.wrap (IntKind.i64.wrap (((v35.len : Nat) : Int) - v38))))) = false → (∃ (v45 : Slc), w10.cell? ⟨b_, 1, none⟩ = some (Value.slice v45.ptr v45.len v45.cap) ∧ (∃ (v47 : Int), w10.cell? ⟨b_2, 2, none⟩ = some (Value.int .i64 v47) ∧ (∃ (v49 : Int), w10.cell? ⟨b_2, 2, none⟩ = some (Value.int .i64 v49) ∧ ((0 ≤ v47 ∧ v47 ≤ IntKind.i64.wrap (v49 + (IntKind.i64.wrap n_)) ∧ IntKind.i64.wrap (v49 + (IntKind.i64.wrap n_)) ≤ ((v45.cap : Nat) : Int) ∧ ((v45.cap : Nat) : Int) ≤ ((v45.cap : Nat) : Int)) ∧ (∀ s, s = Slc.cut 1 v45 v47 (IntKind.i64.wrap (v49 + (IntKind.i64.wrap n_))) ((v45.cap : Nat) : Int) → (∃ str : ByteArray, SrcAt w10 s 1 (strCells str) ∧ (∃ (v56 : Int), w10.cell? ⟨b_2, 2, none⟩ = some (Value.int .i64 v56) ∧ (Writable w10 b_2 2 1 ∧ (∀ w17, w17 = World.puts b_2 2 [Value.int .i64 (IntKind.i64.wrap (v56 + (IntKind.i64.wrap n_)))] w10 → (∃ (v61 : T_towpathref02_Reader), CellsAt w17 b_2 0 [Value.bool v61.Gone, Value.slice v61.B.ptr v61.B.len v61.B.cap, Value.int .i64 v61.At, Value.int .i64 v61.Code] ∧ (Writable w17 b_1 0 4 ∧ (∀ w18, w18 = World.puts b_1 0 [Value.bool v61.Gone, Value.slice v61.B.ptr v61.B.len v61.B.cap, Value.int .i64 v61.At, Value.int .i64 v61.Code] w17 → (∃ (res5 : T_towpathref02_Reader), CellsAt w18 b_1 0 [Value.bool res5.Gone, Value.slice res5.B.ptr res5.B.len res5.B.cap, Value.int .i64 res5.At, Value.int .i64 res5.Code] ∧ (R res5 str w18))))))))))))))))))))))))))))))))))))

def F_towpathref02_Reader_Var_L0 (R : T_towpathref02_Reader → Int → World → Prop) (b_ : Nat) (b_1 : Nat) (again_ : Int → Int → Int → World → Prop) (n_ : Int) (f : Int) (i : Int) (w5 : World) : Prop :=
  ∃ (v14 : Int), w5.cell? ⟨b_, 2, none⟩ = some (Value.int .i64 v14) ∧ (∃ (v18 : Slc), w5.cell? ⟨b_, 1, none⟩ = some (Value.slice v18.ptr v18.len v18.cap) ∧ (((decide ((IntKind.i64.wrap (v14 + i)) ≥ ((v18.len : Nat) : Int))) = true → (∃ (v21 : T_towpathref02_Reader), CellsAt w5 b_ 0 [Value.bool v21.Gone, Value.slice v21.B.ptr v21.B.len v21.B.cap, Value.int .i64 v21.At, Value.int .i64 v21.Code] ∧ (C_towpathref02_Reader_wrong v21 5 w5 (fun (v22 : T_towpathref02_Reader) w6 => Writable w6 b_1 0 4 ∧ (∀ w7, w7 = World.puts b_1 0 [Value.bool v22.Gone, Value.slice v22.B.ptr v22.B.len v22.B.cap, Value.int .i64 v22.At, Value.int .i64 v22.Code] w6 → (∃ (res1 : T_towpathref02_Reader), CellsAt w7 b_1 0 [Value.bool res1.Gone, Value.slice res1.B.ptr res1.B.len res1.B.cap, Value.int .i64 res1.At, Value.int .i64 res1.Code] ∧ (R res1 0 w7))))))) ∧
  ((decide ((IntKind.i64.wrap (v14 + i)) ≥ ((v18.len : Nat) : Int))) = false → (∃ (v24 : Slc), w5.cell? ⟨b_, 1, none⟩ = some (Value.slice v24.ptr v24.len v24.cap) ∧ (∃ (v26 : Int), w5.cell? ⟨b_, 2, none⟩ = some (Value.int .i64 v26) ∧ (IsAt v24.ptr ∧ (0 ≤ IntKind.i64.wrap (v26 + i) ∧ IntKind.i64.wrap (v26 + i) < ((v24.len : Nat) : Int) ∧ (∃ (c : Int), w5.cell? ⟨(pblk v24.ptr), (poff v24.ptr) + (IntKind.i64.wrap (v26 + i)).toNat, none⟩ = some (Value.int .u8 c) ∧ (((((i == 9) && (decide (c > 1))) || ((decide (i > 0)) && (c == 0))) = true → (∃ (v45 : T_towpathref02_Reader), CellsAt w5 b_ 0 [Value.bool v45.Gone, Value.slice v45.B.ptr v45.B.len v45.B.cap, Value.int .i64 v45.At, Value.int .i64 v45.Code] ∧ (C_towpathref02_Reader_wrong v45 4 w5 (fun (v46 : T_towpathref02_Reader) w8 => Writable w8 b_1 0 4 ∧ (∀ w9, w9 = World.puts b_1 0 [Value.bool v46.Gone, Value.slice v46.B.ptr v46.B.len v46.B.cap, Value.int .i64 v46.At, Value.int .i64 v46.Code] w8 → (∃ (res2 : T_towpathref02_Reader), CellsAt w9 b_1 0 [Value.bool res2.Gone, Value.slice res2.B.ptr res2.B.len res2.B.cap, Value.int .i64 res2.At, Value.int .i64 res2.Code] ∧ (R res2 0 w9))))))) ∧
  ((((i == 9) && (decide (c > 1))) || ((decide (i > 0)) && (c == 0))) = false → (((decide (c < 128)) = true → (∃ (v59 : Int), w5.cell? ⟨b_, 2, none⟩ = some (Value.int .i64 v59) ∧ (Writable w5 b_ 2 1 ∧ (∀ w10, w10 = World.puts b_ 2 [Value.int .i64 (IntKind.i64.wrap ((IntKind.i64.wrap (v59 + i)) + 1))] w5 → (∃ (v64 : T_towpathref02_Reader), CellsAt w10 b_ 0 [Value.bool v64.Gone, Value.slice v64.B.ptr v64.B.len v64.B.cap, Value.int .i64 v64.At, Value.int .i64 v64.Code] ∧ (Writable w10 b_1 0 4 ∧ (∀ w11, w11 = World.puts b_1 0 [Value.bool v64.Gone, Value.slice v64.B.ptr v64.B.len v64.B.cap, Value.int .i64 v64.At, Value.int .i64 v64.Code] w10 → (∃ (res3 : T_towpathref02_Reader), CellsAt w11 b_1 0 [Value.bool res3.Gone, Value.slice res3.B.ptr res3.B.len res3.B.cap, Value.int .i64 res3.At, Value.int .i64 res3.Code] ∧ (R res3 (IntKind.u64.wrap (n_ + (IntKind.u64.wrap (f * (IntKind.u64.wrap (Int.tmod c 128)))))) w11))))))))) ∧
  ((decide (c < 128)) = false → (again_ (IntKind.u64.wrap (n_ + (IntKind.u64.wrap (f * (IntKind.u64.wrap (Int.tmod c 128)))))) (IntKind.u64.wrap (128 * f)) (IntKind.i64.wrap (i + 1)) w5)))))))))))))

def F_towpathref02_Reader_Var (r : T_towpathref02_Reader) (R : T_towpathref02_Reader → Int → World → Prop) (w : World) : Prop :=
  ∀ b_ w1, b_ = w.heap.size → w1 = w.alloc (Obj.cells ([Value.bool r.Gone, Value.slice r.B.ptr r.B.len r.B.cap, Value.int .i64 r.At, Value.int .i64 r.Code]).toArray ty_towpathref02_Reader (0, 0)) → (∀ b_1 w2, b_1 = w1.heap.size → w2 = w1.alloc (Obj.cells ([Value.bool false, Value.slice none 0 0, Value.int .i64 0, Value.int .i64 0]).toArray ty_towpathref02_Reader (0, 0)) → (∃ (v8 : T_towpathref02_Reader), CellsAt w2 b_ 0 [Value.bool v8.Gone, Value.slice v8.B.ptr v8.B.len v8.B.cap, Value.int .i64 v8.At, Value.int .i64 v8.Code] ∧ (C_towpathref02_Reader_dead v8 w2 (fun (v9 : Bool) w3 => (v9 = true → (∃ (v10 : T_towpathref02_Reader), CellsAt w3 b_ 0 [Value.bool v10.Gone, Value.slice v10.B.ptr v10.B.len v10.B.cap, Value.int .i64 v10.At, Value.int .i64 v10.Code] ∧ (Writable w3 b_1 0 4 ∧ (∀ w4, w4 = World.puts b_1 0 [Value.bool v10.Gone, Value.slice v10.B.ptr v10.B.len v10.B.cap, Value.int .i64 v10.At, Value.int .i64 v10.Code] w3 → (∃ (res : T_towpathref02_Reader), CellsAt w4 b_1 0 [Value.bool res.Gone, Value.slice res.B.ptr res.B.len res.B.cap, Value.int .i64 res.At, Value.int .i64 res.Code] ∧ (R res 0 w4)))))) ∧
  (v9 = false → (∃ (I : Int → Int → Int → World → Prop) (μ : Int → Int → Int → World → Nat), I 0 1 0 w3 ∧
  ∀ (n_ : Int) (f : Int) (i : Int) w, I n_ f i w → F_towpathref02_Reader_Var_L0 R b_ b_1 (fun (n_' : Int) (f' : Int) (i' : Int) w' => I n_' f' i' w' ∧ μ n_' f' i' w' < μ n_ f i w) n_ f i w))))))

def F_towpathref04_Disk_Write_k0 (d : Option Addr) (slot : Int) (R : Int → World → Prop) (l_2 : Slc) (w4 : World) : Prop :=
  IsAt d ∧ (0 ≤ slot ∧ slot < (2 : Int) ∧ (Writable w4 (pblk d) (((poff d) + 1) + slot.toNat) 1 ∧ (∀ w5, w5 = World.puts (pblk d) (((poff d) + 1) + slot.toNat) [Value.slice l_2.ptr l_2.len l_2.cap] w4 → (R 0 w5))))

def F_towpathref04_Disk_Write (d : Option Addr) (slot : Int) (at_ : Int) (b_ : Slc) (R : Int → World → Prop) (w : World) : Prop :=
  (d.isNone = true → (R 2 w)) ∧
  (d.isNone = false → ((((((slot != 0) && (slot != 1)) || (decide (at_ < 0))) || (decide (((b_.len : Nat) : Int) > 64))) = true → (R 1 w)) ∧
  (((((slot != 0) && (slot != 1)) || (decide (at_ < 0))) || (decide (((b_.len : Nat) : Int) > 64))) = false → (IsAt d ∧ (0 ≤ slot ∧ slot < (2 : Int) ∧ (∃ (old : Slc), w.cell? ⟨(pblk d), ((poff d) + 1) + slot.toNat, none⟩ = some (Value.slice old.ptr old.len old.cap) ∧ (((decide (at_ > ((old.len : Nat) : Int))) = true → (R 6 w)) ∧
  ((decide (at_ > ((old.len : Nat) : Int))) = false → (IsAt d ∧ (∃ (v46 : Int), w.cell? ⟨(pblk d), (poff d), none⟩ = some (Value.int .i64 v46) ∧ (((decide ((IntKind.i64.wrap (at_ + ((b_.len : Nat) : Int))) > v46)) = true → (R 13 w)) ∧
  ((decide ((IntKind.i64.wrap (at_ + ((b_.len : Nat) : Int))) > v46)) = false → (C_towpathref04_Disk_raw d w (fun (v49 : Int) w1 => ((v49 != 0) = true → (R v49 w1)) ∧
  ((v49 != 0) = false → (0 ≤ at_ ∧ at_ ≤ ((old.cap : Nat) : Int) ∧ (∃ src, SrcAt w1 (Slc.mk old.ptr at_.toNat old.cap) 1 src ∧ AppendW 1 1 ty_uint8 [Value.int .u8 0] (Slc.mk none 0 0) src at_.toNat w1 (fun l_ w2 => ∃ src, SrcAt w2 b_ 1 src ∧ AppendW 1 1 ty_uint8 [Value.int .u8 0] l_ src b_.len w2 (fun l_1 w3 => ((decide ((IntKind.i64.wrap (at_ + ((b_.len : Nat) : Int))) < ((old.len : Nat) : Int))) = true → ((0 ≤ IntKind.i64.wrap (at_ + ((b_.len : Nat) : Int)) ∧ IntKind.i64.wrap (at_ + ((b_.len : Nat) : Int)) ≤ ((old.len : Nat) : Int) ∧ ((old.len : Nat) : Int) ≤ ((old.cap : Nat) : Int) ∧ ((old.cap : Nat) : Int) ≤ ((old.cap : Nat) : Int)) ∧ (∀ s, s = Slc.cut 1 old (IntKind.i64.wrap (at_ + ((b_.len : Nat) : Int))) ((old.len : Nat) : Int) ((old.cap : Nat) : Int) → (∃ src, SrcAt w3 s 1 src ∧ AppendW 1 1 ty_uint8 [Value.int .u8 0] l_1 src s.len w3 (fun l_3 w6 => F_towpathref04_Disk_Write_k0 d slot R l_3 w6))))) ∧
  ((decide ((IntKind.i64.wrap (at_ + ((b_.len : Nat) : Int))) < ((old.len : Nat) : Int))) = false → (F_towpathref04_Disk_Write_k0 d slot R l_1 w3)))))))))))))))))))))

def F_disk_Disk_Clear (d : Option Addr) (slot : Int) (R : Int → World → Prop) (w : World) : Prop :=
  C_disk_Disk_look d slot w (fun (v9 : Int) w1 => ((v9 != 0) = true → (R v9 w1)) ∧
  ((v9 != 0) = false → (C_disk_Disk_raw d w1 (fun (v14 : Int) w2 => ((v14 != 0) = true → (R v14 w2)) ∧
  ((v14 != 0) = false → (IsAt d ∧ (0 ≤ slot ∧ slot < (2 : Int) ∧ (Writable w2 (pblk d) (((poff d) + 2) + slot.toNat) 1 ∧ (∀ w3, w3 = World.puts (pblk d) (((poff d) + 2) + slot.toNat) [Value.slice none 0 0] w2 → (R 0 w3))))))))))

def F_towpathref04_Disk_Clear_k0 (R : Int → World → Prop) (v15 : Int) (w2 : World) : Prop :=
  R v15 w2

def F_towpathref04_Disk_Clear (d : Option Addr) (slot : Int) (R : Int → World → Prop) (w : World) : Prop :=
  (d.isNone = true → (R 2 w)) ∧
  (d.isNone = false → ((((slot != 0) && (slot != 1)) = true → (R 1 w)) ∧
  (((slot != 0) && (slot != 1)) = false → (C_towpathref04_Disk_raw d w (fun (v15 : Int) w1 => ((v15 == 0) = true → (IsAt d ∧ (0 ≤ slot ∧ slot < (2 : Int) ∧ (Writable w1 (pblk d) (((poff d) + 1) + slot.toNat) 1 ∧ (∀ w3, w3 = World.puts (pblk d) (((poff d) + 1) + slot.toNat) [Value.slice none 0 0] w1 → (F_towpathref04_Disk_Clear_k0 R v15 w3)))))) ∧
  ((v15 == 0) = false → (F_towpathref04_Disk_Clear_k0 R v15 w1)))))))

def F_towpathref04_Disk_Cut_k0 (R : Int → World → Prop) (w2 : World) : Prop :=
  R 0 w2

def F_towpathref04_Disk_Cut (d : Option Addr) (n_ : Int) (R : Int → World → Prop) (w : World) : Prop :=
  (d.isNone = true → (R 2 w)) ∧
  (d.isNone = false → (IsAt d ∧ (∃ (v10 : Bool), w.cell? ⟨(pblk d), (poff d) + 4, none⟩ = some (Value.bool v10) ∧ ((v10 = true → (R 11 w)) ∧
  (v10 = false → (IsAt d ∧ (Writable w (pblk d) ((poff d) + 3) 1 ∧ (∀ w1, w1 = World.puts (pblk d) ((poff d) + 3) [Value.int .i64 n_] w → (((decide (n_ < 0)) = true → (IsAt d ∧ (Writable w1 (pblk d) ((poff d) + 3) 1 ∧ (∀ w3, w3 = World.puts (pblk d) ((poff d) + 3) [Value.int .i64 (-1)] w1 → (F_towpathref04_Disk_Cut_k0 R w3))))) ∧
  ((decide (n_ < 0)) = false → (F_towpathref04_Disk_Cut_k0 R w1)))))))))))

def F_towpathref04_Disk_Mend (d : Option Addr) (R : Int → World → Prop) (w : World) : Prop :=
  (d.isNone = true → (R 2 w)) ∧
  (d.isNone = false → (IsAt d ∧ (Writable w (pblk d) ((poff d) + 4) 1 ∧ (∀ w1, w1 = World.puts (pblk d) ((poff d) + 4) [Value.bool false] w → (IsAt d ∧ (Writable w1 (pblk d) ((poff d) + 3) 1 ∧ (∀ w2, w2 = World.puts (pblk d) ((poff d) + 3) [Value.int .i64 (-1)] w1 → (R 0 w2))))))))

def F_towpathref04_Disk_Read (d : Option Addr) (slot : Int) (R : Slc → Int → World → Prop) (w : World) : Prop :=
  (d.isNone = true → (R (Slc.mk none 0 0) 2 w)) ∧
  (d.isNone = false → ((((slot != 0) && (slot != 1)) = true → (R (Slc.mk none 0 0) 1 w)) ∧
  (((slot != 0) && (slot != 1)) = false → (IsAt d ∧ (0 ≤ slot ∧ slot < (2 : Int) ∧ (∃ (v19 : Slc), w.cell? ⟨(pblk d), ((poff d) + 1) + slot.toNat, none⟩ = some (Value.slice v19.ptr v19.len v19.cap) ∧ (R v19 0 w)))))))

def F_towpathref04_Disk_Dead (d : Option Addr) (R : Bool → World → Prop) (w : World) : Prop :=
  ((!d.isNone) = true → (IsAt d ∧ (∃ (v9 : Bool), w.cell? ⟨(pblk d), (poff d) + 4, none⟩ = some (Value.bool v9) ∧ (R v9 w)))) ∧
  ((!d.isNone) = false → (R false w))

def F_disk_Disk_Capacity (d : Option Addr) (R : Int → World → Prop) (w : World) : Prop :=
  (d.isNone = true → (R 0 w)) ∧
  (d.isNone = false → (IsAt d ∧ (∃ (v8 : Int), w.cell? ⟨(pblk d), (poff d) + 1, none⟩ = some (Value.int .i64 v8) ∧ (R v8 w))))

def F_towpathref04_Disk_Capacity (d : Option Addr) (R : Int → World → Prop) (w : World) : Prop :=
  (d.isNone = true → (R 0 w)) ∧
  (d.isNone = false → (IsAt d ∧ (∃ (v8 : Int), w.cell? ⟨(pblk d), (poff d), none⟩ = some (Value.int .i64 v8) ∧ (R v8 w))))

def F_towpathref04_Disk_Writes (d : Option Addr) (R : Int → World → Prop) (w : World) : Prop :=
  (d.isNone = true → (R 0 w)) ∧
  (d.isNone = false → (IsAt d ∧ (∃ (v8 : Int), w.cell? ⟨(pblk d), (poff d) + 5, none⟩ = some (Value.int .i64 v8) ∧ (R v8 w))))

def F_disk_Disk_look_k0 (slot : Int) (R : Int → World → Prop) (t5 : Bool) (w1 : World) : Prop :=
  (t5 = true → (R 2 w1)) ∧
  (t5 = false → ((((slot != 0) && (slot != 1)) = true → (R 1 w1)) ∧
  (((slot != 0) && (slot != 1)) = false → (R 0 w1))))

def F_disk_Disk_look (d : Option Addr) (slot : Int) (R : Int → World → Prop) (w : World) : Prop :=
  (d.isNone = true → (F_disk_Disk_look_k0 slot R true w)) ∧
  (d.isNone = false → (IsAt d ∧ (∃ (v12 : Bool), w.cell? ⟨(pblk d), (poff d), none⟩ = some (Value.bool v12) ∧ (F_disk_Disk_look_k0 slot R (!v12) w))))

def F_disk_Disk_raw_k0 (d : Option Addr) (R : Int → World → Prop) (t13 : Bool) (w1 : World) : Prop :=
  (t13 = true → (IsAt d ∧ (Writable w1 (pblk d) ((poff d) + 5) 1 ∧ (∀ w2, w2 = World.puts (pblk d) ((poff d) + 5) [Value.bool true] w1 → (R 11 w2))))) ∧
  (t13 = false → (IsAt d ∧ (∃ (v21 : Int), w1.cell? ⟨(pblk d), (poff d) + 4, none⟩ = some (Value.int .i64 v21) ∧ (IsAt d ∧ (Writable w1 (pblk d) ((poff d) + 4) 1 ∧ (∀ w3, w3 = World.puts (pblk d) ((poff d) + 4) [Value.int .i64 (if (-1) > (IntKind.i64.wrap (v21 - 1)) then (-1) else (IntKind.i64.wrap (v21 - 1)))] w1 → (IsAt d ∧ (∃ (v29 : Int), w3.cell? ⟨(pblk d), (poff d) + 6, none⟩ = some (Value.int .i64 v29) ∧ (Writable w3 (pblk d) ((poff d) + 6) 1 ∧ (∀ w4, w4 = World.puts (pblk d) ((poff d) + 6) [Value.int .i64 (IntKind.i64.wrap (v29 + 1))] w3 → (R 0 w4)))))))))))

def F_disk_Disk_raw (d : Option Addr) (R : Int → World → Prop) (w : World) : Prop :=
  IsAt d ∧ (∃ (v6 : Bool), w.cell? ⟨(pblk d), (poff d) + 5, none⟩ = some (Value.bool v6) ∧ ((v6 = true → (F_disk_Disk_raw_k0 d R true w)) ∧
  (v6 = false → (IsAt d ∧ (∃ (v11 : Int), w.cell? ⟨(pblk d), (poff d) + 4, none⟩ = some (Value.int .i64 v11) ∧ (F_disk_Disk_raw_k0 d R (v11 == 0) w))))))

def F_codec_Writer_gone (w_ : Option Addr) (R : Bool → World → Prop) (w : World) : Prop :=
  (w_.isNone = true → (R true w)) ∧
  (w_.isNone = false → (IsAt w_ ∧ (∃ (v9 : Bool), w.cell? ⟨(pblk w_), (poff w_), none⟩ = some (Value.bool v9) ∧ (R (!v9) w))))

def F_codec_Reader_take_k0 (r : Option Addr) (next : Value) (R : Bool → World → Prop) (t22 : Bool) (w1 : World) : Prop :=
  (t22 = true → (R false w1)) ∧
  (t22 = false → (IsAt r ∧ (∃ (v28 : Slc), w1.cell? ⟨(pblk r), (poff r) + 1, none⟩ = some (Value.slice v28.ptr v28.len v28.cap) ∧ (CallsV (P := Try.prog) next #[Value.slice v28.ptr v28.len v28.cap] w1 (fun e' w2 => ∃ (n_ : Int) (e : Int), e' = Ending.returned (Value.tuple #[Value.int .i64 n_, Value.int .i64 e]) ∧ (((e != 0) = true → (IsAt r ∧ (Writable w2 (pblk r) ((poff r) + 2) 1 ∧ (∀ w3, w3 = World.puts (pblk r) ((poff r) + 2) [Value.int .i64 e] w2 → (R false w3))))) ∧
  ((e != 0) = false → (∀ w4, (∃ k, w4 = w2.drewN k) → (IsAt r ∧ (∃ (v42 : Slc), w4.cell? ⟨(pblk r), (poff r) + 1, none⟩ = some (Value.slice v42.ptr v42.len v42.cap) ∧ (IsAt r ∧ (∃ (v47 : Slc), w4.cell? ⟨(pblk r), (poff r) + 1, none⟩ = some (Value.slice v47.ptr v47.len v47.cap) ∧ (IsAt r ∧ (∃ (v52 : Slc), w4.cell? ⟨(pblk r), (poff r) + 1, none⟩ = some (Value.slice v52.ptr v52.len v52.cap) ∧ ((0 ≤ n_ ∧ n_ ≤ ((v47.len : Nat) : Int) ∧ ((v47.len : Nat) : Int) ≤ ((v52.len : Nat) : Int) ∧ ((v52.len : Nat) : Int) ≤ ((v42.cap : Nat) : Int)) ∧ (∀ s, s = Slc.cut 1 v42 n_ ((v47.len : Nat) : Int) ((v52.len : Nat) : Int) → (IsAt r ∧ (Writable w4 (pblk r) ((poff r) + 1) 1 ∧ (∀ w5, w5 = World.puts (pblk r) ((poff r) + 1) [Value.slice s.ptr s.len s.cap] w4 → (R true w5))))))))))))))))))))

def F_codec_Reader_take (r : Option Addr) (next : Value) (R : Bool → World → Prop) (w : World) : Prop :=
  (r.isNone = true → (F_codec_Reader_take_k0 r next R true w)) ∧
  (r.isNone = false → (IsAt r ∧ (∃ (v13 : Bool), w.cell? ⟨(pblk r), (poff r), none⟩ = some (Value.bool v13) ∧ (((!v13) = true → (F_codec_Reader_take_k0 r next R true w)) ∧
  ((!v13) = false → (IsAt r ∧ (∃ (v20 : Int), w.cell? ⟨(pblk r), (poff r) + 2, none⟩ = some (Value.int .i64 v20) ∧ (F_codec_Reader_take_k0 r next R (v20 != 0) w))))))))

def F_codec_Reader_Var_1 (b_ : Slc) (t1 : Option Addr) (R : Int → Int → World → Prop) (w : World) : Prop :=
  C_codec_short b_ w (fun (v : Int) (size : Int) (e : Int) w1 => IsAt t1 ∧ (Writable w1 (pblk t1) (poff t1) 1 ∧ (∀ w2, w2 = World.puts (pblk t1) (poff t1) [Value.int .u64 v] w1 → (R size e w2))))

def F_codec_short_L0 (b_ : Slc) (R : Int → Int → Int → World → Prop) (again_ : Int → Int → World → Prop) (n_ : Int) (t9 : Int) (w1 : World) : Prop :=
  ((decide (t9 < ((b_.len : Nat) : Int))) = true → (IsAt b_.ptr ∧ (0 ≤ t9 ∧ t9 < ((b_.len : Nat) : Int) ∧ (∃ (c : Int), w1.cell? ⟨(pblk b_.ptr), (poff b_.ptr) + t9.toNat, none⟩ = some (Value.int .u8 c) ∧ (((((t9 == 9) && (decide (c > 1))) || ((decide (t9 > 0)) && (c == 0))) = true → (R 0 0 4 w1)) ∧
  ((((t9 == 9) && (decide (c > 1))) || ((decide (t9 > 0)) && (c == 0))) = false → (0 ≤ IntKind.i64.wrap (7 * t9) ∧ (((decide (c < 128)) = true → (R (bor .u64 n_ (IntKind.u64.wrap ((IntKind.u64.wrap (band .u8 c 127)) * 2 ^ (min (IntKind.i64.wrap (7 * t9)).toNat 64)))) (IntKind.i64.wrap (t9 + 1)) 0 w1)) ∧
  ((decide (c < 128)) = false → (again_ (bor .u64 n_ (IntKind.u64.wrap ((IntKind.u64.wrap (band .u8 c 127)) * 2 ^ (min (IntKind.i64.wrap (7 * t9)).toNat 64)))) (IntKind.i64.wrap (t9 + 1)) w1)))))))))) ∧
  ((decide (t9 < ((b_.len : Nat) : Int))) = false → (R 0 0 5 w1))

def F_codec_short (b_ : Slc) (R : Int → Int → Int → World → Prop) (w : World) : Prop :=
  ∃ (I : Int → Int → World → Prop) (μ : Int → Int → World → Nat), I 0 0 w ∧
  ∀ (n_ : Int) (t9 : Int) w, I n_ t9 w → F_codec_short_L0 b_ R (fun (n_' : Int) (t9' : Int) w' => I n_' t9' w' ∧ μ n_' t9' w' < μ n_ t9 w) n_ t9 w

def F_num_Zigzag (x : Int) (R : Int → World → Prop) (w : World) : Prop :=
  R (bxor .u64 (IntKind.u64.wrap ((IntKind.u64.wrap x) * 2 ^ 1)) (IntKind.u64.wrap (Int.fdiv x (2 ^ 63)))) w

def F_num_Zagzig (x : Int) (R : Int → World → Prop) (w : World) : Prop :=
  R (bxor .i64 (IntKind.i64.wrap (Int.fdiv x (2 ^ 1))) (IntKind.i64.wrap (0 - (IntKind.i64.wrap (band .u64 x 1))))) w

def F_codec_Reader_Text_1 (b_ : Slc) (t1 : Option Addr) (t2 : Option Addr) (R : Int → Int → World → Prop) (w : World) : Prop :=
  IsAt t1 ∧ (∃ (v9 : Int), w.cell? ⟨(pblk t1), (poff t1), none⟩ = some (Value.int .i64 v9) ∧ (((decide (v9 < 0)) = true → (R 0 1 w)) ∧
  ((decide (v9 < 0)) = false → (C_codec_short b_ w (fun (n_ : Int) (size : Int) (e : Int) w1 => ((e != 0) = true → (R 0 e w1)) ∧
  ((e != 0) = false → (IsAt t1 ∧ (∃ (v23 : Int), w1.cell? ⟨(pblk t1), (poff t1), none⟩ = some (Value.int .i64 v23) ∧ (((decide (n_ > (IntKind.u64.wrap v23))) = true → (R 0 3 w1)) ∧
  ((decide (n_ > (IntKind.u64.wrap v23))) = false → (((decide (n_ > (IntKind.u64.wrap (IntKind.i64.wrap (((b_.len : Nat) : Int) - size))))) = true → (R 0 5 w1)) ∧
  ((decide (n_ > (IntKind.u64.wrap (IntKind.i64.wrap (((b_.len : Nat) : Int) - size))))) = false → ((0 ≤ size ∧ size ≤ IntKind.i64.wrap (size + (IntKind.i64.wrap n_)) ∧ IntKind.i64.wrap (size + (IntKind.i64.wrap n_)) ≤ ((b_.cap : Nat) : Int) ∧ ((b_.cap : Nat) : Int) ≤ ((b_.cap : Nat) : Int)) ∧ (∀ s, s = Slc.cut 1 b_ size (IntKind.i64.wrap (size + (IntKind.i64.wrap n_))) ((b_.cap : Nat) : Int) → (∃ str : ByteArray, SrcAt w1 s 1 (strCells str) ∧ (IsAt t2 ∧ (Writable w1 (pblk t2) (poff t2) 1 ∧ (∀ w2, w2 = World.puts (pblk t2) (poff t2) [Value.string str] w1 → (R (IntKind.i64.wrap (size + (IntKind.i64.wrap n_))) 0 w2)))))))))))))))))))

def F_codec_Reader_Fixed_1_L1 (b_ : Slc) (t1 : Option Addr) (t2 : Option Addr) (R : Int → Int → World → Prop) (again_ : Int → World → Prop) (i : Int) (w2 : World) : Prop :=
  ((decide (i ≥ 0)) = true → (∀ w3, (∃ k, w3 = w2.drewN k) → (IsAt t2 ∧ (∃ (v25 : Int), w3.cell? ⟨(pblk t2), (poff t2), none⟩ = some (Value.int .u64 v25) ∧ (IsAt b_.ptr ∧ (0 ≤ i ∧ i < ((b_.len : Nat) : Int) ∧ (∃ (v30 : Int), w3.cell? ⟨(pblk b_.ptr), (poff b_.ptr) + i.toNat, none⟩ = some (Value.int .u8 v30) ∧ (Writable w3 (pblk t2) (poff t2) 1 ∧ (∀ w4, w4 = World.puts (pblk t2) (poff t2) [Value.int .u64 (bor .u64 (IntKind.u64.wrap (v25 * 2 ^ 8)) (IntKind.u64.wrap v30))] w3 → (again_ (IntKind.i64.wrap (i - 1)) w4)))))))))) ∧
  ((decide (i ≥ 0)) = false → (IsAt t1 ∧ (∃ (v33 : Int), w2.cell? ⟨(pblk t1), (poff t1), none⟩ = some (Value.int .i64 v33) ∧ (R v33 0 w2))))

def F_codec_Reader_Fixed_1_k0 (b_ : Slc) (t1 : Option Addr) (t2 : Option Addr) (R : Int → Int → World → Prop) (t7 : Bool) (w1 : World) : Prop :=
  (t7 = true → (R 0 1 w1)) ∧
  (t7 = false → (IsAt t1 ∧ (∃ (v15 : Int), w1.cell? ⟨(pblk t1), (poff t1), none⟩ = some (Value.int .i64 v15) ∧ (((decide (v15 > ((b_.len : Nat) : Int))) = true → (R 0 5 w1)) ∧
  ((decide (v15 > ((b_.len : Nat) : Int))) = false → (IsAt t1 ∧ (∃ (v19 : Int), w1.cell? ⟨(pblk t1), (poff t1), none⟩ = some (Value.int .i64 v19) ∧ (∃ (I : Int → World → Prop) (μ : Int → World → Nat), I (IntKind.i64.wrap (v19 - 1)) w1 ∧
  ∀ (i : Int) w, I i w → F_codec_Reader_Fixed_1_L1 b_ t1 t2 R (fun (i' : Int) w' => I i' w' ∧ μ i' w' < μ i w) i w))))))))

def F_codec_Reader_Fixed_1 (b_ : Slc) (t1 : Option Addr) (t2 : Option Addr) (R : Int → Int → World → Prop) (w : World) : Prop :=
  IsAt t1 ∧ (∃ (v8 : Int), w.cell? ⟨(pblk t1), (poff t1), none⟩ = some (Value.int .i64 v8) ∧ (((decide (v8 < 1)) = true → (F_codec_Reader_Fixed_1_k0 b_ t1 t2 R true w)) ∧
  ((decide (v8 < 1)) = false → (∃ (v11 : Int), w.cell? ⟨(pblk t1), (poff t1), none⟩ = some (Value.int .i64 v11) ∧ (F_codec_Reader_Fixed_1_k0 b_ t1 t2 R (decide (v11 > 8)) w)))))

def F_towpathref02_Reader_dead (r : T_towpathref02_Reader) (R : Bool → World → Prop) (w : World) : Prop :=
  ∀ b_ w1, b_ = w.heap.size → w1 = w.alloc (Obj.cells ([Value.bool r.Gone, Value.slice r.B.ptr r.B.len r.B.cap, Value.int .i64 r.At, Value.int .i64 r.Code]).toArray ty_towpathref02_Reader (0, 0)) → (∃ (v4 : Bool), w1.cell? ⟨b_, 0, none⟩ = some (Value.bool v4) ∧ ((v4 = true → (R true w1)) ∧
  (v4 = false → (∃ (v7 : Int), w1.cell? ⟨b_, 3, none⟩ = some (Value.int .i64 v7) ∧ (R (v7 != 0) w1)))))

def F_towpathref02_Reader_wrong (r : T_towpathref02_Reader) (e : Int) (R : T_towpathref02_Reader → World → Prop) (w : World) : Prop :=
  ∀ b_ w1, b_ = w.heap.size → w1 = w.alloc (Obj.cells ([Value.bool r.Gone, Value.slice r.B.ptr r.B.len r.B.cap, Value.int .i64 r.At, Value.int .i64 r.Code]).toArray ty_towpathref02_Reader (0, 0)) → (∀ b_1 w2, b_1 = w1.heap.size → w2 = w1.alloc (Obj.cells ([Value.bool false, Value.slice none 0 0, Value.int .i64 0, Value.int .i64 0]).toArray ty_towpathref02_Reader (0, 0)) → (Writable w2 b_ 3 1 ∧ (∀ w3, w3 = World.puts b_ 3 [Value.int .i64 e] w2 → (∃ (v7 : T_towpathref02_Reader), CellsAt w3 b_ 0 [Value.bool v7.Gone, Value.slice v7.B.ptr v7.B.len v7.B.cap, Value.int .i64 v7.At, Value.int .i64 v7.Code] ∧ (Writable w3 b_1 0 4 ∧ (∀ w4, w4 = World.puts b_1 0 [Value.bool v7.Gone, Value.slice v7.B.ptr v7.B.len v7.B.cap, Value.int .i64 v7.At, Value.int .i64 v7.Code] w3 → (∃ (res : T_towpathref02_Reader), CellsAt w4 b_1 0 [Value.bool res.Gone, Value.slice res.B.ptr res.B.len res.B.cap, Value.int .i64 res.At, Value.int .i64 res.Code] ∧ (R res w4))))))))

def F_towpathref01_Zagzig (x : Int) (R : Int → World → Prop) (w : World) : Prop :=
  (((Int.tmod x 2) == 0) = true → (R (IntKind.i64.wrap (IntKind.u64.wrap (Int.tdiv x 2))) w)) ∧
  (((Int.tmod x 2) == 0) = false → (R (IntKind.i64.wrap ((-1) - (IntKind.i64.wrap (IntKind.u64.wrap (Int.tdiv x 2))))) w))

def F_towpathref04_Disk_raw_k1 (d : Option Addr) (R : Int → World → Prop) (w3 : World) : Prop :=
  IsAt d ∧ (∃ (v34 : Int), w3.cell? ⟨(pblk d), (poff d) + 5, none⟩ = some (Value.int .i64 v34) ∧ (IsAt d ∧ (Writable w3 (pblk d) ((poff d) + 5) 1 ∧ (∀ w4, w4 = World.puts (pblk d) ((poff d) + 5) [Value.int .i64 (IntKind.i64.wrap (v34 + 1))] w3 → (R 0 w4)))))

def F_towpathref04_Disk_raw_k0 (d : Option Addr) (R : Int → World → Prop) (t13 : Bool) (w1 : World) : Prop :=
  (t13 = true → (IsAt d ∧ (Writable w1 (pblk d) ((poff d) + 4) 1 ∧ (∀ w2, w2 = World.puts (pblk d) ((poff d) + 4) [Value.bool true] w1 → (R 11 w2))))) ∧
  (t13 = false → (IsAt d ∧ (∃ (v20 : Int), w1.cell? ⟨(pblk d), (poff d) + 3, none⟩ = some (Value.int .i64 v20) ∧ (((decide (v20 > 0)) = true → (IsAt d ∧ (∃ (v26 : Int), w1.cell? ⟨(pblk d), (poff d) + 3, none⟩ = some (Value.int .i64 v26) ∧ (IsAt d ∧ (Writable w1 (pblk d) ((poff d) + 3) 1 ∧ (∀ w5, w5 = World.puts (pblk d) ((poff d) + 3) [Value.int .i64 (IntKind.i64.wrap (v26 - 1))] w1 → (F_towpathref04_Disk_raw_k1 d R w5))))))) ∧
  ((decide (v20 > 0)) = false → (F_towpathref04_Disk_raw_k1 d R w1))))))

def F_towpathref04_Disk_raw (d : Option Addr) (R : Int → World → Prop) (w : World) : Prop :=
  IsAt d ∧ (∃ (v6 : Bool), w.cell? ⟨(pblk d), (poff d) + 4, none⟩ = some (Value.bool v6) ∧ ((v6 = true → (F_towpathref04_Disk_raw_k0 d R true w)) ∧
  (v6 = false → (IsAt d ∧ (∃ (v11 : Int), w.cell? ⟨(pblk d), (poff d) + 3, none⟩ = some (Value.int .i64 v11) ∧ (F_towpathref04_Disk_raw_k0 d R (v11 == 0) w))))))

def Ok_T_towpathlaw02_Op (w : World) (x : T_towpathlaw02_Op) : Prop := (0 ≤ x.Kind ∧ x.Kind ≤ 255) ∧ (0 ≤ x.N ∧ x.N ≤ 18446744073709551615) ∧ ((-9223372036854775808) ≤ x.Width ∧ x.Width ≤ 9223372036854775807) ∧ (x.Text.size ≤ 140737488351232) ∧ ((-9223372036854775808) ≤ x.Most ∧ x.Most ≤ 9223372036854775807)

def Ok_T_towpathlaw04_Op (w : World) (x : T_towpathlaw04_Op) : Prop := (0 ≤ x.Kind ∧ x.Kind ≤ 255) ∧ ((-9223372036854775808) ≤ x.Slot ∧ x.Slot ≤ 9223372036854775807) ∧ ((-9223372036854775808) ≤ x.At ∧ x.At ≤ 9223372036854775807) ∧ (OkSl w x.B 1 1 (fun es => ∃ e_ : Int, es = [Value.int .u8 e_] ∧ (0 ≤ e_ ∧ e_ ≤ 255))) ∧ ((-9223372036854775808) ≤ x.N ∧ x.N ≤ 9223372036854775807)

end Go.Proofs.Ytckmganidgbpgaa
