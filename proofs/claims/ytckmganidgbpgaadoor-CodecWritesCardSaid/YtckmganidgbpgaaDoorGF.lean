/- WRITTEN BY PROGRAM (dec.py): for each Go function the clean formula F, the call's contract C, and the proof S that F gives C. -/
import Derived.Test.YtckmganidgbpgaaDoorRows
import Derived.Test.YtckmganidgbpgaaDoorCore
namespace Go.Proofs.YtckmganidgbpgaaDoor
open Go
set_option linter.unusedVariables false


abbrev ty_uint8 : TypeId := 5

abbrev ty_codec_Writer : TypeId := 28

abbrev ty_towpathlaw01_Book : TypeId := 41

abbrev ty_towpathlaw02_Op : TypeId := 44

abbrev ty_towpathlaw01_heldByte : TypeId := 65

structure T_towpathlaw02_Op where
  Kind : Int
  N : Int
  Width : Int
  Text : ByteArray
  Most : Int

structure T_towpathlaw01_heldByte where
  l : Slc
  long : Slc
  n : Int

def C_towpathlaw02_CodecWrites (script : Slc) (w : World) (R : Bool → World → Prop) : Prop :=
  Calls Tryd.prog 3 #[Value.slice script.ptr script.len script.cap] w (fun e w' => ∃ (r0 : Bool), e = .returned (Value.bool r0) ∧ R r0 w')

def C_towpathlaw02_beyond (l_ : Slc) (w : World) (R : Bool → World → Prop) : Prop :=
  Calls Tryd.prog 4 #[Value.slice l_.ptr l_.len l_.cap] w (fun e w' => ∃ (r0 : Bool), e = .returned (Value.bool r0) ∧ R r0 w')

def C_codec_NewWriter (w : World) (R : Option Addr → World → Prop) : Prop :=
  Calls Tryd.prog 5 #[] w (fun e w' => ∃ (r0 : Option Addr), e = .returned (Value.pointer r0) ∧ R r0 w')

def C_towpathref02_Fixed (b_ : Slc) (n_ : Int) (width : Int) (w : World) (R : Slc → Int → World → Prop) : Prop :=
  Calls Tryd.prog 6 #[Value.slice b_.ptr b_.len b_.cap, Value.int .u64 n_, Value.int .i64 width] w (fun e w' => ∃ (r0 : Slc) (r1 : Int), e = .returned (Value.tuple #[Value.slice r0.ptr r0.len r0.cap, Value.int .i64 r1]) ∧ R r0 r1 w')

def C_codec_Writer_Fixed (w_ : Option Addr) (n_ : Int) (width : Int) (w : World) (R : Int → World → Prop) : Prop :=
  Calls Tryd.prog 7 #[Value.pointer w_, Value.int .u64 n_, Value.int .i64 width] w (fun e w' => ∃ (r0 : Int), e = .returned (Value.int .i64 r0) ∧ R r0 w')

def C_towpathref02_Int (b_ : Slc) (n_ : Int) (w : World) (R : Slc → World → Prop) : Prop :=
  Calls Tryd.prog 8 #[Value.slice b_.ptr b_.len b_.cap, Value.int .i64 n_] w (fun e w' => ∃ (r0 : Slc), e = .returned (Value.slice r0.ptr r0.len r0.cap) ∧ R r0 w')

def C_codec_Writer_Int (w_ : Option Addr) (n_ : Int) (w : World) (R : World → Prop) : Prop :=
  Calls Tryd.prog 9 #[Value.pointer w_, Value.int .i64 n_] w (fun e w' => e = .returned (Value.tuple #[]) ∧ R w')

def C_towpathref02_Text (b_ : Slc) (s : ByteArray) (w : World) (R : Slc → World → Prop) : Prop :=
  Calls Tryd.prog 10 #[Value.slice b_.ptr b_.len b_.cap, Value.string s] w (fun e w' => ∃ (r0 : Slc), e = .returned (Value.slice r0.ptr r0.len r0.cap) ∧ R r0 w')

def C_codec_Writer_Text (w_ : Option Addr) (s : ByteArray) (w : World) (R : World → Prop) : Prop :=
  Calls Tryd.prog 11 #[Value.pointer w_, Value.string s] w (fun e w' => e = .returned (Value.tuple #[]) ∧ R w')

def C_towpathref02_Var (b_ : Slc) (n_ : Int) (w : World) (R : Slc → World → Prop) : Prop :=
  Calls Tryd.prog 12 #[Value.slice b_.ptr b_.len b_.cap, Value.int .u64 n_] w (fun e w' => ∃ (r0 : Slc), e = .returned (Value.slice r0.ptr r0.len r0.cap) ∧ R r0 w')

def C_codec_Writer_Var (w_ : Option Addr) (n_ : Int) (w : World) (R : World → Prop) : Prop :=
  Calls Tryd.prog 13 #[Value.pointer w_, Value.int .u64 n_] w (fun e w' => e = .returned (Value.tuple #[]) ∧ R w')

def C_towpathlaw01_Book_Bytes (b_ : Option Addr) (l_ : Slc) (w : World) (R : World → Prop) : Prop :=
  Calls Tryd.prog 14 #[Value.pointer b_, Value.slice l_.ptr l_.len l_.cap] w (fun e w' => e = .returned (Value.tuple #[]) ∧ R w')

def C_codec_Writer_Done (w_ : Option Addr) (w : World) (R : Slc → World → Prop) : Prop :=
  Calls Tryd.prog 15 #[Value.pointer w_] w (fun e w' => ∃ (r0 : Slc), e = .returned (Value.slice r0.ptr r0.len r0.cap) ∧ R r0 w')

def C_towpathlaw01_SameBytes (a_ : Slc) (b_ : Slc) (w : World) (R : Bool → World → Prop) : Prop :=
  Calls Tryd.prog 16 #[Value.slice a_.ptr a_.len a_.cap, Value.slice b_.ptr b_.len b_.cap] w (fun e w' => ∃ (r0 : Bool), e = .returned (Value.bool r0) ∧ R r0 w')

def C_towpathlaw01_Book_Apart (b_ : Option Addr) (w : World) (R : Bool → World → Prop) : Prop :=
  Calls Tryd.prog 17 #[Value.pointer b_] w (fun e w' => ∃ (r0 : Bool), e = .returned (Value.bool r0) ∧ R r0 w')

def C_towpathref02_power (n_ : Int) (w : World) (R : Int → World → Prop) : Prop :=
  Calls Tryd.prog 18 #[Value.int .i64 n_] w (fun e w' => ∃ (r0 : Int), e = .returned (Value.int .u64 r0) ∧ R r0 w')

def C_codec_Writer_gone (w_ : Option Addr) (w : World) (R : Bool → World → Prop) : Prop :=
  Calls Tryd.prog 19 #[Value.pointer w_] w (fun e w' => ∃ (r0 : Bool), e = .returned (Value.bool r0) ∧ R r0 w')

def C_towpathref01_Zigzag (x : Int) (w : World) (R : Int → World → Prop) : Prop :=
  Calls Tryd.prog 20 #[Value.int .i64 x] w (fun e w' => ∃ (r0 : Int), e = .returned (Value.int .u64 r0) ∧ R r0 w')

def C_num_Zigzag (x : Int) (w : World) (R : Int → World → Prop) : Prop :=
  Calls Tryd.prog 21 #[Value.int .i64 x] w (fun e w' => ∃ (r0 : Int), e = .returned (Value.int .u64 r0) ∧ R r0 w')

def C_towpathlaw01_Book_keepByte (b_ : Option Addr) (l_ : Slc) (w : World) (R : World → Prop) : Prop :=
  Calls Tryd.prog 22 #[Value.pointer b_, Value.slice l_.ptr l_.len l_.cap] w (fun e w' => e = .returned (Value.tuple #[]) ∧ R w')

def C_slices_Clone_byte_byte (s : Slc) (w : World) (R : Slc → World → Prop) : Prop :=
  Calls Tryd.prog 23 #[Value.slice s.ptr s.len s.cap] w (fun e w' => ∃ (r0 : Slc), e = .returned (Value.slice r0.ptr r0.len r0.cap) ∧ R r0 w')

def C_towpathlaw01_Book_fillByte (b_ : Option Addr) (w : World) (R : World → Prop) : Prop :=
  Calls Tryd.prog 24 #[Value.pointer b_] w (fun e w' => e = .returned (Value.tuple #[]) ∧ R w')

def C_towpathlaw01_Book_fillInt (b_ : Option Addr) (w : World) (R : World → Prop) : Prop :=
  Calls Tryd.prog 25 #[Value.pointer b_] w (fun e w' => e = .returned (Value.tuple #[]) ∧ R w')

def C_towpathlaw01_Book_fillText (b_ : Option Addr) (w : World) (R : World → Prop) : Prop :=
  Calls Tryd.prog 26 #[Value.pointer b_] w (fun e w' => e = .returned (Value.tuple #[]) ∧ R w')

def C_towpathlaw01_Book_fillWrite (b_ : Option Addr) (w : World) (R : World → Prop) : Prop :=
  Calls Tryd.prog 27 #[Value.pointer b_] w (fun e w' => e = .returned (Value.tuple #[]) ∧ R w')

def C_towpathlaw01_Book_fillEntry (b_ : Option Addr) (w : World) (R : World → Prop) : Prop :=
  Calls Tryd.prog 28 #[Value.pointer b_] w (fun e w' => e = .returned (Value.tuple #[]) ∧ R w')

def C_towpathlaw01_Book_fillVersion (b_ : Option Addr) (w : World) (R : World → Prop) : Prop :=
  Calls Tryd.prog 29 #[Value.pointer b_] w (fun e w' => e = .returned (Value.tuple #[]) ∧ R w')

def C_towpathlaw01_Book_fillTxn (b_ : Option Addr) (w : World) (R : World → Prop) : Prop :=
  Calls Tryd.prog 30 #[Value.pointer b_] w (fun e w' => e = .returned (Value.tuple #[]) ∧ R w')

def C_towpathlaw01_Book_fillHeld (b_ : Option Addr) (w : World) (R : World → Prop) : Prop :=
  Calls Tryd.prog 31 #[Value.pointer b_] w (fun e w' => e = .returned (Value.tuple #[]) ∧ R w')

def C_towpathlaw01_Book_fillHeldList (b_ : Option Addr) (w : World) (R : World → Prop) : Prop :=
  Calls Tryd.prog 32 #[Value.pointer b_] w (fun e w' => e = .returned (Value.tuple #[]) ∧ R w')

def C_towpathlaw01_Book_fillEvent (b_ : Option Addr) (w : World) (R : World → Prop) : Prop :=
  Calls Tryd.prog 33 #[Value.pointer b_] w (fun e w' => e = .returned (Value.tuple #[]) ∧ R w')

def C_towpathlaw01_Book_fillAnswer (b_ : Option Addr) (w : World) (R : World → Prop) : Prop :=
  Calls Tryd.prog 34 #[Value.pointer b_] w (fun e w' => e = .returned (Value.tuple #[]) ∧ R w')

def C_towpathlaw01_Book_growByte (b_ : Option Addr) (w : World) (R : World → Prop) : Prop :=
  Calls Tryd.prog 35 #[Value.pointer b_] w (fun e w' => e = .returned (Value.tuple #[]) ∧ R w')

def C_towpathlaw01_Book_growInt (b_ : Option Addr) (w : World) (R : World → Prop) : Prop :=
  Calls Tryd.prog 36 #[Value.pointer b_] w (fun e w' => e = .returned (Value.tuple #[]) ∧ R w')

def C_towpathlaw01_Book_growText (b_ : Option Addr) (w : World) (R : World → Prop) : Prop :=
  Calls Tryd.prog 37 #[Value.pointer b_] w (fun e w' => e = .returned (Value.tuple #[]) ∧ R w')

def C_towpathlaw01_Book_growWrite (b_ : Option Addr) (w : World) (R : World → Prop) : Prop :=
  Calls Tryd.prog 38 #[Value.pointer b_] w (fun e w' => e = .returned (Value.tuple #[]) ∧ R w')

def C_towpathlaw01_Book_growEntry (b_ : Option Addr) (w : World) (R : World → Prop) : Prop :=
  Calls Tryd.prog 39 #[Value.pointer b_] w (fun e w' => e = .returned (Value.tuple #[]) ∧ R w')

def C_towpathlaw01_Book_growVersion (b_ : Option Addr) (w : World) (R : World → Prop) : Prop :=
  Calls Tryd.prog 40 #[Value.pointer b_] w (fun e w' => e = .returned (Value.tuple #[]) ∧ R w')

def C_towpathlaw01_Book_growTxn (b_ : Option Addr) (w : World) (R : World → Prop) : Prop :=
  Calls Tryd.prog 41 #[Value.pointer b_] w (fun e w' => e = .returned (Value.tuple #[]) ∧ R w')

def C_towpathlaw01_Book_growHeld (b_ : Option Addr) (w : World) (R : World → Prop) : Prop :=
  Calls Tryd.prog 42 #[Value.pointer b_] w (fun e w' => e = .returned (Value.tuple #[]) ∧ R w')

def C_towpathlaw01_Book_growHeldList (b_ : Option Addr) (w : World) (R : World → Prop) : Prop :=
  Calls Tryd.prog 43 #[Value.pointer b_] w (fun e w' => e = .returned (Value.tuple #[]) ∧ R w')

def C_towpathlaw01_Book_growEvent (b_ : Option Addr) (w : World) (R : World → Prop) : Prop :=
  Calls Tryd.prog 44 #[Value.pointer b_] w (fun e w' => e = .returned (Value.tuple #[]) ∧ R w')

def C_towpathlaw01_Book_growAnswer (b_ : Option Addr) (w : World) (R : World → Prop) : Prop :=
  Calls Tryd.prog 45 #[Value.pointer b_] w (fun e w' => e = .returned (Value.tuple #[]) ∧ R w')

def C_towpathlaw01_Book_lookByte (b_ : Option Addr) (w : World) (R : Bool → World → Prop) : Prop :=
  Calls Tryd.prog 46 #[Value.pointer b_] w (fun e w' => ∃ (r0 : Bool), e = .returned (Value.bool r0) ∧ R r0 w')

def C_towpathlaw01_Book_lookInt (b_ : Option Addr) (w : World) (R : Bool → World → Prop) : Prop :=
  Calls Tryd.prog 47 #[Value.pointer b_] w (fun e w' => ∃ (r0 : Bool), e = .returned (Value.bool r0) ∧ R r0 w')

def C_towpathlaw01_Book_lookText (b_ : Option Addr) (w : World) (R : Bool → World → Prop) : Prop :=
  Calls Tryd.prog 48 #[Value.pointer b_] w (fun e w' => ∃ (r0 : Bool), e = .returned (Value.bool r0) ∧ R r0 w')

def C_towpathlaw01_Book_lookWrite (b_ : Option Addr) (w : World) (R : Bool → World → Prop) : Prop :=
  Calls Tryd.prog 49 #[Value.pointer b_] w (fun e w' => ∃ (r0 : Bool), e = .returned (Value.bool r0) ∧ R r0 w')

def C_towpathlaw01_Book_lookEntry (b_ : Option Addr) (w : World) (R : Bool → World → Prop) : Prop :=
  Calls Tryd.prog 50 #[Value.pointer b_] w (fun e w' => ∃ (r0 : Bool), e = .returned (Value.bool r0) ∧ R r0 w')

def C_towpathlaw01_Book_lookVersion (b_ : Option Addr) (w : World) (R : Bool → World → Prop) : Prop :=
  Calls Tryd.prog 51 #[Value.pointer b_] w (fun e w' => ∃ (r0 : Bool), e = .returned (Value.bool r0) ∧ R r0 w')

def C_towpathlaw01_Book_lookTxn (b_ : Option Addr) (w : World) (R : Bool → World → Prop) : Prop :=
  Calls Tryd.prog 52 #[Value.pointer b_] w (fun e w' => ∃ (r0 : Bool), e = .returned (Value.bool r0) ∧ R r0 w')

def C_towpathlaw01_Book_lookHeld (b_ : Option Addr) (w : World) (R : Bool → World → Prop) : Prop :=
  Calls Tryd.prog 53 #[Value.pointer b_] w (fun e w' => ∃ (r0 : Bool), e = .returned (Value.bool r0) ∧ R r0 w')

def C_towpathlaw01_Book_lookHeldList (b_ : Option Addr) (w : World) (R : Bool → World → Prop) : Prop :=
  Calls Tryd.prog 54 #[Value.pointer b_] w (fun e w' => ∃ (r0 : Bool), e = .returned (Value.bool r0) ∧ R r0 w')

def C_towpathlaw01_Book_lookEvent (b_ : Option Addr) (w : World) (R : Bool → World → Prop) : Prop :=
  Calls Tryd.prog 55 #[Value.pointer b_] w (fun e w' => ∃ (r0 : Bool), e = .returned (Value.bool r0) ∧ R r0 w')

def C_towpathlaw01_Book_lookAnswer (b_ : Option Addr) (w : World) (R : Bool → World → Prop) : Prop :=
  Calls Tryd.prog 56 #[Value.pointer b_] w (fun e w' => ∃ (r0 : Bool), e = .returned (Value.bool r0) ∧ R r0 w')

def C_towpathlaw01_markByte (n_ : Int) (w : World) (R : Int → World → Prop) : Prop :=
  Calls Tryd.prog 57 #[Value.int .i64 n_] w (fun e w' => ∃ (r0 : Int), e = .returned (Value.int .u8 r0) ∧ R r0 w')

def C_towpathlaw01_isByte (x : Int) (n_ : Int) (w : World) (R : Bool → World → Prop) : Prop :=
  Calls Tryd.prog 68 #[Value.int .u8 x, Value.int .i64 n_] w (fun e w' => ∃ (r0 : Bool), e = .returned (Value.bool r0) ∧ R r0 w')

def F_towpathlaw02_CodecWrites_k1 (i : Int) (again_ : Slc → Int → World → Prop) (want1 : Slc) (w7 : World) : Prop :=
  again_ want1 (IntKind.i64.wrap (i + 1)) w7

def F_towpathlaw02_CodecWrites_k2 (v16 : Option Addr) (b_1 : Nat) (i : Int) (again_ : Slc → Int → World → Prop) (want2 : Slc) (w10 : World) : Prop :=
  ((decide (i < 30)) = true → (C_codec_Writer_Done v16 w10 (fun (v122 : Slc) w11 => C_towpathlaw01_Book_Bytes (some ⟨b_1, 0, none⟩) v122 w11 (fun w12 => F_towpathlaw02_CodecWrites_k1 i again_ want2 w12)))) ∧
  ((decide (i < 30)) = false → (F_towpathlaw02_CodecWrites_k1 i again_ want2 w10))

def F_towpathlaw02_CodecWrites_k3 (R : Bool → World → Prop) (v16 : Option Addr) (b_1 : Nat) (i : Int) (again_ : Slc → Int → World → Prop) (next : Slc) (t83 : Bool) (w14 : World) : Prop :=
  (t83 = true → (R false w14)) ∧
  (t83 = false → (F_towpathlaw02_CodecWrites_k2 v16 b_1 i again_ next w14))

def F_towpathlaw02_CodecWrites_k4 (R : Bool → World → Prop) (v16 : Option Addr) (b_1 : Nat) (want : Slc) (v125 : Slc) (v127 : Slc) (t147 : Bool) (w32 : World) : Prop :=
  (t147 = true → (R false w32)) ∧
  (t147 = false → (C_towpathlaw01_Book_Bytes (some ⟨b_1, 0, none⟩) v125 w32 (fun w33 => C_towpathlaw01_Book_Bytes (some ⟨b_1, 0, none⟩) v127 w33 (fun w34 => C_towpathlaw01_Book_Apart (some ⟨b_1, 0, none⟩) w34 (fun (v152 : Bool) w35 => (v152 = true → (C_codec_Writer_Done v16 w35 (fun (v155 : Slc) w36 => C_towpathlaw01_SameBytes v155 want w36 (fun (v157 : Bool) w37 => R v157 w37)))) ∧
  (v152 = false → (R false w35)))))))

def F_towpathlaw02_CodecWrites_L0 (script : Slc) (R : Bool → World → Prop) (v16 : Option Addr) (b_ : Nat) (b_1 : Nat) (again_ : Slc → Int → World → Prop) (want : Slc) (i : Int) (w6 : World) : Prop :=
  ((decide (i < ((script.len : Nat) : Int))) = true → (IsAt script.ptr ∧ (0 ≤ i ∧ i < ((script.len : Nat) : Int) ∧ (∃ (v29 : T_towpathlaw02_Op), CellsAt w6 (pblk script.ptr) ((poff script.ptr) + i.toNat * 5) [Value.int .u8 v29.Kind, Value.int .u64 v29.N, Value.int .i64 v29.Width, Value.string v29.Text, Value.int .i64 v29.Most] ∧ (∀ b_2 w8, b_2 = w6.heap.size → w8 = w6.alloc (Obj.cells ([Value.int .u8 0, Value.int .u64 0, Value.int .i64 0, Value.string ByteArray.empty, Value.int .i64 0]).toArray ty_towpathlaw02_Op (0, 0)) → (Writable w8 b_2 0 5 ∧ (∀ w9, w9 = World.puts b_2 0 [Value.int .u8 v29.Kind, Value.int .u64 v29.N, Value.int .i64 v29.Width, Value.string v29.Text, Value.int .i64 v29.Most] w8 → (∃ (v31 : Int), w9.cell? ⟨b_2, 0, none⟩ = some (Value.int .u8 v31) ∧ (((v31 == 1) = true → (∃ (v51 : Int), w9.cell? ⟨b_2, 1, none⟩ = some (Value.int .u64 v51) ∧ (∃ (v53 : Int), w9.cell? ⟨b_2, 2, none⟩ = some (Value.int .i64 v53) ∧ (C_towpathref02_Fixed want v51 v53 w9 (fun (next : Slc) (f : Int) w13 => ∃ (v60 : Int), w13.cell? ⟨b_2, 1, none⟩ = some (Value.int .u64 v60) ∧ (∃ (v62 : Int), w13.cell? ⟨b_2, 2, none⟩ = some (Value.int .i64 v62) ∧ (C_codec_Writer_Fixed v16 v60 v62 w13 (fun (v63 : Int) w15 => ((v63 != f) = true → (F_towpathlaw02_CodecWrites_k3 R v16 b_1 i again_ next true w15)) ∧
  ((v63 != f) = false → (∃ (v69 : Int), w15.cell? ⟨b_2, 1, none⟩ = some (Value.int .u64 v69) ∧ (∃ (v71 : Int), w15.cell? ⟨b_2, 2, none⟩ = some (Value.int .i64 v71) ∧ (C_codec_Writer_Fixed none v69 v71 w15 (fun (v72 : Int) w16 => ((v72 != 2) = true → (F_towpathlaw02_CodecWrites_k3 R v16 b_1 i again_ next true w16)) ∧
  ((v72 != 2) = false → (∃ (v78 : Int), w16.cell? ⟨b_2, 1, none⟩ = some (Value.int .u64 v78) ∧ (∃ (v80 : Int), w16.cell? ⟨b_2, 2, none⟩ = some (Value.int .i64 v80) ∧ (C_codec_Writer_Fixed (some ⟨b_, 0, none⟩) v78 v80 w16 (fun (v81 : Int) w17 => F_towpathlaw02_CodecWrites_k3 R v16 b_1 i again_ next (v81 != 2) w17)))))))))))))))))) ∧
  ((v31 == 1) = false → (((v31 == 3) = true → (∃ (v88 : Int), w9.cell? ⟨b_2, 1, none⟩ = some (Value.int .u64 v88) ∧ (C_towpathref02_Int want (IntKind.i64.wrap v88) w9 (fun (v90 : Slc) w18 => ∃ (v93 : Int), w18.cell? ⟨b_2, 1, none⟩ = some (Value.int .u64 v93) ∧ (C_codec_Writer_Int v16 (IntKind.i64.wrap v93) w18 (fun w19 => ∃ (v98 : Int), w19.cell? ⟨b_2, 1, none⟩ = some (Value.int .u64 v98) ∧ (C_codec_Writer_Int none (IntKind.i64.wrap v98) w19 (fun w20 => C_codec_Writer_Int (some ⟨b_, 0, none⟩) 1 w20 (fun w21 => F_towpathlaw02_CodecWrites_k2 v16 b_1 i again_ v90 w21))))))))) ∧
  ((v31 == 3) = false → (((v31 == 4) = true → (∃ (v107 : ByteArray), w9.cell? ⟨b_2, 3, none⟩ = some (Value.string v107) ∧ (C_towpathref02_Text want v107 w9 (fun (v108 : Slc) w22 => ∃ (v111 : ByteArray), w22.cell? ⟨b_2, 3, none⟩ = some (Value.string v111) ∧ (C_codec_Writer_Text v16 v111 w22 (fun w23 => ∃ (v115 : ByteArray), w23.cell? ⟨b_2, 3, none⟩ = some (Value.string v115) ∧ (C_codec_Writer_Text none v115 w23 (fun w24 => C_codec_Writer_Text (some ⟨b_, 0, none⟩) (ByteArray.mk #[120]) w24 (fun w25 => F_towpathlaw02_CodecWrites_k2 v16 b_1 i again_ v108 w25))))))))) ∧
  ((v31 == 4) = false → (∃ (v34 : Int), w9.cell? ⟨b_2, 1, none⟩ = some (Value.int .u64 v34) ∧ (C_towpathref02_Var want v34 w9 (fun (v35 : Slc) w26 => ∃ (v38 : Int), w26.cell? ⟨b_2, 1, none⟩ = some (Value.int .u64 v38) ∧ (C_codec_Writer_Var v16 v38 w26 (fun w27 => ∃ (v42 : Int), w27.cell? ⟨b_2, 1, none⟩ = some (Value.int .u64 v42) ∧ (C_codec_Writer_Var none v42 w27 (fun w28 => C_codec_Writer_Var (some ⟨b_, 0, none⟩) 1 w28 (fun w29 => F_towpathlaw02_CodecWrites_k2 v16 b_1 i again_ v35 w29)))))))))))))))))))))) ∧
  ((decide (i < ((script.len : Nat) : Int))) = false → (C_codec_Writer_Done v16 w6 (fun (v125 : Slc) w30 => C_codec_Writer_Done v16 w30 (fun (v127 : Slc) w31 => C_towpathlaw01_SameBytes v125 want w31 (fun (v130 : Bool) w38 => ((!v130) = true → (F_towpathlaw02_CodecWrites_k4 R v16 b_1 want v125 v127 true w38)) ∧
  ((!v130) = false → (C_towpathlaw01_SameBytes v127 want w38 (fun (v135 : Bool) w39 => ((!v135) = true → (F_towpathlaw02_CodecWrites_k4 R v16 b_1 want v125 v127 true w39)) ∧
  ((!v135) = false → (C_codec_Writer_Done none w39 (fun (v140 : Slc) w40 => C_codec_Writer_Done (some ⟨b_, 0, none⟩) w40 (fun (v143 : Slc) w41 => F_towpathlaw02_CodecWrites_k4 R v16 b_1 want v125 v127 ((IntKind.i64.wrap (((v140.len : Nat) : Int) + ((v143.len : Nat) : Int))) != 0) w41))))))))))))

def F_towpathlaw02_CodecWrites (script : Slc) (R : Bool → World → Prop) (w : World) : Prop :=
  C_towpathlaw02_beyond script w (fun (v15 : Bool) w1 => (v15 = true → (R true w1)) ∧
  (v15 = false → (C_codec_NewWriter w1 (fun (v16 : Option Addr) w2 => ∀ b_ w3, b_ = w2.heap.size → w3 = w2.alloc (Obj.cells ([Value.bool false, Value.slice none 0 0]).toArray ty_codec_Writer (0, 0)) → (∀ b_1 w4, b_1 = w3.heap.size → w4 = w3.alloc (Obj.cells ([Value.int .i64 0, Value.slice none 0 0, Value.slice none 0 0, Value.slice none 0 0, Value.slice none 0 0, Value.slice none 0 0, Value.slice none 0 0, Value.slice none 0 0, Value.slice none 0 0, Value.slice none 0 0, Value.slice none 0 0, Value.slice none 0 0]).toArray ty_towpathlaw01_Book (0, 0)) → (Writable w4 b_1 0 12 ∧ (∀ w5, w5 = World.puts b_1 0 [Value.int .i64 0, Value.slice none 0 0, Value.slice none 0 0, Value.slice none 0 0, Value.slice none 0 0, Value.slice none 0 0, Value.slice none 0 0, Value.slice none 0 0, Value.slice none 0 0, Value.slice none 0 0, Value.slice none 0 0, Value.slice none 0 0] w4 → (∃ (I : Slc → Int → World → Prop) (μ : Slc → Int → World → Nat), I (Slc.mk none 0 0) 0 w5 ∧
  ∀ (want : Slc) (i : Int) w, I want i w → F_towpathlaw02_CodecWrites_L0 script R v16 b_ b_1 (fun (want' : Slc) (i' : Int) w' => I want' i' w' ∧ μ want' i' w' < μ want i w) want i w))))))))

def F_towpathlaw02_beyond_L0 (l_ : Slc) (R : Bool → World → Prop) (again_ : Int → Int → World → Prop) (n_ : Int) (i : Int) (w1 : World) : Prop :=
  ((decide (i < ((l_.len : Nat) : Int))) = true → (IsAt l_.ptr ∧ (0 ≤ i ∧ i < ((l_.len : Nat) : Int) ∧ (∃ (v17 : ByteArray), w1.cell? ⟨(pblk l_.ptr), ((poff l_.ptr) + i.toNat * 5) + 3, none⟩ = some (Value.string v17) ∧ (((decide ((IntKind.i64.wrap ((IntKind.i64.wrap (n_ + 10)) + ((v17.size : Nat) : Int))) > 1048576)) = true → (R true w1)) ∧
  ((decide ((IntKind.i64.wrap ((IntKind.i64.wrap (n_ + 10)) + ((v17.size : Nat) : Int))) > 1048576)) = false → (again_ (IntKind.i64.wrap ((IntKind.i64.wrap (n_ + 10)) + ((v17.size : Nat) : Int))) (IntKind.i64.wrap (i + 1)) w1))))))) ∧
  ((decide (i < ((l_.len : Nat) : Int))) = false → (R false w1))

def F_towpathlaw02_beyond (l_ : Slc) (R : Bool → World → Prop) (w : World) : Prop :=
  ∃ (I : Int → Int → World → Prop) (μ : Int → Int → World → Nat), I 0 0 w ∧
  ∀ (n_ : Int) (i : Int) w, I n_ i w → F_towpathlaw02_beyond_L0 l_ R (fun (n_' : Int) (i' : Int) w' => I n_' i' w' ∧ μ n_' i' w' < μ n_ i w) n_ i w

def F_codec_NewWriter (R : Option Addr → World → Prop) (w : World) : Prop :=
  ∀ b_ w1, b_ = w.heap.size → w1 = w.alloc (Obj.cells ([Value.bool true, Value.slice none 0 0]).toArray ty_codec_Writer (0, 0)) → (R (some ⟨b_, 0, none⟩) w1)

def F_towpathref02_Fixed_L1 (width : Int) (R : Slc → Int → World → Prop) (again_ : Slc → Int → Int → World → Prop) (b_1 : Slc) (n_1 : Int) (i : Int) (w2 : World) : Prop :=
  ((decide (i < width)) = true → (∀ b_2 w3, b_2 = w2.heap.size → w3 = w2.alloc (Obj.cells ([Value.int .u8 (IntKind.u8.wrap (Int.tmod n_1 256))]).toArray ty_uint8 (0, 0)) → (∃ src, SrcAt w3 (Slc.mk (some ⟨b_2, 0, none⟩) 1 1) 1 src ∧ AppendW 1 1 ty_uint8 [Value.int .u8 0] b_1 src 1 w3 (fun b_3 w4 => again_ b_3 (IntKind.u64.wrap (Int.tdiv n_1 256)) (IntKind.i64.wrap (i + 1)) w4)))) ∧
  ((decide (i < width)) = false → (R b_1 0 w2))

def F_towpathref02_Fixed_k0 (b_ : Slc) (n_ : Int) (width : Int) (R : Slc → Int → World → Prop) (t24 : Bool) (w1 : World) : Prop :=
  (t24 = true → (R b_ 3 w1)) ∧
  (t24 = false → (∃ (I : Slc → Int → Int → World → Prop) (μ : Slc → Int → Int → World → Nat), I b_ n_ 0 w1 ∧
  ∀ (b_1 : Slc) (n_1 : Int) (i : Int) w, I b_1 n_1 i w → F_towpathref02_Fixed_L1 width R (fun (b_1' : Slc) (n_1' : Int) (i' : Int) w' => I b_1' n_1' i' w' ∧ μ b_1' n_1' i' w' < μ b_1 n_1 i w) b_1 n_1 i w))

def F_towpathref02_Fixed (b_ : Slc) (n_ : Int) (width : Int) (R : Slc → Int → World → Prop) (w : World) : Prop :=
  (((decide (width < 1)) || (decide (width > 8))) = true → (R b_ 1 w)) ∧
  (((decide (width < 1)) || (decide (width > 8))) = false → (((decide (width < 8)) = true → (C_towpathref02_power (IntKind.i64.wrap (8 * width)) w (fun (v22 : Int) w5 => F_towpathref02_Fixed_k0 b_ n_ width R (decide (n_ ≥ v22)) w5))) ∧
  ((decide (width < 8)) = false → (F_towpathref02_Fixed_k0 b_ n_ width R false w))))

def F_codec_Writer_Fixed_L0 (w_ : Option Addr) (width : Int) (R : Int → World → Prop) (again_ : Int → Int → World → Prop) (n_1 : Int) (t24 : Int) (w2 : World) : Prop :=
  ((decide (t24 < width)) = true → (IsAt w_ ∧ (∃ (v30 : Slc), w2.cell? ⟨(pblk w_), (poff w_) + 1, none⟩ = some (Value.slice v30.ptr v30.len v30.cap) ∧ (∀ b_ w3, b_ = w2.heap.size → w3 = w2.alloc (Obj.cells ([Value.int .u8 (IntKind.u8.wrap n_1)]).toArray ty_uint8 (0, 0)) → (∃ src, SrcAt w3 (Slc.mk (some ⟨b_, 0, none⟩) 1 1) 1 src ∧ AppendW 1 1 ty_uint8 [Value.int .u8 0] v30 src 1 w3 (fun v34 w4 => IsAt w_ ∧ (Writable w4 (pblk w_) ((poff w_) + 1) 1 ∧ (∀ w5, w5 = World.puts (pblk w_) ((poff w_) + 1) [Value.slice v34.ptr v34.len v34.cap] w4 → (again_ (Int.fdiv n_1 (2 ^ 8)) (IntKind.i64.wrap (t24 + 1)) w5))))))))) ∧
  ((decide (t24 < width)) = false → (R 0 w2))

def F_codec_Writer_Fixed (w_ : Option Addr) (n_ : Int) (width : Int) (R : Int → World → Prop) (w : World) : Prop :=
  C_codec_Writer_gone w_ w (fun (v9 : Bool) w1 => (v9 = true → (R 2 w1)) ∧
  (v9 = false → ((((decide (width < 1)) || (decide (width > 8))) = true → (R 1 w1)) ∧
  (((decide (width < 1)) || (decide (width > 8))) = false → (0 ≤ IntKind.i64.wrap (8 * width) ∧ ((((Int.fdiv n_ (2 ^ (min (IntKind.i64.wrap (8 * width)).toNat 64))) != 0) = true → (R 3 w1)) ∧
  (((Int.fdiv n_ (2 ^ (min (IntKind.i64.wrap (8 * width)).toNat 64))) != 0) = false → (∃ (I : Int → Int → World → Prop) (μ : Int → Int → World → Nat), I n_ 0 w1 ∧
  ∀ (n_1 : Int) (t24 : Int) w, I n_1 t24 w → F_codec_Writer_Fixed_L0 w_ width R (fun (n_1' : Int) (t24' : Int) w' => I n_1' t24' w' ∧ μ n_1' t24' w' < μ n_1 t24 w) n_1 t24 w))))))))

def F_towpathref02_Int (b_ : Slc) (n_ : Int) (R : Slc → World → Prop) (w : World) : Prop :=
  C_towpathref01_Zigzag n_ w (fun (v7 : Int) w1 => C_towpathref02_Var b_ v7 w1 (fun (v8 : Slc) w2 => R v8 w2))

def F_codec_Writer_Int (w_ : Option Addr) (n_ : Int) (R : World → Prop) (w : World) : Prop :=
  C_num_Zigzag n_ w (fun (v6 : Int) w1 => C_codec_Writer_Var w_ v6 w1 (fun w2 => R w2))

def F_towpathref02_Text_L0 (s : ByteArray) (R : Slc → World → Prop) (again_ : Slc → Int → World → Prop) (b_1 : Slc) (i : Int) (w2 : World) : Prop :=
  ((decide (i < ((s.size : Nat) : Int))) = true → (0 ≤ i ∧ i < ((s.size : Nat) : Int) ∧ (∀ b_2 w3, b_2 = w2.heap.size → w3 = w2.alloc (Obj.cells ([Value.int .u8 (byteAt s i)]).toArray ty_uint8 (0, 0)) → (∃ src, SrcAt w3 (Slc.mk (some ⟨b_2, 0, none⟩) 1 1) 1 src ∧ AppendW 1 1 ty_uint8 [Value.int .u8 0] b_1 src 1 w3 (fun b_3 w4 => again_ b_3 (IntKind.i64.wrap (i + 1)) w4))))) ∧
  ((decide (i < ((s.size : Nat) : Int))) = false → (R b_1 w2))

def F_towpathref02_Text (b_ : Slc) (s : ByteArray) (R : Slc → World → Prop) (w : World) : Prop :=
  C_towpathref02_Var b_ (IntKind.u64.wrap ((s.size : Nat) : Int)) w (fun (v10 : Slc) w1 => ∃ (I : Slc → Int → World → Prop) (μ : Slc → Int → World → Nat), I v10 0 w1 ∧
  ∀ (b_1 : Slc) (i : Int) w, I b_1 i w → F_towpathref02_Text_L0 s R (fun (b_1' : Slc) (i' : Int) w' => I b_1' i' w' ∧ μ b_1' i' w' < μ b_1 i w) b_1 i w)

def F_codec_Writer_Text (w_ : Option Addr) (s : ByteArray) (R : World → Prop) (w : World) : Prop :=
  C_codec_Writer_gone w_ w (fun (v5 : Bool) w1 => (v5 = true → (R w1)) ∧
  (v5 = false → (C_codec_Writer_Var w_ (IntKind.u64.wrap ((s.size : Nat) : Int)) w1 (fun w2 => IsAt w_ ∧ (∃ (v15 : Slc), w2.cell? ⟨(pblk w_), (poff w_) + 1, none⟩ = some (Value.slice v15.ptr v15.len v15.cap) ∧ (AppendW 1 1 ty_uint8 [Value.int .u8 0] v15 (strCells s) s.size w2 (fun v17 w3 => IsAt w_ ∧ (Writable w3 (pblk w_) ((poff w_) + 1) 1 ∧ (∀ w4, w4 = World.puts (pblk w_) ((poff w_) + 1) [Value.slice v17.ptr v17.len v17.cap] w3 → (R w4))))))))))

def F_towpathref02_Var_L0 (R : Slc → World → Prop) (again_ : Slc → Int → World → Prop) (b_1 : Slc) (n_1 : Int) (w1 : World) : Prop :=
  ((decide (n_1 ≥ 128)) = true → (∀ b_2 w2, b_2 = w1.heap.size → w2 = w1.alloc (Obj.cells ([Value.int .u8 (IntKind.u8.wrap (IntKind.u64.wrap (128 + (Int.tmod n_1 128))))]).toArray ty_uint8 (0, 0)) → (∃ src, SrcAt w2 (Slc.mk (some ⟨b_2, 0, none⟩) 1 1) 1 src ∧ AppendW 1 1 ty_uint8 [Value.int .u8 0] b_1 src 1 w2 (fun b_3 w3 => again_ b_3 (IntKind.u64.wrap (Int.tdiv n_1 128)) w3)))) ∧
  ((decide (n_1 ≥ 128)) = false → (∀ b_4 w4, b_4 = w1.heap.size → w4 = w1.alloc (Obj.cells ([Value.int .u8 (IntKind.u8.wrap n_1)]).toArray ty_uint8 (0, 0)) → (∃ src, SrcAt w4 (Slc.mk (some ⟨b_4, 0, none⟩) 1 1) 1 src ∧ AppendW 1 1 ty_uint8 [Value.int .u8 0] b_1 src 1 w4 (fun v20 w5 => R v20 w5))))

def F_towpathref02_Var (b_ : Slc) (n_ : Int) (R : Slc → World → Prop) (w : World) : Prop :=
  ∃ (I : Slc → Int → World → Prop) (μ : Slc → Int → World → Nat), I b_ n_ w ∧
  ∀ (b_1 : Slc) (n_1 : Int) w, I b_1 n_1 w → F_towpathref02_Var_L0 R (fun (b_1' : Slc) (n_1' : Int) w' => I b_1' n_1' w' ∧ μ b_1' n_1' w' < μ b_1 n_1 w) b_1 n_1 w

def F_codec_Writer_Var_L0 (w_ : Option Addr) (R : World → Prop) (again_ : Int → World → Prop) (n_1 : Int) (w2 : World) : Prop :=
  ((decide (n_1 ≥ 128)) = true → (IsAt w_ ∧ (∃ (v14 : Slc), w2.cell? ⟨(pblk w_), (poff w_) + 1, none⟩ = some (Value.slice v14.ptr v14.len v14.cap) ∧ (∀ b_ w3, b_ = w2.heap.size → w3 = w2.alloc (Obj.cells ([Value.int .u8 (bor .u8 (IntKind.u8.wrap n_1) 128)]).toArray ty_uint8 (0, 0)) → (∃ src, SrcAt w3 (Slc.mk (some ⟨b_, 0, none⟩) 1 1) 1 src ∧ AppendW 1 1 ty_uint8 [Value.int .u8 0] v14 src 1 w3 (fun v19 w4 => IsAt w_ ∧ (Writable w4 (pblk w_) ((poff w_) + 1) 1 ∧ (∀ w5, w5 = World.puts (pblk w_) ((poff w_) + 1) [Value.slice v19.ptr v19.len v19.cap] w4 → (again_ (Int.fdiv n_1 (2 ^ 7)) w5))))))))) ∧
  ((decide (n_1 ≥ 128)) = false → (IsAt w_ ∧ (∃ (v26 : Slc), w2.cell? ⟨(pblk w_), (poff w_) + 1, none⟩ = some (Value.slice v26.ptr v26.len v26.cap) ∧ (∀ b_1 w6, b_1 = w2.heap.size → w6 = w2.alloc (Obj.cells ([Value.int .u8 (IntKind.u8.wrap n_1)]).toArray ty_uint8 (0, 0)) → (∃ src, SrcAt w6 (Slc.mk (some ⟨b_1, 0, none⟩) 1 1) 1 src ∧ AppendW 1 1 ty_uint8 [Value.int .u8 0] v26 src 1 w6 (fun v30 w7 => IsAt w_ ∧ (Writable w7 (pblk w_) ((poff w_) + 1) 1 ∧ (∀ w8, w8 = World.puts (pblk w_) ((poff w_) + 1) [Value.slice v30.ptr v30.len v30.cap] w7 → (R w8)))))))))

def F_codec_Writer_Var (w_ : Option Addr) (n_ : Int) (R : World → Prop) (w : World) : Prop :=
  C_codec_Writer_gone w_ w (fun (v5 : Bool) w1 => (v5 = true → (R w1)) ∧
  (v5 = false → (∃ (I : Int → World → Prop) (μ : Int → World → Nat), I n_ w1 ∧
  ∀ (n_1 : Int) w, I n_1 w → F_codec_Writer_Var_L0 w_ R (fun (n_1' : Int) w' => I n_1' w' ∧ μ n_1' w' < μ n_1 w) n_1 w)))

def F_towpathlaw01_Book_Bytes (b_ : Option Addr) (l_ : Slc) (R : World → Prop) (w : World) : Prop :=
  C_towpathlaw01_Book_keepByte b_ l_ w (fun w1 => R w1)

def F_codec_Writer_Done (w_ : Option Addr) (R : Slc → World → Prop) (w : World) : Prop :=
  C_codec_Writer_gone w_ w (fun (v4 : Bool) w1 => (v4 = true → (R (Slc.mk none 0 0) w1)) ∧
  (v4 = false → (IsAt w_ ∧ (∃ (v8 : Slc), w1.cell? ⟨(pblk w_), (poff w_) + 1, none⟩ = some (Value.slice v8.ptr v8.len v8.cap) ∧ (C_slices_Clone_byte_byte v8 w1 (fun (v9 : Slc) w2 => R v9 w2))))))

def F_towpathlaw01_SameBytes_L0 (a_ : Slc) (b_ : Slc) (R : Bool → World → Prop) (again_ : Int → World → Prop) (i : Int) (w1 : World) : Prop :=
  ((decide (i < ((a_.len : Nat) : Int))) = true → (IsAt a_.ptr ∧ (0 ≤ i ∧ i < ((a_.len : Nat) : Int) ∧ (∃ (v20 : Int), w1.cell? ⟨(pblk a_.ptr), (poff a_.ptr) + i.toNat, none⟩ = some (Value.int .u8 v20) ∧ (IsAt b_.ptr ∧ (0 ≤ i ∧ i < ((b_.len : Nat) : Int) ∧ (∃ (v24 : Int), w1.cell? ⟨(pblk b_.ptr), (poff b_.ptr) + i.toNat, none⟩ = some (Value.int .u8 v24) ∧ (∀ w2, Ext w1 w2 → (((v20 != v24) = true → (R false w2)) ∧
  ((v20 != v24) = false → (again_ (IntKind.i64.wrap (i + 1)) w2))))))))))) ∧
  ((decide (i < ((a_.len : Nat) : Int))) = false → (R true w1))

def F_towpathlaw01_SameBytes (a_ : Slc) (b_ : Slc) (R : Bool → World → Prop) (w : World) : Prop :=
  ((((a_.len : Nat) : Int) != ((b_.len : Nat) : Int)) = true → (R false w)) ∧
  ((((a_.len : Nat) : Int) != ((b_.len : Nat) : Int)) = false → (∃ (I : Int → World → Prop) (μ : Int → World → Nat), I 0 w ∧
  ∀ (i : Int) w, I i w → F_towpathlaw01_SameBytes_L0 a_ b_ R (fun (i' : Int) w' => I i' w' ∧ μ i' w' < μ i w) i w))

def F_towpathlaw01_Book_Apart (b_ : Option Addr) (R : Bool → World → Prop) (w : World) : Prop :=
  C_towpathlaw01_Book_fillByte b_ w (fun w1 => C_towpathlaw01_Book_fillInt b_ w1 (fun w2 => C_towpathlaw01_Book_fillText b_ w2 (fun w3 => C_towpathlaw01_Book_fillWrite b_ w3 (fun w4 => C_towpathlaw01_Book_fillEntry b_ w4 (fun w5 => C_towpathlaw01_Book_fillVersion b_ w5 (fun w6 => C_towpathlaw01_Book_fillTxn b_ w6 (fun w7 => C_towpathlaw01_Book_fillHeld b_ w7 (fun w8 => C_towpathlaw01_Book_fillHeldList b_ w8 (fun w9 => C_towpathlaw01_Book_fillEvent b_ w9 (fun w10 => C_towpathlaw01_Book_fillAnswer b_ w10 (fun w11 => C_towpathlaw01_Book_growByte b_ w11 (fun w12 => C_towpathlaw01_Book_growInt b_ w12 (fun w13 => C_towpathlaw01_Book_growText b_ w13 (fun w14 => C_towpathlaw01_Book_growWrite b_ w14 (fun w15 => C_towpathlaw01_Book_growEntry b_ w15 (fun w16 => C_towpathlaw01_Book_growVersion b_ w16 (fun w17 => C_towpathlaw01_Book_growTxn b_ w17 (fun w18 => C_towpathlaw01_Book_growHeld b_ w18 (fun w19 => C_towpathlaw01_Book_growHeldList b_ w19 (fun w20 => C_towpathlaw01_Book_growEvent b_ w20 (fun w21 => C_towpathlaw01_Book_growAnswer b_ w21 (fun w22 => C_towpathlaw01_Book_lookByte b_ w22 (fun (v48 : Bool) w23 => (v48 = true → (C_towpathlaw01_Book_lookInt b_ w23 (fun (v51 : Bool) w24 => (v51 = true → (C_towpathlaw01_Book_lookText b_ w24 (fun (v55 : Bool) w25 => (v55 = true → (C_towpathlaw01_Book_lookWrite b_ w25 (fun (v59 : Bool) w26 => (v59 = true → (C_towpathlaw01_Book_lookEntry b_ w26 (fun (v63 : Bool) w27 => (v63 = true → (C_towpathlaw01_Book_lookVersion b_ w27 (fun (v67 : Bool) w28 => (v67 = true → (C_towpathlaw01_Book_lookTxn b_ w28 (fun (v71 : Bool) w29 => (v71 = true → (C_towpathlaw01_Book_lookHeld b_ w29 (fun (v75 : Bool) w30 => (v75 = true → (C_towpathlaw01_Book_lookHeldList b_ w30 (fun (v79 : Bool) w31 => (v79 = true → (C_towpathlaw01_Book_lookEvent b_ w31 (fun (v83 : Bool) w32 => (v83 = true → (C_towpathlaw01_Book_lookAnswer b_ w32 (fun (v87 : Bool) w33 => R v87 w33))) ∧
  (v83 = false → (R false w32))))) ∧
  (v79 = false → (R false w31))))) ∧
  (v75 = false → (R false w30))))) ∧
  (v71 = false → (R false w29))))) ∧
  (v67 = false → (R false w28))))) ∧
  (v63 = false → (R false w27))))) ∧
  (v59 = false → (R false w26))))) ∧
  (v55 = false → (R false w25))))) ∧
  (v51 = false → (R false w24))))) ∧
  (v48 = false → (R false w23)))))))))))))))))))))))))

def F_towpathref02_power_L0 (n_ : Int) (R : Int → World → Prop) (again_ : Int → Int → World → Prop) (p : Int) (i : Int) (w1 : World) : Prop :=
  ((decide (i < n_)) = true → (again_ (IntKind.u64.wrap (2 * p)) (IntKind.i64.wrap (i + 1)) w1)) ∧
  ((decide (i < n_)) = false → (R p w1))

def F_towpathref02_power (n_ : Int) (R : Int → World → Prop) (w : World) : Prop :=
  ∃ (I : Int → Int → World → Prop) (μ : Int → Int → World → Nat), I 1 0 w ∧
  ∀ (p : Int) (i : Int) w, I p i w → F_towpathref02_power_L0 n_ R (fun (p' : Int) (i' : Int) w' => I p' i' w' ∧ μ p' i' w' < μ p i w) p i w

def F_codec_Writer_gone (w_ : Option Addr) (R : Bool → World → Prop) (w : World) : Prop :=
  (w_.isNone = true → (R true w)) ∧
  (w_.isNone = false → (IsAt w_ ∧ (∃ (v9 : Bool), w.cell? ⟨(pblk w_), (poff w_), none⟩ = some (Value.bool v9) ∧ (R (!v9) w))))

def F_towpathref01_Zigzag (x : Int) (R : Int → World → Prop) (w : World) : Prop :=
  ((decide (x ≥ 0)) = true → (R (IntKind.u64.wrap (2 * (IntKind.u64.wrap x))) w)) ∧
  ((decide (x ≥ 0)) = false → (R (IntKind.u64.wrap ((IntKind.u64.wrap (2 * (IntKind.u64.wrap (IntKind.i64.wrap ((-1) - x))))) + 1)) w))

def F_num_Zigzag (x : Int) (R : Int → World → Prop) (w : World) : Prop :=
  R (bxor .u64 (IntKind.u64.wrap ((IntKind.u64.wrap x) * 2 ^ 1)) (IntKind.u64.wrap (Int.fdiv x (2 ^ 63)))) w

def F_towpathlaw01_Book_keepByte (b_ : Option Addr) (l_ : Slc) (R : World → Prop) (w : World) : Prop :=
  IsAt b_ ∧ (∃ (v7 : Int), w.cell? ⟨(pblk b_), (poff b_), none⟩ = some (Value.int .i64 v7) ∧ (Writable w (pblk b_) (poff b_) 1 ∧ (∀ w1, w1 = World.puts (pblk b_) (poff b_) [Value.int .i64 (IntKind.i64.wrap (v7 + 1))] w → (∀ w2, (∃ k, w2 = w1.drewN k) → (IsAt b_ ∧ (∃ (v15 : Slc), w2.cell? ⟨(pblk b_), (poff b_) + 1, none⟩ = some (Value.slice v15.ptr v15.len v15.cap) ∧ (IsAt b_ ∧ (∃ (v20 : Int), w2.cell? ⟨(pblk b_), (poff b_), none⟩ = some (Value.int .i64 v20) ∧ (∀ b_1 w3, b_1 = w2.heap.size → w3 = w2.alloc (Obj.cells ([Value.slice l_.ptr l_.len l_.cap, Value.slice none 0 0, Value.int .i64 v20]).toArray ty_towpathlaw01_heldByte (0, 0)) → (w3.cell? ⟨(pblk b_), (poff b_) + 1, none⟩ = some (Value.slice v15.ptr v15.len v15.cap) ∧ (∃ src, SrcAt w3 (Slc.mk (some ⟨b_1, 0, none⟩) 1 1) 3 src ∧ AppendW 3 56 ty_towpathlaw01_heldByte [Value.slice none 0 0, Value.slice none 0 0, Value.int .i64 0] v15 src 1 w3 (fun v23 w4 => (IsAt b_ ∧ (Writable w4 (pblk b_) ((poff b_) + 1) 1 ∧ (∀ w5, w5 = World.puts (pblk b_) ((poff b_) + 1) [Value.slice v23.ptr v23.len v23.cap] w4 → ((R w5)))))))))))))))))

def F_slices_Clone_byte_byte (s : Slc) (R : Slc → World → Prop) (w : World) : Prop :=
  (s.ptr.isNone = true → (R (Slc.mk none 0 0) w)) ∧
  (s.ptr.isNone = false → (∀ b_ w1, b_ = w.heap.size → w1 = w.alloc (Obj.cells ([]).toArray ty_uint8 (0, 0)) → (∃ src, SrcAt w1 s 1 src ∧ AppendW 1 1 ty_uint8 [Value.int .u8 0] (Slc.mk (some ⟨b_, 0, none⟩) 0 0) src s.len w1 (fun v7 w2 => R v7 w2))))

def F_towpathlaw01_Book_fillByte_L1 (i : Int) (again_ : Int → World → Prop) (b_1 : Nat) (again_1 : Int → World → Prop) (k : Int) (w4 : World) : Prop :=
  ∃ (v23 : Slc), w4.cell? ⟨b_1, 0, none⟩ = some (Value.slice v23.ptr v23.len v23.cap) ∧ (((decide (k < ((v23.len : Nat) : Int))) = true → (∀ w5, (∃ k, w5 = w4.drewN k) → (∃ (v29 : Slc), w5.cell? ⟨b_1, 0, none⟩ = some (Value.slice v29.ptr v29.len v29.cap) ∧ (∃ (v32 : Int), w5.cell? ⟨b_1, 2, none⟩ = some (Value.int .i64 v32) ∧ (C_towpathlaw01_markByte v32 w5 (fun (v33 : Int) w6 => w6.cell? ⟨b_1, 0, none⟩ = some (Value.slice v29.ptr v29.len v29.cap) ∧ (IsAt v29.ptr ∧ (0 ≤ k ∧ k < ((v29.len : Nat) : Int) ∧ (Writable w6 (pblk v29.ptr) ((poff v29.ptr) + k.toNat) 1 ∧ (∀ w7, w7 = World.puts (pblk v29.ptr) ((poff v29.ptr) + k.toNat) [Value.int .u8 v33] w6 → ((again_1 (IntKind.i64.wrap (k + 1)) w7)))))))))))) ∧
  ((decide (k < ((v23.len : Nat) : Int))) = false → (again_ (IntKind.i64.wrap (i + 1)) w4)))

def F_towpathlaw01_Book_fillByte_L0 (b_ : Option Addr) (R : World → Prop) (again_ : Int → World → Prop) (i : Int) (w1 : World) : Prop :=
  IsAt b_ ∧ (∃ (v9 : Slc), w1.cell? ⟨(pblk b_), (poff b_) + 1, none⟩ = some (Value.slice v9.ptr v9.len v9.cap) ∧ (((decide (i < ((v9.len : Nat) : Int))) = true → (IsAt b_ ∧ (∃ (v17 : Slc), w1.cell? ⟨(pblk b_), (poff b_) + 1, none⟩ = some (Value.slice v17.ptr v17.len v17.cap) ∧ (IsAt v17.ptr ∧ (0 ≤ i ∧ i < ((v17.len : Nat) : Int) ∧ (∃ (v20 : T_towpathlaw01_heldByte), CellsAt w1 (pblk v17.ptr) ((poff v17.ptr) + i.toNat * 3) [Value.slice v20.l.ptr v20.l.len v20.l.cap, Value.slice v20.long.ptr v20.long.len v20.long.cap, Value.int .i64 v20.n] ∧ (∀ b_1 w2, b_1 = w1.heap.size → w2 = w1.alloc (Obj.cells ([Value.slice none 0 0, Value.slice none 0 0, Value.int .i64 0]).toArray ty_towpathlaw01_heldByte (0, 0)) → (Writable w2 b_1 0 3 ∧ (∀ w3, w3 = World.puts b_1 0 [Value.slice v20.l.ptr v20.l.len v20.l.cap, Value.slice v20.long.ptr v20.long.len v20.long.cap, Value.int .i64 v20.n] w2 → (∃ (I : Int → World → Prop) (μ : Int → World → Nat), I 0 w3 ∧
  ∀ (k : Int) w, I k w → F_towpathlaw01_Book_fillByte_L1 i again_ b_1 (fun (k' : Int) w' => I k' w' ∧ μ k' w' < μ k w) k w)))))))))) ∧
  ((decide (i < ((v9.len : Nat) : Int))) = false → (R w1))))

def F_towpathlaw01_Book_fillByte (b_ : Option Addr) (R : World → Prop) (w : World) : Prop :=
  ∃ (I : Int → World → Prop) (μ : Int → World → Nat), I 0 w ∧
  ∀ (i : Int) w, I i w → F_towpathlaw01_Book_fillByte_L0 b_ R (fun (i' : Int) w' => I i' w' ∧ μ i' w' < μ i w) i w

def F_towpathlaw01_Book_fillInt_L0 (b_ : Option Addr) (R : World → Prop) (again_ : Int → World → Prop) (i : Int) (w1 : World) : Prop :=
  IsAt b_ ∧ (∃ (v9 : Slc), w1.cell? ⟨(pblk b_), (poff b_) + 2, none⟩ = some (Value.slice v9.ptr v9.len v9.cap) ∧ (((decide (i < ((v9.len : Nat) : Int))) = true → (False)) ∧
  ((decide (i < ((v9.len : Nat) : Int))) = false → (R w1))))

def F_towpathlaw01_Book_fillInt (b_ : Option Addr) (R : World → Prop) (w : World) : Prop :=
  ∃ (I : Int → World → Prop) (μ : Int → World → Nat), I 0 w ∧
  ∀ (i : Int) w, I i w → F_towpathlaw01_Book_fillInt_L0 b_ R (fun (i' : Int) w' => I i' w' ∧ μ i' w' < μ i w) i w

def F_towpathlaw01_Book_fillText_L0 (b_ : Option Addr) (R : World → Prop) (again_ : Int → World → Prop) (i : Int) (w1 : World) : Prop :=
  IsAt b_ ∧ (∃ (v9 : Slc), w1.cell? ⟨(pblk b_), (poff b_) + 3, none⟩ = some (Value.slice v9.ptr v9.len v9.cap) ∧ (((decide (i < ((v9.len : Nat) : Int))) = true → (False)) ∧
  ((decide (i < ((v9.len : Nat) : Int))) = false → (R w1))))

def F_towpathlaw01_Book_fillText (b_ : Option Addr) (R : World → Prop) (w : World) : Prop :=
  ∃ (I : Int → World → Prop) (μ : Int → World → Nat), I 0 w ∧
  ∀ (i : Int) w, I i w → F_towpathlaw01_Book_fillText_L0 b_ R (fun (i' : Int) w' => I i' w' ∧ μ i' w' < μ i w) i w

def F_towpathlaw01_Book_fillWrite_L0 (b_ : Option Addr) (R : World → Prop) (again_ : Int → World → Prop) (i : Int) (w1 : World) : Prop :=
  IsAt b_ ∧ (∃ (v9 : Slc), w1.cell? ⟨(pblk b_), (poff b_) + 4, none⟩ = some (Value.slice v9.ptr v9.len v9.cap) ∧ (((decide (i < ((v9.len : Nat) : Int))) = true → (False)) ∧
  ((decide (i < ((v9.len : Nat) : Int))) = false → (R w1))))

def F_towpathlaw01_Book_fillWrite (b_ : Option Addr) (R : World → Prop) (w : World) : Prop :=
  ∃ (I : Int → World → Prop) (μ : Int → World → Nat), I 0 w ∧
  ∀ (i : Int) w, I i w → F_towpathlaw01_Book_fillWrite_L0 b_ R (fun (i' : Int) w' => I i' w' ∧ μ i' w' < μ i w) i w

def F_towpathlaw01_Book_fillEntry_L0 (b_ : Option Addr) (R : World → Prop) (again_ : Int → World → Prop) (i : Int) (w1 : World) : Prop :=
  IsAt b_ ∧ (∃ (v9 : Slc), w1.cell? ⟨(pblk b_), (poff b_) + 5, none⟩ = some (Value.slice v9.ptr v9.len v9.cap) ∧ (((decide (i < ((v9.len : Nat) : Int))) = true → (False)) ∧
  ((decide (i < ((v9.len : Nat) : Int))) = false → (R w1))))

def F_towpathlaw01_Book_fillEntry (b_ : Option Addr) (R : World → Prop) (w : World) : Prop :=
  ∃ (I : Int → World → Prop) (μ : Int → World → Nat), I 0 w ∧
  ∀ (i : Int) w, I i w → F_towpathlaw01_Book_fillEntry_L0 b_ R (fun (i' : Int) w' => I i' w' ∧ μ i' w' < μ i w) i w

def F_towpathlaw01_Book_fillVersion_L0 (b_ : Option Addr) (R : World → Prop) (again_ : Int → World → Prop) (i : Int) (w1 : World) : Prop :=
  IsAt b_ ∧ (∃ (v9 : Slc), w1.cell? ⟨(pblk b_), (poff b_) + 6, none⟩ = some (Value.slice v9.ptr v9.len v9.cap) ∧ (((decide (i < ((v9.len : Nat) : Int))) = true → (False)) ∧
  ((decide (i < ((v9.len : Nat) : Int))) = false → (R w1))))

def F_towpathlaw01_Book_fillVersion (b_ : Option Addr) (R : World → Prop) (w : World) : Prop :=
  ∃ (I : Int → World → Prop) (μ : Int → World → Nat), I 0 w ∧
  ∀ (i : Int) w, I i w → F_towpathlaw01_Book_fillVersion_L0 b_ R (fun (i' : Int) w' => I i' w' ∧ μ i' w' < μ i w) i w

def F_towpathlaw01_Book_fillTxn_L0 (b_ : Option Addr) (R : World → Prop) (again_ : Int → World → Prop) (i : Int) (w1 : World) : Prop :=
  IsAt b_ ∧ (∃ (v9 : Slc), w1.cell? ⟨(pblk b_), (poff b_) + 7, none⟩ = some (Value.slice v9.ptr v9.len v9.cap) ∧ (((decide (i < ((v9.len : Nat) : Int))) = true → (False)) ∧
  ((decide (i < ((v9.len : Nat) : Int))) = false → (R w1))))

def F_towpathlaw01_Book_fillTxn (b_ : Option Addr) (R : World → Prop) (w : World) : Prop :=
  ∃ (I : Int → World → Prop) (μ : Int → World → Nat), I 0 w ∧
  ∀ (i : Int) w, I i w → F_towpathlaw01_Book_fillTxn_L0 b_ R (fun (i' : Int) w' => I i' w' ∧ μ i' w' < μ i w) i w

def F_towpathlaw01_Book_fillHeld_L0 (b_ : Option Addr) (R : World → Prop) (again_ : Int → World → Prop) (i : Int) (w1 : World) : Prop :=
  IsAt b_ ∧ (∃ (v9 : Slc), w1.cell? ⟨(pblk b_), (poff b_) + 8, none⟩ = some (Value.slice v9.ptr v9.len v9.cap) ∧ (((decide (i < ((v9.len : Nat) : Int))) = true → (False)) ∧
  ((decide (i < ((v9.len : Nat) : Int))) = false → (R w1))))

def F_towpathlaw01_Book_fillHeld (b_ : Option Addr) (R : World → Prop) (w : World) : Prop :=
  ∃ (I : Int → World → Prop) (μ : Int → World → Nat), I 0 w ∧
  ∀ (i : Int) w, I i w → F_towpathlaw01_Book_fillHeld_L0 b_ R (fun (i' : Int) w' => I i' w' ∧ μ i' w' < μ i w) i w

def F_towpathlaw01_Book_fillHeldList_L0 (b_ : Option Addr) (R : World → Prop) (again_ : Int → World → Prop) (i : Int) (w1 : World) : Prop :=
  IsAt b_ ∧ (∃ (v9 : Slc), w1.cell? ⟨(pblk b_), (poff b_) + 9, none⟩ = some (Value.slice v9.ptr v9.len v9.cap) ∧ (((decide (i < ((v9.len : Nat) : Int))) = true → (False)) ∧
  ((decide (i < ((v9.len : Nat) : Int))) = false → (R w1))))

def F_towpathlaw01_Book_fillHeldList (b_ : Option Addr) (R : World → Prop) (w : World) : Prop :=
  ∃ (I : Int → World → Prop) (μ : Int → World → Nat), I 0 w ∧
  ∀ (i : Int) w, I i w → F_towpathlaw01_Book_fillHeldList_L0 b_ R (fun (i' : Int) w' => I i' w' ∧ μ i' w' < μ i w) i w

def F_towpathlaw01_Book_fillEvent_L0 (b_ : Option Addr) (R : World → Prop) (again_ : Int → World → Prop) (i : Int) (w1 : World) : Prop :=
  IsAt b_ ∧ (∃ (v9 : Slc), w1.cell? ⟨(pblk b_), (poff b_) + 10, none⟩ = some (Value.slice v9.ptr v9.len v9.cap) ∧ (((decide (i < ((v9.len : Nat) : Int))) = true → (False)) ∧
  ((decide (i < ((v9.len : Nat) : Int))) = false → (R w1))))

def F_towpathlaw01_Book_fillEvent (b_ : Option Addr) (R : World → Prop) (w : World) : Prop :=
  ∃ (I : Int → World → Prop) (μ : Int → World → Nat), I 0 w ∧
  ∀ (i : Int) w, I i w → F_towpathlaw01_Book_fillEvent_L0 b_ R (fun (i' : Int) w' => I i' w' ∧ μ i' w' < μ i w) i w

def F_towpathlaw01_Book_fillAnswer_L0 (b_ : Option Addr) (R : World → Prop) (again_ : Int → World → Prop) (i : Int) (w1 : World) : Prop :=
  IsAt b_ ∧ (∃ (v9 : Slc), w1.cell? ⟨(pblk b_), (poff b_) + 11, none⟩ = some (Value.slice v9.ptr v9.len v9.cap) ∧ (((decide (i < ((v9.len : Nat) : Int))) = true → (False)) ∧
  ((decide (i < ((v9.len : Nat) : Int))) = false → (R w1))))

def F_towpathlaw01_Book_fillAnswer (b_ : Option Addr) (R : World → Prop) (w : World) : Prop :=
  ∃ (I : Int → World → Prop) (μ : Int → World → Nat), I 0 w ∧
  ∀ (i : Int) w, I i w → F_towpathlaw01_Book_fillAnswer_L0 b_ R (fun (i' : Int) w' => I i' w' ∧ μ i' w' < μ i w) i w

def F_towpathlaw01_Book_growByte_L1 (b_ : Option Addr) (i : Int) (again_ : Int → World → Prop) (b_1 : Nat) (again_1 : Slc → Int → World → Prop) (long1 : Slc) (k : Int) (w4 : World) : Prop :=
  ((decide (k < 70)) = true → (∃ (v30 : Int), w4.cell? ⟨b_1, 2, none⟩ = some (Value.int .i64 v30) ∧ (C_towpathlaw01_markByte v30 w4 (fun (v31 : Int) w5 => ∀ b_2 w6, b_2 = w5.heap.size → w6 = w5.alloc (Obj.cells ([Value.int .u8 v31]).toArray ty_uint8 (0, 0)) → (∃ src, SrcAt w6 (Slc.mk (some ⟨b_2, 0, none⟩) 1 1) 1 src ∧ AppendW 1 1 ty_uint8 [Value.int .u8 0] long1 src 1 w6 (fun long2 w7 => again_1 long2 (IntKind.i64.wrap (k + 1)) w7)))))) ∧
  ((decide (k < 70)) = false → (IsAt b_ ∧ (∃ (v37 : Slc), w4.cell? ⟨(pblk b_), (poff b_) + 1, none⟩ = some (Value.slice v37.ptr v37.len v37.cap) ∧ (IsAt v37.ptr ∧ (0 ≤ i ∧ i < ((v37.len : Nat) : Int) ∧ (Writable w4 (pblk v37.ptr) (((poff v37.ptr) + i.toNat * 3) + 1) 1 ∧ (∀ w8, w8 = World.puts (pblk v37.ptr) (((poff v37.ptr) + i.toNat * 3) + 1) [Value.slice long1.ptr long1.len long1.cap] w4 → (again_ (IntKind.i64.wrap (i + 1)) w8))))))))

def F_towpathlaw01_Book_growByte_L0 (b_ : Option Addr) (R : World → Prop) (again_ : Int → World → Prop) (i : Int) (w1 : World) : Prop :=
  IsAt b_ ∧ (∃ (v10 : Slc), w1.cell? ⟨(pblk b_), (poff b_) + 1, none⟩ = some (Value.slice v10.ptr v10.len v10.cap) ∧ (((decide (i < ((v10.len : Nat) : Int))) = true → (IsAt b_ ∧ (∃ (v18 : Slc), w1.cell? ⟨(pblk b_), (poff b_) + 1, none⟩ = some (Value.slice v18.ptr v18.len v18.cap) ∧ (IsAt v18.ptr ∧ (0 ≤ i ∧ i < ((v18.len : Nat) : Int) ∧ (∃ (v21 : T_towpathlaw01_heldByte), CellsAt w1 (pblk v18.ptr) ((poff v18.ptr) + i.toNat * 3) [Value.slice v21.l.ptr v21.l.len v21.l.cap, Value.slice v21.long.ptr v21.long.len v21.long.cap, Value.int .i64 v21.n] ∧ (∀ b_1 w2, b_1 = w1.heap.size → w2 = w1.alloc (Obj.cells ([Value.slice none 0 0, Value.slice none 0 0, Value.int .i64 0]).toArray ty_towpathlaw01_heldByte (0, 0)) → (Writable w2 b_1 0 3 ∧ (∀ w3, w3 = World.puts b_1 0 [Value.slice v21.l.ptr v21.l.len v21.l.cap, Value.slice v21.long.ptr v21.long.len v21.long.cap, Value.int .i64 v21.n] w2 → (∃ (long : Slc), w3.cell? ⟨b_1, 0, none⟩ = some (Value.slice long.ptr long.len long.cap) ∧ (∃ (I : Slc → Int → World → Prop) (μ : Slc → Int → World → Nat), I long 0 w3 ∧
  ∀ (long1 : Slc) (k : Int) w, I long1 k w → F_towpathlaw01_Book_growByte_L1 b_ i again_ b_1 (fun (long1' : Slc) (k' : Int) w' => I long1' k' w' ∧ μ long1' k' w' < μ long1 k w) long1 k w))))))))))) ∧
  ((decide (i < ((v10.len : Nat) : Int))) = false → (R w1))))

def F_towpathlaw01_Book_growByte (b_ : Option Addr) (R : World → Prop) (w : World) : Prop :=
  ∃ (I : Int → World → Prop) (μ : Int → World → Nat), I 0 w ∧
  ∀ (i : Int) w, I i w → F_towpathlaw01_Book_growByte_L0 b_ R (fun (i' : Int) w' => I i' w' ∧ μ i' w' < μ i w) i w

def F_towpathlaw01_Book_growInt_L0 (b_ : Option Addr) (R : World → Prop) (again_ : Int → World → Prop) (i : Int) (w1 : World) : Prop :=
  IsAt b_ ∧ (∃ (v10 : Slc), w1.cell? ⟨(pblk b_), (poff b_) + 2, none⟩ = some (Value.slice v10.ptr v10.len v10.cap) ∧ (((decide (i < ((v10.len : Nat) : Int))) = true → (False)) ∧
  ((decide (i < ((v10.len : Nat) : Int))) = false → (R w1))))

def F_towpathlaw01_Book_growInt (b_ : Option Addr) (R : World → Prop) (w : World) : Prop :=
  ∃ (I : Int → World → Prop) (μ : Int → World → Nat), I 0 w ∧
  ∀ (i : Int) w, I i w → F_towpathlaw01_Book_growInt_L0 b_ R (fun (i' : Int) w' => I i' w' ∧ μ i' w' < μ i w) i w

def F_towpathlaw01_Book_growText_L0 (b_ : Option Addr) (R : World → Prop) (again_ : Int → World → Prop) (i : Int) (w1 : World) : Prop :=
  IsAt b_ ∧ (∃ (v10 : Slc), w1.cell? ⟨(pblk b_), (poff b_) + 3, none⟩ = some (Value.slice v10.ptr v10.len v10.cap) ∧ (((decide (i < ((v10.len : Nat) : Int))) = true → (False)) ∧
  ((decide (i < ((v10.len : Nat) : Int))) = false → (R w1))))

def F_towpathlaw01_Book_growText (b_ : Option Addr) (R : World → Prop) (w : World) : Prop :=
  ∃ (I : Int → World → Prop) (μ : Int → World → Nat), I 0 w ∧
  ∀ (i : Int) w, I i w → F_towpathlaw01_Book_growText_L0 b_ R (fun (i' : Int) w' => I i' w' ∧ μ i' w' < μ i w) i w

def F_towpathlaw01_Book_growWrite_L0 (b_ : Option Addr) (R : World → Prop) (again_ : Int → World → Prop) (i : Int) (w1 : World) : Prop :=
  IsAt b_ ∧ (∃ (v10 : Slc), w1.cell? ⟨(pblk b_), (poff b_) + 4, none⟩ = some (Value.slice v10.ptr v10.len v10.cap) ∧ (((decide (i < ((v10.len : Nat) : Int))) = true → (False)) ∧
  ((decide (i < ((v10.len : Nat) : Int))) = false → (R w1))))

def F_towpathlaw01_Book_growWrite (b_ : Option Addr) (R : World → Prop) (w : World) : Prop :=
  ∃ (I : Int → World → Prop) (μ : Int → World → Nat), I 0 w ∧
  ∀ (i : Int) w, I i w → F_towpathlaw01_Book_growWrite_L0 b_ R (fun (i' : Int) w' => I i' w' ∧ μ i' w' < μ i w) i w

def F_towpathlaw01_Book_growEntry_L0 (b_ : Option Addr) (R : World → Prop) (again_ : Int → World → Prop) (i : Int) (w1 : World) : Prop :=
  IsAt b_ ∧ (∃ (v10 : Slc), w1.cell? ⟨(pblk b_), (poff b_) + 5, none⟩ = some (Value.slice v10.ptr v10.len v10.cap) ∧ (((decide (i < ((v10.len : Nat) : Int))) = true → (False)) ∧
  ((decide (i < ((v10.len : Nat) : Int))) = false → (R w1))))

def F_towpathlaw01_Book_growEntry (b_ : Option Addr) (R : World → Prop) (w : World) : Prop :=
  ∃ (I : Int → World → Prop) (μ : Int → World → Nat), I 0 w ∧
  ∀ (i : Int) w, I i w → F_towpathlaw01_Book_growEntry_L0 b_ R (fun (i' : Int) w' => I i' w' ∧ μ i' w' < μ i w) i w

def F_towpathlaw01_Book_growVersion_L0 (b_ : Option Addr) (R : World → Prop) (again_ : Int → World → Prop) (i : Int) (w1 : World) : Prop :=
  IsAt b_ ∧ (∃ (v10 : Slc), w1.cell? ⟨(pblk b_), (poff b_) + 6, none⟩ = some (Value.slice v10.ptr v10.len v10.cap) ∧ (((decide (i < ((v10.len : Nat) : Int))) = true → (False)) ∧
  ((decide (i < ((v10.len : Nat) : Int))) = false → (R w1))))

def F_towpathlaw01_Book_growVersion (b_ : Option Addr) (R : World → Prop) (w : World) : Prop :=
  ∃ (I : Int → World → Prop) (μ : Int → World → Nat), I 0 w ∧
  ∀ (i : Int) w, I i w → F_towpathlaw01_Book_growVersion_L0 b_ R (fun (i' : Int) w' => I i' w' ∧ μ i' w' < μ i w) i w

def F_towpathlaw01_Book_growTxn_L0 (b_ : Option Addr) (R : World → Prop) (again_ : Int → World → Prop) (i : Int) (w1 : World) : Prop :=
  IsAt b_ ∧ (∃ (v10 : Slc), w1.cell? ⟨(pblk b_), (poff b_) + 7, none⟩ = some (Value.slice v10.ptr v10.len v10.cap) ∧ (((decide (i < ((v10.len : Nat) : Int))) = true → (False)) ∧
  ((decide (i < ((v10.len : Nat) : Int))) = false → (R w1))))

def F_towpathlaw01_Book_growTxn (b_ : Option Addr) (R : World → Prop) (w : World) : Prop :=
  ∃ (I : Int → World → Prop) (μ : Int → World → Nat), I 0 w ∧
  ∀ (i : Int) w, I i w → F_towpathlaw01_Book_growTxn_L0 b_ R (fun (i' : Int) w' => I i' w' ∧ μ i' w' < μ i w) i w

def F_towpathlaw01_Book_growHeld_L0 (b_ : Option Addr) (R : World → Prop) (again_ : Int → World → Prop) (i : Int) (w1 : World) : Prop :=
  IsAt b_ ∧ (∃ (v10 : Slc), w1.cell? ⟨(pblk b_), (poff b_) + 8, none⟩ = some (Value.slice v10.ptr v10.len v10.cap) ∧ (((decide (i < ((v10.len : Nat) : Int))) = true → (False)) ∧
  ((decide (i < ((v10.len : Nat) : Int))) = false → (R w1))))

def F_towpathlaw01_Book_growHeld (b_ : Option Addr) (R : World → Prop) (w : World) : Prop :=
  ∃ (I : Int → World → Prop) (μ : Int → World → Nat), I 0 w ∧
  ∀ (i : Int) w, I i w → F_towpathlaw01_Book_growHeld_L0 b_ R (fun (i' : Int) w' => I i' w' ∧ μ i' w' < μ i w) i w

def F_towpathlaw01_Book_growHeldList_L0 (b_ : Option Addr) (R : World → Prop) (again_ : Int → World → Prop) (i : Int) (w1 : World) : Prop :=
  IsAt b_ ∧ (∃ (v10 : Slc), w1.cell? ⟨(pblk b_), (poff b_) + 9, none⟩ = some (Value.slice v10.ptr v10.len v10.cap) ∧ (((decide (i < ((v10.len : Nat) : Int))) = true → (False)) ∧
  ((decide (i < ((v10.len : Nat) : Int))) = false → (R w1))))

def F_towpathlaw01_Book_growHeldList (b_ : Option Addr) (R : World → Prop) (w : World) : Prop :=
  ∃ (I : Int → World → Prop) (μ : Int → World → Nat), I 0 w ∧
  ∀ (i : Int) w, I i w → F_towpathlaw01_Book_growHeldList_L0 b_ R (fun (i' : Int) w' => I i' w' ∧ μ i' w' < μ i w) i w

def F_towpathlaw01_Book_growEvent_L0 (b_ : Option Addr) (R : World → Prop) (again_ : Int → World → Prop) (i : Int) (w1 : World) : Prop :=
  IsAt b_ ∧ (∃ (v10 : Slc), w1.cell? ⟨(pblk b_), (poff b_) + 10, none⟩ = some (Value.slice v10.ptr v10.len v10.cap) ∧ (((decide (i < ((v10.len : Nat) : Int))) = true → (False)) ∧
  ((decide (i < ((v10.len : Nat) : Int))) = false → (R w1))))

def F_towpathlaw01_Book_growEvent (b_ : Option Addr) (R : World → Prop) (w : World) : Prop :=
  ∃ (I : Int → World → Prop) (μ : Int → World → Nat), I 0 w ∧
  ∀ (i : Int) w, I i w → F_towpathlaw01_Book_growEvent_L0 b_ R (fun (i' : Int) w' => I i' w' ∧ μ i' w' < μ i w) i w

def F_towpathlaw01_Book_growAnswer_L0 (b_ : Option Addr) (R : World → Prop) (again_ : Int → World → Prop) (i : Int) (w1 : World) : Prop :=
  IsAt b_ ∧ (∃ (v10 : Slc), w1.cell? ⟨(pblk b_), (poff b_) + 11, none⟩ = some (Value.slice v10.ptr v10.len v10.cap) ∧ (((decide (i < ((v10.len : Nat) : Int))) = true → (False)) ∧
  ((decide (i < ((v10.len : Nat) : Int))) = false → (R w1))))

def F_towpathlaw01_Book_growAnswer (b_ : Option Addr) (R : World → Prop) (w : World) : Prop :=
  ∃ (I : Int → World → Prop) (μ : Int → World → Nat), I 0 w ∧
  ∀ (i : Int) w, I i w → F_towpathlaw01_Book_growAnswer_L0 b_ R (fun (i' : Int) w' => I i' w' ∧ μ i' w' < μ i w) i w

def F_towpathlaw01_Book_lookByte_k2 (R : Bool → World → Prop) (k : Int) (again_1 : Int → World → Prop) (t63 : Bool) (w5 : World) : Prop :=
  (t63 = true → (R false w5)) ∧
  (t63 = false → (again_1 (IntKind.i64.wrap (k + 1)) w5))

def F_towpathlaw01_Book_lookByte_L1 (R : Bool → World → Prop) (i : Int) (again_ : Int → World → Prop) (b_1 : Nat) (again_1 : Int → World → Prop) (k : Int) (w4 : World) : Prop :=
  ∃ (v32 : Slc), w4.cell? ⟨b_1, 1, none⟩ = some (Value.slice v32.ptr v32.len v32.cap) ∧ (((decide (k < ((v32.len : Nat) : Int))) = true → (∃ (v38 : Slc), w4.cell? ⟨b_1, 1, none⟩ = some (Value.slice v38.ptr v38.len v38.cap) ∧ (IsAt v38.ptr ∧ (0 ≤ k ∧ k < ((v38.len : Nat) : Int) ∧ (∃ (v41 : Int), w4.cell? ⟨(pblk v38.ptr), (poff v38.ptr) + k.toNat, none⟩ = some (Value.int .u8 v41) ∧ (∃ (v43 : Int), w4.cell? ⟨b_1, 2, none⟩ = some (Value.int .i64 v43) ∧ (∃ (v44 : Bool), (∀ w', Ext w4 w' → C_towpathlaw01_isByte v41 v43 w' (fun (v44' : Bool) w'' => v44' = v44 ∧ Ext w' w'')) ∧ (((!v44) = true → (∀ w7, Ext w4 w7 → (F_towpathlaw01_Book_lookByte_k2 R k again_1 true w7))) ∧
  ((!v44) = false → (∃ (v49 : Slc), w4.cell? ⟨b_1, 0, none⟩ = some (Value.slice v49.ptr v49.len v49.cap) ∧ (((decide (k < ((v49.len : Nat) : Int))) = true → (∃ (v54 : Slc), w4.cell? ⟨b_1, 0, none⟩ = some (Value.slice v54.ptr v54.len v54.cap) ∧ (IsAt v54.ptr ∧ (0 ≤ k ∧ k < ((v54.len : Nat) : Int) ∧ (∃ (v57 : Int), w4.cell? ⟨(pblk v54.ptr), (poff v54.ptr) + k.toNat, none⟩ = some (Value.int .u8 v57) ∧ (∃ (v59 : Int), w4.cell? ⟨b_1, 2, none⟩ = some (Value.int .i64 v59) ∧ (∃ (v60 : Bool), (∀ w', Ext w4 w' → C_towpathlaw01_isByte v57 v59 w' (fun (v60' : Bool) w'' => v60' = v60 ∧ Ext w' w'')) ∧ (∀ w9, Ext w4 w9 → (F_towpathlaw01_Book_lookByte_k2 R k again_1 (!v60) w9))))))))) ∧
  ((decide (k < ((v49.len : Nat) : Int))) = false → (∀ w10, Ext w4 w10 → (F_towpathlaw01_Book_lookByte_k2 R k again_1 false w10)))))))))))))) ∧
  ((decide (k < ((v32.len : Nat) : Int))) = false → (again_ (IntKind.i64.wrap (i + 1)) w4)))

def F_towpathlaw01_Book_lookByte_L0 (b_ : Option Addr) (R : Bool → World → Prop) (again_ : Int → World → Prop) (i : Int) (w1 : World) : Prop :=
  IsAt b_ ∧ (∃ (v10 : Slc), w1.cell? ⟨(pblk b_), (poff b_) + 1, none⟩ = some (Value.slice v10.ptr v10.len v10.cap) ∧ (((decide (i < ((v10.len : Nat) : Int))) = true → (IsAt b_ ∧ (∃ (v18 : Slc), w1.cell? ⟨(pblk b_), (poff b_) + 1, none⟩ = some (Value.slice v18.ptr v18.len v18.cap) ∧ (IsAt v18.ptr ∧ (0 ≤ i ∧ i < ((v18.len : Nat) : Int) ∧ (∃ (v21 : T_towpathlaw01_heldByte), CellsAt w1 (pblk v18.ptr) ((poff v18.ptr) + i.toNat * 3) [Value.slice v21.l.ptr v21.l.len v21.l.cap, Value.slice v21.long.ptr v21.long.len v21.long.cap, Value.int .i64 v21.n] ∧ (∀ b_1 w2, b_1 = w1.heap.size → w2 = w1.alloc (Obj.cells ([Value.slice none 0 0, Value.slice none 0 0, Value.int .i64 0]).toArray ty_towpathlaw01_heldByte (0, 0)) → (Writable w2 b_1 0 3 ∧ (∀ w3, w3 = World.puts b_1 0 [Value.slice v21.l.ptr v21.l.len v21.l.cap, Value.slice v21.long.ptr v21.long.len v21.long.cap, Value.int .i64 v21.n] w2 → (∃ (v23 : Slc), w3.cell? ⟨b_1, 1, none⟩ = some (Value.slice v23.ptr v23.len v23.cap) ∧ (∃ (v26 : Slc), w3.cell? ⟨b_1, 0, none⟩ = some (Value.slice v26.ptr v26.len v26.cap) ∧ (((((v23.len : Nat) : Int) != (IntKind.i64.wrap (((v26.len : Nat) : Int) + 70))) = true → (R false w3)) ∧
  ((((v23.len : Nat) : Int) != (IntKind.i64.wrap (((v26.len : Nat) : Int) + 70))) = false → (∃ (I : Int → World → Prop) (μ : Int → World → Nat), I 0 w3 ∧
  ∀ (k : Int) w, I k w → F_towpathlaw01_Book_lookByte_L1 R i again_ b_1 (fun (k' : Int) w' => I k' w' ∧ μ k' w' < μ k w) k w)))))))))))))) ∧
  ((decide (i < ((v10.len : Nat) : Int))) = false → (R true w1))))

def F_towpathlaw01_Book_lookByte (b_ : Option Addr) (R : Bool → World → Prop) (w : World) : Prop :=
  ∃ (I : Int → World → Prop) (μ : Int → World → Nat), I 0 w ∧
  ∀ (i : Int) w, I i w → F_towpathlaw01_Book_lookByte_L0 b_ R (fun (i' : Int) w' => I i' w' ∧ μ i' w' < μ i w) i w

def F_towpathlaw01_Book_lookInt_L0 (b_ : Option Addr) (R : Bool → World → Prop) (again_ : Int → World → Prop) (i : Int) (w1 : World) : Prop :=
  IsAt b_ ∧ (∃ (v10 : Slc), w1.cell? ⟨(pblk b_), (poff b_) + 2, none⟩ = some (Value.slice v10.ptr v10.len v10.cap) ∧ (((decide (i < ((v10.len : Nat) : Int))) = true → (False)) ∧
  ((decide (i < ((v10.len : Nat) : Int))) = false → (R true w1))))

def F_towpathlaw01_Book_lookInt (b_ : Option Addr) (R : Bool → World → Prop) (w : World) : Prop :=
  ∃ (I : Int → World → Prop) (μ : Int → World → Nat), I 0 w ∧
  ∀ (i : Int) w, I i w → F_towpathlaw01_Book_lookInt_L0 b_ R (fun (i' : Int) w' => I i' w' ∧ μ i' w' < μ i w) i w

def F_towpathlaw01_Book_lookText_L0 (b_ : Option Addr) (R : Bool → World → Prop) (again_ : Int → World → Prop) (i : Int) (w1 : World) : Prop :=
  IsAt b_ ∧ (∃ (v10 : Slc), w1.cell? ⟨(pblk b_), (poff b_) + 3, none⟩ = some (Value.slice v10.ptr v10.len v10.cap) ∧ (((decide (i < ((v10.len : Nat) : Int))) = true → (False)) ∧
  ((decide (i < ((v10.len : Nat) : Int))) = false → (R true w1))))

def F_towpathlaw01_Book_lookText (b_ : Option Addr) (R : Bool → World → Prop) (w : World) : Prop :=
  ∃ (I : Int → World → Prop) (μ : Int → World → Nat), I 0 w ∧
  ∀ (i : Int) w, I i w → F_towpathlaw01_Book_lookText_L0 b_ R (fun (i' : Int) w' => I i' w' ∧ μ i' w' < μ i w) i w

def F_towpathlaw01_Book_lookWrite_L0 (b_ : Option Addr) (R : Bool → World → Prop) (again_ : Int → World → Prop) (i : Int) (w1 : World) : Prop :=
  IsAt b_ ∧ (∃ (v10 : Slc), w1.cell? ⟨(pblk b_), (poff b_) + 4, none⟩ = some (Value.slice v10.ptr v10.len v10.cap) ∧ (((decide (i < ((v10.len : Nat) : Int))) = true → (False)) ∧
  ((decide (i < ((v10.len : Nat) : Int))) = false → (R true w1))))

def F_towpathlaw01_Book_lookWrite (b_ : Option Addr) (R : Bool → World → Prop) (w : World) : Prop :=
  ∃ (I : Int → World → Prop) (μ : Int → World → Nat), I 0 w ∧
  ∀ (i : Int) w, I i w → F_towpathlaw01_Book_lookWrite_L0 b_ R (fun (i' : Int) w' => I i' w' ∧ μ i' w' < μ i w) i w

def F_towpathlaw01_Book_lookEntry_L0 (b_ : Option Addr) (R : Bool → World → Prop) (again_ : Int → World → Prop) (i : Int) (w1 : World) : Prop :=
  IsAt b_ ∧ (∃ (v10 : Slc), w1.cell? ⟨(pblk b_), (poff b_) + 5, none⟩ = some (Value.slice v10.ptr v10.len v10.cap) ∧ (((decide (i < ((v10.len : Nat) : Int))) = true → (False)) ∧
  ((decide (i < ((v10.len : Nat) : Int))) = false → (R true w1))))

def F_towpathlaw01_Book_lookEntry (b_ : Option Addr) (R : Bool → World → Prop) (w : World) : Prop :=
  ∃ (I : Int → World → Prop) (μ : Int → World → Nat), I 0 w ∧
  ∀ (i : Int) w, I i w → F_towpathlaw01_Book_lookEntry_L0 b_ R (fun (i' : Int) w' => I i' w' ∧ μ i' w' < μ i w) i w

def F_towpathlaw01_Book_lookVersion_L0 (b_ : Option Addr) (R : Bool → World → Prop) (again_ : Int → World → Prop) (i : Int) (w1 : World) : Prop :=
  IsAt b_ ∧ (∃ (v10 : Slc), w1.cell? ⟨(pblk b_), (poff b_) + 6, none⟩ = some (Value.slice v10.ptr v10.len v10.cap) ∧ (((decide (i < ((v10.len : Nat) : Int))) = true → (False)) ∧
  ((decide (i < ((v10.len : Nat) : Int))) = false → (R true w1))))

def F_towpathlaw01_Book_lookVersion (b_ : Option Addr) (R : Bool → World → Prop) (w : World) : Prop :=
  ∃ (I : Int → World → Prop) (μ : Int → World → Nat), I 0 w ∧
  ∀ (i : Int) w, I i w → F_towpathlaw01_Book_lookVersion_L0 b_ R (fun (i' : Int) w' => I i' w' ∧ μ i' w' < μ i w) i w

def F_towpathlaw01_Book_lookTxn_L0 (b_ : Option Addr) (R : Bool → World → Prop) (again_ : Int → World → Prop) (i : Int) (w1 : World) : Prop :=
  IsAt b_ ∧ (∃ (v10 : Slc), w1.cell? ⟨(pblk b_), (poff b_) + 7, none⟩ = some (Value.slice v10.ptr v10.len v10.cap) ∧ (((decide (i < ((v10.len : Nat) : Int))) = true → (False)) ∧
  ((decide (i < ((v10.len : Nat) : Int))) = false → (R true w1))))

def F_towpathlaw01_Book_lookTxn (b_ : Option Addr) (R : Bool → World → Prop) (w : World) : Prop :=
  ∃ (I : Int → World → Prop) (μ : Int → World → Nat), I 0 w ∧
  ∀ (i : Int) w, I i w → F_towpathlaw01_Book_lookTxn_L0 b_ R (fun (i' : Int) w' => I i' w' ∧ μ i' w' < μ i w) i w

def F_towpathlaw01_Book_lookHeld_L0 (b_ : Option Addr) (R : Bool → World → Prop) (again_ : Int → World → Prop) (i : Int) (w1 : World) : Prop :=
  IsAt b_ ∧ (∃ (v10 : Slc), w1.cell? ⟨(pblk b_), (poff b_) + 8, none⟩ = some (Value.slice v10.ptr v10.len v10.cap) ∧ (((decide (i < ((v10.len : Nat) : Int))) = true → (False)) ∧
  ((decide (i < ((v10.len : Nat) : Int))) = false → (R true w1))))

def F_towpathlaw01_Book_lookHeld (b_ : Option Addr) (R : Bool → World → Prop) (w : World) : Prop :=
  ∃ (I : Int → World → Prop) (μ : Int → World → Nat), I 0 w ∧
  ∀ (i : Int) w, I i w → F_towpathlaw01_Book_lookHeld_L0 b_ R (fun (i' : Int) w' => I i' w' ∧ μ i' w' < μ i w) i w

def F_towpathlaw01_Book_lookHeldList_L0 (b_ : Option Addr) (R : Bool → World → Prop) (again_ : Int → World → Prop) (i : Int) (w1 : World) : Prop :=
  IsAt b_ ∧ (∃ (v10 : Slc), w1.cell? ⟨(pblk b_), (poff b_) + 9, none⟩ = some (Value.slice v10.ptr v10.len v10.cap) ∧ (((decide (i < ((v10.len : Nat) : Int))) = true → (False)) ∧
  ((decide (i < ((v10.len : Nat) : Int))) = false → (R true w1))))

def F_towpathlaw01_Book_lookHeldList (b_ : Option Addr) (R : Bool → World → Prop) (w : World) : Prop :=
  ∃ (I : Int → World → Prop) (μ : Int → World → Nat), I 0 w ∧
  ∀ (i : Int) w, I i w → F_towpathlaw01_Book_lookHeldList_L0 b_ R (fun (i' : Int) w' => I i' w' ∧ μ i' w' < μ i w) i w

def F_towpathlaw01_Book_lookEvent_L0 (b_ : Option Addr) (R : Bool → World → Prop) (again_ : Int → World → Prop) (i : Int) (w1 : World) : Prop :=
  IsAt b_ ∧ (∃ (v10 : Slc), w1.cell? ⟨(pblk b_), (poff b_) + 10, none⟩ = some (Value.slice v10.ptr v10.len v10.cap) ∧ (((decide (i < ((v10.len : Nat) : Int))) = true → (False)) ∧
  ((decide (i < ((v10.len : Nat) : Int))) = false → (R true w1))))

def F_towpathlaw01_Book_lookEvent (b_ : Option Addr) (R : Bool → World → Prop) (w : World) : Prop :=
  ∃ (I : Int → World → Prop) (μ : Int → World → Nat), I 0 w ∧
  ∀ (i : Int) w, I i w → F_towpathlaw01_Book_lookEvent_L0 b_ R (fun (i' : Int) w' => I i' w' ∧ μ i' w' < μ i w) i w

def F_towpathlaw01_Book_lookAnswer_L0 (b_ : Option Addr) (R : Bool → World → Prop) (again_ : Int → World → Prop) (i : Int) (w1 : World) : Prop :=
  IsAt b_ ∧ (∃ (v10 : Slc), w1.cell? ⟨(pblk b_), (poff b_) + 11, none⟩ = some (Value.slice v10.ptr v10.len v10.cap) ∧ (((decide (i < ((v10.len : Nat) : Int))) = true → (False)) ∧
  ((decide (i < ((v10.len : Nat) : Int))) = false → (R true w1))))

def F_towpathlaw01_Book_lookAnswer (b_ : Option Addr) (R : Bool → World → Prop) (w : World) : Prop :=
  ∃ (I : Int → World → Prop) (μ : Int → World → Nat), I 0 w ∧
  ∀ (i : Int) w, I i w → F_towpathlaw01_Book_lookAnswer_L0 b_ R (fun (i' : Int) w' => I i' w' ∧ μ i' w' < μ i w) i w

def F_towpathlaw01_markByte (n_ : Int) (R : Int → World → Prop) (w : World) : Prop :=
  R (IntKind.u8.wrap (IntKind.i64.wrap (1 + (Int.tmod n_ 255)))) w

def F_towpathlaw01_isByte (x : Int) (n_ : Int) (R : Bool → World → Prop) (w : World) : Prop :=
  R (x == (IntKind.u8.wrap (IntKind.i64.wrap (1 + (Int.tmod n_ 255))))) w

def Ok_T_towpathlaw02_Op (w : World) (x : T_towpathlaw02_Op) : Prop := (0 ≤ x.Kind ∧ x.Kind ≤ 255) ∧ (0 ≤ x.N ∧ x.N ≤ 18446744073709551615) ∧ ((-9223372036854775808) ≤ x.Width ∧ x.Width ≤ 9223372036854775807) ∧ (x.Text.size ≤ 140737488351232) ∧ ((-9223372036854775808) ≤ x.Most ∧ x.Most ≤ 9223372036854775807)

end Go.Proofs.YtckmganidgbpgaaDoor
