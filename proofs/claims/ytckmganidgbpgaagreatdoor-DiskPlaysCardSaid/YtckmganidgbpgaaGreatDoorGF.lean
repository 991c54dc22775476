/- WRITTEN BY PROGRAM (dec.py): for each Go function the clean formula F, the call's contract C, and the proof S that F gives C. -/
import Derived.Test.YtckmganidgbpgaaGreatDoorRows
import Derived.Test.YtckmganidgbpgaaGreatDoorCore
namespace Go.Proofs.YtckmganidgbpgaaGreatDoor
open Go
set_option linter.unusedVariables false


abbrev ty_uint8 : TypeId := 5

abbrev ty_towpathlaw01_Book : TypeId := 43

abbrev ty_towpathlaw04_Op : TypeId := 47

abbrev ty_disk_Disk : TypeId := 56

abbrev ty_towpathref04_Disk : TypeId := 58

abbrev ty_towpathlaw01_heldByte : TypeId := 67

structure T_towpathlaw04_Op where
  Kind : Int
  Slot : Int
  At : Int
  B : Slc
  N : Int

structure T_towpathlaw01_heldByte where
  l : Slc
  long : Slc
  n : Int

def C_towpathlaw04_DiskPlays (capacity : Int) (script : Slc) (w : World) (R : Bool → World → Prop) : Prop :=
  Calls Tryz.prog 3 #[Value.int .i64 capacity, Value.slice script.ptr script.len script.cap] w (fun e w' => ∃ (r0 : Bool), e = .returned (Value.bool r0) ∧ R r0 w')

def C_towpathlaw04_beyond (l_ : Slc) (w : World) (R : Bool → World → Prop) : Prop :=
  Calls Tryz.prog 4 #[Value.slice l_.ptr l_.len l_.cap] w (fun e w' => ∃ (r0 : Bool), e = .returned (Value.bool r0) ∧ R r0 w')

def C_disk_New (capacity : Int) (w : World) (R : Option Addr → Int → World → Prop) : Prop :=
  Calls Tryz.prog 5 #[Value.int .i64 capacity] w (fun e w' => ∃ (r0 : Option Addr) (r1 : Int), e = .returned (Value.tuple #[Value.pointer r0, Value.int .i64 r1]) ∧ R r0 r1 w')

def C_towpathref04_New (capacity : Int) (w : World) (R : Option Addr → Int → World → Prop) : Prop :=
  Calls Tryz.prog 6 #[Value.int .i64 capacity] w (fun e w' => ∃ (r0 : Option Addr) (r1 : Int), e = .returned (Value.tuple #[Value.pointer r0, Value.int .i64 r1]) ∧ R r0 r1 w')

def C_towpathlaw04_asked (d : Option Addr) (r : Option Addr) (o_ : T_towpathlaw04_Op) (w : World) (R : Bool → World → Prop) : Prop :=
  Calls Tryz.prog 7 #[Value.pointer d, Value.pointer r, Value.agg #[Value.int .u8 o_.Kind, Value.int .i64 o_.Slot, Value.int .i64 o_.At, Value.slice o_.B.ptr o_.B.len o_.B.cap, Value.int .i64 o_.N]] w (fun e w' => ∃ (r0 : Bool), e = .returned (Value.bool r0) ∧ R r0 w')

def C_towpathlaw04_looks (d : Option Addr) (r : Option Addr) (w : World) (R : Bool → World → Prop) : Prop :=
  Calls Tryz.prog 8 #[Value.pointer d, Value.pointer r] w (fun e w' => ∃ (r0 : Bool), e = .returned (Value.bool r0) ∧ R r0 w')

def C_disk_Disk_Read (d : Option Addr) (slot : Int) (w : World) (R : Slc → Int → World → Prop) : Prop :=
  Calls Tryz.prog 9 #[Value.pointer d, Value.int .i64 slot] w (fun e w' => ∃ (r0 : Slc) (r1 : Int), e = .returned (Value.tuple #[Value.slice r0.ptr r0.len r0.cap, Value.int .i64 r1]) ∧ R r0 r1 w')

def C_towpathlaw01_Book_Bytes (b_ : Option Addr) (l_ : Slc) (w : World) (R : World → Prop) : Prop :=
  Calls Tryz.prog 10 #[Value.pointer b_, Value.slice l_.ptr l_.len l_.cap] w (fun e w' => e = .returned (Value.tuple #[]) ∧ R w')

def C_towpathlaw01_Book_Apart (b_ : Option Addr) (w : World) (R : Bool → World → Prop) : Prop :=
  Calls Tryz.prog 11 #[Value.pointer b_] w (fun e w' => ∃ (r0 : Bool), e = .returned (Value.bool r0) ∧ R r0 w')

def C_towpathlaw01_TwinBytes (l_ : Slc) (w : World) (R : Slc → World → Prop) : Prop :=
  Calls Tryz.prog 12 #[Value.slice l_.ptr l_.len l_.cap] w (fun e w' => ∃ (r0 : Slc), e = .returned (Value.slice r0.ptr r0.len r0.cap) ∧ R r0 w')

def C_towpathref04_Disk_Write (d : Option Addr) (slot : Int) (at_ : Int) (b_ : Slc) (w : World) (R : Int → World → Prop) : Prop :=
  Calls Tryz.prog 13 #[Value.pointer d, Value.int .i64 slot, Value.int .i64 at_, Value.slice b_.ptr b_.len b_.cap] w (fun e w' => ∃ (r0 : Int), e = .returned (Value.int .i64 r0) ∧ R r0 w')

def C_disk_Disk_Write (d : Option Addr) (slot : Int) (at_ : Int) (b_ : Slc) (w : World) (R : Int → World → Prop) : Prop :=
  Calls Tryz.prog 14 #[Value.pointer d, Value.int .i64 slot, Value.int .i64 at_, Value.slice b_.ptr b_.len b_.cap] w (fun e w' => ∃ (r0 : Int), e = .returned (Value.int .i64 r0) ∧ R r0 w')

def C_towpathlaw01_LeftBytes (t_ : Slc) (l_ : Slc) (w : World) (R : Bool → World → Prop) : Prop :=
  Calls Tryz.prog 15 #[Value.slice t_.ptr t_.len t_.cap, Value.slice l_.ptr l_.len l_.cap] w (fun e w' => ∃ (r0 : Bool), e = .returned (Value.bool r0) ∧ R r0 w')

def C_disk_Disk_Clear (d : Option Addr) (slot : Int) (w : World) (R : Int → World → Prop) : Prop :=
  Calls Tryz.prog 16 #[Value.pointer d, Value.int .i64 slot] w (fun e w' => ∃ (r0 : Int), e = .returned (Value.int .i64 r0) ∧ R r0 w')

def C_towpathref04_Disk_Clear (d : Option Addr) (slot : Int) (w : World) (R : Int → World → Prop) : Prop :=
  Calls Tryz.prog 17 #[Value.pointer d, Value.int .i64 slot] w (fun e w' => ∃ (r0 : Int), e = .returned (Value.int .i64 r0) ∧ R r0 w')

def C_disk_Disk_Cut (d : Option Addr) (n_ : Int) (w : World) (R : Int → World → Prop) : Prop :=
  Calls Tryz.prog 18 #[Value.pointer d, Value.int .i64 n_] w (fun e w' => ∃ (r0 : Int), e = .returned (Value.int .i64 r0) ∧ R r0 w')

def C_towpathref04_Disk_Cut (d : Option Addr) (n_ : Int) (w : World) (R : Int → World → Prop) : Prop :=
  Calls Tryz.prog 19 #[Value.pointer d, Value.int .i64 n_] w (fun e w' => ∃ (r0 : Int), e = .returned (Value.int .i64 r0) ∧ R r0 w')

def C_disk_Disk_Mend (d : Option Addr) (w : World) (R : Int → World → Prop) : Prop :=
  Calls Tryz.prog 20 #[Value.pointer d] w (fun e w' => ∃ (r0 : Int), e = .returned (Value.int .i64 r0) ∧ R r0 w')

def C_towpathref04_Disk_Mend (d : Option Addr) (w : World) (R : Int → World → Prop) : Prop :=
  Calls Tryz.prog 21 #[Value.pointer d] w (fun e w' => ∃ (r0 : Int), e = .returned (Value.int .i64 r0) ∧ R r0 w')

def C_towpathref04_Disk_Read (d : Option Addr) (slot : Int) (w : World) (R : Slc → Int → World → Prop) : Prop :=
  Calls Tryz.prog 22 #[Value.pointer d, Value.int .i64 slot] w (fun e w' => ∃ (r0 : Slc) (r1 : Int), e = .returned (Value.tuple #[Value.slice r0.ptr r0.len r0.cap, Value.int .i64 r1]) ∧ R r0 r1 w')

def C_towpathlaw01_SameBytes (a_ : Slc) (b_ : Slc) (w : World) (R : Bool → World → Prop) : Prop :=
  Calls Tryz.prog 23 #[Value.slice a_.ptr a_.len a_.cap, Value.slice b_.ptr b_.len b_.cap] w (fun e w' => ∃ (r0 : Bool), e = .returned (Value.bool r0) ∧ R r0 w')

def C_disk_Disk_Dead (d : Option Addr) (w : World) (R : Bool → World → Prop) : Prop :=
  Calls Tryz.prog 24 #[Value.pointer d] w (fun e w' => ∃ (r0 : Bool), e = .returned (Value.bool r0) ∧ R r0 w')

def C_towpathref04_Disk_Dead (d : Option Addr) (w : World) (R : Bool → World → Prop) : Prop :=
  Calls Tryz.prog 25 #[Value.pointer d] w (fun e w' => ∃ (r0 : Bool), e = .returned (Value.bool r0) ∧ R r0 w')

def C_disk_Disk_Capacity (d : Option Addr) (w : World) (R : Int → World → Prop) : Prop :=
  Calls Tryz.prog 26 #[Value.pointer d] w (fun e w' => ∃ (r0 : Int), e = .returned (Value.int .i64 r0) ∧ R r0 w')

def C_towpathref04_Disk_Capacity (d : Option Addr) (w : World) (R : Int → World → Prop) : Prop :=
  Calls Tryz.prog 27 #[Value.pointer d] w (fun e w' => ∃ (r0 : Int), e = .returned (Value.int .i64 r0) ∧ R r0 w')

def C_disk_Disk_Writes (d : Option Addr) (w : World) (R : Int → World → Prop) : Prop :=
  Calls Tryz.prog 28 #[Value.pointer d] w (fun e w' => ∃ (r0 : Int), e = .returned (Value.int .i64 r0) ∧ R r0 w')

def C_towpathref04_Disk_Writes (d : Option Addr) (w : World) (R : Int → World → Prop) : Prop :=
  Calls Tryz.prog 29 #[Value.pointer d] w (fun e w' => ∃ (r0 : Int), e = .returned (Value.int .i64 r0) ∧ R r0 w')

def C_disk_Disk_look (d : Option Addr) (slot : Int) (w : World) (R : Int → World → Prop) : Prop :=
  Calls Tryz.prog 30 #[Value.pointer d, Value.int .i64 slot] w (fun e w' => ∃ (r0 : Int), e = .returned (Value.int .i64 r0) ∧ R r0 w')

def C_slices_Clone_byte_byte (s : Slc) (w : World) (R : Slc → World → Prop) : Prop :=
  Calls Tryz.prog 31 #[Value.slice s.ptr s.len s.cap] w (fun e w' => ∃ (r0 : Slc), e = .returned (Value.slice r0.ptr r0.len r0.cap) ∧ R r0 w')

def C_towpathlaw01_Book_keepByte (b_ : Option Addr) (l_ : Slc) (w : World) (R : World → Prop) : Prop :=
  Calls Tryz.prog 32 #[Value.pointer b_, Value.slice l_.ptr l_.len l_.cap] w (fun e w' => e = .returned (Value.tuple #[]) ∧ R w')

def C_towpathlaw01_Book_fillByte (b_ : Option Addr) (w : World) (R : World → Prop) : Prop :=
  Calls Tryz.prog 33 #[Value.pointer b_] w (fun e w' => e = .returned (Value.tuple #[]) ∧ R w')

def C_towpathlaw01_Book_fillInt (b_ : Option Addr) (w : World) (R : World → Prop) : Prop :=
  Calls Tryz.prog 34 #[Value.pointer b_] w (fun e w' => e = .returned (Value.tuple #[]) ∧ R w')

def C_towpathlaw01_Book_fillText (b_ : Option Addr) (w : World) (R : World → Prop) : Prop :=
  Calls Tryz.prog 35 #[Value.pointer b_] w (fun e w' => e = .returned (Value.tuple #[]) ∧ R w')

def C_towpathlaw01_Book_fillWrite (b_ : Option Addr) (w : World) (R : World → Prop) : Prop :=
  Calls Tryz.prog 36 #[Value.pointer b_] w (fun e w' => e = .returned (Value.tuple #[]) ∧ R w')

def C_towpathlaw01_Book_fillEntry (b_ : Option Addr) (w : World) (R : World → Prop) : Prop :=
  Calls Tryz.prog 37 #[Value.pointer b_] w (fun e w' => e = .returned (Value.tuple #[]) ∧ R w')

def C_towpathlaw01_Book_fillVersion (b_ : Option Addr) (w : World) (R : World → Prop) : Prop :=
  Calls Tryz.prog 38 #[Value.pointer b_] w (fun e w' => e = .returned (Value.tuple #[]) ∧ R w')

def C_towpathlaw01_Book_fillTxn (b_ : Option Addr) (w : World) (R : World → Prop) : Prop :=
  Calls Tryz.prog 39 #[Value.pointer b_] w (fun e w' => e = .returned (Value.tuple #[]) ∧ R w')

def C_towpathlaw01_Book_fillHeld (b_ : Option Addr) (w : World) (R : World → Prop) : Prop :=
  Calls Tryz.prog 40 #[Value.pointer b_] w (fun e w' => e = .returned (Value.tuple #[]) ∧ R w')

def C_towpathlaw01_Book_fillHeldList (b_ : Option Addr) (w : World) (R : World → Prop) : Prop :=
  Calls Tryz.prog 41 #[Value.pointer b_] w (fun e w' => e = .returned (Value.tuple #[]) ∧ R w')

def C_towpathlaw01_Book_fillEvent (b_ : Option Addr) (w : World) (R : World → Prop) : Prop :=
  Calls Tryz.prog 42 #[Value.pointer b_] w (fun e w' => e = .returned (Value.tuple #[]) ∧ R w')

def C_towpathlaw01_Book_fillAnswer (b_ : Option Addr) (w : World) (R : World → Prop) : Prop :=
  Calls Tryz.prog 43 #[Value.pointer b_] w (fun e w' => e = .returned (Value.tuple #[]) ∧ R w')

def C_towpathlaw01_Book_growByte (b_ : Option Addr) (w : World) (R : World → Prop) : Prop :=
  Calls Tryz.prog 44 #[Value.pointer b_] w (fun e w' => e = .returned (Value.tuple #[]) ∧ R w')

def C_towpathlaw01_Book_growInt (b_ : Option Addr) (w : World) (R : World → Prop) : Prop :=
  Calls Tryz.prog 45 #[Value.pointer b_] w (fun e w' => e = .returned (Value.tuple #[]) ∧ R w')

def C_towpathlaw01_Book_growText (b_ : Option Addr) (w : World) (R : World → Prop) : Prop :=
  Calls Tryz.prog 46 #[Value.pointer b_] w (fun e w' => e = .returned (Value.tuple #[]) ∧ R w')

def C_towpathlaw01_Book_growWrite (b_ : Option Addr) (w : World) (R : World → Prop) : Prop :=
  Calls Tryz.prog 47 #[Value.pointer b_] w (fun e w' => e = .returned (Value.tuple #[]) ∧ R w')

def C_towpathlaw01_Book_growEntry (b_ : Option Addr) (w : World) (R : World → Prop) : Prop :=
  Calls Tryz.prog 48 #[Value.pointer b_] w (fun e w' => e = .returned (Value.tuple #[]) ∧ R w')

def C_towpathlaw01_Book_growVersion (b_ : Option Addr) (w : World) (R : World → Prop) : Prop :=
  Calls Tryz.prog 49 #[Value.pointer b_] w (fun e w' => e = .returned (Value.tuple #[]) ∧ R w')

def C_towpathlaw01_Book_growTxn (b_ : Option Addr) (w : World) (R : World → Prop) : Prop :=
  Calls Tryz.prog 50 #[Value.pointer b_] w (fun e w' => e = .returned (Value.tuple #[]) ∧ R w')

def C_towpathlaw01_Book_growHeld (b_ : Option Addr) (w : World) (R : World → Prop) : Prop :=
  Calls Tryz.prog 51 #[Value.pointer b_] w (fun e w' => e = .returned (Value.tuple #[]) ∧ R w')

def C_towpathlaw01_Book_growHeldList (b_ : Option Addr) (w : World) (R : World → Prop) : Prop :=
  Calls Tryz.prog 52 #[Value.pointer b_] w (fun e w' => e = .returned (Value.tuple #[]) ∧ R w')

def C_towpathlaw01_Book_growEvent (b_ : Option Addr) (w : World) (R : World → Prop) : Prop :=
  Calls Tryz.prog 53 #[Value.pointer b_] w (fun e w' => e = .returned (Value.tuple #[]) ∧ R w')

def C_towpathlaw01_Book_growAnswer (b_ : Option Addr) (w : World) (R : World → Prop) : Prop :=
  Calls Tryz.prog 54 #[Value.pointer b_] w (fun e w' => e = .returned (Value.tuple #[]) ∧ R w')

def C_towpathlaw01_Book_lookByte (b_ : Option Addr) (w : World) (R : Bool → World → Prop) : Prop :=
  Calls Tryz.prog 55 #[Value.pointer b_] w (fun e w' => ∃ (r0 : Bool), e = .returned (Value.bool r0) ∧ R r0 w')

def C_towpathlaw01_Book_lookInt (b_ : Option Addr) (w : World) (R : Bool → World → Prop) : Prop :=
  Calls Tryz.prog 56 #[Value.pointer b_] w (fun e w' => ∃ (r0 : Bool), e = .returned (Value.bool r0) ∧ R r0 w')

def C_towpathlaw01_Book_lookText (b_ : Option Addr) (w : World) (R : Bool → World → Prop) : Prop :=
  Calls Tryz.prog 57 #[Value.pointer b_] w (fun e w' => ∃ (r0 : Bool), e = .returned (Value.bool r0) ∧ R r0 w')

def C_towpathlaw01_Book_lookWrite (b_ : Option Addr) (w : World) (R : Bool → World → Prop) : Prop :=
  Calls Tryz.prog 58 #[Value.pointer b_] w (fun e w' => ∃ (r0 : Bool), e = .returned (Value.bool r0) ∧ R r0 w')

def C_towpathlaw01_Book_lookEntry (b_ : Option Addr) (w : World) (R : Bool → World → Prop) : Prop :=
  Calls Tryz.prog 59 #[Value.pointer b_] w (fun e w' => ∃ (r0 : Bool), e = .returned (Value.bool r0) ∧ R r0 w')

def C_towpathlaw01_Book_lookVersion (b_ : Option Addr) (w : World) (R : Bool → World → Prop) : Prop :=
  Calls Tryz.prog 60 #[Value.pointer b_] w (fun e w' => ∃ (r0 : Bool), e = .returned (Value.bool r0) ∧ R r0 w')

def C_towpathlaw01_Book_lookTxn (b_ : Option Addr) (w : World) (R : Bool → World → Prop) : Prop :=
  Calls Tryz.prog 61 #[Value.pointer b_] w (fun e w' => ∃ (r0 : Bool), e = .returned (Value.bool r0) ∧ R r0 w')

def C_towpathlaw01_Book_lookHeld (b_ : Option Addr) (w : World) (R : Bool → World → Prop) : Prop :=
  Calls Tryz.prog 62 #[Value.pointer b_] w (fun e w' => ∃ (r0 : Bool), e = .returned (Value.bool r0) ∧ R r0 w')

def C_towpathlaw01_Book_lookHeldList (b_ : Option Addr) (w : World) (R : Bool → World → Prop) : Prop :=
  Calls Tryz.prog 63 #[Value.pointer b_] w (fun e w' => ∃ (r0 : Bool), e = .returned (Value.bool r0) ∧ R r0 w')

def C_towpathlaw01_Book_lookEvent (b_ : Option Addr) (w : World) (R : Bool → World → Prop) : Prop :=
  Calls Tryz.prog 64 #[Value.pointer b_] w (fun e w' => ∃ (r0 : Bool), e = .returned (Value.bool r0) ∧ R r0 w')

def C_towpathlaw01_Book_lookAnswer (b_ : Option Addr) (w : World) (R : Bool → World → Prop) : Prop :=
  Calls Tryz.prog 65 #[Value.pointer b_] w (fun e w' => ∃ (r0 : Bool), e = .returned (Value.bool r0) ∧ R r0 w')

def C_towpathref04_Disk_raw (d : Option Addr) (w : World) (R : Int → World → Prop) : Prop :=
  Calls Tryz.prog 66 #[Value.pointer d] w (fun e w' => ∃ (r0 : Int), e = .returned (Value.int .i64 r0) ∧ R r0 w')

def C_disk_Disk_raw (d : Option Addr) (w : World) (R : Int → World → Prop) : Prop :=
  Calls Tryz.prog 67 #[Value.pointer d] w (fun e w' => ∃ (r0 : Int), e = .returned (Value.int .i64 r0) ∧ R r0 w')

def C_towpathlaw01_markByte (n_ : Int) (w : World) (R : Int → World → Prop) : Prop :=
  Calls Tryz.prog 68 #[Value.int .i64 n_] w (fun e w' => ∃ (r0 : Int), e = .returned (Value.int .u8 r0) ∧ R r0 w')

def C_towpathlaw01_isByte (x : Int) (n_ : Int) (w : World) (R : Bool → World → Prop) : Prop :=
  Calls Tryz.prog 79 #[Value.int .u8 x, Value.int .i64 n_] w (fun e w' => ∃ (r0 : Bool), e = .returned (Value.bool r0) ∧ R r0 w')

def F_towpathlaw04_DiskPlays_k2 (i : Int) (again_ : Int → World → Prop) (w8 : World) : Prop :=
  again_ (IntKind.i64.wrap (i + 1)) w8

def F_towpathlaw04_DiskPlays_k3 (script : Slc) (R : Bool → World → Prop) (d : Option Addr) (b_ : Nat) (i : Int) (again_ : Int → World → Prop) (t55 : Bool) (w9 : World) : Prop :=
  (t55 = true → (R false w9)) ∧
  (t55 = false → (((decide (i < 30)) = true → (IsAt script.ptr ∧ (0 ≤ i ∧ i < ((script.len : Nat) : Int) ∧ (∃ (v64 : Int), w9.cell? ⟨(pblk script.ptr), ((poff script.ptr) + i.toNat * 5) + 1, none⟩ = some (Value.int .i64 v64) ∧ (C_disk_Disk_Read d v64 w9 (fun (b_1 : Slc) (v65_1 : Int) w10 => C_towpathlaw01_Book_Bytes (some ⟨b_, 0, none⟩) b_1 w10 (fun w11 => F_towpathlaw04_DiskPlays_k2 i again_ w11))))))) ∧
  ((decide (i < 30)) = false → (F_towpathlaw04_DiskPlays_k2 i again_ w9))))

def F_towpathlaw04_DiskPlays_L1 (script : Slc) (R : Bool → World → Prop) (d : Option Addr) (r : Option Addr) (b_ : Nat) (again_ : Int → World → Prop) (i : Int) (w7 : World) : Prop :=
  ((decide (i < ((script.len : Nat) : Int))) = true → (IsAt script.ptr ∧ (0 ≤ i ∧ i < ((script.len : Nat) : Int) ∧ (∃ (v47 : T_towpathlaw04_Op), CellsAt w7 (pblk script.ptr) ((poff script.ptr) + i.toNat * 5) [Value.int .u8 v47.Kind, Value.int .i64 v47.Slot, Value.int .i64 v47.At, Value.slice v47.B.ptr v47.B.len v47.B.cap, Value.int .i64 v47.N] ∧ (C_towpathlaw04_asked d r v47 w7 (fun (v48 : Bool) w12 => ((!v48) = true → (F_towpathlaw04_DiskPlays_k3 script R d b_ i again_ true w12)) ∧
  ((!v48) = false → (C_towpathlaw04_looks d r w12 (fun (v53 : Bool) w13 => F_towpathlaw04_DiskPlays_k3 script R d b_ i again_ (!v53) w13))))))))) ∧
  ((decide (i < ((script.len : Nat) : Int))) = false → (C_towpathlaw01_Book_Apart (some ⟨b_, 0, none⟩) w7 (fun (v70 : Bool) w14 => (v70 = true → (C_towpathlaw04_asked d r (T_towpathlaw04_Op.mk 3 0 0 (Slc.mk none 0 0) 0) w14 (fun (v75 : Bool) w15 => (v75 = true → (C_towpathlaw04_asked d r (T_towpathlaw04_Op.mk 3 1 0 (Slc.mk none 0 0) 0) w15 (fun (v81 : Bool) w16 => R v81 w16))) ∧
  (v75 = false → (R false w15))))) ∧
  (v70 = false → (R false w14)))))

def F_towpathlaw04_DiskPlays_k0 (script : Slc) (R : Bool → World → Prop) (d : Option Addr) (r : Option Addr) (t34 : Bool) (w4 : World) : Prop :=
  (t34 = true → (R false w4)) ∧
  (t34 = false → (∀ b_ w5, b_ = w4.heap.size → w5 = w4.alloc (Obj.cells ([Value.int .i64 0, Value.slice none 0 0, Value.slice none 0 0, Value.slice none 0 0, Value.slice none 0 0, Value.slice none 0 0, Value.slice none 0 0, Value.slice none 0 0, Value.slice none 0 0, Value.slice none 0 0, Value.slice none 0 0, Value.slice none 0 0]).toArray ty_towpathlaw01_Book (0, 0)) → (Writable w5 b_ 0 12 ∧ (∀ w6, w6 = World.puts b_ 0 [Value.int .i64 0, Value.slice none 0 0, Value.slice none 0 0, Value.slice none 0 0, Value.slice none 0 0, Value.slice none 0 0, Value.slice none 0 0, Value.slice none 0 0, Value.slice none 0 0, Value.slice none 0 0, Value.slice none 0 0, Value.slice none 0 0] w5 → (∃ (I : Int → World → Prop) (μ : Int → World → Nat), I 0 w6 ∧
  ∀ (i : Int) w, I i w → F_towpathlaw04_DiskPlays_L1 script R d r b_ (fun (i' : Int) w' => I i' w' ∧ μ i' w' < μ i w) i w)))))

def F_towpathlaw04_DiskPlays (capacity : Int) (script : Slc) (R : Bool → World → Prop) (w : World) : Prop :=
  C_towpathlaw04_beyond script w (fun (v14 : Bool) w1 => (v14 = true → (R true w1)) ∧
  (v14 = false → (C_disk_New capacity w1 (fun (d : Option Addr) (e : Int) w2 => C_towpathref04_New capacity w2 (fun (r : Option Addr) (f : Int) w3 => ((e != f) = true → (F_towpathlaw04_DiskPlays_k0 script R d r true w3)) ∧
  ((e != f) = false → (F_towpathlaw04_DiskPlays_k0 script R d r (!(d.isNone == r.isNone)) w3)))))))

def F_towpathlaw04_beyond_L0 (l_ : Slc) (R : Bool → World → Prop) (again_ : Int → Int → World → Prop) (n_ : Int) (i : Int) (w1 : World) : Prop :=
  ((decide (i < ((l_.len : Nat) : Int))) = true → (IsAt l_.ptr ∧ (0 ≤ i ∧ i < ((l_.len : Nat) : Int) ∧ (∃ (v17 : Slc), w1.cell? ⟨(pblk l_.ptr), ((poff l_.ptr) + i.toNat * 5) + 3, none⟩ = some (Value.slice v17.ptr v17.len v17.cap) ∧ (((decide ((IntKind.i64.wrap ((IntKind.i64.wrap (n_ + 1)) + ((v17.len : Nat) : Int))) > 1048576)) = true → (R true w1)) ∧
  ((decide ((IntKind.i64.wrap ((IntKind.i64.wrap (n_ + 1)) + ((v17.len : Nat) : Int))) > 1048576)) = false → (again_ (IntKind.i64.wrap ((IntKind.i64.wrap (n_ + 1)) + ((v17.len : Nat) : Int))) (IntKind.i64.wrap (i + 1)) w1))))))) ∧
  ((decide (i < ((l_.len : Nat) : Int))) = false → (R false w1))

def F_towpathlaw04_beyond (l_ : Slc) (R : Bool → World → Prop) (w : World) : Prop :=
  ∃ (I : Int → Int → World → Prop) (μ : Int → Int → World → Nat), I 0 0 w ∧
  ∀ (n_ : Int) (i : Int) w, I n_ i w → F_towpathlaw04_beyond_L0 l_ R (fun (n_' : Int) (i' : Int) w' => I n_' i' w' ∧ μ n_' i' w' < μ n_ i w) n_ i w

def F_disk_New (capacity : Int) (R : Option Addr → Int → World → Prop) (w : World) : Prop :=
  (((decide (capacity < 0)) || (decide (capacity > 16777216))) = true → (R none 1 w)) ∧
  (((decide (capacity < 0)) || (decide (capacity > 16777216))) = false → (∀ b_ w1, b_ = w.heap.size → w1 = w.alloc (Obj.cells ([Value.bool true, Value.int .i64 capacity, Value.slice none 0 0, Value.slice none 0 0, Value.int .i64 (-1), Value.bool false, Value.int .i64 0]).toArray ty_disk_Disk (0, 0)) → (R (some ⟨b_, 0, none⟩) 0 w1)))

def F_towpathref04_New (capacity : Int) (R : Option Addr → Int → World → Prop) (w : World) : Prop :=
  (((decide (capacity < 0)) || (decide (capacity > 16777216))) = true → (R none 1 w)) ∧
  (((decide (capacity < 0)) || (decide (capacity > 16777216))) = false → (∀ b_ w1, b_ = w.heap.size → w1 = w.alloc (Obj.cells ([Value.int .i64 capacity, Value.slice none 0 0, Value.slice none 0 0, Value.int .i64 (-1), Value.bool false, Value.int .i64 0]).toArray ty_towpathref04_Disk (0, 0)) → (R (some ⟨b_, 0, none⟩) 0 w1)))

def F_towpathlaw04_asked_L0 (R : Bool → World → Prop) (v22 : Slc) (v30 : Int) (v37 : Int) (v41 : Bool) (again_ : Int → World → Prop) (i : Int) (w6 : World) : Prop :=
  ((decide (i < ((v22.len : Nat) : Int))) = true → (IsAt v22.ptr ∧ (0 ≤ i ∧ i < ((v22.len : Nat) : Int) ∧ (Writable w6 (pblk v22.ptr) ((poff v22.ptr) + i.toNat) 1 ∧ (∀ w7, w7 = World.puts (pblk v22.ptr) ((poff v22.ptr) + i.toNat) [Value.int .u8 238] w6 → (again_ (IntKind.i64.wrap (i + 1)) w7)))))) ∧
  ((decide (i < ((v22.len : Nat) : Int))) = false → (R ((v37 == v30) && v41) w6))

def F_towpathlaw04_asked (d : Option Addr) (r : Option Addr) (o_ : T_towpathlaw04_Op) (R : Bool → World → Prop) (w : World) : Prop :=
  ∀ b_ w1, b_ = w.heap.size → w1 = w.alloc (Obj.cells ([Value.int .u8 o_.Kind, Value.int .i64 o_.Slot, Value.int .i64 o_.At, Value.slice o_.B.ptr o_.B.len o_.B.cap, Value.int .i64 o_.N]).toArray ty_towpathlaw04_Op (0, 0)) → (∃ (v17 : Int), w1.cell? ⟨b_, 0, none⟩ = some (Value.int .u8 v17) ∧ (((v17 == 1) = true → (∃ (v21 : Slc), w1.cell? ⟨b_, 3, none⟩ = some (Value.slice v21.ptr v21.len v21.cap) ∧ (C_towpathlaw01_TwinBytes v21 w1 (fun (v22 : Slc) w2 => ∃ (v25 : Int), w2.cell? ⟨b_, 1, none⟩ = some (Value.int .i64 v25) ∧ (∃ (v27 : Int), w2.cell? ⟨b_, 2, none⟩ = some (Value.int .i64 v27) ∧ (∃ (v29 : Slc), w2.cell? ⟨b_, 3, none⟩ = some (Value.slice v29.ptr v29.len v29.cap) ∧ (C_towpathref04_Disk_Write r v25 v27 v29 w2 (fun (v30 : Int) w3 => ∃ (v33 : Int), w3.cell? ⟨b_, 1, none⟩ = some (Value.int .i64 v33) ∧ (∃ (v35 : Int), w3.cell? ⟨b_, 2, none⟩ = some (Value.int .i64 v35) ∧ (C_disk_Disk_Write d v33 v35 v22 w3 (fun (v37 : Int) w4 => ∃ (v40 : Slc), w4.cell? ⟨b_, 3, none⟩ = some (Value.slice v40.ptr v40.len v40.cap) ∧ (C_towpathlaw01_LeftBytes v22 v40 w4 (fun (v41 : Bool) w5 => ∃ (I : Int → World → Prop) (μ : Int → World → Nat), I 0 w5 ∧
  ∀ (i : Int) w, I i w → F_towpathlaw04_asked_L0 R v22 v30 v37 v41 (fun (i' : Int) w' => I i' w' ∧ μ i' w' < μ i w) i w))))))))))))) ∧
  ((v17 == 1) = false → (((v17 == 2) = true → (∀ w8, (∃ k, w8 = w1.drewN k) → (∃ (v61 : Int), w8.cell? ⟨b_, 1, none⟩ = some (Value.int .i64 v61) ∧ (∃ (v65 : Int), w8.cell? ⟨b_, 1, none⟩ = some (Value.int .i64 v65) ∧ (C_disk_Disk_Clear d v61 w8 (fun (v62 : Int) w9 => w9.cell? ⟨b_, 1, none⟩ = some (Value.int .i64 v65) ∧ (C_towpathref04_Disk_Clear r v65 w9 (fun (v66 : Int) w10 => (R (v62 == v66) w10))))))))) ∧
  ((v17 == 2) = false → (((v17 == 4) = true → (∀ w11, (∃ k, w11 = w1.drewN k) → (∃ (v72 : Int), w11.cell? ⟨b_, 4, none⟩ = some (Value.int .i64 v72) ∧ (∃ (v76 : Int), w11.cell? ⟨b_, 4, none⟩ = some (Value.int .i64 v76) ∧ (C_disk_Disk_Cut d v72 w11 (fun (v73 : Int) w12 => w12.cell? ⟨b_, 4, none⟩ = some (Value.int .i64 v76) ∧ (C_towpathref04_Disk_Cut r v76 w12 (fun (v77 : Int) w13 => (R (v73 == v77) w13))))))))) ∧
  ((v17 == 4) = false → (((v17 == 5) = true → (C_disk_Disk_Mend d w1 (fun (v82 : Int) w14 => C_towpathref04_Disk_Mend r w14 (fun (v84 : Int) w15 => R (v82 == v84) w15)))) ∧
  ((v17 == 5) = false → (∃ (v89 : Int), w1.cell? ⟨b_, 1, none⟩ = some (Value.int .i64 v89) ∧ (C_disk_Disk_Read d v89 w1 (fun (b_1 : Slc) (e : Int) w16 => ∃ (v96 : Int), w16.cell? ⟨b_, 1, none⟩ = some (Value.int .i64 v96) ∧ (C_towpathref04_Disk_Read r v96 w16 (fun (want : Slc) (f : Int) w17 => ((e == f) = true → (C_towpathlaw01_SameBytes b_1 want w17 (fun (v106 : Bool) w18 => R v106 w18))) ∧
  ((e == f) = false → (R false w17))))))))))))))))

def F_towpathlaw04_looks (d : Option Addr) (r : Option Addr) (R : Bool → World → Prop) (w : World) : Prop :=
  C_disk_Disk_Dead d w (fun (v6 : Bool) w1 => C_towpathref04_Disk_Dead r w1 (fun (v8 : Bool) w2 => ((v6 == v8) = true → (C_disk_Disk_Capacity d w2 (fun (v12 : Int) w3 => C_towpathref04_Disk_Capacity r w3 (fun (v14 : Int) w4 => ((v12 == v14) = true → (C_disk_Disk_Writes d w4 (fun (v19 : Int) w5 => C_towpathref04_Disk_Writes r w5 (fun (v21 : Int) w6 => R (v19 == v21) w6)))) ∧
  ((v12 == v14) = false → (R false w4)))))) ∧
  ((v6 == v8) = false → (R false w2))))

def F_disk_Disk_Read (d : Option Addr) (slot : Int) (R : Slc → Int → World → Prop) (w : World) : Prop :=
  C_disk_Disk_look d slot w (fun (v9 : Int) w1 => ((v9 != 0) = true → (R (Slc.mk none 0 0) v9 w1)) ∧
  ((v9 != 0) = false → (IsAt d ∧ (0 ≤ slot ∧ slot < (2 : Int) ∧ (∃ (v18 : Slc), w1.cell? ⟨(pblk d), ((poff d) + 2) + slot.toNat, none⟩ = some (Value.slice v18.ptr v18.len v18.cap) ∧ (C_slices_Clone_byte_byte v18 w1 (fun (v19 : Slc) w2 => R v19 0 w2)))))))

def F_towpathlaw01_Book_Bytes (b_ : Option Addr) (l_ : Slc) (R : World → Prop) (w : World) : Prop :=
  C_towpathlaw01_Book_keepByte b_ l_ w (fun w1 => R w1)

def F_towpathlaw01_Book_Apart (b_ : Option Addr) (R : Bool → World → Prop) (w : World) : Prop :=
  C_towpathlaw01_Book_fillByte b_ w (fun w1 => C_towpathlaw01_Book_fillInt b_ w1 (fun w2 => C_towpathlaw01_Book_fillText b_ w2 (fun w3 => C_towpathlaw01_Book_fillWrite b_ w3 (fun w4 => C_towpathlaw01_Book_fillEntry b_ w4 (fun w5 => C_towpathlaw01_Book_fillVersion b_ w5 (fun w6 => C_towpathlaw01_Book_fillTxn b_ w6 (fun w7 => C_towpathlaw01_Book_fillHeld b_ w7 (fun w8 => C_towpathlaw01_Book_fillHeldList b_ w8 (fun w9 => C_towpathlaw01_Book_fillEvent b_ w9 (fun w10 => C_towpathlaw01_Book_fillAnswer b_ w10 (fun w11 => C_towpathlaw01_Book_growByte b_ w11 (fun w12 => C_towpathlaw01_Book_growInt b_ w12 (fun w13 => C_towpathlaw01_Book_growText b_ w13 (fun w14 => C_towpathlaw01_Book_growWrite b_ w14 (fun w15 => C_towpathlaw01_Book_growEntry b_ w15 (fun w16 => C_towpathlaw01_Book_growVersion b_ w16 (fun w17 => C_towpathlaw01_Book_growTxn b_ w17 (fun w18 => C_towpathlaw01_Book_growHeld b_ w18 (fun w19 => C_towpathlaw01_Book_growHeldList b_ w19 (fun w20 => C_towpathlaw01_Book_growEvent b_ w20 (fun w21 => C_towpathlaw01_Book_growAnswer b_ w21 (fun w22 => C_towpathlaw01_Book_lookByte b_ w22 (fun (v48 : Bool) w23 => (v48 = true → (C_towpathlaw01_Book_lookInt b_ w23 (fun (v51 : Bool) w24 => (v51 = true → (C_towpathlaw01_Book_lookText b_ w24 (fun (v55 : Bool) w25 => (v55 = true → (C_towpathlaw01_Book_lookWrite b_ w25 (fun (v59 : Bool) w26 => (v59 = true → (C_towpathlaw01_Book_lookEntry b_ w26 (fun (v63 : Bool) w27 => (v63 = true → (C_towpathlaw01_Book_lookVersion b_ w27 (fun (v67 : Bool) w28 => (v67 = true → (C_towpathlaw01_Book_lookTxn b_ w28 (fun (v71 : Bool) w29 => (v71 = true → (C_towpathlaw01_Book_lookHeld b_ w29 (fun (v75 : Bool) w30 => (v75 = true → (C_towpathlaw01_Book_lookHeldList b_ w30 (fun (v79 : Bool) w31 => (v79 = true → (C_towpathlaw01_Book_lookEvent b_ w31 (fun (v83 : Bool) w32 => (v83 = true → (C_towpathlaw01_Book_lookAnswer b_ w32 (fun (v87 : Bool) w33 => R v87 w33))) ∧
  (v83 = false → (R false w32))))) ∧
  (v79 = false → (R false w31))))) ∧
  (v75 = false → (R false w30))))) ∧
  (v71 = false → (R false w29))))) ∧
  (v67 = false → (R false w28))))) ∧
  (v63 = false → (R false w27))))) ∧
  (v59 = false → (R false w26))))) ∧
  (v55 = false → (R false w25))))) ∧
  (v51 = false → (R false w24))))) ∧
  (v48 = false → (R false w23)))))))))))))))))))))))))

def F_towpathlaw01_TwinBytes_L0 (l_ : Slc) (R : Slc → World → Prop) (again_ : Slc → Int → World → Prop) (t_ : Slc) (i : Int) (w2 : World) : Prop :=
  ((decide (i < ((l_.len : Nat) : Int))) = true → (IsAt l_.ptr ∧ (0 ≤ i ∧ i < ((l_.len : Nat) : Int) ∧ (∃ (v19 : Int), w2.cell? ⟨(pblk l_.ptr), (poff l_.ptr) + i.toNat, none⟩ = some (Value.int .u8 v19) ∧ (∀ b_1 w3, b_1 = w2.heap.size → w3 = w2.alloc (Obj.cells ([Value.int .u8 v19]).toArray ty_uint8 (0, 0)) → (∃ src, SrcAt w3 (Slc.mk (some ⟨b_1, 0, none⟩) 1 1) 1 src ∧ AppendW 1 1 ty_uint8 [Value.int .u8 0] t_ src 1 w3 (fun t_1 w4 => again_ t_1 (IntKind.i64.wrap (i + 1)) w4))))))) ∧
  ((decide (i < ((l_.len : Nat) : Int))) = false → (∀ b_2 w5, b_2 = w2.heap.size → w5 = w2.alloc (Obj.cells ([Value.int .u8 77]).toArray ty_uint8 (0, 0)) → (∃ src, SrcAt w5 (Slc.mk (some ⟨b_2, 0, none⟩) 1 1) 1 src ∧ AppendW 1 1 ty_uint8 [Value.int .u8 0] t_ src 1 w5 (fun v24 w6 => 0 ≤ ((l_.len : Nat) : Int) ∧ ((l_.len : Nat) : Int) ≤ ((v24.cap : Nat) : Int) ∧ (R (Slc.mk v24.ptr (((l_.len : Nat) : Int).toNat) v24.cap) w6)))))

def F_towpathlaw01_TwinBytes (l_ : Slc) (R : Slc → World → Prop) (w : World) : Prop :=
  0 ≤ (0 : Int) ∧ (0 : Int) ≤ IntKind.i64.wrap (((l_.len : Nat) : Int) + 1) ∧ (1 : Int) * (IntKind.i64.wrap (((l_.len : Nat) : Int) + 1)) ≤ 281474976710656 ∧ (∀ b_ w1, b_ = w.heap.size → w1 = w.alloc (Obj.cells (repCells ((IntKind.i64.wrap (((l_.len : Nat) : Int) + 1)).toNat) [Value.int .u8 0]) ty_uint8 (0, 0)) → (∃ (I : Slc → Int → World → Prop) (μ : Slc → Int → World → Nat), I (Slc.mk (some ⟨b_, 0, none⟩) 0 ((IntKind.i64.wrap (((l_.len : Nat) : Int) + 1)).toNat)) 0 w1 ∧
  ∀ (t_ : Slc) (i : Int) w, I t_ i w → F_towpathlaw01_TwinBytes_L0 l_ R (fun (t_' : Slc) (i' : Int) w' => I t_' i' w' ∧ μ t_' i' w' < μ t_ i w) t_ i w))

def F_towpathref04_Disk_Write_k0 (d : Option Addr) (slot : Int) (R : Int → World → Prop) (l_2 : Slc) (w4 : World) : Prop :=
  IsAt d ∧ (0 ≤ slot ∧ slot < (2 : Int) ∧ (Writable w4 (pblk d) (((poff d) + 1) + slot.toNat) 1 ∧ (∀ w5, w5 = World.puts (pblk d) (((poff d) + 1) + slot.toNat) [Value.slice l_2.ptr l_2.len l_2.cap] w4 → (R 0 w5))))

def F_towpathref04_Disk_Write (d : Option Addr) (slot : Int) (at_ : Int) (b_ : Slc) (R : Int → World → Prop) (w : World) : Prop :=
  (d.isNone = true → (R 2 w)) ∧
  (d.isNone = false → ((((((slot != 0) && (slot != 1)) || (decide (at_ < 0))) || (decide (((b_.len : Nat) : Int) > 64))) = true → (R 1 w)) ∧
  (((((slot != 0) && (slot != 1)) || (decide (at_ < 0))) || (decide (((b_.len : Nat) : Int) > 64))) = false → (IsAt d ∧ (0 ≤ slot ∧ slot < (2 : Int) ∧ (∃ (old : Slc), w.cell? ⟨(pblk d), ((poff d) + 1) + slot.toNat, none⟩ = some (Value.slice old.ptr old.len old.cap) ∧ (((decide (at_ > ((old.len : Nat) : Int))) = true → (R 6 w)) ∧
  ((decide (at_ > ((old.len : Nat) : Int))) = false → (IsAt d ∧ (∃ (v46 : Int), w.cell? ⟨(pblk d), (poff d), none⟩ = some (Value.int .i64 v46) ∧ (((decide ((IntKind.i64.wrap (at_ + ((b_.len : Nat) : Int))) > v46)) = true → (R 13 w)) ∧
  ((decide ((IntKind.i64.wrap (at_ + ((b_.len : Nat) : Int))) > v46)) = false → (C_towpathref04_Disk_raw d w (fun (v49 : Int) w1 => ((v49 != 0) = true → (R v49 w1)) ∧
  ((v49 != 0) = false → (0 ≤ at_ ∧ at_ ≤ ((old.cap : Nat) : Int) ∧ (∃ src, SrcAt w1 (Slc.mk old.ptr at_.toNat old.cap) 1 src ∧ AppendW 1 1 ty_uint8 [Value.int .u8 0] (Slc.mk none 0 0) src at_.toNat w1 (fun l_ w2 => ∃ src, SrcAt w2 b_ 1 src ∧ AppendW 1 1 ty_uint8 [Value.int .u8 0] l_ src b_.len w2 (fun l_1 w3 => ((decide ((IntKind.i64.wrap (at_ + ((b_.len : Nat) : Int))) < ((old.len : Nat) : Int))) = true → ((0 ≤ IntKind.i64.wrap (at_ + ((b_.len : Nat) : Int)) ∧ IntKind.i64.wrap (at_ + ((b_.len : Nat) : Int)) ≤ ((old.len : Nat) : Int) ∧ ((old.len : Nat) : Int) ≤ ((old.cap : Nat) : Int) ∧ ((old.cap : Nat) : Int) ≤ ((old.cap : Nat) : Int)) ∧ (∀ s, s = Slc.cut 1 old (IntKind.i64.wrap (at_ + ((b_.len : Nat) : Int))) ((old.len : Nat) : Int) ((old.cap : Nat) : Int) → (∃ src, SrcAt w3 s 1 src ∧ AppendW 1 1 ty_uint8 [Value.int .u8 0] l_1 src s.len w3 (fun l_3 w6 => F_towpathref04_Disk_Write_k0 d slot R l_3 w6))))) ∧
  ((decide ((IntKind.i64.wrap (at_ + ((b_.len : Nat) : Int))) < ((old.len : Nat) : Int))) = false → (F_towpathref04_Disk_Write_k0 d slot R l_1 w3)))))))))))))))))))))

def F_disk_Disk_Write_k0 (d : Option Addr) (slot : Int) (at_ : Int) (b_ : Slc) (R : Int → World → Prop) (w3 : World) : Prop :=
  IsAt d ∧ (0 ≤ slot ∧ slot < (2 : Int) ∧ (∃ (v90 : Slc), w3.cell? ⟨(pblk d), ((poff d) + 2) + slot.toNat, none⟩ = some (Value.slice v90.ptr v90.len v90.cap) ∧ ((0 ≤ at_ ∧ at_ ≤ ((v90.len : Nat) : Int) ∧ ((v90.len : Nat) : Int) ≤ ((v90.cap : Nat) : Int) ∧ ((v90.cap : Nat) : Int) ≤ ((v90.cap : Nat) : Int)) ∧ (∀ s, s = Slc.cut 1 v90 at_ ((v90.len : Nat) : Int) ((v90.cap : Nat) : Int) → (∃ src, SrcAtN w3 b_ (min b_.len s.len) 1 src ∧ CopyW s src w3 (fun w4 => R 0 w4))))))

def F_disk_Disk_Write (d : Option Addr) (slot : Int) (at_ : Int) (b_ : Slc) (R : Int → World → Prop) (w : World) : Prop :=
  C_disk_Disk_look d slot w (fun (v14 : Int) w1 => ((v14 != 0) = true → (R v14 w1)) ∧
  ((v14 != 0) = false → ((((decide (at_ < 0)) || (decide (((b_.len : Nat) : Int) > 64))) = true → (R 1 w1)) ∧
  (((decide (at_ < 0)) || (decide (((b_.len : Nat) : Int) > 64))) = false → (IsAt d ∧ (0 ≤ slot ∧ slot < (2 : Int) ∧ (∃ (v33 : Slc), w1.cell? ⟨(pblk d), ((poff d) + 2) + slot.toNat, none⟩ = some (Value.slice v33.ptr v33.len v33.cap) ∧ (((decide (at_ > ((v33.len : Nat) : Int))) = true → (R 6 w1)) ∧
  ((decide (at_ > ((v33.len : Nat) : Int))) = false → (IsAt d ∧ (∃ (v41 : Int), w1.cell? ⟨(pblk d), (poff d) + 1, none⟩ = some (Value.int .i64 v41) ∧ (((decide (at_ > (IntKind.i64.wrap (v41 - ((b_.len : Nat) : Int))))) = true → (R 13 w1)) ∧
  ((decide (at_ > (IntKind.i64.wrap (v41 - ((b_.len : Nat) : Int))))) = false → (C_disk_Disk_raw d w1 (fun (v47 : Int) w2 => ((v47 != 0) = true → (R v47 w2)) ∧
  ((v47 != 0) = false → (IsAt d ∧ (0 ≤ slot ∧ slot < (2 : Int) ∧ (∃ (v61 : Slc), w2.cell? ⟨(pblk d), ((poff d) + 2) + slot.toNat, none⟩ = some (Value.slice v61.ptr v61.len v61.cap) ∧ (((decide ((IntKind.i64.wrap (at_ + ((b_.len : Nat) : Int))) > ((v61.len : Nat) : Int))) = true → (∀ w5, (∃ k, w5 = w2.drewN k) → (IsAt d ∧ (0 ≤ slot ∧ slot < (2 : Int) ∧ (∃ (v71 : Slc), w5.cell? ⟨(pblk d), ((poff d) + 2) + slot.toNat, none⟩ = some (Value.slice v71.ptr v71.len v71.cap) ∧ (IsAt d ∧ (0 ≤ slot ∧ slot < (2 : Int) ∧ (∃ (v78 : Slc), w5.cell? ⟨(pblk d), ((poff d) + 2) + slot.toNat, none⟩ = some (Value.slice v78.ptr v78.len v78.cap) ∧ (IsAt d ∧ (0 ≤ IntKind.i64.wrap ((IntKind.i64.wrap (at_ + ((b_.len : Nat) : Int))) - ((v78.len : Nat) : Int)) ∧ IntKind.i64.wrap ((IntKind.i64.wrap (at_ + ((b_.len : Nat) : Int))) - ((v78.len : Nat) : Int)) * (1 : Int) ≤ 281474976710656 ∧ AppendW 1 1 ty_uint8 [Value.int .u8 0] v71 (repCells ((IntKind.i64.wrap ((IntKind.i64.wrap (at_ + ((b_.len : Nat) : Int))) - ((v78.len : Nat) : Int))).toNat) [Value.int .u8 0]).toList ((IntKind.i64.wrap ((IntKind.i64.wrap (at_ + ((b_.len : Nat) : Int))) - ((v78.len : Nat) : Int))).toNat) w5 (fun v81 w6 => (0 ≤ slot ∧ slot < (2 : Int) ∧ (Writable w6 (pblk d) (((poff d) + 2) + slot.toNat) 1 ∧ (∀ w7, w7 = World.puts (pblk d) (((poff d) + 2) + slot.toNat) [Value.slice v81.ptr v81.len v81.cap] w6 → ((F_disk_Disk_Write_k0 d slot at_ b_ R w7)))))))))))))))) ∧
  ((decide ((IntKind.i64.wrap (at_ + ((b_.len : Nat) : Int))) > ((v61.len : Nat) : Int))) = false → (F_disk_Disk_Write_k0 d slot at_ b_ R w2))))))))))))))))))))))

def F_towpathlaw01_LeftBytes_L0 (t_ : Slc) (l_ : Slc) (R : Bool → World → Prop) (again_ : Int → World → Prop) (i : Int) (w1 : World) : Prop :=
  ((decide (i < ((l_.len : Nat) : Int))) = true → (IsAt t_.ptr ∧ (0 ≤ i ∧ i < ((t_.len : Nat) : Int) ∧ (∃ (v28 : Int), w1.cell? ⟨(pblk t_.ptr), (poff t_.ptr) + i.toNat, none⟩ = some (Value.int .u8 v28) ∧ (IsAt l_.ptr ∧ (0 ≤ i ∧ i < ((l_.len : Nat) : Int) ∧ (∃ (v32 : Int), w1.cell? ⟨(pblk l_.ptr), (poff l_.ptr) + i.toNat, none⟩ = some (Value.int .u8 v32) ∧ (∀ w2, Ext w1 w2 → (((v28 != v32) = true → (R false w2)) ∧
  ((v28 != v32) = false → (again_ (IntKind.i64.wrap (i + 1)) w2))))))))))) ∧
  ((decide (i < ((l_.len : Nat) : Int))) = false → (0 ≤ IntKind.i64.wrap (((l_.len : Nat) : Int) + 1) ∧ IntKind.i64.wrap (((l_.len : Nat) : Int) + 1) ≤ ((t_.cap : Nat) : Int) ∧ (IsAt t_.ptr ∧ (0 ≤ ((l_.len : Nat) : Int) ∧ ((l_.len : Nat) : Int) < (((IntKind.i64.wrap (((l_.len : Nat) : Int) + 1)).toNat : Nat) : Int) ∧ (∃ (x : Int), w1.cell? ⟨(pblk t_.ptr), (poff t_.ptr) + ((l_.len : Nat) : Int).toNat, none⟩ = some (Value.int .u8 x) ∧ (R (x == 77) w1))))))

def F_towpathlaw01_LeftBytes (t_ : Slc) (l_ : Slc) (R : Bool → World → Prop) (w : World) : Prop :=
  (((((t_.len : Nat) : Int) != ((l_.len : Nat) : Int)) || (decide (((t_.cap : Nat) : Int) ≤ ((l_.len : Nat) : Int)))) = true → (R false w)) ∧
  (((((t_.len : Nat) : Int) != ((l_.len : Nat) : Int)) || (decide (((t_.cap : Nat) : Int) ≤ ((l_.len : Nat) : Int)))) = false → (∃ (I : Int → World → Prop) (μ : Int → World → Nat), I 0 w ∧
  ∀ (i : Int) w, I i w → F_towpathlaw01_LeftBytes_L0 t_ l_ R (fun (i' : Int) w' => I i' w' ∧ μ i' w' < μ i w) i w))

def F_disk_Disk_Clear (d : Option Addr) (slot : Int) (R : Int → World → Prop) (w : World) : Prop :=
  C_disk_Disk_look d slot w (fun (v9 : Int) w1 => ((v9 != 0) = true → (R v9 w1)) ∧
  ((v9 != 0) = false → (C_disk_Disk_raw d w1 (fun (v14 : Int) w2 => ((v14 != 0) = true → (R v14 w2)) ∧
  ((v14 != 0) = false → (IsAt d ∧ (0 ≤ slot ∧ slot < (2 : Int) ∧ (Writable w2 (pblk d) (((poff d) + 2) + slot.toNat) 1 ∧ (∀ w3, w3 = World.puts (pblk d) (((poff d) + 2) + slot.toNat) [Value.slice none 0 0] w2 → (R 0 w3))))))))))

def F_towpathref04_Disk_Clear_k0 (R : Int → World → Prop) (v15 : Int) (w2 : World) : Prop :=
  R v15 w2

def F_towpathref04_Disk_Clear (d : Option Addr) (slot : Int) (R : Int → World → Prop) (w : World) : Prop :=
  (d.isNone = true → (R 2 w)) ∧
  (d.isNone = false → ((((slot != 0) && (slot != 1)) = true → (R 1 w)) ∧
  (((slot != 0) && (slot != 1)) = false → (C_towpathref04_Disk_raw d w (fun (v15 : Int) w1 => ((v15 == 0) = true → (IsAt d ∧ (0 ≤ slot ∧ slot < (2 : Int) ∧ (Writable w1 (pblk d) (((poff d) + 1) + slot.toNat) 1 ∧ (∀ w3, w3 = World.puts (pblk d) (((poff d) + 1) + slot.toNat) [Value.slice none 0 0] w1 → (F_towpathref04_Disk_Clear_k0 R v15 w3)))))) ∧
  ((v15 == 0) = false → (F_towpathref04_Disk_Clear_k0 R v15 w1)))))))

def F_disk_Disk_Cut (d : Option Addr) (n_ : Int) (R : Int → World → Prop) (w : World) : Prop :=
  C_disk_Disk_look d 0 w (fun (v7 : Int) w1 => ((v7 != 0) = true → (R v7 w1)) ∧
  ((v7 != 0) = false → (IsAt d ∧ (∃ (v14 : Bool), w1.cell? ⟨(pblk d), (poff d) + 5, none⟩ = some (Value.bool v14) ∧ ((v14 = true → (R 11 w1)) ∧
  (v14 = false → (IsAt d ∧ (Writable w1 (pblk d) ((poff d) + 4) 1 ∧ (∀ w2, w2 = World.puts (pblk d) ((poff d) + 4) [Value.int .i64 (if (-1) > n_ then (-1) else n_)] w1 → (R 0 w2))))))))))

def F_towpathref04_Disk_Cut_k0 (R : Int → World → Prop) (w2 : World) : Prop :=
  R 0 w2

def F_towpathref04_Disk_Cut (d : Option Addr) (n_ : Int) (R : Int → World → Prop) (w : World) : Prop :=
  (d.isNone = true → (R 2 w)) ∧
  (d.isNone = false → (IsAt d ∧ (∃ (v10 : Bool), w.cell? ⟨(pblk d), (poff d) + 4, none⟩ = some (Value.bool v10) ∧ ((v10 = true → (R 11 w)) ∧
  (v10 = false → (IsAt d ∧ (Writable w (pblk d) ((poff d) + 3) 1 ∧ (∀ w1, w1 = World.puts (pblk d) ((poff d) + 3) [Value.int .i64 n_] w → (((decide (n_ < 0)) = true → (IsAt d ∧ (Writable w1 (pblk d) ((poff d) + 3) 1 ∧ (∀ w3, w3 = World.puts (pblk d) ((poff d) + 3) [Value.int .i64 (-1)] w1 → (F_towpathref04_Disk_Cut_k0 R w3))))) ∧
  ((decide (n_ < 0)) = false → (F_towpathref04_Disk_Cut_k0 R w1)))))))))))

def F_disk_Disk_Mend (d : Option Addr) (R : Int → World → Prop) (w : World) : Prop :=
  C_disk_Disk_look d 0 w (fun (v5 : Int) w1 => ((v5 != 0) = true → (R v5 w1)) ∧
  ((v5 != 0) = false → (IsAt d ∧ (Writable w1 (pblk d) ((poff d) + 5) 1 ∧ (∀ w2, w2 = World.puts (pblk d) ((poff d) + 5) [Value.bool false] w1 → (IsAt d ∧ (Writable w2 (pblk d) ((poff d) + 4) 1 ∧ (∀ w3, w3 = World.puts (pblk d) ((poff d) + 4) [Value.int .i64 (-1)] w2 → (R 0 w3)))))))))

def F_towpathref04_Disk_Mend (d : Option Addr) (R : Int → World → Prop) (w : World) : Prop :=
  (d.isNone = true → (R 2 w)) ∧
  (d.isNone = false → (IsAt d ∧ (Writable w (pblk d) ((poff d) + 4) 1 ∧ (∀ w1, w1 = World.puts (pblk d) ((poff d) + 4) [Value.bool false] w → (IsAt d ∧ (Writable w1 (pblk d) ((poff d) + 3) 1 ∧ (∀ w2, w2 = World.puts (pblk d) ((poff d) + 3) [Value.int .i64 (-1)] w1 → (R 0 w2))))))))

def F_towpathref04_Disk_Read (d : Option Addr) (slot : Int) (R : Slc → Int → World → Prop) (w : World) : Prop :=
  (d.isNone = true → (R (Slc.mk none 0 0) 2 w)) ∧
  (d.isNone = false → ((((slot != 0) && (slot != 1)) = true → (R (Slc.mk none 0 0) 1 w)) ∧
  (((slot != 0) && (slot != 1)) = false → (IsAt d ∧ (0 ≤ slot ∧ slot < (2 : Int) ∧ (∃ (v19 : Slc), w.cell? ⟨(pblk d), ((poff d) + 1) + slot.toNat, none⟩ = some (Value.slice v19.ptr v19.len v19.cap) ∧ (R v19 0 w)))))))

def F_towpathlaw01_SameBytes_L0 (a_ : Slc) (b_ : Slc) (R : Bool → World → Prop) (again_ : Int → World → Prop) (i : Int) (w1 : World) : Prop :=
  ((decide (i < ((a_.len : Nat) : Int))) = true → (IsAt a_.ptr ∧ (0 ≤ i ∧ i < ((a_.len : Nat) : Int) ∧ (∃ (v20 : Int), w1.cell? ⟨(pblk a_.ptr), (poff a_.ptr) + i.toNat, none⟩ = some (Value.int .u8 v20) ∧ (IsAt b_.ptr ∧ (0 ≤ i ∧ i < ((b_.len : Nat) : Int) ∧ (∃ (v24 : Int), w1.cell? ⟨(pblk b_.ptr), (poff b_.ptr) + i.toNat, none⟩ = some (Value.int .u8 v24) ∧ (∀ w2, Ext w1 w2 → (((v20 != v24) = true → (R false w2)) ∧
  ((v20 != v24) = false → (again_ (IntKind.i64.wrap (i + 1)) w2))))))))))) ∧
  ((decide (i < ((a_.len : Nat) : Int))) = false → (R true w1))

def F_towpathlaw01_SameBytes (a_ : Slc) (b_ : Slc) (R : Bool → World → Prop) (w : World) : Prop :=
  ((((a_.len : Nat) : Int) != ((b_.len : Nat) : Int)) = true → (R false w)) ∧
  ((((a_.len : Nat) : Int) != ((b_.len : Nat) : Int)) = false → (∃ (I : Int → World → Prop) (μ : Int → World → Nat), I 0 w ∧
  ∀ (i : Int) w, I i w → F_towpathlaw01_SameBytes_L0 a_ b_ R (fun (i' : Int) w' => I i' w' ∧ μ i' w' < μ i w) i w))

def F_disk_Disk_Dead (d : Option Addr) (R : Bool → World → Prop) (w : World) : Prop :=
  ((!d.isNone) = true → (IsAt d ∧ (∃ (v9 : Bool), w.cell? ⟨(pblk d), (poff d) + 5, none⟩ = some (Value.bool v9) ∧ (R v9 w)))) ∧
  ((!d.isNone) = false → (R false w))

def F_towpathref04_Disk_Dead (d : Option Addr) (R : Bool → World → Prop) (w : World) : Prop :=
  ((!d.isNone) = true → (IsAt d ∧ (∃ (v9 : Bool), w.cell? ⟨(pblk d), (poff d) + 4, none⟩ = some (Value.bool v9) ∧ (R v9 w)))) ∧
  ((!d.isNone) = false → (R false w))

def F_disk_Disk_Capacity (d : Option Addr) (R : Int → World → Prop) (w : World) : Prop :=
  (d.isNone = true → (R 0 w)) ∧
  (d.isNone = false → (IsAt d ∧ (∃ (v8 : Int), w.cell? ⟨(pblk d), (poff d) + 1, none⟩ = some (Value.int .i64 v8) ∧ (R v8 w))))

def F_towpathref04_Disk_Capacity (d : Option Addr) (R : Int → World → Prop) (w : World) : Prop :=
  (d.isNone = true → (R 0 w)) ∧
  (d.isNone = false → (IsAt d ∧ (∃ (v8 : Int), w.cell? ⟨(pblk d), (poff d), none⟩ = some (Value.int .i64 v8) ∧ (R v8 w))))

def F_disk_Disk_Writes (d : Option Addr) (R : Int → World → Prop) (w : World) : Prop :=
  (d.isNone = true → (R 0 w)) ∧
  (d.isNone = false → (IsAt d ∧ (∃ (v8 : Int), w.cell? ⟨(pblk d), (poff d) + 6, none⟩ = some (Value.int .i64 v8) ∧ (R v8 w))))

def F_towpathref04_Disk_Writes (d : Option Addr) (R : Int → World → Prop) (w : World) : Prop :=
  (d.isNone = true → (R 0 w)) ∧
  (d.isNone = false → (IsAt d ∧ (∃ (v8 : Int), w.cell? ⟨(pblk d), (poff d) + 5, none⟩ = some (Value.int .i64 v8) ∧ (R v8 w))))

def F_disk_Disk_look_k0 (slot : Int) (R : Int → World → Prop) (t5 : Bool) (w1 : World) : Prop :=
  (t5 = true → (R 2 w1)) ∧
  (t5 = false → ((((slot != 0) && (slot != 1)) = true → (R 1 w1)) ∧
  (((slot != 0) && (slot != 1)) = false → (R 0 w1))))

def F_disk_Disk_look (d : Option Addr) (slot : Int) (R : Int → World → Prop) (w : World) : Prop :=
  (d.isNone = true → (F_disk_Disk_look_k0 slot R true w)) ∧
  (d.isNone = false → (IsAt d ∧ (∃ (v12 : Bool), w.cell? ⟨(pblk d), (poff d), none⟩ = some (Value.bool v12) ∧ (F_disk_Disk_look_k0 slot R (!v12) w))))

def F_slices_Clone_byte_byte (s : Slc) (R : Slc → World → Prop) (w : World) : Prop :=
  (s.ptr.isNone = true → (R (Slc.mk none 0 0) w)) ∧
  (s.ptr.isNone = false → (∀ b_ w1, b_ = w.heap.size → w1 = w.alloc (Obj.cells ([]).toArray ty_uint8 (0, 0)) → (∃ src, SrcAt w1 s 1 src ∧ AppendW 1 1 ty_uint8 [Value.int .u8 0] (Slc.mk (some ⟨b_, 0, none⟩) 0 0) src s.len w1 (fun v7 w2 => R v7 w2))))

def F_towpathlaw01_Book_keepByte (b_ : Option Addr) (l_ : Slc) (R : World → Prop) (w : World) : Prop :=
  IsAt b_ ∧ (∃ (v7 : Int), w.cell? ⟨(pblk b_), (poff b_), none⟩ = some (Value.int .i64 v7) ∧ (Writable w (pblk b_) (poff b_) 1 ∧ (∀ w1, w1 = World.puts (pblk b_) (poff b_) [Value.int .i64 (IntKind.i64.wrap (v7 + 1))] w → (∀ w2, (∃ k, w2 = w1.drewN k) → (IsAt b_ ∧ (∃ (v15 : Slc), w2.cell? ⟨(pblk b_), (poff b_) + 1, none⟩ = some (Value.slice v15.ptr v15.len v15.cap) ∧ (IsAt b_ ∧ (∃ (v20 : Int), w2.cell? ⟨(pblk b_), (poff b_), none⟩ = some (Value.int .i64 v20) ∧ (∀ b_1 w3, b_1 = w2.heap.size → w3 = w2.alloc (Obj.cells ([Value.slice l_.ptr l_.len l_.cap, Value.slice none 0 0, Value.int .i64 v20]).toArray ty_towpathlaw01_heldByte (0, 0)) → (w3.cell? ⟨(pblk b_), (poff b_) + 1, none⟩ = some (Value.slice v15.ptr v15.len v15.cap) ∧ (∃ src, SrcAt w3 (Slc.mk (some ⟨b_1, 0, none⟩) 1 1) 3 src ∧ AppendW 3 56 ty_towpathlaw01_heldByte [Value.slice none 0 0, Value.slice none 0 0, Value.int .i64 0] v15 src 1 w3 (fun v23 w4 => (IsAt b_ ∧ (Writable w4 (pblk b_) ((poff b_) + 1) 1 ∧ (∀ w5, w5 = World.puts (pblk b_) ((poff b_) + 1) [Value.slice v23.ptr v23.len v23.cap] w4 → ((R w5)))))))))))))))))

def F_towpathlaw01_Book_fillByte_L1 (i : Int) (again_ : Int → World → Prop) (b_1 : Nat) (again_1 : Int → World → Prop) (k : Int) (w4 : World) : Prop :=
  ∃ (v23 : Slc), w4.cell? ⟨b_1, 0, none⟩ = some (Value.slice v23.ptr v23.len v23.cap) ∧ (((decide (k < ((v23.len : Nat) : Int))) = true → (∀ w5, (∃ k, w5 = w4.drewN k) → (∃ (v29 : Slc), w5.cell? ⟨b_1, 0, none⟩ = some (Value.slice v29.ptr v29.len v29.cap) ∧ (∃ (v32 : Int), w5.cell? ⟨b_1, 2, none⟩ = some (Value.int .i64 v32) ∧ (C_towpathlaw01_markByte v32 w5 (fun (v33 : Int) w6 => w6.cell? ⟨b_1, 0, none⟩ = some (Value.slice v29.ptr v29.len v29.cap) ∧ (IsAt v29.ptr ∧ (0 ≤ k ∧ k < ((v29.len : Nat) : Int) ∧ (Writable w6 (pblk v29.ptr) ((poff v29.ptr) + k.toNat) 1 ∧ (∀ w7, w7 = World.puts (pblk v29.ptr) ((poff v29.ptr) + k.toNat) [Value.int .u8 v33] w6 → ((again_1 (IntKind.i64.wrap (k + 1)) w7)))))))))))) ∧
  ((decide (k < ((v23.len : Nat) : Int))) = false → (again_ (IntKind.i64.wrap (i + 1)) w4)))

def F_towpathlaw01_Book_fillByte_L0 (b_ : Option Addr) (R : World → Prop) (again_ : Int → World → Prop) (i : Int) (w1 : World) : Prop :=
  IsAt b_ ∧ (∃ (v9 : Slc), w1.cell? ⟨(pblk b_), (poff b_) + 1, none⟩ = some (Value.slice v9.ptr v9.len v9.cap) ∧ (((decide (i < ((v9.len : Nat) : Int))) = true → (IsAt b_ ∧ (∃ (v17 : Slc), w1.cell? ⟨(pblk b_), (poff b_) + 1, none⟩ = some (Value.slice v17.ptr v17.len v17.cap) ∧ (IsAt v17.ptr ∧ (0 ≤ i ∧ i < ((v17.len : Nat) : Int) ∧ (∃ (v20 : T_towpathlaw01_heldByte), CellsAt w1 (pblk v17.ptr) ((poff v17.ptr) + i.toNat * 3) [Value.slice v20.l.ptr v20.l.len v20.l.cap, Value.slice v20.long.ptr v20.long.len v20.long.cap, Value.int .i64 v20.n] ∧ (∀ b_1 w2, b_1 = w1.heap.size → w2 = w1.alloc (Obj.cells ([Value.slice none 0 0, Value.slice none 0 0, Value.int .i64 0]).toArray ty_towpathlaw01_heldByte (0, 0)) → (Writable w2 b_1 0 3 ∧ (∀ w3, w3 = World.puts b_1 0 [Value.slice v20.l.ptr v20.l.len v20.l.cap, Value.slice v20.long.ptr v20.long.len v20.long.cap, Value.int .i64 v20.n] w2 → (∃ (I : Int → World → Prop) (μ : Int → World → Nat), I 0 w3 ∧
  ∀ (k : Int) w, I k w → F_towpathlaw01_Book_fillByte_L1 i again_ b_1 (fun (k' : Int) w' => I k' w' ∧ μ k' w' < μ k w) k w)))))))))) ∧
  ((decide (i < ((v9.len : Nat) : Int))) = false → (R w1))))

def F_towpathlaw01_Book_fillByte (b_ : Option Addr) (R : World → Prop) (w : World) : Prop :=
  ∃ (I : Int → World → Prop) (μ : Int → World → Nat), I 0 w ∧
  ∀ (i : Int) w, I i w → F_towpathlaw01_Book_fillByte_L0 b_ R (fun (i' : Int) w' => I i' w' ∧ μ i' w' < μ i w) i w

def F_towpathlaw01_Book_fillInt_L0 (b_ : Option Addr) (R : World → Prop) (again_ : Int → World → Prop) (i : Int) (w1 : World) : Prop :=
  IsAt b_ ∧ (∃ (v9 : Slc), w1.cell? ⟨(pblk b_), (poff b_) + 2, none⟩ = some (Value.slice v9.ptr v9.len v9.cap) ∧ (((decide (i < ((v9.len : Nat) : Int))) = true → (False)) ∧
  ((decide (i < ((v9.len : Nat) : Int))) = false → (R w1))))

def F_towpathlaw01_Book_fillInt (b_ : Option Addr) (R : World → Prop) (w : World) : Prop :=
  ∃ (I : Int → World → Prop) (μ : Int → World → Nat), I 0 w ∧
  ∀ (i : Int) w, I i w → F_towpathlaw01_Book_fillInt_L0 b_ R (fun (i' : Int) w' => I i' w' ∧ μ i' w' < μ i w) i w

def F_towpathlaw01_Book_fillText_L0 (b_ : Option Addr) (R : World → Prop) (again_ : Int → World → Prop) (i : Int) (w1 : World) : Prop :=
  IsAt b_ ∧ (∃ (v9 : Slc), w1.cell? ⟨(pblk b_), (poff b_) + 3, none⟩ = some (Value.slice v9.ptr v9.len v9.cap) ∧ (((decide (i < ((v9.len : Nat) : Int))) = true → (False)) ∧
  ((decide (i < ((v9.len : Nat) : Int))) = false → (R w1))))

def F_towpathlaw01_Book_fillText (b_ : Option Addr) (R : World → Prop) (w : World) : Prop :=
  ∃ (I : Int → World → Prop) (μ : Int → World → Nat), I 0 w ∧
  ∀ (i : Int) w, I i w → F_towpathlaw01_Book_fillText_L0 b_ R (fun (i' : Int) w' => I i' w' ∧ μ i' w' < μ i w) i w

def F_towpathlaw01_Book_fillWrite_L0 (b_ : Option Addr) (R : World → Prop) (again_ : Int → World → Prop) (i : Int) (w1 : World) : Prop :=
  IsAt b_ ∧ (∃ (v9 : Slc), w1.cell? ⟨(pblk b_), (poff b_) + 4, none⟩ = some (Value.slice v9.ptr v9.len v9.cap) ∧ (((decide (i < ((v9.len : Nat) : Int))) = true → (False)) ∧
  ((decide (i < ((v9.len : Nat) : Int))) = false → (R w1))))

def F_towpathlaw01_Book_fillWrite (b_ : Option Addr) (R : World → Prop) (w : World) : Prop :=
  ∃ (I : Int → World → Prop) (μ : Int → World → Nat), I 0 w ∧
  ∀ (i : Int) w, I i w → F_towpathlaw01_Book_fillWrite_L0 b_ R (fun (i' : Int) w' => I i' w' ∧ μ i' w' < μ i w) i w

def F_towpathlaw01_Book_fillEntry_L0 (b_ : Option Addr) (R : World → Prop) (again_ : Int → World → Prop) (i : Int) (w1 : World) : Prop :=
  IsAt b_ ∧ (∃ (v9 : Slc), w1.cell? ⟨(pblk b_), (poff b_) + 5, none⟩ = some (Value.slice v9.ptr v9.len v9.cap) ∧ (((decide (i < ((v9.len : Nat) : Int))) = true → (False)) ∧
  ((decide (i < ((v9.len : Nat) : Int))) = false → (R w1))))

def F_towpathlaw01_Book_fillEntry (b_ : Option Addr) (R : World → Prop) (w : World) : Prop :=
  ∃ (I : Int → World → Prop) (μ : Int → World → Nat), I 0 w ∧
  ∀ (i : Int) w, I i w → F_towpathlaw01_Book_fillEntry_L0 b_ R (fun (i' : Int) w' => I i' w' ∧ μ i' w' < μ i w) i w

def F_towpathlaw01_Book_fillVersion_L0 (b_ : Option Addr) (R : World → Prop) (again_ : Int → World → Prop) (i : Int) (w1 : World) : Prop :=
  IsAt b_ ∧ (∃ (v9 : Slc), w1.cell? ⟨(pblk b_), (poff b_) + 6, none⟩ = some (Value.slice v9.ptr v9.len v9.cap) ∧ (((decide (i < ((v9.len : Nat) : Int))) = true → (False)) ∧
  ((decide (i < ((v9.len : Nat) : Int))) = false → (R w1))))

def F_towpathlaw01_Book_fillVersion (b_ : Option Addr) (R : World → Prop) (w : World) : Prop :=
  ∃ (I : Int → World → Prop) (μ : Int → World → Nat), I 0 w ∧
  ∀ (i : Int) w, I i w → F_towpathlaw01_Book_fillVersion_L0 b_ R (fun (i' : Int) w' => I i' w' ∧ μ i' w' < μ i w) i w

def F_towpathlaw01_Book_fillTxn_L0 (b_ : Option Addr) (R : World → Prop) (again_ : Int → World → Prop) (i : Int) (w1 : World) : Prop :=
  IsAt b_ ∧ (∃ (v9 : Slc), w1.cell? ⟨(pblk b_), (poff b_) + 7, none⟩ = some (Value.slice v9.ptr v9.len v9.cap) ∧ (((decide (i < ((v9.len : Nat) : Int))) = true → (False)) ∧
  ((decide (i < ((v9.len : Nat) : Int))) = false → (R w1))))

def F_towpathlaw01_Book_fillTxn (b_ : Option Addr) (R : World → Prop) (w : World) : Prop :=
  ∃ (I : Int → World → Prop) (μ : Int → World → Nat), I 0 w ∧
  ∀ (i : Int) w, I i w → F_towpathlaw01_Book_fillTxn_L0 b_ R (fun (i' : Int) w' => I i' w' ∧ μ i' w' < μ i w) i w

def F_towpathlaw01_Book_fillHeld_L0 (b_ : Option Addr) (R : World → Prop) (again_ : Int → World → Prop) (i : Int) (w1 : World) : Prop :=
  IsAt b_ ∧ (∃ (v9 : Slc), w1.cell? ⟨(pblk b_), (poff b_) + 8, none⟩ = some (Value.slice v9.ptr v9.len v9.cap) ∧ (((decide (i < ((v9.len : Nat) : Int))) = true → (False)) ∧
  ((decide (i < ((v9.len : Nat) : Int))) = false → (R w1))))

def F_towpathlaw01_Book_fillHeld (b_ : Option Addr) (R : World → Prop) (w : World) : Prop :=
  ∃ (I : Int → World → Prop) (μ : Int → World → Nat), I 0 w ∧
  ∀ (i : Int) w, I i w → F_towpathlaw01_Book_fillHeld_L0 b_ R (fun (i' : Int) w' => I i' w' ∧ μ i' w' < μ i w) i w

def F_towpathlaw01_Book_fillHeldList_L0 (b_ : Option Addr) (R : World → Prop) (again_ : Int → World → Prop) (i : Int) (w1 : World) : Prop :=
  IsAt b_ ∧ (∃ (v9 : Slc), w1.cell? ⟨(pblk b_), (poff b_) + 9, none⟩ = some (Value.slice v9.ptr v9.len v9.cap) ∧ (((decide (i < ((v9.len : Nat) : Int))) = true → (False)) ∧
  ((decide (i < ((v9.len : Nat) : Int))) = false → (R w1))))

def F_towpathlaw01_Book_fillHeldList (b_ : Option Addr) (R : World → Prop) (w : World) : Prop :=
  ∃ (I : Int → World → Prop) (μ : Int → World → Nat), I 0 w ∧
  ∀ (i : Int) w, I i w → F_towpathlaw01_Book_fillHeldList_L0 b_ R (fun (i' : Int) w' => I i' w' ∧ μ i' w' < μ i w) i w

def F_towpathlaw01_Book_fillEvent_L0 (b_ : Option Addr) (R : World → Prop) (again_ : Int → World → Prop) (i : Int) (w1 : World) : Prop :=
  IsAt b_ ∧ (∃ (v9 : Slc), w1.cell? ⟨(pblk b_), (poff b_) + 10, none⟩ = some (Value.slice v9.ptr v9.len v9.cap) ∧ (((decide (i < ((v9.len : Nat) : Int))) = true → (False)) ∧
  ((decide (i < ((v9.len : Nat) : Int))) = false → (R w1))))

def F_towpathlaw01_Book_fillEvent (b_ : Option Addr) (R : World → Prop) (w : World) : Prop :=
  ∃ (I : Int → World → Prop) (μ : Int → World → Nat), I 0 w ∧
  ∀ (i : Int) w, I i w → F_towpathlaw01_Book_fillEvent_L0 b_ R (fun (i' : Int) w' => I i' w' ∧ μ i' w' < μ i w) i w

def F_towpathlaw01_Book_fillAnswer_L0 (b_ : Option Addr) (R : World → Prop) (again_ : Int → World → Prop) (i : Int) (w1 : World) : Prop :=
  IsAt b_ ∧ (∃ (v9 : Slc), w1.cell? ⟨(pblk b_), (poff b_) + 11, none⟩ = some (Value.slice v9.ptr v9.len v9.cap) ∧ (((decide (i < ((v9.len : Nat) : Int))) = true → (False)) ∧
  ((decide (i < ((v9.len : Nat) : Int))) = false → (R w1))))

def F_towpathlaw01_Book_fillAnswer (b_ : Option Addr) (R : World → Prop) (w : World) : Prop :=
  ∃ (I : Int → World → Prop) (μ : Int → World → Nat), I 0 w ∧
  ∀ (i : Int) w, I i w → F_towpathlaw01_Book_fillAnswer_L0 b_ R (fun (i' : Int) w' => I i' w' ∧ μ i' w' < μ i w) i w

def F_towpathlaw01_Book_growByte_L1 (b_ : Option Addr) (i : Int) (again_ : Int → World → Prop) (b_1 : Nat) (again_1 : Slc → Int → World → Prop) (long1 : Slc) (k : Int) (w4 : World) : Prop :=
  ((decide (k < 70)) = true → (∃ (v30 : Int), w4.cell? ⟨b_1, 2, none⟩ = some (Value.int .i64 v30) ∧ (C_towpathlaw01_markByte v30 w4 (fun (v31 : Int) w5 => ∀ b_2 w6, b_2 = w5.heap.size → w6 = w5.alloc (Obj.cells ([Value.int .u8 v31]).toArray ty_uint8 (0, 0)) → (∃ src, SrcAt w6 (Slc.mk (some ⟨b_2, 0, none⟩) 1 1) 1 src ∧ AppendW 1 1 ty_uint8 [Value.int .u8 0] long1 src 1 w6 (fun long2 w7 => again_1 long2 (IntKind.i64.wrap (k + 1)) w7)))))) ∧
  ((decide (k < 70)) = false → (IsAt b_ ∧ (∃ (v37 : Slc), w4.cell? ⟨(pblk b_), (poff b_) + 1, none⟩ = some (Value.slice v37.ptr v37.len v37.cap) ∧ (IsAt v37.ptr ∧ (0 ≤ i ∧ i < ((v37.len : Nat) : Int) ∧ (Writable w4 (pblk v37.ptr) (((poff v37.ptr) + i.toNat * 3) + 1) 1 ∧ (∀ w8, w8 = World.puts (pblk v37.ptr) (((poff v37.ptr) + i.toNat * 3) + 1) [Value.slice long1.ptr long1.len long1.cap] w4 → (again_ (IntKind.i64.wrap (i + 1)) w8))))))))

def F_towpathlaw01_Book_growByte_L0 (b_ : Option Addr) (R : World → Prop) (again_ : Int → World → Prop) (i : Int) (w1 : World) : Prop :=
  IsAt b_ ∧ (∃ (v10 : Slc), w1.cell? ⟨(pblk b_), (poff b_) + 1, none⟩ = some (Value.slice v10.ptr v10.len v10.cap) ∧ (((decide (i < ((v10.len : Nat) : Int))) = true → (IsAt b_ ∧ (∃ (v18 : Slc), w1.cell? ⟨(pblk b_), (poff b_) + 1, none⟩ = some (Value.slice v18.ptr v18.len v18.cap) ∧ (IsAt v18.ptr ∧ (0 ≤ i ∧ i < ((v18.len : Nat) : Int) ∧ (∃ (v21 : T_towpathlaw01_heldByte), CellsAt w1 (pblk v18.ptr) ((poff v18.ptr) + i.toNat * 3) [Value.slice v21.l.ptr v21.l.len v21.l.cap, Value.slice v21.long.ptr v21.long.len v21.long.cap, Value.int .i64 v21.n] ∧ (∀ b_1 w2, b_1 = w1.heap.size → w2 = w1.alloc (Obj.cells ([Value.slice none 0 0, Value.slice none 0 0, Value.int .i64 0]).toArray ty_towpathlaw01_heldByte (0, 0)) → (Writable w2 b_1 0 3 ∧ (∀ w3, w3 = World.puts b_1 0 [Value.slice v21.l.ptr v21.l.len v21.l.cap, Value.slice v21.long.ptr v21.long.len v21.long.cap, Value.int .i64 v21.n] w2 → (∃ (long : Slc), w3.cell? ⟨b_1, 0, none⟩ = some (Value.slice long.ptr long.len long.cap) ∧ (∃ (I : Slc → Int → World → Prop) (μ : Slc → Int → World → Nat), I long 0 w3 ∧
  ∀ (long1 : Slc) (k : Int) w, I long1 k w → F_towpathlaw01_Book_growByte_L1 b_ i again_ b_1 (fun (long1' : Slc) (k' : Int) w' => I long1' k' w' ∧ μ long1' k' w' < μ long1 k w) long1 k w))))))))))) ∧
  ((decide (i < ((v10.len : Nat) : Int))) = false → (R w1))))

def F_towpathlaw01_Book_growByte (b_ : Option Addr) (R : World → Prop) (w : World) : Prop :=
  ∃ (I : Int → World → Prop) (μ : Int → World → Nat), I 0 w ∧
  ∀ (i : Int) w, I i w → F_towpathlaw01_Book_growByte_L0 b_ R (fun (i' : Int) w' => I i' w' ∧ μ i' w' < μ i w) i w

def F_towpathlaw01_Book_growInt_L0 (b_ : Option Addr) (R : World → Prop) (again_ : Int → World → Prop) (i : Int) (w1 : World) : Prop :=
  IsAt b_ ∧ (∃ (v10 : Slc), w1.cell? ⟨(pblk b_), (poff b_) + 2, none⟩ = some (Value.slice v10.ptr v10.len v10.cap) ∧ (((decide (i < ((v10.len : Nat) : Int))) = true → (False)) ∧
  ((decide (i < ((v10.len : Nat) : Int))) = false → (R w1))))

def F_towpathlaw01_Book_growInt (b_ : Option Addr) (R : World → Prop) (w : World) : Prop :=
  ∃ (I : Int → World → Prop) (μ : Int → World → Nat), I 0 w ∧
  ∀ (i : Int) w, I i w → F_towpathlaw01_Book_growInt_L0 b_ R (fun (i' : Int) w' => I i' w' ∧ μ i' w' < μ i w) i w

def F_towpathlaw01_Book_growText_L0 (b_ : Option Addr) (R : World → Prop) (again_ : Int → World → Prop) (i : Int) (w1 : World) : Prop :=
  IsAt b_ ∧ (∃ (v10 : Slc), w1.cell? ⟨(pblk b_), (poff b_) + 3, none⟩ = some (Value.slice v10.ptr v10.len v10.cap) ∧ (((decide (i < ((v10.len : Nat) : Int))) = true → (False)) ∧
  ((decide (i < ((v10.len : Nat) : Int))) = false → (R w1))))

def F_towpathlaw01_Book_growText (b_ : Option Addr) (R : World → Prop) (w : World) : Prop :=
  ∃ (I : Int → World → Prop) (μ : Int → World → Nat), I 0 w ∧
  ∀ (i : Int) w, I i w → F_towpathlaw01_Book_growText_L0 b_ R (fun (i' : Int) w' => I i' w' ∧ μ i' w' < μ i w) i w

def F_towpathlaw01_Book_growWrite_L0 (b_ : Option Addr) (R : World → Prop) (again_ : Int → World → Prop) (i : Int) (w1 : World) : Prop :=
  IsAt b_ ∧ (∃ (v10 : Slc), w1.cell? ⟨(pblk b_), (poff b_) + 4, none⟩ = some (Value.slice v10.ptr v10.len v10.cap) ∧ (((decide (i < ((v10.len : Nat) : Int))) = true → (False)) ∧
  ((decide (i < ((v10.len : Nat) : Int))) = false → (R w1))))

def F_towpathlaw01_Book_growWrite (b_ : Option Addr) (R : World → Prop) (w : World) : Prop :=
  ∃ (I : Int → World → Prop) (μ : Int → World → Nat), I 0 w ∧
  ∀ (i : Int) w, I i w → F_towpathlaw01_Book_growWrite_L0 b_ R (fun (i' : Int) w' => I i' w' ∧ μ i' w' < μ i w) i w

def F_towpathlaw01_Book_growEntry_L0 (b_ : Option Addr) (R : World → Prop) (again_ : Int → World → Prop) (i : Int) (w1 : World) : Prop :=
  IsAt b_ ∧ (∃ (v10 : Slc), w1.cell? ⟨(pblk b_), (poff b_) + 5, none⟩ = some (Value.slice v10.ptr v10.len v10.cap) ∧ (((decide (i < ((v10.len : Nat) : Int))) = true → (False)) ∧
  ((decide (i < ((v10.len : Nat) : Int))) = false → (R w1))))

def F_towpathlaw01_Book_growEntry (b_ : Option Addr) (R : World → Prop) (w : World) : Prop :=
  ∃ (I : Int → World → Prop) (μ : Int → World → Nat), I 0 w ∧
  ∀ (i : Int) w, I i w → F_towpathlaw01_Book_growEntry_L0 b_ R (fun (i' : Int) w' => I i' w' ∧ μ i' w' < μ i w) i w

def F_towpathlaw01_Book_growVersion_L0 (b_ : Option Addr) (R : World → Prop) (again_ : Int → World → Prop) (i : Int) (w1 : World) : Prop :=
  IsAt b_ ∧ (∃ (v10 : Slc), w1.cell? ⟨(pblk b_), (poff b_) + 6, none⟩ = some (Value.slice v10.ptr v10.len v10.cap) ∧ (((decide (i < ((v10.len : Nat) : Int))) = true → (False)) ∧
  ((decide (i < ((v10.len : Nat) : Int))) = false → (R w1))))

def F_towpathlaw01_Book_growVersion (b_ : Option Addr) (R : World → Prop) (w : World) : Prop :=
  ∃ (I : Int → World → Prop) (μ : Int → World → Nat), I 0 w ∧
  ∀ (i : Int) w, I i w → F_towpathlaw01_Book_growVersion_L0 b_ R (fun (i' : Int) w' => I i' w' ∧ μ i' w' < μ i w) i w

def F_towpathlaw01_Book_growTxn_L0 (b_ : Option Addr) (R : World → Prop) (again_ : Int → World → Prop) (i : Int) (w1 : World) : Prop :=
  IsAt b_ ∧ (∃ (v10 : Slc), w1.cell? ⟨(pblk b_), (poff b_) + 7, none⟩ = some (Value.slice v10.ptr v10.len v10.cap) ∧ (((decide (i < ((v10.len : Nat) : Int))) = true → (False)) ∧
  ((decide (i < ((v10.len : Nat) : Int))) = false → (R w1))))

def F_towpathlaw01_Book_growTxn (b_ : Option Addr) (R : World → Prop) (w : World) : Prop :=
  ∃ (I : Int → World → Prop) (μ : Int → World → Nat), I 0 w ∧
  ∀ (i : Int) w, I i w → F_towpathlaw01_Book_growTxn_L0 b_ R (fun (i' : Int) w' => I i' w' ∧ μ i' w' < μ i w) i w

def F_towpathlaw01_Book_growHeld_L0 (b_ : Option Addr) (R : World → Prop) (again_ : Int → World → Prop) (i : Int) (w1 : World) : Prop :=
  IsAt b_ ∧ (∃ (v10 : Slc), w1.cell? ⟨(pblk b_), (poff b_) + 8, none⟩ = some (Value.slice v10.ptr v10.len v10.cap) ∧ (((decide (i < ((v10.len : Nat) : Int))) = true → (False)) ∧
  ((decide (i < ((v10.len : Nat) : Int))) = false → (R w1))))

def F_towpathlaw01_Book_growHeld (b_ : Option Addr) (R : World → Prop) (w : World) : Prop :=
  ∃ (I : Int → World → Prop) (μ : Int → World → Nat), I 0 w ∧
  ∀ (i : Int) w, I i w → F_towpathlaw01_Book_growHeld_L0 b_ R (fun (i' : Int) w' => I i' w' ∧ μ i' w' < μ i w) i w

def F_towpathlaw01_Book_growHeldList_L0 (b_ : Option Addr) (R : World → Prop) (again_ : Int → World → Prop) (i : Int) (w1 : World) : Prop :=
  IsAt b_ ∧ (∃ (v10 : Slc), w1.cell? ⟨(pblk b_), (poff b_) + 9, none⟩ = some (Value.slice v10.ptr v10.len v10.cap) ∧ (((decide (i < ((v10.len : Nat) : Int))) = true → (False)) ∧
  ((decide (i < ((v10.len : Nat) : Int))) = false → (R w1))))

def F_towpathlaw01_Book_growHeldList (b_ : Option Addr) (R : World → Prop) (w : World) : Prop :=
  ∃ (I : Int → World → Prop) (μ : Int → World → Nat), I 0 w ∧
  ∀ (i : Int) w, I i w → F_towpathlaw01_Book_growHeldList_L0 b_ R (fun (i' : Int) w' => I i' w' ∧ μ i' w' < μ i w) i w

def F_towpathlaw01_Book_growEvent_L0 (b_ : Option Addr) (R : World → Prop) (again_ : Int → World → Prop) (i : Int) (w1 : World) : Prop :=
  IsAt b_ ∧ (∃ (v10 : Slc), w1.cell? ⟨(pblk b_), (poff b_) + 10, none⟩ = some (Value.slice v10.ptr v10.len v10.cap) ∧ (((decide (i < ((v10.len : Nat) : Int))) = true → (False)) ∧
  ((decide (i < ((v10.len : Nat) : Int))) = false → (R w1))))

def F_towpathlaw01_Book_growEvent (b_ : Option Addr) (R : World → Prop) (w : World) : Prop :=
  ∃ (I : Int → World → Prop) (μ : Int → World → Nat), I 0 w ∧
  ∀ (i : Int) w, I i w → F_towpathlaw01_Book_growEvent_L0 b_ R (fun (i' : Int) w' => I i' w' ∧ μ i' w' < μ i w) i w

def F_towpathlaw01_Book_growAnswer_L0 (b_ : Option Addr) (R : World → Prop) (again_ : Int → World → Prop) (i : Int) (w1 : World) : Prop :=
  IsAt b_ ∧ (∃ (v10 : Slc), w1.cell? ⟨(pblk b_), (poff b_) + 11, none⟩ = some (Value.slice v10.ptr v10.len v10.cap) ∧ (((decide (i < ((v10.len : Nat) : Int))) = true → (False)) ∧
  ((decide (i < ((v10.len : Nat) : Int))) = false → (R w1))))

def F_towpathlaw01_Book_growAnswer (b_ : Option Addr) (R : World → Prop) (w : World) : Prop :=
  ∃ (I : Int → World → Prop) (μ : Int → World → Nat), I 0 w ∧
  ∀ (i : Int) w, I i w → F_towpathlaw01_Book_growAnswer_L0 b_ R (fun (i' : Int) w' => I i' w' ∧ μ i' w' < μ i w) i w

def F_towpathlaw01_Book_lookByte_k2 (R : Bool → World → Prop) (k : Int) (again_1 : Int → World → Prop) (t63 : Bool) (w5 : World) : Prop :=
  (t63 = true → (R false w5)) ∧
  (t63 = false → (again_1 (IntKind.i64.wrap (k + 1)) w5))

def F_towpathlaw01_Book_lookByte_L1 (R : Bool → World → Prop) (i : Int) (again_ : Int → World → Prop) (b_1 : Nat) (again_1 : Int → World → Prop) (k : Int) (w4 : World) : Prop :=
  ∃ (v32 : Slc), w4.cell? ⟨b_1, 1, none⟩ = some (Value.slice v32.ptr v32.len v32.cap) ∧ (((decide (k < ((v32.len : Nat) : Int))) = true → (∃ (v38 : Slc), w4.cell? ⟨b_1, 1, none⟩ = some (Value.slice v38.ptr v38.len v38.cap) ∧ (IsAt v38.ptr ∧ (0 ≤ k ∧ k < ((v38.len : Nat) : Int) ∧ (∃ (v41 : Int), w4.cell? ⟨(pblk v38.ptr), (poff v38.ptr) + k.toNat, none⟩ = some (Value.int .u8 v41) ∧ (∃ (v43 : Int), w4.cell? ⟨b_1, 2, none⟩ = some (Value.int .i64 v43) ∧ (∃ (v44 : Bool), (∀ w', Ext w4 w' → C_towpathlaw01_isByte v41 v43 w' (fun (v44' : Bool) w'' => v44' = v44 ∧ Ext w' w'')) ∧ (((!v44) = true → (∀ w7, Ext w4 w7 → (F_towpathlaw01_Book_lookByte_k2 R k again_1 true w7))) ∧
  ((!v44) = false → (∃ (v49 : Slc), w4.cell? ⟨b_1, 0, none⟩ = some (Value.slice v49.ptr v49.len v49.cap) ∧ (((decide (k < ((v49.len : Nat) : Int))) = true → (∃ (v54 : Slc), w4.cell? ⟨b_1, 0, none⟩ = some (Value.slice v54.ptr v54.len v54.cap) ∧ (IsAt v54.ptr ∧ (0 ≤ k ∧ k < ((v54.len : Nat) : Int) ∧ (∃ (v57 : Int), w4.cell? ⟨(pblk v54.ptr), (poff v54.ptr) + k.toNat, none⟩ = some (Value.int .u8 v57) ∧ (∃ (v59 : Int), w4.cell? ⟨b_1, 2, none⟩ = some (Value.int .i64 v59) ∧ (∃ (v60 : Bool), (∀ w', Ext w4 w' → C_towpathlaw01_isByte v57 v59 w' (fun (v60' : Bool) w'' => v60' = v60 ∧ Ext w' w'')) ∧ (∀ w9, Ext w4 w9 → (F_towpathlaw01_Book_lookByte_k2 R k again_1 (!v60) w9))))))))) ∧
  ((decide (k < ((v49.len : Nat) : Int))) = false → (∀ w10, Ext w4 w10 → (F_towpathlaw01_Book_lookByte_k2 R k again_1 false w10)))))))))))))) ∧
  ((decide (k < ((v32.len : Nat) : Int))) = false → (again_ (IntKind.i64.wrap (i + 1)) w4)))

def F_towpathlaw01_Book_lookByte_L0 (b_ : Option Addr) (R : Bool → World → Prop) (again_ : Int → World → Prop) (i : Int) (w1 : World) : Prop :=
  IsAt b_ ∧ (∃ (v10 : Slc), w1.cell? ⟨(pblk b_), (poff b_) + 1, none⟩ = some (Value.slice v10.ptr v10.len v10.cap) ∧ (((decide (i < ((v10.len : Nat) : Int))) = true → (IsAt b_ ∧ (∃ (v18 : Slc), w1.cell? ⟨(pblk b_), (poff b_) + 1, none⟩ = some (Value.slice v18.ptr v18.len v18.cap) ∧ (IsAt v18.ptr ∧ (0 ≤ i ∧ i < ((v18.len : Nat) : Int) ∧ (∃ (v21 : T_towpathlaw01_heldByte), CellsAt w1 (pblk v18.ptr) ((poff v18.ptr) + i.toNat * 3) [Value.slice v21.l.ptr v21.l.len v21.l.cap, Value.slice v21.long.ptr v21.long.len v21.long.cap, Value.int .i64 v21.n] ∧ (∀ b_1 w2, b_1 = w1.heap.size → w2 = w1.alloc (Obj.cells ([Value.slice none 0 0, Value.slice none 0 0, Value.int .i64 0]).toArray ty_towpathlaw01_heldByte (0, 0)) → (Writable w2 b_1 0 3 ∧ (∀ w3, w3 = World.puts b_1 0 [Value.slice v21.l.ptr v21.l.len v21.l.cap, Value.slice v21.long.ptr v21.long.len v21.long.cap, Value.int .i64 v21.n] w2 → (∃ (v23 : Slc), w3.cell? ⟨b_1, 1, none⟩ = some (Value.slice v23.ptr v23.len v23.cap) ∧ (∃ (v26 : Slc), w3.cell? ⟨b_1, 0, none⟩ = some (Value.slice v26.ptr v26.len v26.cap) ∧ (((((v23.len : Nat) : Int) != (IntKind.i64.wrap (((v26.len : Nat) : Int) + 70))) = true → (R false w3)) ∧
  ((((v23.len : Nat) : Int) != (IntKind.i64.wrap (((v26.len : Nat) : Int) + 70))) = false → (∃ (I : Int → World → Prop) (μ : Int → World → Nat), I 0 w3 ∧
  ∀ (k : Int) w, I k w → F_towpathlaw01_Book_lookByte_L1 R i again_ b_1 (fun (k' : Int) w' => I k' w' ∧ μ k' w' < μ k w) k w)))))))))))))) ∧
  ((decide (i < ((v10.len : Nat) : Int))) = false → (R true w1))))

def F_towpathlaw01_Book_lookByte (b_ : Option Addr) (R : Bool → World → Prop) (w : World) : Prop :=
  ∃ (I : Int → World → Prop) (μ : Int → World → Nat), I 0 w ∧
  ∀ (i : Int) w, I i w → F_towpathlaw01_Book_lookByte_L0 b_ R (fun (i' : Int) w' => I i' w' ∧ μ i' w' < μ i w) i w

def F_towpathlaw01_Book_lookInt_L0 (b_ : Option Addr) (R : Bool → World → Prop) (again_ : Int → World → Prop) (i : Int) (w1 : World) : Prop :=
  IsAt b_ ∧ (∃ (v10 : Slc), w1.cell? ⟨(pblk b_), (poff b_) + 2, none⟩ = some (Value.slice v10.ptr v10.len v10.cap) ∧ (((decide (i < ((v10.len : Nat) : Int))) = true → (False)) ∧
  ((decide (i < ((v10.len : Nat) : Int))) = false → (R true w1))))

def F_towpathlaw01_Book_lookInt (b_ : Option Addr) (R : Bool → World → Prop) (w : World) : Prop :=
  ∃ (I : Int → World → Prop) (μ : Int → World → Nat), I 0 w ∧
  ∀ (i : Int) w, I i w → F_towpathlaw01_Book_lookInt_L0 b_ R (fun (i' : Int) w' => I i' w' ∧ μ i' w' < μ i w) i w

def F_towpathlaw01_Book_lookText_L0 (b_ : Option Addr) (R : Bool → World → Prop) (again_ : Int → World → Prop) (i : Int) (w1 : World) : Prop :=
  IsAt b_ ∧ (∃ (v10 : Slc), w1.cell? ⟨(pblk b_), (poff b_) + 3, none⟩ = some (Value.slice v10.ptr v10.len v10.cap) ∧ (((decide (i < ((v10.len : Nat) : Int))) = true → (False)) ∧
  ((decide (i < ((v10.len : Nat) : Int))) = false → (R true w1))))

def F_towpathlaw01_Book_lookText (b_ : Option Addr) (R : Bool → World → Prop) (w : World) : Prop :=
  ∃ (I : Int → World → Prop) (μ : Int → World → Nat), I 0 w ∧
  ∀ (i : Int) w, I i w → F_towpathlaw01_Book_lookText_L0 b_ R (fun (i' : Int) w' => I i' w' ∧ μ i' w' < μ i w) i w

def F_towpathlaw01_Book_lookWrite_L0 (b_ : Option Addr) (R : Bool → World → Prop) (again_ : Int → World → Prop) (i : Int) (w1 : World) : Prop :=
  IsAt b_ ∧ (∃ (v10 : Slc), w1.cell? ⟨(pblk b_), (poff b_) + 4, none⟩ = some (Value.slice v10.ptr v10.len v10.cap) ∧ (((decide (i < ((v10.len : Nat) : Int))) = true → (False)) ∧
  ((decide (i < ((v10.len : Nat) : Int))) = false → (R true w1))))

def F_towpathlaw01_Book_lookWrite (b_ : Option Addr) (R : Bool → World → Prop) (w : World) : Prop :=
  ∃ (I : Int → World → Prop) (μ : Int → World → Nat), I 0 w ∧
  ∀ (i : Int) w, I i w → F_towpathlaw01_Book_lookWrite_L0 b_ R (fun (i' : Int) w' => I i' w' ∧ μ i' w' < μ i w) i w

def F_towpathlaw01_Book_lookEntry_L0 (b_ : Option Addr) (R : Bool → World → Prop) (again_ : Int → World → Prop) (i : Int) (w1 : World) : Prop :=
  IsAt b_ ∧ (∃ (v10 : Slc), w1.cell? ⟨(pblk b_), (poff b_) + 5, none⟩ = some (Value.slice v10.ptr v10.len v10.cap) ∧ (((decide (i < ((v10.len : Nat) : Int))) = true → (False)) ∧
  ((decide (i < ((v10.len : Nat) : Int))) = false → (R true w1))))

def F_towpathlaw01_Book_lookEntry (b_ : Option Addr) (R : Bool → World → Prop) (w : World) : Prop :=
  ∃ (I : Int → World → Prop) (μ : Int → World → Nat), I 0 w ∧
  ∀ (i : Int) w, I i w → F_towpathlaw01_Book_lookEntry_L0 b_ R (fun (i' : Int) w' => I i' w' ∧ μ i' w' < μ i w) i w

def F_towpathlaw01_Book_lookVersion_L0 (b_ : Option Addr) (R : Bool → World → Prop) (again_ : Int → World → Prop) (i : Int) (w1 : World) : Prop :=
  IsAt b_ ∧ (∃ (v10 : Slc), w1.cell? ⟨(pblk b_), (poff b_) + 6, none⟩ = some (Value.slice v10.ptr v10.len v10.cap) ∧ (((decide (i < ((v10.len : Nat) : Int))) = true → (False)) ∧
  ((decide (i < ((v10.len : Nat) : Int))) = false → (R true w1))))

def F_towpathlaw01_Book_lookVersion (b_ : Option Addr) (R : Bool → World → Prop) (w : World) : Prop :=
  ∃ (I : Int → World → Prop) (μ : Int → World → Nat), I 0 w ∧
  ∀ (i : Int) w, I i w → F_towpathlaw01_Book_lookVersion_L0 b_ R (fun (i' : Int) w' => I i' w' ∧ μ i' w' < μ i w) i w

def F_towpathlaw01_Book_lookTxn_L0 (b_ : Option Addr) (R : Bool → World → Prop) (again_ : Int → World → Prop) (i : Int) (w1 : World) : Prop :=
  IsAt b_ ∧ (∃ (v10 : Slc), w1.cell? ⟨(pblk b_), (poff b_) + 7, none⟩ = some (Value.slice v10.ptr v10.len v10.cap) ∧ (((decide (i < ((v10.len : Nat) : Int))) = true → (False)) ∧
  ((decide (i < ((v10.len : Nat) : Int))) = false → (R true w1))))

def F_towpathlaw01_Book_lookTxn (b_ : Option Addr) (R : Bool → World → Prop) (w : World) : Prop :=
  ∃ (I : Int → World → Prop) (μ : Int → World → Nat), I 0 w ∧
  ∀ (i : Int) w, I i w → F_towpathlaw01_Book_lookTxn_L0 b_ R (fun (i' : Int) w' => I i' w' ∧ μ i' w' < μ i w) i w

def F_towpathlaw01_Book_lookHeld_L0 (b_ : Option Addr) (R : Bool → World → Prop) (again_ : Int → World → Prop) (i : Int) (w1 : World) : Prop :=
  IsAt b_ ∧ (∃ (v10 : Slc), w1.cell? ⟨(pblk b_), (poff b_) + 8, none⟩ = some (Value.slice v10.ptr v10.len v10.cap) ∧ (((decide (i < ((v10.len : Nat) : Int))) = true → (False)) ∧
  ((decide (i < ((v10.len : Nat) : Int))) = false → (R true w1))))

def F_towpathlaw01_Book_lookHeld (b_ : Option Addr) (R : Bool → World → Prop) (w : World) : Prop :=
  ∃ (I : Int → World → Prop) (μ : Int → World → Nat), I 0 w ∧
  ∀ (i : Int) w, I i w → F_towpathlaw01_Book_lookHeld_L0 b_ R (fun (i' : Int) w' => I i' w' ∧ μ i' w' < μ i w) i w

def F_towpathlaw01_Book_lookHeldList_L0 (b_ : Option Addr) (R : Bool → World → Prop) (again_ : Int → World → Prop) (i : Int) (w1 : World) : Prop :=
  IsAt b_ ∧ (∃ (v10 : Slc), w1.cell? ⟨(pblk b_), (poff b_) + 9, none⟩ = some (Value.slice v10.ptr v10.len v10.cap) ∧ (((decide (i < ((v10.len : Nat) : Int))) = true → (False)) ∧
  ((decide (i < ((v10.len : Nat) : Int))) = false → (R true w1))))

def F_towpathlaw01_Book_lookHeldList (b_ : Option Addr) (R : Bool → World → Prop) (w : World) : Prop :=
  ∃ (I : Int → World → Prop) (μ : Int → World → Nat), I 0 w ∧
  ∀ (i : Int) w, I i w → F_towpathlaw01_Book_lookHeldList_L0 b_ R (fun (i' : Int) w' => I i' w' ∧ μ i' w' < μ i w) i w

def F_towpathlaw01_Book_lookEvent_L0 (b_ : Option Addr) (R : Bool → World → Prop) (again_ : Int → World → Prop) (i : Int) (w1 : World) : Prop :=
  IsAt b_ ∧ (∃ (v10 : Slc), w1.cell? ⟨(pblk b_), (poff b_) + 10, none⟩ = some (Value.slice v10.ptr v10.len v10.cap) ∧ (((decide (i < ((v10.len : Nat) : Int))) = true → (False)) ∧
  ((decide (i < ((v10.len : Nat) : Int))) = false → (R true w1))))

def F_towpathlaw01_Book_lookEvent (b_ : Option Addr) (R : Bool → World → Prop) (w : World) : Prop :=
  ∃ (I : Int → World → Prop) (μ : Int → World → Nat), I 0 w ∧
  ∀ (i : Int) w, I i w → F_towpathlaw01_Book_lookEvent_L0 b_ R (fun (i' : Int) w' => I i' w' ∧ μ i' w' < μ i w) i w

def F_towpathlaw01_Book_lookAnswer_L0 (b_ : Option Addr) (R : Bool → World → Prop) (again_ : Int → World → Prop) (i : Int) (w1 : World) : Prop :=
  IsAt b_ ∧ (∃ (v10 : Slc), w1.cell? ⟨(pblk b_), (poff b_) + 11, none⟩ = some (Value.slice v10.ptr v10.len v10.cap) ∧ (((decide (i < ((v10.len : Nat) : Int))) = true → (False)) ∧
  ((decide (i < ((v10.len : Nat) : Int))) = false → (R true w1))))

def F_towpathlaw01_Book_lookAnswer (b_ : Option Addr) (R : Bool → World → Prop) (w : World) : Prop :=
  ∃ (I : Int → World → Prop) (μ : Int → World → Nat), I 0 w ∧
  ∀ (i : Int) w, I i w → F_towpathlaw01_Book_lookAnswer_L0 b_ R (fun (i' : Int) w' => I i' w' ∧ μ i' w' < μ i w) i w

def F_towpathref04_Disk_raw_k1 (d : Option Addr) (R : Int → World → Prop) (w3 : World) : Prop :=
  IsAt d ∧ (∃ (v34 : Int), w3.cell? ⟨(pblk d), (poff d) + 5, none⟩ = some (Value.int .i64 v34) ∧ (IsAt d ∧ (Writable w3 (pblk d) ((poff d) + 5) 1 ∧ (∀ w4, w4 = World.puts (pblk d) ((poff d) + 5) [Value.int .i64 (IntKind.i64.wrap (v34 + 1))] w3 → (R 0 w4)))))

def F_towpathref04_Disk_raw_k0 (d : Option Addr) (R : Int → World → Prop) (t13 : Bool) (w1 : World) : Prop :=
  (t13 = true → (IsAt d ∧ (Writable w1 (pblk d) ((poff d) + 4) 1 ∧ (∀ w2, w2 = World.puts (pblk d) ((poff d) + 4) [Value.bool true] w1 → (R 11 w2))))) ∧
  (t13 = false → (IsAt d ∧ (∃ (v20 : Int), w1.cell? ⟨(pblk d), (poff d) + 3, none⟩ = some (Value.int .i64 v20) ∧ (((decide (v20 > 0)) = true → (IsAt d ∧ (∃ (v26 : Int), w1.cell? ⟨(pblk d), (poff d) + 3, none⟩ = some (Value.int .i64 v26) ∧ (IsAt d ∧ (Writable w1 (pblk d) ((poff d) + 3) 1 ∧ (∀ w5, w5 = World.puts (pblk d) ((poff d) + 3) [Value.int .i64 (IntKind.i64.wrap (v26 - 1))] w1 → (F_towpathref04_Disk_raw_k1 d R w5))))))) ∧
  ((decide (v20 > 0)) = false → (F_towpathref04_Disk_raw_k1 d R w1))))))

def F_towpathref04_Disk_raw (d : Option Addr) (R : Int → World → Prop) (w : World) : Prop :=
  IsAt d ∧ (∃ (v6 : Bool), w.cell? ⟨(pblk d), (poff d) + 4, none⟩ = some (Value.bool v6) ∧ ((v6 = true → (F_towpathref04_Disk_raw_k0 d R true w)) ∧
  (v6 = false → (IsAt d ∧ (∃ (v11 : Int), w.cell? ⟨(pblk d), (poff d) + 3, none⟩ = some (Value.int .i64 v11) ∧ (F_towpathref04_Disk_raw_k0 d R (v11 == 0) w))))))

def F_disk_Disk_raw_k0 (d : Option Addr) (R : Int → World → Prop) (t13 : Bool) (w1 : World) : Prop :=
  (t13 = true → (IsAt d ∧ (Writable w1 (pblk d) ((poff d) + 5) 1 ∧ (∀ w2, w2 = World.puts (pblk d) ((poff d) + 5) [Value.bool true] w1 → (R 11 w2))))) ∧
  (t13 = false → (IsAt d ∧ (∃ (v21 : Int), w1.cell? ⟨(pblk d), (poff d) + 4, none⟩ = some (Value.int .i64 v21) ∧ (IsAt d ∧ (Writable w1 (pblk d) ((poff d) + 4) 1 ∧ (∀ w3, w3 = World.puts (pblk d) ((poff d) + 4) [Value.int .i64 (if (-1) > (IntKind.i64.wrap (v21 - 1)) then (-1) else (IntKind.i64.wrap (v21 - 1)))] w1 → (IsAt d ∧ (∃ (v29 : Int), w3.cell? ⟨(pblk d), (poff d) + 6, none⟩ = some (Value.int .i64 v29) ∧ (Writable w3 (pblk d) ((poff d) + 6) 1 ∧ (∀ w4, w4 = World.puts (pblk d) ((poff d) + 6) [Value.int .i64 (IntKind.i64.wrap (v29 + 1))] w3 → (R 0 w4)))))))))))

def F_disk_Disk_raw (d : Option Addr) (R : Int → World → Prop) (w : World) : Prop :=
  IsAt d ∧ (∃ (v6 : Bool), w.cell? ⟨(pblk d), (poff d) + 5, none⟩ = some (Value.bool v6) ∧ ((v6 = true → (F_disk_Disk_raw_k0 d R true w)) ∧
  (v6 = false → (IsAt d ∧ (∃ (v11 : Int), w.cell? ⟨(pblk d), (poff d) + 4, none⟩ = some (Value.int .i64 v11) ∧ (F_disk_Disk_raw_k0 d R (v11 == 0) w))))))

def F_towpathlaw01_markByte (n_ : Int) (R : Int → World → Prop) (w : World) : Prop :=
  R (IntKind.u8.wrap (IntKind.i64.wrap (1 + (Int.tmod n_ 255)))) w

def F_towpathlaw01_isByte (x : Int) (n_ : Int) (R : Bool → World → Prop) (w : World) : Prop :=
  R (x == (IntKind.u8.wrap (IntKind.i64.wrap (1 + (Int.tmod n_ 255))))) w

def Ok_T_towpathlaw04_Op (w : World) (x : T_towpathlaw04_Op) : Prop := (0 ≤ x.Kind ∧ x.Kind ≤ 255) ∧ ((-9223372036854775808) ≤ x.Slot ∧ x.Slot ≤ 9223372036854775807) ∧ ((-9223372036854775808) ≤ x.At ∧ x.At ≤ 9223372036854775807) ∧ (OkSl w x.B 1 1 (fun es => ∃ e_ : Int, es = [Value.int .u8 e_] ∧ (0 ≤ e_ ∧ e_ ≤ 255))) ∧ ((-9223372036854775808) ≤ x.N ∧ x.N ≤ 9223372036854775807)

end Go.Proofs.YtckmganidgbpgaaGreatDoor
