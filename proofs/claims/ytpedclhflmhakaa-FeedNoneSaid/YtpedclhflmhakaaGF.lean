/- WRITTEN BY PROGRAM (dec.py): for each Go function the clean formula F, the call's contract C, and the proof S that F gives C. -/
import Derived.Test.YtpedclhflmhakaaRows
import Derived.Test.YtpedclhflmhakaaCore
namespace Go.Proofs.Ytpedclhflmhakaa
open Go
set_option linter.unusedVariables false


abbrev ty_int : TypeId := 3

abbrev ty_towpathlaw16_Made : TypeId := 25

abbrev ty_api_Txn : TypeId := 42

abbrev ty_towpathlaw16_Ask : TypeId := 54

abbrev ty_feed_Feed : TypeId := 59

abbrev ty_api_Write : TypeId := 78

abbrev ty_logfile_Source : TypeId := 116

abbrev ty_struct : TypeId := 121

structure T_towpathlaw16_Made where
  Mark : Int
  Beyond : Slc
  Window : Int

structure T_towpathlaw16_Ask where
  Kind : Int
  N : Int

structure T_api_Txn where
  Number : Int
  Writes : Slc

structure T_api_Write where
  Key : ByteArray
  Val : ByteArray
  Drop : Bool

def C_towpathlaw16_FeedNone (m_ : T_towpathlaw16_Made) (q : Slc) (w : World) (R : Bool → World → Prop) : Prop :=
  Calls Try.prog 6 #[Value.agg #[Value.int .i64 m_.Mark, Value.slice m_.Beyond.ptr m_.Beyond.len m_.Beyond.cap, Value.int .i64 m_.Window], Value.slice q.ptr q.len q.cap] w (fun e w' => ∃ (r0 : Bool), e = .returned (Value.bool r0) ∧ R r0 w')

def C_towpathlaw16_lives (w : World) (R : Bool → World → Prop) : Prop :=
  Calls Try.prog 12 #[] w (fun e w' => ∃ (r0 : Bool), e = .returned (Value.bool r0) ∧ R r0 w')

def C_feed_Feed_More (f : Option Addr) (last : Int) (w : World) (R : Int → World → Prop) : Prop :=
  Calls Try.prog 13 #[Value.pointer f, Value.int .i64 last] w (fun e w' => ∃ (r0 : Int), e = .returned (Value.int .i64 r0) ∧ R r0 w')

def C_feed_Feed_Read (f : Option Addr) (w : World) (R : Int → Int → World → Prop) : Prop :=
  Calls Try.prog 14 #[Value.pointer f] w (fun e w' => ∃ (r0 : Int) (r1 : Int), e = .returned (Value.tuple #[Value.int .i64 r0, Value.int .i64 r1]) ∧ R r0 r1 w')

def C_feed_Feed_Close (f : Option Addr) (w : World) (R : World → Prop) : Prop :=
  Calls Try.prog 15 #[Value.pointer f] w (fun e w' => e = .returned (Value.tuple #[]) ∧ R w')

def C_feed_Feed_Held (f : Option Addr) (w : World) (R : Int → World → Prop) : Prop :=
  Calls Try.prog 17 #[Value.pointer f] w (fun e w' => ∃ (r0 : Int), e = .returned (Value.int .i64 r0) ∧ R r0 w')

def C_feed_Feed_Can (f : Option Addr) (mark : Int) (w : World) (R : Int → World → Prop) : Prop :=
  Calls Try.prog 18 #[Value.pointer f, Value.int .i64 mark] w (fun e w' => ∃ (r0 : Int), e = .returned (Value.int .u8 r0) ∧ R r0 w')

def C_feed_Feed_Dispatch (f : Option Addr) (mark : Int) (w : World) (R : T_api_Txn → Int → World → Prop) : Prop :=
  Calls Try.prog 19 #[Value.pointer f, Value.int .i64 mark] w (fun e w' => ∃ (r0 : T_api_Txn) (r1 : Int), e = .returned (Value.tuple #[Value.agg #[Value.int .i64 r0.Number, Value.slice r0.Writes.ptr r0.Writes.len r0.Writes.cap], Value.int .i64 r1]) ∧ R r0 r1 w')

def C_feed_Feed_Skip (f : Option Addr) (w : World) (R : Int → Int → World → Prop) : Prop :=
  Calls Try.prog 20 #[Value.pointer f] w (fun e w' => ∃ (r0 : Int) (r1 : Int), e = .returned (Value.tuple #[Value.int .i64 r0, Value.int .i64 r1]) ∧ R r0 r1 w')

def C_towpathlaw01_SameTxn (a_ : T_api_Txn) (b_ : T_api_Txn) (w : World) (R : Bool → World → Prop) : Prop :=
  Calls Try.prog 22 #[Value.agg #[Value.int .i64 a_.Number, Value.slice a_.Writes.ptr a_.Writes.len a_.Writes.cap], Value.agg #[Value.int .i64 b_.Number, Value.slice b_.Writes.ptr b_.Writes.len b_.Writes.cap]] w (fun e w' => ∃ (r0 : Bool), e = .returned (Value.bool r0) ∧ R r0 w')

def C_towpathlaw16_asks (f : Option Addr) (x : Option Addr) (a_ : T_towpathlaw16_Ask) (w : World) (R : Bool → World → Prop) : Prop :=
  Calls Try.prog 23 #[Value.pointer f, Value.pointer x, Value.agg #[Value.int .u8 a_.Kind, Value.int .i64 a_.N]] w (fun e w' => ∃ (r0 : Bool), e = .returned (Value.bool r0) ∧ R r0 w')

def C_feed_Feed_Fed (f : Option Addr) (w : World) (R : Int → World → Prop) : Prop :=
  Calls Try.prog 25 #[Value.pointer f] w (fun e w' => ∃ (r0 : Int), e = .returned (Value.int .i64 r0) ∧ R r0 w')

def C_feed_New (s : Option Addr) (mark : Int) (beyond : Slc) (window : Int) (w : World) (R : Option Addr → Int → World → Prop) : Prop :=
  Calls Try.prog 27 #[Value.pointer s, Value.int .i64 mark, Value.slice beyond.ptr beyond.len beyond.cap, Value.int .i64 window] w (fun e w' => ∃ (r0 : Option Addr) (r1 : Int), e = .returned (Value.tuple #[Value.pointer r0, Value.int .i64 r1]) ∧ R r0 r1 w')

def C_logfile_New (l_ : Slc) (w : World) (R : Option Addr → Int → World → Prop) : Prop :=
  Calls Try.prog 40 #[Value.slice l_.ptr l_.len l_.cap] w (fun e w' => ∃ (r0 : Option Addr) (r1 : Int), e = .returned (Value.tuple #[Value.pointer r0, Value.int .i64 r1]) ∧ R r0 r1 w')

def C_towpathlaw16_three (w : World) (R : Slc → World → Prop) : Prop :=
  Calls Try.prog 45 #[] w (fun e w' => ∃ (r0 : Slc), e = .returned (Value.slice r0.ptr r0.len r0.cap) ∧ R r0 w')

def C_feed_Feed_there (f : Option Addr) (w : World) (R : Bool → World → Prop) : Prop :=
  Calls Try.prog 46 #[Value.pointer f] w (fun e w' => ∃ (r0 : Bool), e = .returned (Value.bool r0) ∧ R r0 w')

def C_logfile_Source_Last (s : Option Addr) (w : World) (R : Int → World → Prop) : Prop :=
  Calls Try.prog 47 #[Value.pointer s] w (fun e w' => ∃ (r0 : Int), e = .returned (Value.int .i64 r0) ∧ R r0 w')

def C_logfile_Source_Get (s : Option Addr) (number : Int) (w : World) (R : T_api_Txn → Int → World → Prop) : Prop :=
  Calls Try.prog 48 #[Value.pointer s, Value.int .i64 number] w (fun e w' => ∃ (r0 : T_api_Txn) (r1 : Int), e = .returned (Value.tuple #[Value.agg #[Value.int .i64 r0.Number, Value.slice r0.Writes.ptr r0.Writes.len r0.Writes.cap], Value.int .i64 r1]) ∧ R r0 r1 w')

def C_feed_Feed_skips (f : Option Addr) (w : World) (R : Bool → World → Prop) : Prop :=
  Calls Try.prog 50 #[Value.pointer f] w (fun e w' => ∃ (r0 : Bool), e = .returned (Value.bool r0) ∧ R r0 w')

def C_feed_Feed_near (f : Option Addr) (mark : Int) (w : World) (R : Bool → World → Prop) : Prop :=
  Calls Try.prog 51 #[Value.pointer f, Value.int .i64 mark] w (fun e w' => ∃ (r0 : Bool), e = .returned (Value.bool r0) ∧ R r0 w')

def C_towpathlaw01_SameWrites (a_ : Slc) (b_ : Slc) (w : World) (R : Bool → World → Prop) : Prop :=
  Calls Try.prog 52 #[Value.slice a_.ptr a_.len a_.cap, Value.slice b_.ptr b_.len b_.cap] w (fun e w' => ∃ (r0 : Bool), e = .returned (Value.bool r0) ∧ R r0 w')

def C_towpathref16_Feed_More (f : Option Addr) (last : Int) (w : World) (R : Int → World → Prop) : Prop :=
  Calls Try.prog 53 #[Value.pointer f, Value.int .i64 last] w (fun e w' => ∃ (r0 : Int), e = .returned (Value.int .i64 r0) ∧ R r0 w')

def C_towpathref16_Feed_Can (f : Option Addr) (mark : Int) (w : World) (R : Int → World → Prop) : Prop :=
  Calls Try.prog 54 #[Value.pointer f, Value.int .i64 mark] w (fun e w' => ∃ (r0 : Int), e = .returned (Value.int .u8 r0) ∧ R r0 w')

def C_towpathref16_Feed_Read (f : Option Addr) (w : World) (R : Int → Int → World → Prop) : Prop :=
  Calls Try.prog 55 #[Value.pointer f] w (fun e w' => ∃ (r0 : Int) (r1 : Int), e = .returned (Value.tuple #[Value.int .i64 r0, Value.int .i64 r1]) ∧ R r0 r1 w')

def C_towpathref16_Feed_Skip (f : Option Addr) (w : World) (R : Int → Int → World → Prop) : Prop :=
  Calls Try.prog 56 #[Value.pointer f] w (fun e w' => ∃ (r0 : Int) (r1 : Int), e = .returned (Value.tuple #[Value.int .i64 r0, Value.int .i64 r1]) ∧ R r0 r1 w')

def C_towpathref16_Feed_Dispatch (f : Option Addr) (mark : Int) (w : World) (R : T_api_Txn → Int → World → Prop) : Prop :=
  Calls Try.prog 57 #[Value.pointer f, Value.int .i64 mark] w (fun e w' => ∃ (r0 : T_api_Txn) (r1 : Int), e = .returned (Value.tuple #[Value.agg #[Value.int .i64 r0.Number, Value.slice r0.Writes.ptr r0.Writes.len r0.Writes.cap], Value.int .i64 r1]) ∧ R r0 r1 w')

def C_towpathref16_Feed_Close (f : Option Addr) (w : World) (R : World → Prop) : Prop :=
  Calls Try.prog 58 #[Value.pointer f] w (fun e w' => e = .returned (Value.tuple #[]) ∧ R w')

def C_logfile_Check (l_ : Slc) (w : World) (R : Int → World → Prop) : Prop :=
  Calls Try.prog 80 #[Value.slice l_.ptr l_.len l_.cap] w (fun e w' => ∃ (r0 : Int), e = .returned (Value.int .i64 r0) ∧ R r0 w')

def C_logfile_copied (t_ : T_api_Txn) (w : World) (R : T_api_Txn → World → Prop) : Prop :=
  Calls Try.prog 81 #[Value.agg #[Value.int .i64 t_.Number, Value.slice t_.Writes.ptr t_.Writes.len t_.Writes.cap]] w (fun e w' => ∃ (r0 : T_api_Txn), e = .returned (Value.agg #[Value.int .i64 r0.Number, Value.slice r0.Writes.ptr r0.Writes.len r0.Writes.cap]) ∧ R r0 w')

def C_towpathref06_Own (t_ : T_api_Txn) (w : World) (R : T_api_Txn → World → Prop) : Prop :=
  Calls Try.prog 83 #[Value.agg #[Value.int .i64 t_.Number, Value.slice t_.Writes.ptr t_.Writes.len t_.Writes.cap]] w (fun e w' => ∃ (r0 : T_api_Txn), e = .returned (Value.agg #[Value.int .i64 r0.Number, Value.slice r0.Writes.ptr r0.Writes.len r0.Writes.cap]) ∧ R r0 w')

def C_towpathref06_Source_Last (s : Option Addr) (w : World) (R : Int → World → Prop) : Prop :=
  Calls Try.prog 84 #[Value.pointer s] w (fun e w' => ∃ (r0 : Int), e = .returned (Value.int .i64 r0) ∧ R r0 w')

def C_towpathref16_Feed_there (f : Option Addr) (w : World) (R : Bool → World → Prop) : Prop :=
  Calls Try.prog 85 #[Value.pointer f] w (fun e w' => ∃ (r0 : Bool), e = .returned (Value.bool r0) ∧ R r0 w')

def C_towpathref16_Feed_near (f : Option Addr) (mark : Int) (w : World) (R : Bool → World → Prop) : Prop :=
  Calls Try.prog 86 #[Value.pointer f, Value.int .i64 mark] w (fun e w' => ∃ (r0 : Bool), e = .returned (Value.bool r0) ∧ R r0 w')

def C_towpathref06_Source_Get (s : Option Addr) (number : Int) (w : World) (R : T_api_Txn → Int → World → Prop) : Prop :=
  Calls Try.prog 87 #[Value.pointer s, Value.int .i64 number] w (fun e w' => ∃ (r0 : T_api_Txn) (r1 : Int), e = .returned (Value.tuple #[Value.agg #[Value.int .i64 r0.Number, Value.slice r0.Writes.ptr r0.Writes.len r0.Writes.cap], Value.int .i64 r1]) ∧ R r0 r1 w')

def C_logfile_turns (w : World) (R : Value → World → Prop) : Prop :=
  Calls Try.prog 108 #[] w (fun e w' => ∃ (r0 : Value), e = .returned (r0) ∧ R r0 w')

def C_slices_Clone_api_Write_api_Write (s : Slc) (w : World) (R : Slc → World → Prop) : Prop :=
  Calls Try.prog 109 #[Value.slice s.ptr s.len s.cap] w (fun e w' => ∃ (r0 : Slc), e = .returned (Value.slice r0.ptr r0.len r0.cap) ∧ R r0 w')

def C_logfile_turns_1 (t_ : T_api_Txn) (t1 : Option Addr) (w : World) (R : Int → World → Prop) : Prop :=
  Calls Try.prog 122 #[Value.agg #[Value.int .i64 t_.Number, Value.slice t_.Writes.ptr t_.Writes.len t_.Writes.cap], Value.pointer t1] w (fun e w' => ∃ (r0 : Int), e = .returned (Value.int .i64 r0) ∧ R r0 w')

def C_record_Check (t_ : T_api_Txn) (w : World) (R : Int → World → Prop) : Prop :=
  Calls Try.prog 123 #[Value.agg #[Value.int .i64 t_.Number, Value.slice t_.Writes.ptr t_.Writes.len t_.Writes.cap]] w (fun e w' => ∃ (r0 : Int), e = .returned (Value.int .i64 r0) ∧ R r0 w')

def C_record_Check_1 (w_ : T_api_Write) (w : World) (R : Bool → World → Prop) : Prop :=
  Calls Try.prog 133 #[Value.agg #[Value.string w_.Key, Value.string w_.Val, Value.bool w_.Drop]] w (fun e w' => ∃ (r0 : Bool), e = .returned (Value.bool r0) ∧ R r0 w')

def C_slices_ContainsFunc_api_Write_api_Write (s : Slc) (f : Value) (w : World) (R : Bool → World → Prop) : Prop :=
  Calls Try.prog 134 #[Value.slice s.ptr s.len s.cap, f] w (fun e w' => ∃ (r0 : Bool), e = .returned (Value.bool r0) ∧ R r0 w')

def C_slices_IndexFunc_api_Write_api_Write (s : Slc) (f : Value) (w : World) (R : Int → World → Prop) : Prop :=
  Calls Try.prog 139 #[Value.slice s.ptr s.len s.cap, f] w (fun e w' => ∃ (r0 : Int), e = .returned (Value.int .i64 r0) ∧ R r0 w')

def F_towpathlaw16_FeedNone_k1 (R : Bool → World → Prop) (i : Int) (again_ : Int → World → Prop) (t45 : Bool) (w4 : World) : Prop :=
  (t45 = true → (R false w4)) ∧
  (t45 = false → (again_ (IntKind.i64.wrap (i + 1)) w4))

def F_towpathlaw16_FeedNone_L0 (q : Slc) (R : Bool → World → Prop) (b_ : Nat) (b_1 : Nat) (again_ : Int → World → Prop) (i : Int) (w3 : World) : Prop :=
  (((decide (i < ((q.len : Nat) : Int))) && (decide (i < 50))) = true → (IsAt q.ptr ∧ (0 ≤ i ∧ i < ((q.len : Nat) : Int) ∧ (∃ (v24 : T_towpathlaw16_Ask), CellsAt w3 (pblk q.ptr) ((poff q.ptr) + i.toNat * 2) [Value.int .u8 v24.Kind, Value.int .i64 v24.N] ∧ (C_towpathlaw16_asks none none v24 w3 (fun (v25 : Bool) w5 => ((!v25) = true → (F_towpathlaw16_FeedNone_k1 R i again_ true w5)) ∧
  ((!v25) = false → (IsAt q.ptr ∧ (0 ≤ i ∧ i < ((q.len : Nat) : Int) ∧ (∃ (v32 : T_towpathlaw16_Ask), CellsAt w5 (pblk q.ptr) ((poff q.ptr) + i.toNat * 2) [Value.int .u8 v32.Kind, Value.int .i64 v32.N] ∧ (C_towpathlaw16_asks (some ⟨b_1, 0, none⟩) none v32 w5 (fun (v33 : Bool) w6 => ((!v33) = true → (F_towpathlaw16_FeedNone_k1 R i again_ true w6)) ∧
  ((!v33) = false → (C_feed_Feed_Held (some ⟨b_1, 0, none⟩) w6 (fun (v38 : Int) w7 => ((v38 != 0) = true → (F_towpathlaw16_FeedNone_k1 R i again_ true w7)) ∧
  ((v38 != 0) = false → (C_feed_Feed_Fed (some ⟨b_1, 0, none⟩) w7 (fun (v43 : Int) w8 => F_towpathlaw16_FeedNone_k1 R i again_ (v43 != 0) w8)))))))))))))))))) ∧
  (((decide (i < ((q.len : Nat) : Int))) && (decide (i < 50))) = false → (∃ (v48 : Int), w3.cell? ⟨b_, 0, none⟩ = some (Value.int .i64 v48) ∧ (∃ (v50 : Slc), w3.cell? ⟨b_, 1, none⟩ = some (Value.slice v50.ptr v50.len v50.cap) ∧ (∃ (v52 : Int), w3.cell? ⟨b_, 2, none⟩ = some (Value.int .i64 v52) ∧ (C_feed_New none v48 v50 v52 w3 (fun (f : Option Addr) (e : Int) w9 => ((f.isNone && (e == 2)) = true → (C_towpathlaw16_lives w9 (fun (v63 : Bool) w10 => R v63 w10))) ∧
  ((f.isNone && (e == 2)) = false → (R false w9))))))))

def F_towpathlaw16_FeedNone (m_ : T_towpathlaw16_Made) (q : Slc) (R : Bool → World → Prop) (w : World) : Prop :=
  ∀ b_ w1, b_ = w.heap.size → w1 = w.alloc (Obj.cells ([Value.int .i64 m_.Mark, Value.slice m_.Beyond.ptr m_.Beyond.len m_.Beyond.cap, Value.int .i64 m_.Window]).toArray ty_towpathlaw16_Made (0, 0)) → (∀ b_1 w2, b_1 = w1.heap.size → w2 = w1.alloc (Obj.cells ([Value.pointer none, Value.int .i64 0, Value.int .i64 0, Value.int .i64 0, Value.map none, Value.pointer none, Value.bool false]).toArray ty_feed_Feed (0, 0)) → (∃ (I : Int → World → Prop) (μ : Int → World → Nat), I 0 w2 ∧
  ∀ (i : Int) w, I i w → F_towpathlaw16_FeedNone_L0 q R b_ b_1 (fun (i' : Int) w' => I i' w' ∧ μ i' w' < μ i w) i w))

def F_towpathlaw16_lives_k0 (R : Bool → World → Prop) (f : Option Addr) (t34 : Bool) (w4 : World) : Prop :=
  (t34 = true → (R false w4)) ∧
  (t34 = false → (C_feed_Feed_Read f w4 (fun (n_ : Int) (e2 : Int) w5 => C_feed_Feed_Dispatch f 0 w5 (fun (v42 : T_api_Txn) (g : Int) w6 => ∀ b_ w7, b_ = w6.heap.size → w7 = w6.alloc (Obj.cells ([Value.int .i64 0, Value.slice none 0 0]).toArray ty_api_Txn (0, 0)) → (Writable w7 b_ 0 2 ∧ (∀ w8, w8 = World.puts b_ 0 [Value.int .i64 v42.Number, Value.slice v42.Writes.ptr v42.Writes.len v42.Writes.cap] w7 → (C_feed_Feed_Read f w8 (fun (m_ : Int) (h_ : Int) w9 => C_feed_Feed_Dispatch f 0 w9 (fun (v52 : T_api_Txn) (i : Int) w10 => ∀ b_1 w11, b_1 = w10.heap.size → w11 = w10.alloc (Obj.cells ([Value.int .i64 0, Value.slice none 0 0]).toArray ty_api_Txn (0, 0)) → (Writable w11 b_1 0 2 ∧ (∀ w12, w12 = World.puts b_1 0 [Value.int .i64 v52.Number, Value.slice v52.Writes.ptr v52.Writes.len v52.Writes.cap] w11 → (((((e2 == 0) && (n_ == 1)) && (g == 0)) = true → (∃ (v67 : Int), w12.cell? ⟨b_, 0, none⟩ = some (Value.int .i64 v67) ∧ ((((((v67 == 1) && (h_ == 0)) && (m_ == 2)) && (i == 6)) = true → (C_feed_Feed_Can f 1 w12 (fun (v84 : Int) w13 => R (v84 == 3) w13))) ∧
  (((((v67 == 1) && (h_ == 0)) && (m_ == 2)) && (i == 6)) = false → (R false w12))))) ∧
  ((((e2 == 0) && (n_ == 1)) && (g == 0)) = false → (R false w12))))))))))))))

def F_towpathlaw16_lives (R : Bool → World → Prop) (w : World) : Prop :=
  C_towpathlaw16_three w (fun (v12 : Slc) w1 => C_logfile_New v12 w1 (fun (s : Option Addr) (e : Int) w2 => ((e != 0) = true → (R false w2)) ∧
  ((e != 0) = false → (C_feed_New s 0 (Slc.mk none 0 0) 1 w2 (fun (f : Option Addr) (e1 : Int) w3 => ((e1 != 0) = true → (F_towpathlaw16_lives_k0 R f true w3)) ∧
  ((e1 != 0) = false → (C_feed_Feed_More f 2 w3 (fun (v27 : Int) w14 => ((v27 != 0) = true → (F_towpathlaw16_lives_k0 R f true w14)) ∧
  ((v27 != 0) = false → (C_feed_Feed_Can f 0 w14 (fun (v32 : Int) w15 => F_towpathlaw16_lives_k0 R f (v32 != 1) w15)))))))))))

def F_feed_Feed_More_k0 (f : Option Addr) (last : Int) (R : Int → World → Prop) (t14 : Bool) (w2 : World) : Prop :=
  (t14 = true → (R 1 w2)) ∧
  (t14 = false → (IsAt f ∧ (Writable w2 (pblk f) ((poff f) + 2) 1 ∧ (∀ w3, w3 = World.puts (pblk f) ((poff f) + 2) [Value.int .i64 last] w2 → (R 0 w3)))))

def F_feed_Feed_More (f : Option Addr) (last : Int) (R : Int → World → Prop) (w : World) : Prop :=
  C_feed_Feed_there f w (fun (v7 : Bool) w1 => ((!v7) = true → (R 2 w1)) ∧
  ((!v7) = false → (IsAt f ∧ (∃ (v13 : Bool), w1.cell? ⟨(pblk f), (poff f) + 6, none⟩ = some (Value.bool v13) ∧ ((v13 = true → (R 12 w1)) ∧
  (v13 = false → (IsAt f ∧ (∃ (v19 : Int), w1.cell? ⟨(pblk f), (poff f) + 2, none⟩ = some (Value.int .i64 v19) ∧ (((decide (last < v19)) = true → (F_feed_Feed_More_k0 f last R true w1)) ∧
  ((decide (last < v19)) = false → (IsAt f ∧ (∃ (v26 : Option Addr), w1.cell? ⟨(pblk f), (poff f), none⟩ = some (Value.pointer v26) ∧ (C_logfile_Source_Last v26 w1 (fun (v27 : Int) w4 => F_feed_Feed_More_k0 f last R (decide (last > v27)) w4))))))))))))))

def F_feed_Feed_Read_k0 (f : Option Addr) (R : Int → Int → World → Prop) (t_ : Option Addr) (e : Int) (w3 : World) : Prop :=
  ((e != 0) = true → (R 0 e w3)) ∧
  ((e != 0) = false → (IsAt f ∧ (∃ (v50 : Int), w3.cell? ⟨(pblk f), (poff f) + 1, none⟩ = some (Value.int .i64 v50) ∧ (Writable w3 (pblk f) ((poff f) + 1) 1 ∧ (∀ w4, w4 = World.puts (pblk f) ((poff f) + 1) [Value.int .i64 (IntKind.i64.wrap (v50 + 1))] w3 → (IsAt f ∧ (Writable w4 (pblk f) ((poff f) + 5) 1 ∧ (∀ w5, w5 = World.puts (pblk f) ((poff f) + 5) [Value.pointer t_] w4 → (IsAt t_ ∧ (∃ (v58 : Int), w5.cell? ⟨(pblk t_), (poff t_), none⟩ = some (Value.int .i64 v58) ∧ (R v58 0 w5)))))))))))

def F_feed_Feed_Read (f : Option Addr) (R : Int → Int → World → Prop) (w : World) : Prop :=
  C_feed_Feed_there f w (fun (v8 : Bool) w1 => ((!v8) = true → (R 0 2 w1)) ∧
  ((!v8) = false → (IsAt f ∧ (∃ (v14 : Option Addr), w1.cell? ⟨(pblk f), (poff f) + 5, none⟩ = some (Value.pointer v14) ∧ (((!v14.isNone) = true → (R 0 10 w1)) ∧
  ((!v14.isNone) = false → (IsAt f ∧ (∃ (v20 : Bool), w1.cell? ⟨(pblk f), (poff f) + 6, none⟩ = some (Value.bool v20) ∧ ((v20 = true → (R 0 12 w1)) ∧
  (v20 = false → (IsAt f ∧ (∃ (v25 : Int), w1.cell? ⟨(pblk f), (poff f) + 1, none⟩ = some (Value.int .i64 v25) ∧ (IsAt f ∧ (∃ (v29 : Int), w1.cell? ⟨(pblk f), (poff f) + 2, none⟩ = some (Value.int .i64 v29) ∧ (∀ w2, Ext w1 w2 → (((decide (v25 ≥ v29)) = true → (R 0 9 w2)) ∧
  ((decide (v25 ≥ v29)) = false → (∀ w6, (∃ k, w6 = w2.drewN k) → (IsAt f ∧ (∃ (v35 : Option Addr), w6.cell? ⟨(pblk f), (poff f), none⟩ = some (Value.pointer v35) ∧ (IsAt f ∧ (∃ (v39 : Int), w6.cell? ⟨(pblk f), (poff f) + 1, none⟩ = some (Value.int .i64 v39) ∧ ((C_logfile_Source_Get v35 (IntKind.i64.wrap (v39 + 1)) w6 (fun (v41 : T_api_Txn) (e1 : Int) w7 => (∀ b_ w8, b_ = w7.heap.size → w8 = w7.alloc (Obj.cells ([Value.int .i64 0, Value.slice none 0 0]).toArray ty_api_Txn (0, 0)) → ((Writable w8 b_ 0 2 ∧ (∀ w9, w9 = World.puts b_ 0 [Value.int .i64 v41.Number, Value.slice v41.Writes.ptr v41.Writes.len v41.Writes.cap] w8 → ((F_feed_Feed_Read_k0 f R (some ⟨b_, 0, none⟩) e1 w9)))))))) ∧
  (∀ b_1 w10, b_1 = w6.heap.size → w10 = w6.alloc (Obj.cells ([Value.int .i64 0, Value.slice none 0 0]).toArray ty_api_Txn (0, 0)) → (w10.cell? ⟨(pblk f), (poff f) + 1, none⟩ = some (Value.int .i64 v39) ∧ w10.cell? ⟨(pblk f), (poff f), none⟩ = some (Value.pointer v35) ∧ (C_logfile_Source_Get v35 (IntKind.i64.wrap (v39 + 1)) w10 (fun (v411 : T_api_Txn) (e2 : Int) w11 => (Writable w11 b_1 0 2 ∧ (∀ w12, w12 = World.puts b_1 0 [Value.int .i64 v411.Number, Value.slice v411.Writes.ptr v411.Writes.len v411.Writes.cap] w11 → ((F_feed_Feed_Read_k0 f R (some ⟨b_1, 0, none⟩) e2 w12)))))))))))))))))))))))))))))))

def F_feed_Feed_Close (f : Option Addr) (R : World → Prop) (w : World) : Prop :=
  C_feed_Feed_there f w (fun (v3 : Bool) w1 => (v3 = true → (IsAt f ∧ (Writable w1 (pblk f) ((poff f) + 6) 1 ∧ (∀ w2, w2 = World.puts (pblk f) ((poff f) + 6) [Value.bool true] w1 → (R w2))))) ∧
  (v3 = false → (R w1)))

def F_feed_Feed_Held_k0 (f : Option Addr) (R : Int → World → Prop) (t12 : Bool) (w1 : World) : Prop :=
  (t12 = true → (R 0 w1)) ∧
  (t12 = false → (IsAt f ∧ (∃ (v16 : Option Addr), w1.cell? ⟨(pblk f), (poff f) + 5, none⟩ = some (Value.pointer v16) ∧ (IsAt v16 ∧ (∃ (v19 : Int), w1.cell? ⟨(pblk v16), (poff v16), none⟩ = some (Value.int .i64 v19) ∧ (R v19 w1))))))

def F_feed_Feed_Held (f : Option Addr) (R : Int → World → Prop) (w : World) : Prop :=
  C_feed_Feed_there f w (fun (v4 : Bool) w2 => ((!v4) = true → (F_feed_Feed_Held_k0 f R true w2)) ∧
  ((!v4) = false → (IsAt f ∧ (∃ (v10 : Option Addr), w2.cell? ⟨(pblk f), (poff f) + 5, none⟩ = some (Value.pointer v10) ∧ (F_feed_Feed_Held_k0 f R v10.isNone w2)))))

def F_feed_Feed_Can_k0 (R : Int → World → Prop) (k : Int) (w2 : World) : Prop :=
  R k w2

def F_feed_Feed_Can_k1 (R : Int → World → Prop) (w3 : World) : Prop :=
  R 0 w3

def F_feed_Feed_Can_k4 (f : Option Addr) (R : Int → World → Prop) (t30 : Bool) (w6 : World) : Prop :=
  (t30 = true → (F_feed_Feed_Can_k1 R w6)) ∧
  (t30 = false → (IsAt f ∧ (∃ (v44 : Int), w6.cell? ⟨(pblk f), (poff f) + 1, none⟩ = some (Value.int .i64 v44) ∧ (IsAt f ∧ (∃ (v48 : Int), w6.cell? ⟨(pblk f), (poff f) + 2, none⟩ = some (Value.int .i64 v48) ∧ (∀ w7, Ext w6 w7 → (((decide (v44 ≥ v48)) = true → (F_feed_Feed_Can_k1 R w7)) ∧
  ((decide (v44 ≥ v48)) = false → (F_feed_Feed_Can_k0 R 1 w7)))))))))

def F_feed_Feed_Can_k3 (f : Option Addr) (R : Int → World → Prop) (t19 : Bool) (w5 : World) : Prop :=
  (t19 = true → (F_feed_Feed_Can_k0 R 3 w5)) ∧
  (t19 = false → (IsAt f ∧ (∃ (v34 : Option Addr), w5.cell? ⟨(pblk f), (poff f) + 5, none⟩ = some (Value.pointer v34) ∧ (((!v34.isNone) = true → (F_feed_Feed_Can_k4 f R (!v34.isNone) w5)) ∧
  ((!v34.isNone) = false → (IsAt f ∧ (∃ (v39 : Bool), w5.cell? ⟨(pblk f), (poff f) + 6, none⟩ = some (Value.bool v39) ∧ (F_feed_Feed_Can_k4 f R v39 w5))))))))

def F_feed_Feed_Can_k2 (f : Option Addr) (mark : Int) (R : Int → World → Prop) (t9 : Bool) (w4 : World) : Prop :=
  (t9 = true → (F_feed_Feed_Can_k0 R 2 w4)) ∧
  (t9 = false → (IsAt f ∧ (∃ (v23 : Option Addr), w4.cell? ⟨(pblk f), (poff f) + 5, none⟩ = some (Value.pointer v23) ∧ (((!v23.isNone) = true → (C_feed_Feed_near f mark w4 (fun (v28 : Bool) w8 => F_feed_Feed_Can_k3 f R v28 w8))) ∧
  ((!v23.isNone) = false → (F_feed_Feed_Can_k3 f R false w4))))))

def F_feed_Feed_Can (f : Option Addr) (mark : Int) (R : Int → World → Prop) (w : World) : Prop :=
  C_feed_Feed_there f w (fun (v7 : Bool) w1 => ((!v7) = true → (R 0 w1)) ∧
  ((!v7) = false → (IsAt f ∧ (∃ (v13 : Option Addr), w1.cell? ⟨(pblk f), (poff f) + 5, none⟩ = some (Value.pointer v13) ∧ (((!v13.isNone) = true → (C_feed_Feed_skips f w1 (fun (v17 : Bool) w9 => F_feed_Feed_Can_k2 f mark R v17 w9))) ∧
  ((!v13.isNone) = false → (F_feed_Feed_Can_k2 f mark R false w1)))))))

def F_feed_Feed_Dispatch_k0 (f : Option Addr) (R : T_api_Txn → Int → World → Prop) (b_ : Nat) (t19 : Bool) (w5 : World) : Prop :=
  (t19 = true → (Writable w5 b_ 0 2 ∧ (∀ w6, w6 = World.puts b_ 0 [Value.int .i64 0, Value.slice none 0 0] w5 → (∃ (res2 : T_api_Txn), CellsAt w6 b_ 0 [Value.int .i64 res2.Number, Value.slice res2.Writes.ptr res2.Writes.len res2.Writes.cap] ∧ (R res2 6 w6))))) ∧
  (t19 = false → (IsAt f ∧ (∃ (v32 : Option Addr), w5.cell? ⟨(pblk f), (poff f) + 5, none⟩ = some (Value.pointer v32) ∧ (IsAt v32 ∧ (∃ (v34 : T_api_Txn), CellsAt w5 (pblk v32) (poff v32) [Value.int .i64 v34.Number, Value.slice v34.Writes.ptr v34.Writes.len v34.Writes.cap] ∧ (∀ b_1 w7, b_1 = w5.heap.size → w7 = w5.alloc (Obj.cells ([Value.int .i64 0, Value.slice none 0 0]).toArray ty_api_Txn (0, 0)) → (Writable w7 b_1 0 2 ∧ (∀ w8, w8 = World.puts b_1 0 [Value.int .i64 v34.Number, Value.slice v34.Writes.ptr v34.Writes.len v34.Writes.cap] w7 → (IsAt f ∧ (Writable w8 (pblk f) ((poff f) + 5) 1 ∧ (∀ w9, w9 = World.puts (pblk f) ((poff f) + 5) [Value.pointer none] w8 → (∃ (v38 : T_api_Txn), CellsAt w9 b_1 0 [Value.int .i64 v38.Number, Value.slice v38.Writes.ptr v38.Writes.len v38.Writes.cap] ∧ (Writable w9 b_ 0 2 ∧ (∀ w10, w10 = World.puts b_ 0 [Value.int .i64 v38.Number, Value.slice v38.Writes.ptr v38.Writes.len v38.Writes.cap] w9 → (∃ (res3 : T_api_Txn), CellsAt w10 b_ 0 [Value.int .i64 res3.Number, Value.slice res3.Writes.ptr res3.Writes.len res3.Writes.cap] ∧ (R res3 0 w10))))))))))))))))

def F_feed_Feed_Dispatch (f : Option Addr) (mark : Int) (R : T_api_Txn → Int → World → Prop) (w : World) : Prop :=
  ∀ b_ w1, b_ = w.heap.size → w1 = w.alloc (Obj.cells ([Value.int .i64 0, Value.slice none 0 0]).toArray ty_api_Txn (0, 0)) → (C_feed_Feed_there f w1 (fun (v9 : Bool) w2 => ((!v9) = true → (Writable w2 b_ 0 2 ∧ (∀ w3, w3 = World.puts b_ 0 [Value.int .i64 0, Value.slice none 0 0] w2 → (∃ (res : T_api_Txn), CellsAt w3 b_ 0 [Value.int .i64 res.Number, Value.slice res.Writes.ptr res.Writes.len res.Writes.cap] ∧ (R res 2 w3))))) ∧
  ((!v9) = false → (IsAt f ∧ (∃ (v16 : Option Addr), w2.cell? ⟨(pblk f), (poff f) + 5, none⟩ = some (Value.pointer v16) ∧ ((v16.isNone = true → (Writable w2 b_ 0 2 ∧ (∀ w4, w4 = World.puts b_ 0 [Value.int .i64 0, Value.slice none 0 0] w2 → (∃ (res1 : T_api_Txn), CellsAt w4 b_ 0 [Value.int .i64 res1.Number, Value.slice res1.Writes.ptr res1.Writes.len res1.Writes.cap] ∧ (R res1 9 w4))))) ∧
  (v16.isNone = false → (C_feed_Feed_skips f w2 (fun (v21 : Bool) w11 => (v21 = true → (F_feed_Feed_Dispatch_k0 f R b_ true w11)) ∧
  (v21 = false → (C_feed_Feed_near f mark w11 (fun (v25 : Bool) w12 => F_feed_Feed_Dispatch_k0 f R b_ (!v25) w12))))))))))))

def F_feed_Feed_Skip (f : Option Addr) (R : Int → Int → World → Prop) (w : World) : Prop :=
  C_feed_Feed_there f w (fun (v7 : Bool) w1 => ((!v7) = true → (R 0 2 w1)) ∧
  ((!v7) = false → (IsAt f ∧ (∃ (v13 : Option Addr), w1.cell? ⟨(pblk f), (poff f) + 5, none⟩ = some (Value.pointer v13) ∧ ((v13.isNone = true → (R 0 9 w1)) ∧
  (v13.isNone = false → (C_feed_Feed_skips f w1 (fun (v17 : Bool) w2 => ((!v17) = true → (R 0 6 w2)) ∧
  ((!v17) = false → (IsAt f ∧ (∃ (v22 : Option Addr), w2.cell? ⟨(pblk f), (poff f) + 5, none⟩ = some (Value.pointer v22) ∧ (IsAt v22 ∧ (∃ (n_ : Int), w2.cell? ⟨(pblk v22), (poff v22), none⟩ = some (Value.int .i64 n_) ∧ (IsAt f ∧ (Writable w2 (pblk f) ((poff f) + 5) 1 ∧ (∀ w3, w3 = World.puts (pblk f) ((poff f) + 5) [Value.pointer none] w2 → (R n_ 0 w3)))))))))))))))))

def F_towpathlaw01_SameTxn (a_ : T_api_Txn) (b_ : T_api_Txn) (R : Bool → World → Prop) (w : World) : Prop :=
  ∀ b_1 w1, b_1 = w.heap.size → w1 = w.alloc (Obj.cells ([Value.int .i64 a_.Number, Value.slice a_.Writes.ptr a_.Writes.len a_.Writes.cap]).toArray ty_api_Txn (0, 0)) → (∀ b_2 w2, b_2 = w1.heap.size → w2 = w1.alloc (Obj.cells ([Value.int .i64 b_.Number, Value.slice b_.Writes.ptr b_.Writes.len b_.Writes.cap]).toArray ty_api_Txn (0, 0)) → (∃ (v6 : Int), w2.cell? ⟨b_1, 0, none⟩ = some (Value.int .i64 v6) ∧ (∃ (v8 : Int), w2.cell? ⟨b_2, 0, none⟩ = some (Value.int .i64 v8) ∧ (((v6 == v8) = true → (∃ (v12 : Slc), w2.cell? ⟨b_1, 1, none⟩ = some (Value.slice v12.ptr v12.len v12.cap) ∧ (∃ (v14 : Slc), w2.cell? ⟨b_2, 1, none⟩ = some (Value.slice v14.ptr v14.len v14.cap) ∧ (C_towpathlaw01_SameWrites v12 v14 w2 (fun (v15 : Bool) w3 => R v15 w3))))) ∧
  ((v6 == v8) = false → (R false w2))))))

def F_towpathlaw16_asks (f : Option Addr) (x : Option Addr) (a_ : T_towpathlaw16_Ask) (R : Bool → World → Prop) (w : World) : Prop :=
  ∀ b_ w1, b_ = w.heap.size → w1 = w.alloc (Obj.cells ([Value.int .u8 a_.Kind, Value.int .i64 a_.N]).toArray ty_towpathlaw16_Ask (0, 0)) → (∃ (v20 : Int), w1.cell? ⟨b_, 0, none⟩ = some (Value.int .u8 v20) ∧ (((v20 == 0) = true → (∀ w2, (∃ k, w2 = w1.drewN k) → (∃ (v25 : Int), w2.cell? ⟨b_, 1, none⟩ = some (Value.int .i64 v25) ∧ (∃ (v29 : Int), w2.cell? ⟨b_, 1, none⟩ = some (Value.int .i64 v29) ∧ (C_feed_Feed_More f v25 w2 (fun (v26 : Int) w3 => w3.cell? ⟨b_, 1, none⟩ = some (Value.int .i64 v29) ∧ (C_towpathref16_Feed_More x v29 w3 (fun (v30 : Int) w4 => (R (v26 == v30) w4))))))))) ∧
  ((v20 == 0) = false → (((v20 == 1) = true → (∀ w5, (∃ k, w5 = w1.drewN k) → (∃ (v36 : Int), w5.cell? ⟨b_, 1, none⟩ = some (Value.int .i64 v36) ∧ (∃ (v40 : Int), w5.cell? ⟨b_, 1, none⟩ = some (Value.int .i64 v40) ∧ (C_feed_Feed_Can f v36 w5 (fun (v37 : Int) w6 => w6.cell? ⟨b_, 1, none⟩ = some (Value.int .i64 v40) ∧ (C_towpathref16_Feed_Can x v40 w6 (fun (v41 : Int) w7 => (R (v37 == v41) w7))))))))) ∧
  ((v20 == 1) = false → (((v20 == 2) = true → (C_feed_Feed_Read f w1 (fun (n_ : Int) (e : Int) w8 => C_towpathref16_Feed_Read x w8 (fun (m_ : Int) (g : Int) w9 => R ((n_ == m_) && (e == g)) w9)))) ∧
  ((v20 == 2) = false → (((v20 == 3) = true → (C_feed_Feed_Skip f w1 (fun (n_1 : Int) (e1 : Int) w10 => C_towpathref16_Feed_Skip x w10 (fun (m_1 : Int) (g1 : Int) w11 => R ((n_1 == m_1) && (e1 == g1)) w11)))) ∧
  ((v20 == 3) = false → (((v20 == 4) = true → (∃ (v88 : Int), w1.cell? ⟨b_, 1, none⟩ = some (Value.int .i64 v88) ∧ (C_feed_Feed_Dispatch f v88 w1 (fun (v89 : T_api_Txn) (e2 : Int) w12 => ∀ b_1 w13, b_1 = w12.heap.size → w13 = w12.alloc (Obj.cells ([Value.int .i64 0, Value.slice none 0 0]).toArray ty_api_Txn (0, 0)) → (Writable w13 b_1 0 2 ∧ (∀ w14, w14 = World.puts b_1 0 [Value.int .i64 v89.Number, Value.slice v89.Writes.ptr v89.Writes.len v89.Writes.cap] w13 → (∃ (v95 : Int), w14.cell? ⟨b_, 1, none⟩ = some (Value.int .i64 v95) ∧ (C_towpathref16_Feed_Dispatch x v95 w14 (fun (v96 : T_api_Txn) (g2 : Int) w15 => ∀ b_2 w16, b_2 = w15.heap.size → w16 = w15.alloc (Obj.cells ([Value.int .i64 0, Value.slice none 0 0]).toArray ty_api_Txn (0, 0)) → (Writable w16 b_2 0 2 ∧ (∀ w17, w17 = World.puts b_2 0 [Value.int .i64 v96.Number, Value.slice v96.Writes.ptr v96.Writes.len v96.Writes.cap] w16 → (((e2 == g2) = true → (∃ (v103 : T_api_Txn), CellsAt w17 b_1 0 [Value.int .i64 v103.Number, Value.slice v103.Writes.ptr v103.Writes.len v103.Writes.cap] ∧ (∃ (v104 : T_api_Txn), CellsAt w17 b_2 0 [Value.int .i64 v104.Number, Value.slice v104.Writes.ptr v104.Writes.len v104.Writes.cap] ∧ (C_towpathlaw01_SameTxn v103 v104 w17 (fun (v105 : Bool) w18 => R v105 w18))))) ∧
  ((e2 == g2) = false → (R false w17)))))))))))))) ∧
  ((v20 == 4) = false → (C_feed_Feed_Close f w1 (fun w19 => C_towpathref16_Feed_Close x w19 (fun w20 => R true w20))))))))))))))

def F_feed_Feed_Fed (f : Option Addr) (R : Int → World → Prop) (w : World) : Prop :=
  C_feed_Feed_there f w (fun (v4 : Bool) w1 => ((!v4) = true → (R 0 w1)) ∧
  ((!v4) = false → (IsAt f ∧ (∃ (v9 : Int), w1.cell? ⟨(pblk f), (poff f) + 2, none⟩ = some (Value.int .i64 v9) ∧ (R v9 w1)))))

def F_feed_New_L0 (s : Option Addr) (mark : Int) (beyond : Slc) (window : Int) (R : Option Addr → Int → World → Prop) (b_ : Nat) (again_ : Int → Int → World → Prop) (last : Int) (t32 : Int) (w2 : World) : Prop :=
  ((decide (t32 < ((beyond.len : Nat) : Int))) = true → (IsAt beyond.ptr ∧ (0 ≤ t32 ∧ t32 < ((beyond.len : Nat) : Int) ∧ (∃ (n_ : Int), w2.cell? ⟨(pblk beyond.ptr), (poff beyond.ptr) + t32.toNat, none⟩ = some (Value.int .i64 n_) ∧ ((((decide (n_ ≤ last)) || ((t32 == 0) && (decide ((IntKind.i64.wrap (n_ - 1)) ≤ last)))) = true → (R none 1 w2)) ∧
  (((decide (n_ ≤ last)) || ((t32 == 0) && (decide ((IntKind.i64.wrap (n_ - 1)) ≤ last)))) = false → (∃ (r : Nat) (es : Array MapEntry) (c : Nat), (some b_) = some r ∧ w2.heap[r]? = some (.map es c) ∧ (MapInt es ∧ (mapHas es n_ = false ∧ (∀ w3, w3 = { w2 with heap := w2.heap.setIfInBounds r (.map (es.push ⟨.int .i64 n_, Value.agg #[], c⟩) (c + 1)) } → (again_ n_ (IntKind.i64.wrap (t32 + 1)) w3))))))))))) ∧
  ((decide (t32 < ((beyond.len : Nat) : Int))) = false → (C_logfile_Source_Last s w2 (fun (v57 : Int) w4 => ((decide (last > v57)) = true → (R none 6 w4)) ∧
  ((decide (last > v57)) = false → (∀ b_1 w5, b_1 = w4.heap.size → w5 = w4.alloc (Obj.cells ([Value.pointer s, Value.int .i64 mark, Value.int .i64 mark, Value.int .i64 window, Value.map (some b_), Value.pointer none, Value.bool false]).toArray ty_feed_Feed (0, 0)) → (R (some ⟨b_1, 0, none⟩) 0 w5))))))

def F_feed_New (s : Option Addr) (mark : Int) (beyond : Slc) (window : Int) (R : Option Addr → Int → World → Prop) (w : World) : Prop :=
  (s.isNone = true → (R none 2 w)) ∧
  (s.isNone = false → (((((decide (mark < 0)) || (decide (window < 1))) || (decide (window > 64))) = true → (R none 1 w)) ∧
  ((((decide (mark < 0)) || (decide (window < 1))) || (decide (window > 64))) = false → (∀ b_ w1, b_ = w.heap.size → w1 = w.alloc (Obj.map #[] 0) → (∃ (I : Int → Int → World → Prop) (μ : Int → Int → World → Nat), I mark 0 w1 ∧
  ∀ (last : Int) (t32 : Int) w, I last t32 w → F_feed_New_L0 s mark beyond window R b_ (fun (last' : Int) (t32' : Int) w' => I last' t32' w' ∧ μ last' t32' w' < μ last t32 w) last t32 w)))))

def F_logfile_New_L0 (l_ : Slc) (R : Option Addr → Int → World → Prop) (b_ : Nat) (again_ : Int → World → Prop) (t17 : Int) (w3 : World) : Prop :=
  ((decide (t17 < ((l_.len : Nat) : Int))) = true → (IsAt l_.ptr ∧ (0 ≤ t17 ∧ t17 < ((l_.len : Nat) : Int) ∧ (∃ (v20 : T_api_Txn), CellsAt w3 (pblk l_.ptr) ((poff l_.ptr) + t17.toNat * 2) [Value.int .i64 v20.Number, Value.slice v20.Writes.ptr v20.Writes.len v20.Writes.cap] ∧ (∀ b_1 w4, b_1 = w3.heap.size → w4 = w3.alloc (Obj.cells ([Value.int .i64 0, Value.slice none 0 0]).toArray ty_api_Txn (0, 0)) → (Writable w4 b_1 0 2 ∧ (∀ w5, w5 = World.puts b_1 0 [Value.int .i64 v20.Number, Value.slice v20.Writes.ptr v20.Writes.len v20.Writes.cap] w4 → (∀ w6, (∃ k, w6 = w5.drewN k) → (∃ (v25 : Slc), w6.cell? ⟨b_, 1, none⟩ = some (Value.slice v25.ptr v25.len v25.cap) ∧ (∃ (v26 : T_api_Txn), CellsAt w6 b_1 0 [Value.int .i64 v26.Number, Value.slice v26.Writes.ptr v26.Writes.len v26.Writes.cap] ∧ (C_logfile_copied v26 w6 (fun (v27 : T_api_Txn) w7 => w7.cell? ⟨b_, 1, none⟩ = some (Value.slice v25.ptr v25.len v25.cap) ∧ (∀ b_2 w8, b_2 = w7.heap.size → w8 = w7.alloc (Obj.cells ([Value.int .i64 v27.Number, Value.slice v27.Writes.ptr v27.Writes.len v27.Writes.cap]).toArray ty_api_Txn (0, 0)) → (w8.cell? ⟨b_, 1, none⟩ = some (Value.slice v25.ptr v25.len v25.cap) ∧ (∃ src, SrcAt w8 (Slc.mk (some ⟨b_2, 0, none⟩) 1 1) 2 src ∧ AppendW 2 32 ty_api_Txn [Value.int .i64 0, Value.slice none 0 0] v25 src 1 w8 (fun v29 w9 => (Writable w9 b_ 1 1 ∧ (∀ w10, w10 = World.puts b_ 1 [Value.slice v29.ptr v29.len v29.cap] w9 → ((again_ (IntKind.i64.wrap (t17 + 1)) w10)))))))))))))))))))) ∧
  ((decide (t17 < ((l_.len : Nat) : Int))) = false → (R (some ⟨b_, 0, none⟩) 0 w3))

def F_logfile_New (l_ : Slc) (R : Option Addr → Int → World → Prop) (w : World) : Prop :=
  C_logfile_Check l_ w (fun (v9 : Int) w1 => ((v9 != 0) = true → (R none v9 w1)) ∧
  ((v9 != 0) = false → (∀ b_ w2, b_ = w1.heap.size → w2 = w1.alloc (Obj.cells ([Value.bool true, Value.slice none 0 0, Value.slice none 0 0]).toArray ty_logfile_Source (0, 0)) → (∃ (I : Int → World → Prop) (μ : Int → World → Nat), I 0 w2 ∧
  ∀ (t17 : Int) w, I t17 w → F_logfile_New_L0 l_ R b_ (fun (t17' : Int) w' => I t17' w' ∧ μ t17' w' < μ t17 w) t17 w))))

def F_towpathlaw16_three (R : Slc → World → Prop) (w : World) : Prop :=
  ∀ b_ w1, b_ = w.heap.size → w1 = w.alloc (Obj.cells ([Value.string (ByteArray.mk #[97]), Value.string (ByteArray.mk #[49]), Value.bool false]).toArray ty_api_Write (0, 0)) → (∀ b_1 w2, b_1 = w1.heap.size → w2 = w1.alloc (Obj.cells ([Value.int .i64 0, Value.slice none 0 0]).toArray ty_api_Txn (0, 0)) → (Writable w2 b_1 0 2 ∧ (∀ w3, w3 = World.puts b_1 0 [Value.int .i64 1, Value.slice (some ⟨b_, 0, none⟩) 1 1] w2 → (∀ b_2 w4, b_2 = w3.heap.size → w4 = w3.alloc (Obj.cells ([Value.string (ByteArray.mk #[98]), Value.string (ByteArray.mk #[50]), Value.bool false]).toArray ty_api_Write (0, 0)) → (∀ b_3 w5, b_3 = w4.heap.size → w5 = w4.alloc (Obj.cells ([Value.int .i64 0, Value.slice none 0 0]).toArray ty_api_Txn (0, 0)) → (Writable w5 b_3 0 2 ∧ (∀ w6, w6 = World.puts b_3 0 [Value.int .i64 2, Value.slice (some ⟨b_2, 0, none⟩) 1 1] w5 → (∀ b_4 w7, b_4 = w6.heap.size → w7 = w6.alloc (Obj.cells ([Value.string (ByteArray.mk #[97]), Value.string (ByteArray.mk #[51]), Value.bool false, Value.string (ByteArray.mk #[98]), Value.string ByteArray.empty, Value.bool true]).toArray ty_api_Write (0, 0)) → (∀ b_5 w8, b_5 = w7.heap.size → w8 = w7.alloc (Obj.cells ([Value.int .i64 0, Value.slice none 0 0]).toArray ty_api_Txn (0, 0)) → (Writable w8 b_5 0 2 ∧ (∀ w9, w9 = World.puts b_5 0 [Value.int .i64 3, Value.slice (some ⟨b_4, 0, none⟩) 2 2] w8 → (∃ (v14 : T_api_Txn), CellsAt w9 b_1 0 [Value.int .i64 v14.Number, Value.slice v14.Writes.ptr v14.Writes.len v14.Writes.cap] ∧ (∃ (v15 : T_api_Txn), CellsAt w9 b_3 0 [Value.int .i64 v15.Number, Value.slice v15.Writes.ptr v15.Writes.len v15.Writes.cap] ∧ (∃ (v16 : T_api_Txn), CellsAt w9 b_5 0 [Value.int .i64 v16.Number, Value.slice v16.Writes.ptr v16.Writes.len v16.Writes.cap] ∧ (∀ b_6 w10, b_6 = w9.heap.size → w10 = w9.alloc (Obj.cells ([Value.int .i64 v14.Number, Value.slice v14.Writes.ptr v14.Writes.len v14.Writes.cap, Value.int .i64 v15.Number, Value.slice v15.Writes.ptr v15.Writes.len v15.Writes.cap, Value.int .i64 v16.Number, Value.slice v16.Writes.ptr v16.Writes.len v16.Writes.cap]).toArray ty_api_Txn (0, 0)) → (R (Slc.mk (some ⟨b_6, 0, none⟩) 3 3) w10))))))))))))))))

def F_feed_Feed_there (f : Option Addr) (R : Bool → World → Prop) (w : World) : Prop :=
  ((!f.isNone) = true → (IsAt f ∧ (∃ (v9 : Option Addr), w.cell? ⟨(pblk f), (poff f), none⟩ = some (Value.pointer v9) ∧ (R (!v9.isNone) w)))) ∧
  ((!f.isNone) = false → (R false w))

def F_logfile_Source_Last (s : Option Addr) (R : Int → World → Prop) (w : World) : Prop :=
  (s.isNone = true → (R 0 w)) ∧
  (s.isNone = false → (IsAt s ∧ (∃ (v8 : Slc), w.cell? ⟨(pblk s), (poff s) + 1, none⟩ = some (Value.slice v8.ptr v8.len v8.cap) ∧ (R ((v8.len : Nat) : Int) w))))

def F_logfile_Source_Get_k1 (s : Option Addr) (number : Int) (R : T_api_Txn → Int → World → Prop) (b_ : Nat) (t17 : Bool) (w4 : World) : Prop :=
  (t17 = true → (Writable w4 b_ 0 2 ∧ (∀ w5, w5 = World.puts b_ 0 [Value.int .i64 0, Value.slice none 0 0] w4 → (∃ (res1 : T_api_Txn), CellsAt w5 b_ 0 [Value.int .i64 res1.Number, Value.slice res1.Writes.ptr res1.Writes.len res1.Writes.cap] ∧ (R res1 1 w5))))) ∧
  (t17 = false → (IsAt s ∧ (∃ (v34 : Slc), w4.cell? ⟨(pblk s), (poff s) + 2, none⟩ = some (Value.slice v34.ptr v34.len v34.cap) ∧ (∀ b_1 w6, b_1 = w4.heap.size → w6 = w4.alloc (Obj.cells ([Value.int .i64 number]).toArray ty_int (0, 0)) → (∃ src, SrcAt w6 (Slc.mk (some ⟨b_1, 0, none⟩) 1 1) 1 src ∧ AppendW 1 8 ty_int [Value.int .i64 0] v34 src 1 w6 (fun v37 w7 => IsAt s ∧ (Writable w7 (pblk s) ((poff s) + 2) 1 ∧ (∀ w8, w8 = World.puts (pblk s) ((poff s) + 2) [Value.slice v37.ptr v37.len v37.cap] w7 → (IsAt s ∧ (∃ (v43 : Slc), w8.cell? ⟨(pblk s), (poff s) + 1, none⟩ = some (Value.slice v43.ptr v43.len v43.cap) ∧ (IsAt v43.ptr ∧ (0 ≤ IntKind.i64.wrap (number - 1) ∧ IntKind.i64.wrap (number - 1) < ((v43.len : Nat) : Int) ∧ (∃ (v47 : T_api_Txn), CellsAt w8 (pblk v43.ptr) ((poff v43.ptr) + (IntKind.i64.wrap (number - 1)).toNat * 2) [Value.int .i64 v47.Number, Value.slice v47.Writes.ptr v47.Writes.len v47.Writes.cap] ∧ (C_logfile_copied v47 w8 (fun (v48 : T_api_Txn) w9 => Writable w9 b_ 0 2 ∧ (∀ w10, w10 = World.puts b_ 0 [Value.int .i64 v48.Number, Value.slice v48.Writes.ptr v48.Writes.len v48.Writes.cap] w9 → (∃ (res2 : T_api_Txn), CellsAt w10 b_ 0 [Value.int .i64 res2.Number, Value.slice res2.Writes.ptr res2.Writes.len res2.Writes.cap] ∧ (R res2 0 w10))))))))))))))))))

def F_logfile_Source_Get_k0 (s : Option Addr) (number : Int) (R : T_api_Txn → Int → World → Prop) (b_ : Nat) (t6 : Bool) (w2 : World) : Prop :=
  (t6 = true → (Writable w2 b_ 0 2 ∧ (∀ w3, w3 = World.puts b_ 0 [Value.int .i64 0, Value.slice none 0 0] w2 → (∃ (res : T_api_Txn), CellsAt w3 b_ 0 [Value.int .i64 res.Number, Value.slice res.Writes.ptr res.Writes.len res.Writes.cap] ∧ (R res 2 w3))))) ∧
  (t6 = false → (((decide (number < 1)) = true → (F_logfile_Source_Get_k1 s number R b_ true w2)) ∧
  ((decide (number < 1)) = false → (IsAt s ∧ (∃ (v25 : Slc), w2.cell? ⟨(pblk s), (poff s) + 1, none⟩ = some (Value.slice v25.ptr v25.len v25.cap) ∧ (F_logfile_Source_Get_k1 s number R b_ (decide (number > ((v25.len : Nat) : Int))) w2))))))

def F_logfile_Source_Get (s : Option Addr) (number : Int) (R : T_api_Txn → Int → World → Prop) (w : World) : Prop :=
  ∀ b_ w1, b_ = w.heap.size → w1 = w.alloc (Obj.cells ([Value.int .i64 0, Value.slice none 0 0]).toArray ty_api_Txn (0, 0)) → ((s.isNone = true → (F_logfile_Source_Get_k0 s number R b_ true w1)) ∧
  (s.isNone = false → (IsAt s ∧ (∃ (v13 : Bool), w1.cell? ⟨(pblk s), (poff s), none⟩ = some (Value.bool v13) ∧ (F_logfile_Source_Get_k0 s number R b_ (!v13) w1)))))

def F_feed_Feed_skips (f : Option Addr) (R : Bool → World → Prop) (w : World) : Prop :=
  ∀ w1, (∃ k, w1 = w.drewN k) → (IsAt f ∧ (∃ (v9 : Option Nat), w1.cell? ⟨(pblk f), (poff f) + 4, none⟩ = some (Value.map v9) ∧ (IsAt f ∧ (∃ (v13 : Option Addr), w1.cell? ⟨(pblk f), (poff f) + 5, none⟩ = some (Value.pointer v13) ∧ (IsAt v13 ∧ (∃ (v16 : Int), w1.cell? ⟨(pblk v13), (poff v13), none⟩ = some (Value.int .i64 v16) ∧ (∃ (es : Array MapEntry), MapAt w1 v9 es ∧ (MapInt es ∧ (∀ b_ w2, b_ = w1.heap.size → w2 = w1.alloc (Obj.cells ([]).toArray ty_struct (0, 0)) → (MapAt w2 v9 es ∧ w2.cell? ⟨(pblk v13), (poff v13), none⟩ = some (Value.int .i64 v16) ∧ w2.cell? ⟨(pblk f), (poff f) + 5, none⟩ = some (Value.pointer v13) ∧ w2.cell? ⟨(pblk f), (poff f) + 4, none⟩ = some (Value.map v9) ∧ (Writable w2 b_ 0 0 ∧ (∀ w3, w3 = World.puts b_ 0 [] w2 → ((R (mapHas es v16) w3))))))))))))))

def F_feed_Feed_near (f : Option Addr) (mark : Int) (R : Bool → World → Prop) (w : World) : Prop :=
  IsAt f ∧ (∃ (v8 : Option Addr), w.cell? ⟨(pblk f), (poff f) + 5, none⟩ = some (Value.pointer v8) ∧ (IsAt v8 ∧ (∃ (v11 : Int), w.cell? ⟨(pblk v8), (poff v8), none⟩ = some (Value.int .i64 v11) ∧ (IsAt f ∧ (∃ (v15 : Int), w.cell? ⟨(pblk f), (poff f) + 3, none⟩ = some (Value.int .i64 v15) ∧ (∀ w1, Ext w w1 → (R (decide ((IntKind.i64.wrap (v11 - v15)) ≤ mark)) w1)))))))

def F_towpathlaw01_SameWrites_L0 (a_ : Slc) (b_ : Slc) (R : Bool → World → Prop) (again_ : Int → World → Prop) (i : Int) (w1 : World) : Prop :=
  ((decide (i < ((a_.len : Nat) : Int))) = true → (IsAt a_.ptr ∧ (0 ≤ i ∧ i < ((a_.len : Nat) : Int) ∧ (∃ (v20 : T_api_Write), CellsAt w1 (pblk a_.ptr) ((poff a_.ptr) + i.toNat * 3) [Value.string v20.Key, Value.string v20.Val, Value.bool v20.Drop] ∧ (IsAt b_.ptr ∧ (0 ≤ i ∧ i < ((b_.len : Nat) : Int) ∧ (∃ (v24 : T_api_Write), CellsAt w1 (pblk b_.ptr) ((poff b_.ptr) + i.toNat * 3) [Value.string v24.Key, Value.string v24.Val, Value.bool v24.Drop] ∧ (∀ w2, Ext w1 w2 → (((!(((v20.Key == v24.Key) && (v20.Val == v24.Val)) && (v20.Drop == v24.Drop))) = true → (R false w2)) ∧
  ((!(((v20.Key == v24.Key) && (v20.Val == v24.Val)) && (v20.Drop == v24.Drop))) = false → (again_ (IntKind.i64.wrap (i + 1)) w2))))))))))) ∧
  ((decide (i < ((a_.len : Nat) : Int))) = false → (R true w1))

def F_towpathlaw01_SameWrites (a_ : Slc) (b_ : Slc) (R : Bool → World → Prop) (w : World) : Prop :=
  ((((a_.len : Nat) : Int) != ((b_.len : Nat) : Int)) = true → (R false w)) ∧
  ((((a_.len : Nat) : Int) != ((b_.len : Nat) : Int)) = false → (∃ (I : Int → World → Prop) (μ : Int → World → Nat), I 0 w ∧
  ∀ (i : Int) w, I i w → F_towpathlaw01_SameWrites_L0 a_ b_ R (fun (i' : Int) w' => I i' w' ∧ μ i' w' < μ i w) i w))

def F_towpathref16_Feed_More_k0 (f : Option Addr) (last : Int) (R : Int → World → Prop) (t13 : Bool) (w1 : World) : Prop :=
  (t13 = true → (R 1 w1)) ∧
  (t13 = false → (IsAt f ∧ (Writable w1 (pblk f) ((poff f) + 3) 1 ∧ (∀ w2, w2 = World.puts (pblk f) ((poff f) + 3) [Value.int .i64 last] w1 → (R 0 w2)))))

def F_towpathref16_Feed_More (f : Option Addr) (last : Int) (R : Int → World → Prop) (w : World) : Prop :=
  (f.isNone = true → (R 2 w)) ∧
  (f.isNone = false → (IsAt f ∧ (∃ (v12 : Bool), w.cell? ⟨(pblk f), (poff f) + 8, none⟩ = some (Value.bool v12) ∧ ((v12 = true → (R 12 w)) ∧
  (v12 = false → (IsAt f ∧ (∃ (v18 : Int), w.cell? ⟨(pblk f), (poff f) + 3, none⟩ = some (Value.int .i64 v18) ∧ (((decide (last < v18)) = true → (F_towpathref16_Feed_More_k0 f last R true w)) ∧
  ((decide (last < v18)) = false → (IsAt f ∧ (∃ (v25 : Option Addr), w.cell? ⟨(pblk f), (poff f), none⟩ = some (Value.pointer v25) ∧ (C_towpathref06_Source_Last v25 w (fun (v26 : Int) w3 => F_towpathref16_Feed_More_k0 f last R (decide (last > v26)) w3)))))))))))))

def F_towpathref16_Feed_Can_k2 (R : Int → World → Prop) (t41 : Bool) (w3 : World) : Prop :=
  (t41 = true → (R 3 w3)) ∧
  (t41 = false → (R 0 w3))

def F_towpathref16_Feed_Can_k1 (f : Option Addr) (mark : Int) (R : Int → World → Prop) (t32 : Bool) (w2 : World) : Prop :=
  (t32 = true → (R 2 w2)) ∧
  (t32 = false → (IsAt f ∧ (∃ (v45 : Bool), w2.cell? ⟨(pblk f), (poff f) + 5, none⟩ = some (Value.bool v45) ∧ ((v45 = true → (C_towpathref16_Feed_near f mark w2 (fun (v49 : Bool) w4 => F_towpathref16_Feed_Can_k2 R v49 w4))) ∧
  (v45 = false → (F_towpathref16_Feed_Can_k2 R false w2))))))

def F_towpathref16_Feed_Can_k0 (f : Option Addr) (mark : Int) (R : Int → World → Prop) (t8 : Bool) (w1 : World) : Prop :=
  (t8 = true → (R 1 w1)) ∧
  (t8 = false → (IsAt f ∧ (∃ (v36 : Bool), w1.cell? ⟨(pblk f), (poff f) + 5, none⟩ = some (Value.bool v36) ∧ ((v36 = true → (C_towpathref16_Feed_there f w1 (fun (v39 : Bool) w5 => F_towpathref16_Feed_Can_k1 f mark R v39 w5))) ∧
  (v36 = false → (F_towpathref16_Feed_Can_k1 f mark R false w1))))))

def F_towpathref16_Feed_Can (f : Option Addr) (mark : Int) (R : Int → World → Prop) (w : World) : Prop :=
  (f.isNone = true → (R 0 w)) ∧
  (f.isNone = false → (IsAt f ∧ (∃ (v12 : Bool), w.cell? ⟨(pblk f), (poff f) + 5, none⟩ = some (Value.bool v12) ∧ (((!v12) = true → (IsAt f ∧ (∃ (v18 : Bool), w.cell? ⟨(pblk f), (poff f) + 8, none⟩ = some (Value.bool v18) ∧ (((!v18) = true → (IsAt f ∧ (∃ (v25 : Int), w.cell? ⟨(pblk f), (poff f) + 1, none⟩ = some (Value.int .i64 v25) ∧ (IsAt f ∧ (∃ (v29 : Int), w.cell? ⟨(pblk f), (poff f) + 3, none⟩ = some (Value.int .i64 v29) ∧ (∀ w6, Ext w w6 → (F_towpathref16_Feed_Can_k0 f mark R (decide (v25 < v29)) w6))))))) ∧
  ((!v18) = false → (∀ w7, Ext w w7 → (F_towpathref16_Feed_Can_k0 f mark R false w7))))))) ∧
  ((!v12) = false → (∀ w8, Ext w w8 → (F_towpathref16_Feed_Can_k0 f mark R false w8)))))))

def F_towpathref16_Feed_Read (f : Option Addr) (R : Int → Int → World → Prop) (w : World) : Prop :=
  (f.isNone = true → (R 0 2 w)) ∧
  (f.isNone = false → (IsAt f ∧ (∃ (v11 : Bool), w.cell? ⟨(pblk f), (poff f) + 5, none⟩ = some (Value.bool v11) ∧ ((v11 = true → (R 0 10 w)) ∧
  (v11 = false → (IsAt f ∧ (∃ (v16 : Bool), w.cell? ⟨(pblk f), (poff f) + 8, none⟩ = some (Value.bool v16) ∧ ((v16 = true → (R 0 12 w)) ∧
  (v16 = false → (IsAt f ∧ (∃ (v21 : Int), w.cell? ⟨(pblk f), (poff f) + 1, none⟩ = some (Value.int .i64 v21) ∧ (IsAt f ∧ (∃ (v25 : Int), w.cell? ⟨(pblk f), (poff f) + 3, none⟩ = some (Value.int .i64 v25) ∧ (∀ w1, Ext w w1 → (((decide (v21 ≥ v25)) = true → (R 0 9 w1)) ∧
  ((decide (v21 ≥ v25)) = false → (IsAt f ∧ (∃ (v30 : Int), w1.cell? ⟨(pblk f), (poff f) + 1, none⟩ = some (Value.int .i64 v30) ∧ (Writable w1 (pblk f) ((poff f) + 1) 1 ∧ (∀ w2, w2 = World.puts (pblk f) ((poff f) + 1) [Value.int .i64 (IntKind.i64.wrap (v30 + 1))] w1 → (∀ w3, (∃ k, w3 = w2.drewN k) → (IsAt f ∧ (∃ (v39 : Option Addr), w3.cell? ⟨(pblk f), (poff f), none⟩ = some (Value.pointer v39) ∧ (IsAt f ∧ (∃ (v43 : Int), w3.cell? ⟨(pblk f), (poff f) + 1, none⟩ = some (Value.int .i64 v43) ∧ (C_towpathref06_Source_Get v39 v43 w3 (fun (v44 : T_api_Txn) (v44_1 : Int) w4 => (IsAt f ∧ (Writable w4 (pblk f) ((poff f) + 6) 2 ∧ (∀ w5, w5 = World.puts (pblk f) ((poff f) + 6) [Value.int .i64 v44.Number, Value.slice v44.Writes.ptr v44.Writes.len v44.Writes.cap] w4 → ((IsAt f ∧ (Writable w5 (pblk f) ((poff f) + 5) 1 ∧ (∀ w6, w6 = World.puts (pblk f) ((poff f) + 5) [Value.bool true] w5 → (IsAt f ∧ (∃ (v55 : Int), w6.cell? ⟨(pblk f), (poff f) + 1, none⟩ = some (Value.int .i64 v55) ∧ (R v55 0 w6)))))))))))))))))))))))))))))))))))))

def F_towpathref16_Feed_Skip (f : Option Addr) (R : Int → Int → World → Prop) (w : World) : Prop :=
  (f.isNone = true → (R 0 2 w)) ∧
  (f.isNone = false → (IsAt f ∧ (∃ (v11 : Bool), w.cell? ⟨(pblk f), (poff f) + 5, none⟩ = some (Value.bool v11) ∧ (((!v11) = true → (R 0 9 w)) ∧
  ((!v11) = false → (C_towpathref16_Feed_there f w (fun (v15 : Bool) w1 => ((!v15) = true → (R 0 6 w1)) ∧
  ((!v15) = false → (IsAt f ∧ (Writable w1 (pblk f) ((poff f) + 5) 1 ∧ (∀ w2, w2 = World.puts (pblk f) ((poff f) + 5) [Value.bool false] w1 → (IsAt f ∧ (∃ (v24 : Int), w2.cell? ⟨(pblk f), (poff f) + 6, none⟩ = some (Value.int .i64 v24) ∧ (R v24 0 w2))))))))))))))

def F_towpathref16_Feed_Dispatch_k0 (f : Option Addr) (R : T_api_Txn → Int → World → Prop) (b_ : Nat) (t17 : Bool) (w4 : World) : Prop :=
  (t17 = true → (Writable w4 b_ 0 2 ∧ (∀ w5, w5 = World.puts b_ 0 [Value.int .i64 0, Value.slice none 0 0] w4 → (∃ (res2 : T_api_Txn), CellsAt w5 b_ 0 [Value.int .i64 res2.Number, Value.slice res2.Writes.ptr res2.Writes.len res2.Writes.cap] ∧ (R res2 6 w5))))) ∧
  (t17 = false → (IsAt f ∧ (Writable w4 (pblk f) ((poff f) + 5) 1 ∧ (∀ w6, w6 = World.puts (pblk f) ((poff f) + 5) [Value.bool false] w4 → (IsAt f ∧ (∃ (v33 : T_api_Txn), CellsAt w6 (pblk f) ((poff f) + 6) [Value.int .i64 v33.Number, Value.slice v33.Writes.ptr v33.Writes.len v33.Writes.cap] ∧ (Writable w6 b_ 0 2 ∧ (∀ w7, w7 = World.puts b_ 0 [Value.int .i64 v33.Number, Value.slice v33.Writes.ptr v33.Writes.len v33.Writes.cap] w6 → (∃ (res3 : T_api_Txn), CellsAt w7 b_ 0 [Value.int .i64 res3.Number, Value.slice res3.Writes.ptr res3.Writes.len res3.Writes.cap] ∧ (R res3 0 w7))))))))))

def F_towpathref16_Feed_Dispatch (f : Option Addr) (mark : Int) (R : T_api_Txn → Int → World → Prop) (w : World) : Prop :=
  ∀ b_ w1, b_ = w.heap.size → w1 = w.alloc (Obj.cells ([Value.int .i64 0, Value.slice none 0 0]).toArray ty_api_Txn (0, 0)) → ((f.isNone = true → (Writable w1 b_ 0 2 ∧ (∀ w2, w2 = World.puts b_ 0 [Value.int .i64 0, Value.slice none 0 0] w1 → (∃ (res : T_api_Txn), CellsAt w2 b_ 0 [Value.int .i64 res.Number, Value.slice res.Writes.ptr res.Writes.len res.Writes.cap] ∧ (R res 2 w2))))) ∧
  (f.isNone = false → (IsAt f ∧ (∃ (v14 : Bool), w1.cell? ⟨(pblk f), (poff f) + 5, none⟩ = some (Value.bool v14) ∧ (((!v14) = true → (Writable w1 b_ 0 2 ∧ (∀ w3, w3 = World.puts b_ 0 [Value.int .i64 0, Value.slice none 0 0] w1 → (∃ (res1 : T_api_Txn), CellsAt w3 b_ 0 [Value.int .i64 res1.Number, Value.slice res1.Writes.ptr res1.Writes.len res1.Writes.cap] ∧ (R res1 9 w3))))) ∧
  ((!v14) = false → (C_towpathref16_Feed_there f w1 (fun (v19 : Bool) w8 => (v19 = true → (F_towpathref16_Feed_Dispatch_k0 f R b_ true w8)) ∧
  (v19 = false → (C_towpathref16_Feed_near f mark w8 (fun (v23 : Bool) w9 => F_towpathref16_Feed_Dispatch_k0 f R b_ (!v23) w9)))))))))))

def F_towpathref16_Feed_Close (f : Option Addr) (R : World → Prop) (w : World) : Prop :=
  ((!f.isNone) = true → (IsAt f ∧ (Writable w (pblk f) ((poff f) + 8) 1 ∧ (∀ w1, w1 = World.puts (pblk f) ((poff f) + 8) [Value.bool true] w → (R w1))))) ∧
  ((!f.isNone) = false → (R w))

def F_logfile_Check_L0 (l_ : Slc) (R : Int → World → Prop) (v7 : Value) (again_ : Int → World → Prop) (t10 : Int) (w2 : World) : Prop :=
  ((decide (t10 < ((l_.len : Nat) : Int))) = true → (IsAt l_.ptr ∧ (0 ≤ t10 ∧ t10 < ((l_.len : Nat) : Int) ∧ (∃ (v13 : T_api_Txn), CellsAt w2 (pblk l_.ptr) ((poff l_.ptr) + t10.toNat * 2) [Value.int .i64 v13.Number, Value.slice v13.Writes.ptr v13.Writes.len v13.Writes.cap] ∧ (∀ b_ w3, b_ = w2.heap.size → w3 = w2.alloc (Obj.cells ([Value.int .i64 0, Value.slice none 0 0]).toArray ty_api_Txn (0, 0)) → (Writable w3 b_ 0 2 ∧ (∀ w4, w4 = World.puts b_ 0 [Value.int .i64 v13.Number, Value.slice v13.Writes.ptr v13.Writes.len v13.Writes.cap] w3 → (∃ (v15 : T_api_Txn), CellsAt w4 b_ 0 [Value.int .i64 v15.Number, Value.slice v15.Writes.ptr v15.Writes.len v15.Writes.cap] ∧ (CallsV (P := Try.prog) v7 #[Value.agg #[Value.int .i64 v15.Number, Value.slice v15.Writes.ptr v15.Writes.len v15.Writes.cap]] w4 (fun e' w5 => ∃ (v16 : Int), e' = Ending.returned (Value.int .i64 v16) ∧ (((v16 != 0) = true → (R v16 w5)) ∧
  ((v16 != 0) = false → (again_ (IntKind.i64.wrap (t10 + 1)) w5))))))))))))) ∧
  ((decide (t10 < ((l_.len : Nat) : Int))) = false → (R 0 w2))

def F_logfile_Check (l_ : Slc) (R : Int → World → Prop) (w : World) : Prop :=
  C_logfile_turns w (fun (v7 : Value) w1 => ∃ (I : Int → World → Prop) (μ : Int → World → Nat), I 0 w1 ∧
  ∀ (t10 : Int) w, I t10 w → F_logfile_Check_L0 l_ R v7 (fun (t10' : Int) w' => I t10' w' ∧ μ t10' w' < μ t10 w) t10 w)

def F_logfile_copied (t_ : T_api_Txn) (R : T_api_Txn → World → Prop) (w : World) : Prop :=
  ∀ b_ w1, b_ = w.heap.size → w1 = w.alloc (Obj.cells ([Value.int .i64 t_.Number, Value.slice t_.Writes.ptr t_.Writes.len t_.Writes.cap]).toArray ty_api_Txn (0, 0)) → (∀ b_1 w2, b_1 = w1.heap.size → w2 = w1.alloc (Obj.cells ([Value.int .i64 0, Value.slice none 0 0]).toArray ty_api_Txn (0, 0)) → (∀ w3, (∃ k, w3 = w2.drewN k) → (∃ (v4 : Int), w3.cell? ⟨b_, 0, none⟩ = some (Value.int .i64 v4) ∧ (∃ (v6 : Slc), w3.cell? ⟨b_, 1, none⟩ = some (Value.slice v6.ptr v6.len v6.cap) ∧ (C_slices_Clone_api_Write_api_Write v6 w3 (fun (v7 : Slc) w4 => w4.cell? ⟨b_, 0, none⟩ = some (Value.int .i64 v4) ∧ (Writable w4 b_1 0 2 ∧ (∀ w5, w5 = World.puts b_1 0 [Value.int .i64 v4, Value.slice v7.ptr v7.len v7.cap] w4 → ((∃ (res : T_api_Txn), CellsAt w5 b_1 0 [Value.int .i64 res.Number, Value.slice res.Writes.ptr res.Writes.len res.Writes.cap] ∧ (R res w5)))))))))))

def F_towpathref06_Own (t_ : T_api_Txn) (R : T_api_Txn → World → Prop) (w : World) : Prop :=
  ∀ b_ w1, b_ = w.heap.size → w1 = w.alloc (Obj.cells ([Value.int .i64 t_.Number, Value.slice t_.Writes.ptr t_.Writes.len t_.Writes.cap]).toArray ty_api_Txn (0, 0)) → (∀ b_1 w2, b_1 = w1.heap.size → w2 = w1.alloc (Obj.cells ([Value.int .i64 0, Value.slice none 0 0]).toArray ty_api_Txn (0, 0)) → (∃ (v6 : Slc), w2.cell? ⟨b_, 1, none⟩ = some (Value.slice v6.ptr v6.len v6.cap) ∧ (∃ src, SrcAt w2 v6 3 src ∧ AppendW 3 40 ty_api_Write [Value.string ByteArray.empty, Value.string ByteArray.empty, Value.bool false] (Slc.mk none 0 0) src v6.len w2 (fun w_ w3 => ∃ (v9 : Int), w3.cell? ⟨b_, 0, none⟩ = some (Value.int .i64 v9) ∧ (Writable w3 b_1 0 2 ∧ (∀ w4, w4 = World.puts b_1 0 [Value.int .i64 v9, Value.slice w_.ptr w_.len w_.cap] w3 → (∃ (res : T_api_Txn), CellsAt w4 b_1 0 [Value.int .i64 res.Number, Value.slice res.Writes.ptr res.Writes.len res.Writes.cap] ∧ (R res w4))))))))

def F_towpathref06_Source_Last (s : Option Addr) (R : Int → World → Prop) (w : World) : Prop :=
  (s.isNone = true → (R 0 w)) ∧
  (s.isNone = false → (IsAt s ∧ (∃ (v8 : Slc), w.cell? ⟨(pblk s), (poff s), none⟩ = some (Value.slice v8.ptr v8.len v8.cap) ∧ (R ((v8.len : Nat) : Int) w))))

def F_towpathref16_Feed_there_L0 (f : Option Addr) (R : Bool → World → Prop) (again_ : Int → World → Prop) (i : Int) (w1 : World) : Prop :=
  IsAt f ∧ (∃ (v8 : Slc), w1.cell? ⟨(pblk f), (poff f) + 2, none⟩ = some (Value.slice v8.ptr v8.len v8.cap) ∧ (((decide (i < ((v8.len : Nat) : Int))) = true → (IsAt f ∧ (∃ (v16 : Slc), w1.cell? ⟨(pblk f), (poff f) + 2, none⟩ = some (Value.slice v16.ptr v16.len v16.cap) ∧ (IsAt v16.ptr ∧ (0 ≤ i ∧ i < ((v16.len : Nat) : Int) ∧ (∃ (v19 : Int), w1.cell? ⟨(pblk v16.ptr), (poff v16.ptr) + i.toNat, none⟩ = some (Value.int .i64 v19) ∧ (IsAt f ∧ (∃ (v24 : Int), w1.cell? ⟨(pblk f), (poff f) + 6, none⟩ = some (Value.int .i64 v24) ∧ (∀ w2, Ext w1 w2 → (((v19 == v24) = true → (R true w2)) ∧
  ((v19 == v24) = false → (again_ (IntKind.i64.wrap (i + 1)) w2)))))))))))) ∧
  ((decide (i < ((v8.len : Nat) : Int))) = false → (R false w1))))

def F_towpathref16_Feed_there (f : Option Addr) (R : Bool → World → Prop) (w : World) : Prop :=
  ∃ (I : Int → World → Prop) (μ : Int → World → Nat), I 0 w ∧
  ∀ (i : Int) w, I i w → F_towpathref16_Feed_there_L0 f R (fun (i' : Int) w' => I i' w' ∧ μ i' w' < μ i w) i w

def F_towpathref16_Feed_near (f : Option Addr) (mark : Int) (R : Bool → World → Prop) (w : World) : Prop :=
  IsAt f ∧ (∃ (v10 : Int), w.cell? ⟨(pblk f), (poff f) + 6, none⟩ = some (Value.int .i64 v10) ∧ (IsAt f ∧ (∃ (v14 : Int), w.cell? ⟨(pblk f), (poff f) + 4, none⟩ = some (Value.int .i64 v14) ∧ (∀ w1, Ext w w1 → (R (decide (mark ≥ (IntKind.i64.wrap (v10 - v14)))) w1)))))

def F_towpathref06_Source_Get_k0 (s : Option Addr) (number : Int) (R : T_api_Txn → Int → World → Prop) (b_ : Nat) (t19 : Bool) (w3 : World) : Prop :=
  (t19 = true → (Writable w3 b_ 0 2 ∧ (∀ w4, w4 = World.puts b_ 0 [Value.int .i64 0, Value.slice none 0 0] w3 → (∃ (res1 : T_api_Txn), CellsAt w4 b_ 0 [Value.int .i64 res1.Number, Value.slice res1.Writes.ptr res1.Writes.len res1.Writes.cap] ∧ (R res1 1 w4))))) ∧
  (t19 = false → (IsAt s ∧ (∃ (v25 : Slc), w3.cell? ⟨(pblk s), (poff s) + 1, none⟩ = some (Value.slice v25.ptr v25.len v25.cap) ∧ (∀ b_1 w5, b_1 = w3.heap.size → w5 = w3.alloc (Obj.cells ([Value.int .i64 number]).toArray ty_int (0, 0)) → (∃ src, SrcAt w5 (Slc.mk (some ⟨b_1, 0, none⟩) 1 1) 1 src ∧ AppendW 1 8 ty_int [Value.int .i64 0] v25 src 1 w5 (fun v28 w6 => IsAt s ∧ (Writable w6 (pblk s) ((poff s) + 1) 1 ∧ (∀ w7, w7 = World.puts (pblk s) ((poff s) + 1) [Value.slice v28.ptr v28.len v28.cap] w6 → (IsAt s ∧ (∃ (v34 : Slc), w7.cell? ⟨(pblk s), (poff s), none⟩ = some (Value.slice v34.ptr v34.len v34.cap) ∧ (IsAt v34.ptr ∧ (0 ≤ IntKind.i64.wrap (number - 1) ∧ IntKind.i64.wrap (number - 1) < ((v34.len : Nat) : Int) ∧ (∃ (v38 : T_api_Txn), CellsAt w7 (pblk v34.ptr) ((poff v34.ptr) + (IntKind.i64.wrap (number - 1)).toNat * 2) [Value.int .i64 v38.Number, Value.slice v38.Writes.ptr v38.Writes.len v38.Writes.cap] ∧ (C_towpathref06_Own v38 w7 (fun (v39 : T_api_Txn) w8 => Writable w8 b_ 0 2 ∧ (∀ w9, w9 = World.puts b_ 0 [Value.int .i64 v39.Number, Value.slice v39.Writes.ptr v39.Writes.len v39.Writes.cap] w8 → (∃ (res2 : T_api_Txn), CellsAt w9 b_ 0 [Value.int .i64 res2.Number, Value.slice res2.Writes.ptr res2.Writes.len res2.Writes.cap] ∧ (R res2 0 w9))))))))))))))))))

def F_towpathref06_Source_Get (s : Option Addr) (number : Int) (R : T_api_Txn → Int → World → Prop) (w : World) : Prop :=
  ∀ b_ w1, b_ = w.heap.size → w1 = w.alloc (Obj.cells ([Value.int .i64 0, Value.slice none 0 0]).toArray ty_api_Txn (0, 0)) → ((s.isNone = true → (Writable w1 b_ 0 2 ∧ (∀ w2, w2 = World.puts b_ 0 [Value.int .i64 0, Value.slice none 0 0] w1 → (∃ (res : T_api_Txn), CellsAt w2 b_ 0 [Value.int .i64 res.Number, Value.slice res.Writes.ptr res.Writes.len res.Writes.cap] ∧ (R res 2 w2))))) ∧
  (s.isNone = false → (((decide (number < 1)) = true → (F_towpathref06_Source_Get_k0 s number R b_ true w1)) ∧
  ((decide (number < 1)) = false → (IsAt s ∧ (∃ (v16 : Slc), w1.cell? ⟨(pblk s), (poff s), none⟩ = some (Value.slice v16.ptr v16.len v16.cap) ∧ (F_towpathref06_Source_Get_k0 s number R b_ (decide (number > ((v16.len : Nat) : Int))) w1)))))))

def F_logfile_turns (R : Value → World → Prop) (w : World) : Prop :=
  ∀ b_ w1, b_ = w.heap.size → w1 = w.alloc (Obj.cells ([Value.int .i64 0]).toArray ty_int (0, 0)) → (Writable w1 b_ 0 1 ∧ (∀ w2, w2 = World.puts b_ 0 [Value.int .i64 1] w1 → (R (Value.func (.func 122) #[] #[Value.pointer (some ⟨b_, 0, none⟩)]) w2)))

def F_slices_Clone_api_Write_api_Write (s : Slc) (R : Slc → World → Prop) (w : World) : Prop :=
  (s.ptr.isNone = true → (R (Slc.mk none 0 0) w)) ∧
  (s.ptr.isNone = false → (∀ b_ w1, b_ = w.heap.size → w1 = w.alloc (Obj.cells ([]).toArray ty_api_Write (0, 0)) → (∃ src, SrcAt w1 s 3 src ∧ AppendW 3 40 ty_api_Write [Value.string ByteArray.empty, Value.string ByteArray.empty, Value.bool false] (Slc.mk (some ⟨b_, 0, none⟩) 0 0) src s.len w1 (fun v7 w2 => R v7 w2))))

def F_logfile_turns_1 (t_ : T_api_Txn) (t1 : Option Addr) (R : Int → World → Prop) (w : World) : Prop :=
  ∀ b_ w1, b_ = w.heap.size → w1 = w.alloc (Obj.cells ([Value.int .i64 t_.Number, Value.slice t_.Writes.ptr t_.Writes.len t_.Writes.cap]).toArray ty_api_Txn (0, 0)) → (∃ (v5 : T_api_Txn), CellsAt w1 b_ 0 [Value.int .i64 v5.Number, Value.slice v5.Writes.ptr v5.Writes.len v5.Writes.cap] ∧ (C_record_Check v5 w1 (fun (v6 : Int) w2 => ((v6 != 0) = true → (R v6 w2)) ∧
  ((v6 != 0) = false → (∃ (v11 : Int), w2.cell? ⟨b_, 0, none⟩ = some (Value.int .i64 v11) ∧ (IsAt t1 ∧ (∃ (v12 : Int), w2.cell? ⟨(pblk t1), (poff t1), none⟩ = some (Value.int .i64 v12) ∧ (((v11 != v12) = true → (R 6 w2)) ∧
  ((v11 != v12) = false → (IsAt t1 ∧ (∃ (v14 : Int), w2.cell? ⟨(pblk t1), (poff t1), none⟩ = some (Value.int .i64 v14) ∧ (Writable w2 (pblk t1) (poff t1) 1 ∧ (∀ w3, w3 = World.puts (pblk t1) (poff t1) [Value.int .i64 (IntKind.i64.wrap (v14 + 1))] w2 → (R 0 w3))))))))))))))

def F_record_Check_k0 (R : Int → World → Prop) (t23 : Bool) (w2 : World) : Prop :=
  (t23 = true → (R 1 w2)) ∧
  (t23 = false → (R 0 w2))

def F_record_Check (t_ : T_api_Txn) (R : Int → World → Prop) (w : World) : Prop :=
  ∀ b_ w1, b_ = w.heap.size → w1 = w.alloc (Obj.cells ([Value.int .i64 t_.Number, Value.slice t_.Writes.ptr t_.Writes.len t_.Writes.cap]).toArray ty_api_Txn (0, 0)) → (∃ (v5 : Int), w1.cell? ⟨b_, 0, none⟩ = some (Value.int .i64 v5) ∧ (((decide (v5 < 1)) = true → (F_record_Check_k0 R true w1)) ∧
  ((decide (v5 < 1)) = false → (∃ (v9 : Int), w1.cell? ⟨b_, 0, none⟩ = some (Value.int .i64 v9) ∧ (((decide (v9 > 65536)) = true → (F_record_Check_k0 R true w1)) ∧
  ((decide (v9 > 65536)) = false → (∃ (v14 : Slc), w1.cell? ⟨b_, 1, none⟩ = some (Value.slice v14.ptr v14.len v14.cap) ∧ (((decide (((v14.len : Nat) : Int) > 32)) = true → (F_record_Check_k0 R true w1)) ∧
  ((decide (((v14.len : Nat) : Int) > 32)) = false → (∃ (v20 : Slc), w1.cell? ⟨b_, 1, none⟩ = some (Value.slice v20.ptr v20.len v20.cap) ∧ (C_slices_ContainsFunc_api_Write_api_Write v20 (Value.func (.func 133) #[] #[]) w1 (fun (v22 : Bool) w3 => F_record_Check_k0 R v22 w3))))))))))))

def F_record_Check_1 (w_ : T_api_Write) (R : Bool → World → Prop) (w : World) : Prop :=
  ∀ b_ w1, b_ = w.heap.size → w1 = w.alloc (Obj.cells ([Value.string w_.Key, Value.string w_.Val, Value.bool w_.Drop]).toArray ty_api_Write (0, 0)) → (∃ (v4 : ByteArray), w1.cell? ⟨b_, 0, none⟩ = some (Value.string v4) ∧ (((v4.toList == ByteArray.empty.toList) = true → (R true w1)) ∧
  ((v4.toList == ByteArray.empty.toList) = false → (∃ (v8 : ByteArray), w1.cell? ⟨b_, 0, none⟩ = some (Value.string v8) ∧ (((decide (((v8.size : Nat) : Int) > 64)) = true → (R true w1)) ∧
  ((decide (((v8.size : Nat) : Int) > 64)) = false → (∃ (v14 : ByteArray), w1.cell? ⟨b_, 1, none⟩ = some (Value.string v14) ∧ (((decide (((v14.size : Nat) : Int) > 1024)) = true → (R true w1)) ∧
  ((decide (((v14.size : Nat) : Int) > 1024)) = false → (∃ (v20 : Bool), w1.cell? ⟨b_, 2, none⟩ = some (Value.bool v20) ∧ ((v20 = true → (∃ (v23 : ByteArray), w1.cell? ⟨b_, 1, none⟩ = some (Value.string v23) ∧ (R (!(v23.toList == ByteArray.empty.toList)) w1))) ∧
  (v20 = false → (R false w1)))))))))))))

def F_slices_ContainsFunc_api_Write_api_Write (s : Slc) (f : Value) (R : Bool → World → Prop) (w : World) : Prop :=
  C_slices_IndexFunc_api_Write_api_Write s f w (fun (v7 : Int) w1 => R (decide (v7 ≥ 0)) w1)

def F_slices_IndexFunc_api_Write_api_Write_L0 (s : Slc) (f : Value) (R : Int → World → Prop) (again_ : Int → World → Prop) (t8 : Int) (w1 : World) : Prop :=
  ((decide (t8 < ((s.len : Nat) : Int))) = true → (IsAt s.ptr ∧ (0 ≤ t8 ∧ t8 < ((s.len : Nat) : Int) ∧ (∃ (v15 : T_api_Write), CellsAt w1 (pblk s.ptr) ((poff s.ptr) + t8.toNat * 3) [Value.string v15.Key, Value.string v15.Val, Value.bool v15.Drop] ∧ (CallsV (P := Try.prog) f #[Value.agg #[Value.string v15.Key, Value.string v15.Val, Value.bool v15.Drop]] w1 (fun e' w2 => ∃ (v16 : Bool), e' = Ending.returned (Value.bool v16) ∧ ((v16 = true → (R t8 w2)) ∧
  (v16 = false → (again_ (IntKind.i64.wrap (t8 + 1)) w2))))))))) ∧
  ((decide (t8 < ((s.len : Nat) : Int))) = false → (R (-1) w1))

def F_slices_IndexFunc_api_Write_api_Write (s : Slc) (f : Value) (R : Int → World → Prop) (w : World) : Prop :=
  ∃ (I : Int → World → Prop) (μ : Int → World → Nat), I 0 w ∧
  ∀ (t8 : Int) w, I t8 w → F_slices_IndexFunc_api_Write_api_Write_L0 s f R (fun (t8' : Int) w' => I t8' w' ∧ μ t8' w' < μ t8 w) t8 w

def Ok_T_towpathlaw16_Made (w : World) (x : T_towpathlaw16_Made) : Prop := ((-9223372036854775808) ≤ x.Mark ∧ x.Mark ≤ 9223372036854775807) ∧ (OkSl w x.Beyond 1 8 (fun es => ∃ e_ : Int, es = [Value.int .i64 e_] ∧ ((-9223372036854775808) ≤ e_ ∧ e_ ≤ 9223372036854775807))) ∧ ((-9223372036854775808) ≤ x.Window ∧ x.Window ≤ 9223372036854775807)

def Ok_T_towpathlaw16_Ask (w : World) (x : T_towpathlaw16_Ask) : Prop := (0 ≤ x.Kind ∧ x.Kind ≤ 255) ∧ ((-9223372036854775808) ≤ x.N ∧ x.N ≤ 9223372036854775807)

end Go.Proofs.Ytpedclhflmhakaa
