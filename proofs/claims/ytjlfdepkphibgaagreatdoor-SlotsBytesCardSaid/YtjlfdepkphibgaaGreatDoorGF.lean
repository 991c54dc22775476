/- WRITTEN BY PROGRAM (dec.py): for each Go function the clean formula F, the call's contract C, and the proof S that F gives C. -/
import Derived.Test.YtjlfdepkphibgaaGreatDoorRows
import Derived.Test.YtjlfdepkphibgaaGreatDoorCore
namespace Go.Proofs.YtjlfdepkphibgaaGreatDoor
open Go
set_option linter.unusedVariables false


abbrev y_i:TypeId:=3

abbrev y_e:TypeId:=5

abbrev y_B:TypeId:=9

abbrev y_y:TypeId:=25

abbrev y_q:TypeId:=35

abbrev y_n:TypeId:=40

abbrev y_l:TypeId:=54

abbrev y_a:TypeId:=59

abbrev y_t:TypeId:=61

abbrev y_A:TypeId:=65

abbrev y_z:TypeId:=71

abbrev y_r:TypeId:=73

abbrev y_j:TypeId:=91

abbrev y_x:TypeId:=93

abbrev y_o:TypeId:=96

abbrev y_h:TypeId:=108

abbrev y_f:TypeId:=128

abbrev y_c:TypeId:=130

abbrev y_g:TypeId:=139

abbrev y_d:TypeId:=141

abbrev y_b:TypeId:=193

abbrev y_u:TypeId:=203

abbrev y_s:TypeId:=210

abbrev y_m:TypeId:=212

abbrev y_p:TypeId:=218

abbrev y_w:TypeId:=226

abbrev y_k:TypeId:=228

abbrev y_v:TypeId:=231

structure T_b where
 Mark:Int
 Beyond:Slc
 Held:Slc

structure T_e where
 Kind:Int
 Saved:T_b
 Slot:Int
 At:Int
 B:Slc
 N:Int

structure T_f where
 l:Slc
 long:Slc
 n:Int

structure T_c where
 Number:Int
 Val:ByteArray
 Drop:Bool

structure T_g where
 l:Slc
 long:Slc
 n:Int

structure T_d where
 Key:ByteArray
 Versions:Slc

structure T_h where
 l:Slc
 long:Slc
 n:Int

structure T_a where
 Gone:Bool
 B:Slc
 At:Int
 Code:Int

def C_ic (a_:Slc) (b_:Slc) (w:World) (R:Bool→WP):Prop :=
 Calls Tryz.prog 4 #[Vs a_,Vs b_] w (fun e w'=>∃(r0:Bool),e= .returned (Vo r0)∧R r0 w')

def C_Mc (capacity:Int) (w:World) (R:OA→Int→WP):Prop :=
 Calls Tryz.prog 6 #[Vi capacity] w (fun e w'=>∃(r0:OA) (r1:Int),e= .returned (Value.tuple #[Vp r0,Vi r1])∧R r0 r1 w')

def C_kc (capacity:Int) (w:World) (R:OA→Int→WP):Prop :=
 Calls Tryz.prog 7 #[Vi capacity] w (fun e w'=>∃(r0:OA) (r1:Int),e= .returned (Value.tuple #[Vp r0,Vi r1])∧R r0 r1 w')

def C_e (p:OA) (o_:T_e) (w:World) (R:Bool→WP):Prop :=
 Calls Tryz.prog 8 #[Vp p,Value.agg #[Value.int .u8 o_.Kind,Vi o_.Saved.Mark,Vs o_.Saved.Beyond,Vs o_.Saved.Held,Vi o_.Slot,Vi o_.At,Vs o_.B,Vi o_.N]] w (fun e w'=>∃(r0:Bool),e= .returned (Vo r0)∧R r0 w')

def C_G (p:OA) (k_:OA) (w:World) (R:Bool→WP):Prop :=
 Calls Tryz.prog 9 #[Vp p,Vp k_] w (fun e w'=>∃(r0:Bool),e= .returned (Vo r0)∧R r0 w')

def C_i (b_:OA) (w:World) (R:Bool→WP):Prop :=
 Calls Tryz.prog 10 #[Vp b_] w (fun e w'=>∃(r0:Bool),e= .returned (Vo r0)∧R r0 w')

def C_mb (s:OA) (w:World) (R:Int→WP):Prop :=
 Calls Tryz.prog 11 #[Vp s] w (fun e w'=>∃(r0:Int),e= .returned (Vi r0)∧R r0 w')

def C_nb (s:OA) (w:World) (R:Int→WP):Prop :=
 Calls Tryz.prog 12 #[Vp s] w (fun e w'=>∃(r0:Int),e= .returned (Vi r0)∧R r0 w')

def C_Kb (x:T_b) (w:World) (R:T_b→WP):Prop :=
 Calls Tryz.prog 14 #[Value.agg #[Vi x.Mark,Vs x.Beyond,Vs x.Held]] w (fun e w'=>∃(r0:T_b),e= .returned (Value.agg #[Vi r0.Mark,Vs r0.Beyond,Vs r0.Held])∧R r0 w')

def C_gc (d:OA) (s:T_b) (w:World) (R:OA→Int→WP):Prop :=
 Calls Tryz.prog 15 #[Vp d,Value.agg #[Vi s.Mark,Vs s.Beyond,Vs s.Held]] w (fun e w'=>∃(r0:OA) (r1:Int),e= .returned (Value.tuple #[Vp r0,Vi r1])∧R r0 r1 w')

def C_ob (d:OA) (s:T_b) (w:World) (R:OA→Int→WP):Prop :=
 Calls Tryz.prog 16 #[Vp d,Value.agg #[Vi s.Mark,Vs s.Beyond,Vs s.Held]] w (fun e w'=>∃(r0:OA) (r1:Int),e= .returned (Value.tuple #[Vp r0,Vi r1])∧R r0 r1 w')

def C_Lb (t_:T_b) (x:T_b) (w:World) (R:Bool→WP):Prop :=
 Calls Tryz.prog 17 #[Value.agg #[Vi t_.Mark,Vs t_.Beyond,Vs t_.Held],Value.agg #[Vi x.Mark,Vs x.Beyond,Vs x.Held]] w (fun e w'=>∃(r0:Bool),e= .returned (Vo r0)∧R r0 w')

def C_j (b_:OA) (s:T_b) (w:World) (R:WP):Prop :=
 Calls Tryz.prog 18 #[Vp b_,Value.agg #[Vi s.Mark,Vs s.Beyond,Vs s.Held]] w (fun e w'=>e= .returned (Value.tuple #[])∧R w')

def C_S (d:OA) (slot:Int) (at_:Int) (b_:Slc) (w:World) (R:Int→WP):Prop :=
 Calls Tryz.prog 19 #[Vp d,Vi slot,Vi at_,Vs b_] w (fun e w'=>∃(r0:Int),e= .returned (Vi r0)∧R r0 w')

def C_k (d:OA) (slot:Int) (at_:Int) (b_:Slc) (w:World) (R:Int→WP):Prop :=
 Calls Tryz.prog 20 #[Vp d,Vi slot,Vi at_,Vs b_] w (fun e w'=>∃(r0:Int),e= .returned (Vi r0)∧R r0 w')

def C_y (d:OA) (slot:Int) (w:World) (R:Int→WP):Prop :=
 Calls Tryz.prog 21 #[Vp d,Vi slot] w (fun e w'=>∃(r0:Int),e= .returned (Vi r0)∧R r0 w')

def C_l (d:OA) (slot:Int) (w:World) (R:Int→WP):Prop :=
 Calls Tryz.prog 22 #[Vp d,Vi slot] w (fun e w'=>∃(r0:Int),e= .returned (Vi r0)∧R r0 w')

def C_3b (d:OA) (n_:Int) (w:World) (R:Int→WP):Prop :=
 Calls Tryz.prog 23 #[Vp d,Vi n_] w (fun e w'=>∃(r0:Int),e= .returned (Vi r0)∧R r0 w')

def C_x (d:OA) (n_:Int) (w:World) (R:Int→WP):Prop :=
 Calls Tryz.prog 24 #[Vp d,Vi n_] w (fun e w'=>∃(r0:Int),e= .returned (Vi r0)∧R r0 w')

def C_Mb (d:OA) (w:World) (R:Int→WP):Prop :=
 Calls Tryz.prog 25 #[Vp d] w (fun e w'=>∃(r0:Int),e= .returned (Vi r0)∧R r0 w')

def C_s (d:OA) (w:World) (R:Int→WP):Prop :=
 Calls Tryz.prog 26 #[Vp d] w (fun e w'=>∃(r0:Int),e= .returned (Vi r0)∧R r0 w')

def C_p (s:OA) (w:World) (R:Int→WP):Prop :=
 Calls Tryz.prog 27 #[Vp s] w (fun e w'=>∃(r0:Int),e= .returned (Vi r0)∧R r0 w')

def C_Jb (d:OA) (w:World) (R:T_b→Int→Int→Bool→Int→WP):Prop :=
 Calls Tryz.prog 28 #[Vp d] w (fun e w'=>∃(r0:T_b) (r1:Int) (r2:Int) (r3:Bool) (r4:Int),e= .returned (Value.tuple #[Value.agg #[Vi r0.Mark,Vs r0.Beyond,Vs r0.Held],Vi r1,Vi r2,Vo r3,Vi r4])∧R r0 r1 r2 r3 r4 w')

def C_r (d:OA) (w:World) (R:T_b→Int→Int→Bool→Int→WP):Prop :=
 Calls Tryz.prog 29 #[Vp d] w (fun e w'=>∃(r0:T_b) (r1:Int) (r2:Int) (r3:Bool) (r4:Int),e= .returned (Value.tuple #[Value.agg #[Vi r0.Mark,Vs r0.Beyond,Vs r0.Held],Vi r1,Vi r2,Vo r3,Vi r4])∧R r0 r1 r2 r3 r4 w')

def C_Nb (a_:T_b) (b_:T_b) (w:World) (R:Bool→WP):Prop :=
 Calls Tryz.prog 30 #[Value.agg #[Vi a_.Mark,Vs a_.Beyond,Vs a_.Held],Value.agg #[Vi b_.Mark,Vs b_.Beyond,Vs b_.Held]] w (fun e w'=>∃(r0:Bool),e= .returned (Vo r0)∧R r0 w')

def C_m (s:OA) (w:World) (R:Int→WP):Prop :=
 Calls Tryz.prog 31 #[Vp s] w (fun e w'=>∃(r0:Int),e= .returned (Vi r0)∧R r0 w')

def C_Ob (d:OA) (w:World) (R:Bool→WP):Prop :=
 Calls Tryz.prog 32 #[Vp d] w (fun e w'=>∃(r0:Bool),e= .returned (Vo r0)∧R r0 w')

def C_t (d:OA) (w:World) (R:Bool→WP):Prop :=
 Calls Tryz.prog 33 #[Vp d] w (fun e w'=>∃(r0:Bool),e= .returned (Vo r0)∧R r0 w')

def C_pb (d:OA) (w:World) (R:Int→WP):Prop :=
 Calls Tryz.prog 34 #[Vp d] w (fun e w'=>∃(r0:Int),e= .returned (Vi r0)∧R r0 w')

def C_n (d:OA) (w:World) (R:Int→WP):Prop :=
 Calls Tryz.prog 35 #[Vp d] w (fun e w'=>∃(r0:Int),e= .returned (Vi r0)∧R r0 w')

def C_8 (d:OA) (slot:Int) (w:World) (R:Slc→Int→WP):Prop :=
 Calls Tryz.prog 36 #[Vp d,Vi slot] w (fun e w'=>∃(r0:Slc) (r1:Int),e= .returned (Value.tuple #[Vs r0,Vi r1])∧R r0 r1 w')

def C_b (d:OA) (slot:Int) (w:World) (R:Slc→Int→WP):Prop :=
 Calls Tryz.prog 37 #[Vp d,Vi slot] w (fun e w'=>∃(r0:Slc) (r1:Int),e= .returned (Value.tuple #[Vs r0,Vi r1])∧R r0 r1 w')

def C_Pb (a_:Slc) (b_:Slc) (w:World) (R:Bool→WP):Prop :=
 Calls Tryz.prog 38 #[Vs a_,Vs b_] w (fun e w'=>∃(r0:Bool),e= .returned (Vo r0)∧R r0 w')

def C_9 (b_:OA) (w:World) (R:WP):Prop :=
 Calls Tryz.prog 39 #[Vp b_] w (fun e w'=>e= .returned (Value.tuple #[])∧R w')

def C_qb (b_:OA) (w:World) (R:WP):Prop :=
 Calls Tryz.prog 40 #[Vp b_] w (fun e w'=>e= .returned (Value.tuple #[])∧R w')

def C_ab (b_:OA) (w:World) (R:WP):Prop :=
 Calls Tryz.prog 41 #[Vp b_] w (fun e w'=>e= .returned (Value.tuple #[])∧R w')

def C_T (b_:OA) (w:World) (R:WP):Prop :=
 Calls Tryz.prog 42 #[Vp b_] w (fun e w'=>e= .returned (Value.tuple #[])∧R w')

def C_U (b_:OA) (w:World) (R:WP):Prop :=
 Calls Tryz.prog 43 #[Vp b_] w (fun e w'=>e= .returned (Value.tuple #[])∧R w')

def C_I (b_:OA) (w:World) (R:WP):Prop :=
 Calls Tryz.prog 44 #[Vp b_] w (fun e w'=>e= .returned (Value.tuple #[])∧R w')

def C_rb (b_:OA) (w:World) (R:WP):Prop :=
 Calls Tryz.prog 45 #[Vp b_] w (fun e w'=>e= .returned (Value.tuple #[])∧R w')

def C_bb (b_:OA) (w:World) (R:WP):Prop :=
 Calls Tryz.prog 46 #[Vp b_] w (fun e w'=>e= .returned (Value.tuple #[])∧R w')

def C_C (b_:OA) (w:World) (R:WP):Prop :=
 Calls Tryz.prog 47 #[Vp b_] w (fun e w'=>e= .returned (Value.tuple #[])∧R w')

def C_V (b_:OA) (w:World) (R:WP):Prop :=
 Calls Tryz.prog 48 #[Vp b_] w (fun e w'=>e= .returned (Value.tuple #[])∧R w')

def C_M (b_:OA) (w:World) (R:WP):Prop :=
 Calls Tryz.prog 49 #[Vp b_] w (fun e w'=>e= .returned (Value.tuple #[])∧R w')

def C_cb (b_:OA) (w:World) (R:WP):Prop :=
 Calls Tryz.prog 50 #[Vp b_] w (fun e w'=>e= .returned (Value.tuple #[])∧R w')

def C_sb (b_:OA) (w:World) (R:WP):Prop :=
 Calls Tryz.prog 51 #[Vp b_] w (fun e w'=>e= .returned (Value.tuple #[])∧R w')

def C_db (b_:OA) (w:World) (R:WP):Prop :=
 Calls Tryz.prog 52 #[Vp b_] w (fun e w'=>e= .returned (Value.tuple #[])∧R w')

def C_W (b_:OA) (w:World) (R:WP):Prop :=
 Calls Tryz.prog 53 #[Vp b_] w (fun e w'=>e= .returned (Value.tuple #[])∧R w')

def C_X (b_:OA) (w:World) (R:WP):Prop :=
 Calls Tryz.prog 54 #[Vp b_] w (fun e w'=>e= .returned (Value.tuple #[])∧R w')

def C_J (b_:OA) (w:World) (R:WP):Prop :=
 Calls Tryz.prog 55 #[Vp b_] w (fun e w'=>e= .returned (Value.tuple #[])∧R w')

def C_tb (b_:OA) (w:World) (R:WP):Prop :=
 Calls Tryz.prog 56 #[Vp b_] w (fun e w'=>e= .returned (Value.tuple #[])∧R w')

def C_eb (b_:OA) (w:World) (R:WP):Prop :=
 Calls Tryz.prog 57 #[Vp b_] w (fun e w'=>e= .returned (Value.tuple #[])∧R w')

def C_D (b_:OA) (w:World) (R:WP):Prop :=
 Calls Tryz.prog 58 #[Vp b_] w (fun e w'=>e= .returned (Value.tuple #[])∧R w')

def C_Y (b_:OA) (w:World) (R:WP):Prop :=
 Calls Tryz.prog 59 #[Vp b_] w (fun e w'=>e= .returned (Value.tuple #[])∧R w')

def C_N (b_:OA) (w:World) (R:WP):Prop :=
 Calls Tryz.prog 60 #[Vp b_] w (fun e w'=>e= .returned (Value.tuple #[])∧R w')

def C_fb (b_:OA) (w:World) (R:Bool→WP):Prop :=
 Calls Tryz.prog 61 #[Vp b_] w (fun e w'=>∃(r0:Bool),e= .returned (Vo r0)∧R r0 w')

def C_ub (b_:OA) (w:World) (R:Bool→WP):Prop :=
 Calls Tryz.prog 62 #[Vp b_] w (fun e w'=>∃(r0:Bool),e= .returned (Vo r0)∧R r0 w')

def C_gb (b_:OA) (w:World) (R:Bool→WP):Prop :=
 Calls Tryz.prog 63 #[Vp b_] w (fun e w'=>∃(r0:Bool),e= .returned (Vo r0)∧R r0 w')

def C_Z (b_:OA) (w:World) (R:Bool→WP):Prop :=
 Calls Tryz.prog 64 #[Vp b_] w (fun e w'=>∃(r0:Bool),e= .returned (Vo r0)∧R r0 w')

def C_0 (b_:OA) (w:World) (R:Bool→WP):Prop :=
 Calls Tryz.prog 65 #[Vp b_] w (fun e w'=>∃(r0:Bool),e= .returned (Vo r0)∧R r0 w')

def C_K (b_:OA) (w:World) (R:Bool→WP):Prop :=
 Calls Tryz.prog 66 #[Vp b_] w (fun e w'=>∃(r0:Bool),e= .returned (Vo r0)∧R r0 w')

def C_vb (b_:OA) (w:World) (R:Bool→WP):Prop :=
 Calls Tryz.prog 67 #[Vp b_] w (fun e w'=>∃(r0:Bool),e= .returned (Vo r0)∧R r0 w')

def C_hb (b_:OA) (w:World) (R:Bool→WP):Prop :=
 Calls Tryz.prog 68 #[Vp b_] w (fun e w'=>∃(r0:Bool),e= .returned (Vo r0)∧R r0 w')

def C_E (b_:OA) (w:World) (R:Bool→WP):Prop :=
 Calls Tryz.prog 69 #[Vp b_] w (fun e w'=>∃(r0:Bool),e= .returned (Vo r0)∧R r0 w')

def C_1 (b_:OA) (w:World) (R:Bool→WP):Prop :=
 Calls Tryz.prog 70 #[Vp b_] w (fun e w'=>∃(r0:Bool),e= .returned (Vo r0)∧R r0 w')

def C_O (b_:OA) (w:World) (R:Bool→WP):Prop :=
 Calls Tryz.prog 71 #[Vp b_] w (fun e w'=>∃(r0:Bool),e= .returned (Vo r0)∧R r0 w')

def C_Xb (l_:Slc) (w:World) (R:Slc→WP):Prop :=
 Calls Tryz.prog 73 #[Vs l_] w (fun e w'=>∃(r0:Slc),e= .returned (Vs r0)∧R r0 w')

def C_Qb (l_:Slc) (w:World) (R:Slc→WP):Prop :=
 Calls Tryz.prog 74 #[Vs l_] w (fun e w'=>∃(r0:Slc),e= .returned (Vs r0)∧R r0 w')

def C_Fc (s:T_b) (w:World) (R:Slc→Int→WP):Prop :=
 Calls Tryz.prog 75 #[Value.agg #[Vi s.Mark,Vs s.Beyond,Vs s.Held]] w (fun e w'=>∃(r0:Slc) (r1:Int),e= .returned (Value.tuple #[Vs r0,Vi r1])∧R r0 r1 w')

def C_7b (generation:Int) (x:Slc) (w:World) (R:List Int→WP):Prop :=
 Calls Tryz.prog 76 #[Value.int .u64 generation,Vs x] w (fun e w'=>∃(r0:List Int),r0.length=20∧e= .returned (Value.agg (List.map (Value.int .u8) r0).toArray)∧R r0 w')

def C_ac (d:OA) (w:World) (R:Int→WP):Prop :=
 Calls Tryz.prog 77 #[Vp d] w (fun e w'=>∃(r0:Int),e= .returned (Vi r0)∧R r0 w')

def C_8b (s:T_b) (w:World) (R:Slc→Int→WP):Prop :=
 Calls Tryz.prog 78 #[Value.agg #[Vi s.Mark,Vs s.Beyond,Vs s.Held]] w (fun e w'=>∃(r0:Slc) (r1:Int),e= .returned (Value.tuple #[Vs r0,Vi r1])∧R r0 r1 w')

def C_bc (generation:Int) (x:Slc) (w:World) (R:Slc→WP):Prop :=
 Calls Tryz.prog 79 #[Value.int .u64 generation,Vs x] w (fun e w'=>∃(r0:Slc),e= .returned (Vs r0)∧R r0 w')

def C_ib (d:OA) (w:World) (R:Int→WP):Prop :=
 Calls Tryz.prog 80 #[Vp d] w (fun e w'=>∃(r0:Int),e= .returned (Vi r0)∧R r0 w')

def C_Yb (t_:Slc) (l_:Slc) (w:World) (R:Bool→WP):Prop :=
 Calls Tryz.prog 81 #[Vs t_,Vs l_] w (fun e w'=>∃(r0:Bool),e= .returned (Vo r0)∧R r0 w')

def C_Rb (t_:Slc) (l_:Slc) (w:World) (R:Bool→WP):Prop :=
 Calls Tryz.prog 82 #[Vs t_,Vs l_] w (fun e w'=>∃(r0:Bool),e= .returned (Vo r0)∧R r0 w')

def C_Sb (b_:OA) (l_:Slc) (w:World) (R:WP):Prop :=
 Calls Tryz.prog 83 #[Vp b_,Vs l_] w (fun e w'=>e= .returned (Value.tuple #[])∧R w')

def C_Bb (b_:OA) (l_:Slc) (w:World) (R:WP):Prop :=
 Calls Tryz.prog 84 #[Vp b_,Vs l_] w (fun e w'=>e= .returned (Value.tuple #[])∧R w')

def C_u (d:OA) (slot:Int) (w:World) (R:Int→WP):Prop :=
 Calls Tryz.prog 85 #[Vp d,Vi slot] w (fun e w'=>∃(r0:Int),e= .returned (Vi r0)∧R r0 w')

def C_jc (d:OA) (w:World) (R:Int→WP):Prop :=
 Calls Tryz.prog 86 #[Vp d] w (fun e w'=>∃(r0:Int),e= .returned (Vi r0)∧R r0 w')

def C_3 (d:OA) (w:World) (R:Int→WP):Prop :=
 Calls Tryz.prog 87 #[Vp d] w (fun e w'=>∃(r0:Int),e= .returned (Vi r0)∧R r0 w')

def C_uc (b_:Slc) (w:World) (R:T_b→Int→Bool→WP):Prop :=
 Calls Tryz.prog 88 #[Vs b_] w (fun e w'=>∃(r0:T_b) (r1:Int) (r2:Bool),e= .returned (Value.tuple #[Value.agg #[Vi r0.Mark,Vs r0.Beyond,Vs r0.Held],Value.int .u64 r1,Vo r2])∧R r0 r1 r2 w')

def C_Cb (b_:Slc) (w:World) (R:T_b→Int→Bool→WP):Prop :=
 Calls Tryz.prog 89 #[Vs b_] w (fun e w'=>∃(r0:T_b) (r1:Int) (r2:Bool),e= .returned (Value.tuple #[Value.agg #[Vi r0.Mark,Vs r0.Beyond,Vs r0.Held],Value.int .u64 r1,Vo r2])∧R r0 r1 r2 w')

def C_Zb (a_:Slc) (b_:Slc) (w:World) (R:Bool→WP):Prop :=
 Calls Tryz.prog 90 #[Vs a_,Vs b_] w (fun e w'=>∃(r0:Bool),e= .returned (Vo r0)∧R r0 w')

def C_P (a_:Slc) (b_:Slc) (w:World) (R:Bool→WP):Prop :=
 Calls Tryz.prog 91 #[Vs a_,Vs b_] w (fun e w'=>∃(r0:Bool),e= .returned (Vo r0)∧R r0 w')

def C_lc (s:OA) (w:World) (R:Int→WP):Prop :=
 Calls Tryz.prog 92 #[Vp s] w (fun e w'=>∃(r0:Int),e= .returned (Vi r0)∧R r0 w')

def C_v (s:Slc) (w:World) (R:Slc→WP):Prop :=
 Calls Tryz.prog 93 #[Vs s] w (fun e w'=>∃(r0:Slc),e= .returned (Vs r0)∧R r0 w')

def C_lb (n_:Int) (w:World) (R:Int→WP):Prop :=
 Calls Tryz.prog 95 #[Vi n_] w (fun e w'=>∃(r0:Int),e= .returned (Vi r0)∧R r0 w')

def C_A (n_:Int) (w:World) (R:T_c→WP):Prop :=
 Calls Tryz.prog 99 #[Vi n_] w (fun e w'=>∃(r0:T_c),e= .returned (Value.agg #[Vi r0.Number,Value.string r0.Val,Vo r0.Drop])∧R r0 w')

def C_4 (n_:Int) (w:World) (R:T_d→WP):Prop :=
 Calls Tryz.prog 101 #[Vi n_] w (fun e w'=>∃(r0:T_d),e= .returned (Value.agg #[Value.string r0.Key,Vs r0.Versions])∧R r0 w')

def C_Db (x:Int) (n_:Int) (w:World) (R:Bool→WP):Prop :=
 Calls Tryz.prog 106 #[Vi x,Vi n_] w (fun e w'=>∃(r0:Bool),e= .returned (Vo r0)∧R r0 w')

def C_Q (x:T_c) (n_:Int) (w:World) (R:Bool→WP):Prop :=
 Calls Tryz.prog 110 #[Value.agg #[Vi x.Number,Value.string x.Val,Vo x.Drop],Vi n_] w (fun e w'=>∃(r0:Bool),e= .returned (Vo r0)∧R r0 w')

def C_F (x:T_d) (n_:Int) (w:World) (R:Bool→WP):Prop :=
 Calls Tryz.prog 112 #[Value.agg #[Value.string x.Key,Vs x.Versions],Vi n_] w (fun e w'=>∃(r0:Bool),e= .returned (Vo r0)∧R r0 w')

def C_0b (x:T_d) (w:World) (R:T_d→WP):Prop :=
 Calls Tryz.prog 117 #[Value.agg #[Value.string x.Key,Vs x.Versions]] w (fun e w'=>∃(r0:T_d),e= .returned (Value.agg #[Value.string r0.Key,Vs r0.Versions])∧R r0 w')

def C_xc (s:T_b) (w:World) (R:Int→WP):Prop :=
 Calls Tryz.prog 118 #[Value.agg #[Vi s.Mark,Vs s.Beyond,Vs s.Held]] w (fun e w'=>∃(r0:Int),e= .returned (Vi r0)∧R r0 w')

def C_sc (w:World) (R:OA→WP):Prop :=
 Calls Tryz.prog 119 #[] w (fun e w'=>∃(r0:OA),e= .returned (Vp r0)∧R r0 w')

def C_g (w_:OA) (n_:Int) (w:World) (R:WP):Prop :=
 Calls Tryz.prog 120 #[Vp w_,Value.int .u64 n_] w (fun e w'=>e= .returned (Value.tuple #[])∧R w')

def C_Tb (w_:OA) (s:ByteArray) (w:World) (R:WP):Prop :=
 Calls Tryz.prog 121 #[Vp w_,Value.string s] w (fun e w'=>e= .returned (Value.tuple #[])∧R w')

def C_Eb (w_:OA) (n_:Int) (width:Int) (w:World) (R:Int→WP):Prop :=
 Calls Tryz.prog 122 #[Vp w_,Value.int .u64 n_,Vi width] w (fun e w'=>∃(r0:Int),e= .returned (Vi r0)∧R r0 w')

def C_hc (w_:OA) (w:World) (R:Slc→WP):Prop :=
 Calls Tryz.prog 123 #[Vp w_] w (fun e w'=>∃(r0:Slc),e= .returned (Vs r0)∧R r0 w')

def C_6b (b_:Slc) (n_:Int) (w:World) (R:WP):Prop :=
 Calls Tryz.prog 124 #[Vs b_,Value.int .u64 n_] w (fun e w'=>e= .returned (Value.tuple #[])∧R w')

def C_wc (h_:OA) (x:Slc) (w:World) (R:Int→WP):Prop :=
 Calls Tryz.prog 125 #[Vp h_,Vs x] w (fun e w'=>∃(r0:Int),e= .returned (Value.int .u32 r0)∧R r0 w')

def C_Fb (s:T_b) (w:World) (R:Int→WP):Prop :=
 Calls Tryz.prog 126 #[Value.agg #[Vi s.Mark,Vs s.Beyond,Vs s.Held]] w (fun e w'=>∃(r0:Int),e= .returned (Vi r0)∧R r0 w')

def C_h (b_:Slc) (n_:Int) (w:World) (R:Slc→WP):Prop :=
 Calls Tryz.prog 127 #[Vs b_,Value.int .u64 n_] w (fun e w'=>∃(r0:Slc),e= .returned (Vs r0)∧R r0 w')

def C_Ub (b_:Slc) (s:ByteArray) (w:World) (R:Slc→WP):Prop :=
 Calls Tryz.prog 128 #[Vs b_,Value.string s] w (fun e w'=>∃(r0:Slc),e= .returned (Vs r0)∧R r0 w')

def C_w (b_:Slc) (n_:Int) (width:Int) (w:World) (R:Slc→Int→WP):Prop :=
 Calls Tryz.prog 129 #[Vs b_,Value.int .u64 n_,Vi width] w (fun e w'=>∃(r0:Slc) (r1:Int),e= .returned (Value.tuple #[Vs r0,Vi r1])∧R r0 r1 w')

def C_5 (sum:Int) (b_:Slc) (w:World) (R:Int→WP):Prop :=
 Calls Tryz.prog 130 #[Value.int .u32 sum,Vs b_] w (fun e w'=>∃(r0:Int),e= .returned (Value.int .u32 r0)∧R r0 w')

def C_4b (b_:Slc) (w:World) (R:Int→WP):Prop :=
 Calls Tryz.prog 131 #[Vs b_] w (fun e w'=>∃(r0:Int),e= .returned (Value.int .u32 r0)∧R r0 w')

def C_1b (t_:T_d) (x:T_d) (w:World) (R:Bool→WP):Prop :=
 Calls Tryz.prog 132 #[Value.agg #[Value.string t_.Key,Vs t_.Versions],Value.agg #[Value.string x.Key,Vs x.Versions]] w (fun e w'=>∃(r0:Bool),e= .returned (Vo r0)∧R r0 w')

def C_wb (b_:OA) (l_:Slc) (w:World) (R:WP):Prop :=
 Calls Tryz.prog 133 #[Vp b_,Vs l_] w (fun e w'=>e= .returned (Value.tuple #[])∧R w')

def C_jb (b_:OA) (l_:Slc) (w:World) (R:WP):Prop :=
 Calls Tryz.prog 134 #[Vp b_,Vs l_] w (fun e w'=>e= .returned (Value.tuple #[])∧R w')

def C_kb (b_:OA) (l_:Slc) (w:World) (R:WP):Prop :=
 Calls Tryz.prog 135 #[Vp b_,Vs l_] w (fun e w'=>e= .returned (Value.tuple #[])∧R w')

def C_Gc (b_:Slc) (w:World) (R:T_b→Int→WP):Prop :=
 Calls Tryz.prog 136 #[Vs b_] w (fun e w'=>∃(r0:T_b) (r1:Int),e= .returned (Value.tuple #[Value.agg #[Vi r0.Mark,Vs r0.Beyond,Vs r0.Held],Vi r1])∧R r0 r1 w')

def C_c (r:T_a) (width:Int) (w:World) (R:T_a→Int→WP):Prop :=
 Calls Tryz.prog 137 #[Value.agg #[Vo r.Gone,Vs r.B,Vi r.At,Vi r.Code],Vi width] w (fun e w'=>∃(r0:T_a) (r1:Int),e= .returned (Value.tuple #[Value.agg #[Vo r0.Gone,Vs r0.B,Vi r0.At,Vi r0.Code],Value.int .u64 r1])∧R r0 r1 w')

def C_B (r:T_a) (w:World) (R:Int→WP):Prop :=
 Calls Tryz.prog 138 #[Value.agg #[Vo r.Gone,Vs r.B,Vi r.At,Vi r.Code]] w (fun e w'=>∃(r0:Int),e= .returned (Vi r0)∧R r0 w')

def C_9b (b_:Slc) (w:World) (R:T_b→Int→WP):Prop :=
 Calls Tryz.prog 139 #[Vs b_] w (fun e w'=>∃(r0:T_b) (r1:Int),e= .returned (Value.tuple #[Value.agg #[Vi r0.Mark,Vs r0.Beyond,Vs r0.Held],Vi r1])∧R r0 r1 w')

def C_2b (a_:T_d) (b_:T_d) (w:World) (R:Bool→WP):Prop :=
 Calls Tryz.prog 140 #[Value.agg #[Value.string a_.Key,Vs a_.Versions],Value.agg #[Value.string b_.Key,Vs b_.Versions]] w (fun e w'=>∃(r0:Bool),e= .returned (Vo r0)∧R r0 w')

def C_Vb (n_:Int) (w:World) (R:ByteArray→WP):Prop :=
 Calls Tryz.prog 141 #[Vi n_] w (fun e w'=>∃(r0:ByteArray),e= .returned (Value.string r0)∧R r0 w')

def C_xb (l_:Slc) (w:World) (R:Slc→WP):Prop :=
 Calls Tryz.prog 142 #[Vs l_] w (fun e w'=>∃(r0:Slc),e= .returned (Vs r0)∧R r0 w')

def C_Hc (l_:Slc) (w:World) (R:OA→Int→WP):Prop :=
 Calls Tryz.prog 143 #[Vs l_] w (fun e w'=>∃(r0:OA) (r1:Int),e= .returned (Value.tuple #[Vp r0,Vi r1])∧R r0 r1 w')

def C_2 (x:Slc) (target:Int) (w:World) (R:Int→Bool→WP):Prop :=
 Calls Tryz.prog 144 #[Vs x,Vi target] w (fun e w'=>∃(r0:Int) (r1:Bool),e= .returned (Value.tuple #[Vi r0,Vo r1])∧R r0 r1 w')

def C_z (w_:OA) (w:World) (R:Bool→WP):Prop :=
 Calls Tryz.prog 145 #[Vp w_] w (fun e w'=>∃(r0:Bool),e= .returned (Vo r0)∧R r0 w')

def C_yc (sum:Int) (b_:Slc) (w:World) (R:Int→WP):Prop :=
 Calls Tryz.prog 146 #[Value.int .u32 sum,Vs b_] w (fun e w'=>∃(r0:Int),e= .returned (Value.int .u32 r0)∧R r0 w')

def C_Oc (b_:Slc) (w:World) (R:Int→WP):Prop :=
 Calls Tryz.prog 147 #[Vs b_] w (fun e w'=>∃(r0:Int),e= .returned (Value.int .u32 r0)∧R r0 w')

def C_mc (mark:Int) (beyond:Slc) (w:World) (R:Bool→WP):Prop :=
 Calls Tryz.prog 148 #[Vi mark,Vs beyond] w (fun e w'=>∃(r0:Bool),e= .returned (Vo r0)∧R r0 w')

def C_nc (l_:Slc) (w:World) (R:Bool→WP):Prop :=
 Calls Tryz.prog 149 #[Vs l_] w (fun e w'=>∃(r0:Bool),e= .returned (Vo r0)∧R r0 w')

def C_cc (l_:Slc) (n_:Int) (w:World) (R:Bool→WP):Prop :=
 Calls Tryz.prog 150 #[Vs l_,Vi n_] w (fun e w'=>∃(r0:Bool),e= .returned (Vo r0)∧R r0 w')

def C_dc (n_:Int) (w:World) (R:Int→WP):Prop :=
 Calls Tryz.prog 151 #[Vi n_] w (fun e w'=>∃(r0:Int),e= .returned (Value.int .u64 r0)∧R r0 w')

def C_yb (t_:Slc) (l_:Slc) (w:World) (R:Bool→WP):Prop :=
 Calls Tryz.prog 152 #[Vs t_,Vs l_] w (fun e w'=>∃(r0:Bool),e= .returned (Vo r0)∧R r0 w')

def C_L (b_:OA) (l_:Slc) (w:World) (R:WP):Prop :=
 Calls Tryz.prog 153 #[Vp b_,Vs l_] w (fun e w'=>e= .returned (Value.tuple #[])∧R w')

def C_tc (b_:Slc) (w:World) (R:OA→WP):Prop :=
 Calls Tryz.prog 154 #[Vs b_] w (fun e w'=>∃(r0:OA),e= .returned (Vp r0)∧R r0 w')

def C_zc (is:Bool) (f:Int) (t2:OA) (t3:OA) (t4:OA) (w:World) (R:Bool→WP):Prop :=
 Calls Tryz.prog 155 #[Vo is,Vi f,Vp t2,Vp t3,Vp t4] w (fun e w'=>∃(r0:Bool),e= .returned (Vo r0)∧R r0 w')

def C_6 (r:OA) (w:World) (R:Int→WP):Prop :=
 Calls Tryz.prog 156 #[Vp r] w (fun e w'=>∃(r0:Int),e= .returned (Vi r0)∧R r0 w')

def C_oc (r:OA) (w:World) (R:Int→WP):Prop :=
 Calls Tryz.prog 157 #[Vp r] w (fun e w'=>∃(r0:Int),e= .returned (Vi r0)∧R r0 w')

def C_Ac (t0:OA) (t1:OA) (t2:OA) (w:World) (R:Int→WP):Prop :=
 Calls Tryz.prog 158 #[Vp t0,Vp t1,Vp t2] w (fun e w'=>∃(r0:Int),e= .returned (Vi r0)∧R r0 w')

def C_5b (r:OA) (w:World) (R:Int→WP):Prop :=
 Calls Tryz.prog 159 #[Vp r] w (fun e w'=>∃(r0:Int),e= .returned (Value.int .u64 r0)∧R r0 w')

def C_Bc (t0:OA) (t1:OA) (t2:OA) (t3:OA) (w:World) (R:T_c→WP):Prop :=
 Calls Tryz.prog 160 #[Vp t0,Vp t1,Vp t2,Vp t3] w (fun e w'=>∃(r0:T_c),e= .returned (Value.agg #[Vi r0.Number,Value.string r0.Val,Vo r0.Drop])∧R r0 w')

def C_ec (r:OA) (width:Int) (w:World) (R:Int→WP):Prop :=
 Calls Tryz.prog 161 #[Vp r,Vi width] w (fun e w'=>∃(r0:Int),e= .returned (Value.int .u64 r0)∧R r0 w')

def C_Wb (r:OA) (most:Int) (w:World) (R:ByteArray→WP):Prop :=
 Calls Tryz.prog 162 #[Vp r,Vi most] w (fun e w'=>∃(r0:ByteArray),e= .returned (Value.string r0)∧R r0 w')

def C_f (r:T_a) (w:World) (R:Bool→WP):Prop :=
 Calls Tryz.prog 163 #[Value.agg #[Vo r.Gone,Vs r.B,Vi r.At,Vi r.Code]] w (fun e w'=>∃(r0:Bool),e= .returned (Vo r0)∧R r0 w')

def C_a (r:T_a) (e:Int) (w:World) (R:T_a→WP):Prop :=
 Calls Tryz.prog 164 #[Value.agg #[Vo r.Gone,Vs r.B,Vi r.At,Vi r.Code],Vi e] w (fun e w'=>∃(r0:T_a),e= .returned (Value.agg #[Vo r0.Gone,Vs r0.B,Vi r0.At,Vi r0.Code])∧R r0 w')

def C_d (t_:OA) (w:World) (R:Int→WP):Prop :=
 Calls Tryz.prog 165 #[Vp t_] w (fun e w'=>∃(r0:Int),e= .returned (Vi r0)∧R r0 w')

def C_Gb (t_:OA) (w:World) (R:Int→WP):Prop :=
 Calls Tryz.prog 166 #[Vp t_] w (fun e w'=>∃(r0:Int),e= .returned (Value.int .u64 r0)∧R r0 w')

def C_H (t_:OA) (most:Int) (w:World) (R:ByteArray→WP):Prop :=
 Calls Tryz.prog 167 #[Vp t_,Vi most] w (fun e w'=>∃(r0:ByteArray),e= .returned (Value.string r0)∧R r0 w')

def C_Hb (t_:OA) (w:World) (R:Bool→WP):Prop :=
 Calls Tryz.prog 168 #[Vp t_] w (fun e w'=>∃(r0:Bool),e= .returned (Vo r0)∧R r0 w')

def C_Ib (r:T_a) (w:World) (R:Int→WP):Prop :=
 Calls Tryz.prog 169 #[Value.agg #[Vo r.Gone,Vs r.B,Vi r.At,Vi r.Code]] w (fun e w'=>∃(r0:Int),e= .returned (Vi r0)∧R r0 w')

def C_zb (a_:Slc) (b_:Slc) (w:World) (R:Bool→WP):Prop :=
 Calls Tryz.prog 170 #[Vs a_,Vs b_] w (fun e w'=>∃(r0:Bool),e= .returned (Vo r0)∧R r0 w')

def C_Kc (i:Int) (w:World) (R:ByteArray→WP):Prop :=
 Calls Tryz.prog 171 #[Vi i] w (fun e w'=>∃(r0:ByteArray),e= .returned (Value.string r0)∧R r0 w')

def C_Pc (w:World) (R:OA→WP):Prop :=
 Calls Tryz.prog 172 #[] w (fun e w'=>∃(r0:OA),e= .returned (Vp r0)∧R r0 w')

def C_Ic (key:ByteArray) (w:World) (R:Bool→WP):Prop :=
 Calls Tryz.prog 173 #[Value.string key] w (fun e w'=>∃(r0:Bool),e= .returned (Vo r0)∧R r0 w')

def C_fc (l_:Slc) (w:World) (R:Int→WP):Prop :=
 Calls Tryz.prog 174 #[Vs l_] w (fun e w'=>∃(r0:Int),e= .returned (Vi r0)∧R r0 w')

def C_o (s:Slc) (w:World) (R:Slc→WP):Prop :=
 Calls Tryz.prog 175 #[Vs s] w (fun e w'=>∃(r0:Slc),e= .returned (Vs r0)∧R r0 w')

def C_Dc (x:Int) (y:Int) (w:World) (R:Bool→WP):Prop :=
 Calls Tryz.prog 176 #[Vi x,Vi y] w (fun e w'=>∃(r0:Bool),e= .returned (Vo r0)∧R r0 w')

def C_pc (x:Int) (w:World) (R:Bool→WP):Prop :=
 Calls Tryz.prog 177 #[Vi x] w (fun e w'=>∃(r0:Bool),e= .returned (Vo r0)∧R r0 w')

def C_Ec (w:World) (R:List Int→WP):Prop :=
 Calls Tryz.prog 178 #[] w (fun e w'=>∃(r0:List Int),r0.length=256∧e= .returned (Value.agg (List.map (Value.int .u32) r0).toArray)∧R r0 w')

def C_qc (s:ByteArray) (w:World) (R:Bool→WP):Prop :=
 Calls Tryz.prog 179 #[Value.string s] w (fun e w'=>∃(r0:Bool),e= .returned (Vo r0)∧R r0 w')

def C_R (l_:Slc) (w:World) (R:Int→WP):Prop :=
 Calls Tryz.prog 180 #[Vs l_] w (fun e w'=>∃(r0:Int),e= .returned (Vi r0)∧R r0 w')

def C_7 (r:OA) (next:Value) (w:World) (R:Bool→WP):Prop :=
 Calls Tryz.prog 181 #[Vp r,next] w (fun e w'=>∃(r0:Bool),e= .returned (Vo r0)∧R r0 w')

def C_Nc (b_:Slc) (t1:OA) (w:World) (R:Int→Int→WP):Prop :=
 Calls Tryz.prog 182 #[Vs b_,Vp t1] w (fun e w'=>∃(r0:Int) (r1:Int),e= .returned (Value.tuple #[Vi r0,Vi r1])∧R r0 r1 w')

def C_vc (b_:Slc) (w:World) (R:Int→Int→Int→WP):Prop :=
 Calls Tryz.prog 183 #[Vs b_] w (fun e w'=>∃(r0:Int) (r1:Int) (r2:Int),e= .returned (Value.tuple #[Value.int .u64 r0,Vi r1,Vi r2])∧R r0 r1 r2 w')

def C_Jc (b_:Slc) (t1:OA) (t2:OA) (w:World) (R:Int→Int→WP):Prop :=
 Calls Tryz.prog 184 #[Vs b_,Vp t1,Vp t2] w (fun e w'=>∃(r0:Int) (r1:Int),e= .returned (Value.tuple #[Vi r0,Vi r1])∧R r0 r1 w')

def C_Lc (b_:Slc) (t1:OA) (t2:OA) (w:World) (R:Int→Int→WP):Prop :=
 Calls Tryz.prog 185 #[Vs b_,Vp t1,Vp t2] w (fun e w'=>∃(r0:Int) (r1:Int),e= .returned (Value.tuple #[Vi r0,Vi r1])∧R r0 r1 w')

def C_q (r:T_a) (w:World) (R:T_a→Int→WP):Prop :=
 Calls Tryz.prog 186 #[Value.agg #[Vo r.Gone,Vs r.B,Vi r.At,Vi r.Code]] w (fun e w'=>∃(r0:T_a) (r1:Int),e= .returned (Value.tuple #[Value.agg #[Vo r0.Gone,Vs r0.B,Vi r0.At,Vi r0.Code],Value.int .u64 r1])∧R r0 r1 w')

def C_Ab (r:T_a) (most:Int) (w:World) (R:T_a→ByteArray→WP):Prop :=
 Calls Tryz.prog 187 #[Value.agg #[Vo r.Gone,Vs r.B,Vi r.At,Vi r.Code],Vi most] w (fun e w'=>∃(r0:T_a) (r1:ByteArray),e= .returned (Value.tuple #[Value.agg #[Vo r0.Gone,Vs r0.B,Vi r0.At,Vi r0.Code],Value.string r1])∧R r0 r1 w')

def C_Cc (x:Int) (w:World) (R:Bool→WP):Prop :=
 Calls Tryz.prog 189 #[Vi x] w (fun e w'=>∃(r0:Bool),e= .returned (Vo r0)∧R r0 w')

def C_rc (v:T_c) (w:World) (R:Bool→WP):Prop :=
 Calls Tryz.prog 190 #[Value.agg #[Vi v.Number,Value.string v.Val,Vo v.Drop]] w (fun e w'=>∃(r0:Bool),e= .returned (Vo r0)∧R r0 w')

def F_Eb (R:Bool→WP) (b_1:Nat) (n_:Int) (again_:Int→WP) (x:Slc) (again_1:Int→WP) (at_:Int) (w6:World):Prop :=
 ((decide (at_<((x.len:Nat):Int)))=true→((0≤at_∧at_≤(if((x.len:Nat):Int)<(IntKind.i64.wrap (at_+64)) then((x.len:Nat):Int) else(IntKind.i64.wrap (at_+64)))∧(if((x.len:Nat):Int)<(IntKind.i64.wrap (at_+64)) then((x.len:Nat):Int) else(IntKind.i64.wrap (at_+64)))≤((x.cap:Nat):Int)∧((x.cap:Nat):Int)≤((x.cap:Nat):Int))∧(∀ s,s=Slc.cut 1 x at_ (if((x.len:Nat):Int)<(IntKind.i64.wrap (at_+64)) then((x.len:Nat):Int) else(IntKind.i64.wrap (at_+64))) ((x.cap:Nat):Int)→(C_e (some ⟨b_1,0,none⟩) (T_e.mk 3 (T_b.mk 0 (Slc.mk none 0 0) (Slc.mk none 0 0)) n_ at_ s 0) w6 (fun(v66:Bool) w7=>((!v66)=true→(R false w7)) ∧
 ((!v66)=false→(again_1 (IntKind.i64.wrap (at_+64)) w7))))))) ∧
 ((decide (at_<((x.len:Nat):Int)))=false→(again_ (IntKind.i64.wrap (n_+1)) w6))

def F_i (R:Bool→WP) (b_1:Nat) (n_:Int) (again_:Int→WP) (x:Slc) (w5:World):Prop :=
 ∃(I:Int→WP) (μ:Int→World→Nat),I 0 w5 ∧
 ∀(at_:Int) w,I at_ w→F_Eb R b_1 n_ again_ x (fun(at_':Int) w'=>I at_' w'∧μ at_' w'<μ at_ w) at_ w

def F_Fb (a_:Slc) (b_:Slc) (R:Bool→WP) (b_1:Nat) (again_:Int→WP) (n_:Int) (w4:World):Prop :=
 ((decide (n_<2))=true→(((n_==1)=true→(F_i R b_1 n_ again_ b_ w4)) ∧
 ((n_==1)=false→(F_i R b_1 n_ again_ a_ w4)))) ∧
 ((decide (n_<2))=false→(∀ b_2 w8,b_2=w4.heap.size→w8=w4.alloc (Obj.cells ([Vi 0,Value.slice none 0 0,Value.slice none 0 0,Value.slice none 0 0,Value.slice none 0 0,Value.slice none 0 0,Value.slice none 0 0,Value.slice none 0 0,Value.slice none 0 0,Value.slice none 0 0,Value.slice none 0 0,Value.slice none 0 0]).toArray y_l (0,0))→(C_G (some ⟨b_1,0,none⟩) (some ⟨b_2,0,none⟩) w8 (fun(v72:Bool) w9=>(v72=true→(C_i (some ⟨b_2,0,none⟩) w9 (fun(v75:Bool) w10=>(v75=true→(C_e (some ⟨b_1,0,none⟩) (T_e.mk 1 (T_b.mk 1 (Slc.mk none 0 0) (Slc.mk none 0 0)) 0 0 (Slc.mk none 0 0) 0) w10 (fun(v81:Bool) w11=>(v81=true→(C_e (some ⟨b_1,0,none⟩) (T_e.mk 0 (T_b.mk 0 (Slc.mk none 0 0) (Slc.mk none 0 0)) 0 0 (Slc.mk none 0 0) 0) w11 (fun(v86:Bool) w12=>(v86=true→(C_e (some ⟨b_1,0,none⟩) (T_e.mk 0 (T_b.mk 0 (Slc.mk none 0 0) (Slc.mk none 0 0)) 0 0 (Slc.mk none 0 0) 0) w12 (fun(v91:Bool) w13=>(v91=true→(C_G (some ⟨b_1,0,none⟩) (some ⟨b_2,0,none⟩) w13 (fun(v96:Bool) w14=>R v96 w14))) ∧
 (v91=false→(R false w13))))) ∧
 (v86=false→(R false w12))))) ∧
 (v81=false→(R false w11))))) ∧
 (v75=false→(R false w10))))) ∧
 (v72=false→(R false w9))))))

def F_9c (a_:Slc) (b_:Slc) (R:Bool→WP) (w:World):Prop :=
 (((decide (((a_.len:Nat):Int)>65536))||(decide (((b_.len:Nat):Int)>65536)))=true→(R true w)) ∧
 (((decide (((a_.len:Nat):Int)>65536))||(decide (((b_.len:Nat):Int)>65536)))=false→(C_Mc 131072 w (fun(d:OA) (e:Int) w1=>C_kc 131072 w1 (fun(r:OA) (f:Int) w2=>(((e != 0)||(f != 0))=true→(R false w2)) ∧
 (((e != 0)||(f != 0))=false→(∀ b_1 w3,b_1=w2.heap.size→w3=w2.alloc (Obj.cells ([Vp d,Vp none,Vp r,Vp none]).toArray y_q (0,0))→(∃(I:Int→WP) (μ:Int→World→Nat),I 0 w3 ∧
 ∀(n_:Int) w,I n_ w→F_Fb a_ b_ R b_1 (fun(n_':Int) w'=>I n_' w'∧μ n_' w'<μ n_ w) n_ w)))))))

def F_jf (capacity:Int) (R:OA→Int→WP) (w:World):Prop :=
 (((decide (capacity<0))||(decide (capacity>16777216)))=true→(R none 1 w)) ∧
 (((decide (capacity<0))||(decide (capacity>16777216)))=false→(∀ b_ w1,b_=w.heap.size→w1=w.alloc (Obj.cells ([Vo true,Vi capacity,Value.slice none 0 0,Value.slice none 0 0,Vi (-1),Vo false,Vi 0]).toArray y_z (0,0))→(R (some ⟨b_,0,none⟩) 0 w1)))

def F_Se (capacity:Int) (R:OA→Int→WP) (w:World):Prop :=
 (((decide (capacity<0))||(decide (capacity>16777216)))=true→(R none 1 w)) ∧
 (((decide (capacity<0))||(decide (capacity>16777216)))=false→(∀ b_ w1,b_=w.heap.size→w1=w.alloc (Obj.cells ([Vi capacity,Value.slice none 0 0,Value.slice none 0 0,Vi (-1),Vo false,Vi 0]).toArray y_r (0,0))→(R (some ⟨b_,0,none⟩) 0 w1)))

def F_8b (p:OA) (o_:T_e) (R:Bool→WP) (w:World):Prop :=
 ∀ b_ w1,b_=w.heap.size→w1=w.alloc (Obj.cells ([Value.int .u8 o_.Kind,Vi o_.Saved.Mark,Vs o_.Saved.Beyond,Vs o_.Saved.Held,Vi o_.Slot,Vi o_.At,Vs o_.B,Vi o_.N]).toArray y_t (0,0))→(∃(v13:Int),w1.cell? ⟨b_,0,none⟩=some (Value.int .u8 v13)∧(((v13==1)=true→(∃(v17:T_b),ze w1 b_ 1 [Vi v17.Mark,Vs v17.Beyond,Vs v17.Held]∧(C_Kb v17 w1 (fun(v18:T_b) w2=>∀ b_1 w3,b_1=w2.heap.size→w3=w2.alloc (Obj.cells ([Vi 0,Value.slice none 0 0,Value.slice none 0 0]).toArray y_a (0,0))→(zd w3 b_1 0 3∧(∀ w4,w4=World.puts b_1 0 [Vi v18.Mark,Vs v18.Beyond,Vs v18.Held] w3→(∀ w5,(∃ k,w5=w4.drewN k)→(IsAt p∧(∃(v23:OA),w5.cell? ⟨(pblk p),(poff p),none⟩=some (Vp v23)∧(∃(v24:T_b),ze w5 b_1 0 [Vi v24.Mark,Vs v24.Beyond,Vs v24.Held]∧(C_gc v23 v24 w5 (fun(s:OA) (e:Int) w6=>(∀ w7,(∃ k,w7=w6.drewN k)→(IsAt p∧(∃(v32:OA),w7.cell? ⟨(pblk p),(poff p)+2,none⟩=some (Vp v32)∧(∃(v34:T_b),ze w7 b_ 1 [Vi v34.Mark,Vs v34.Beyond,Vs v34.Held]∧(C_ob v32 v34 w7 (fun(t_:OA) (f:Int) w8=>(∃(v38:T_b),ze w8 b_1 0 [Vi v38.Mark,Vs v38.Beyond,Vs v38.Held]∧(∃(v40:T_b),ze w8 b_ 1 [Vi v40.Mark,Vs v40.Beyond,Vs v40.Held]∧(C_Lb v38 v40 w8 (fun(v41:Bool) w9=>∀ b_2 w10,b_2=w9.heap.size→w10=w9.alloc (Obj.cells ([Vi 0,Value.slice none 0 0,Value.slice none 0 0,Value.slice none 0 0,Value.slice none 0 0,Value.slice none 0 0,Value.slice none 0 0,Value.slice none 0 0,Value.slice none 0 0,Value.slice none 0 0,Value.slice none 0 0,Value.slice none 0 0]).toArray y_l (0,0))→(zd w10 b_2 0 12∧(∀ w11,w11=World.puts b_2 0 [Vi 0,Value.slice none 0 0,Value.slice none 0 0,Value.slice none 0 0,Value.slice none 0 0,Value.slice none 0 0,Value.slice none 0 0,Value.slice none 0 0,Value.slice none 0 0,Value.slice none 0 0,Value.slice none 0 0,Value.slice none 0 0] w10→(∃(v43:T_b),ze w11 b_1 0 [Vi v43.Mark,Vs v43.Beyond,Vs v43.Held]∧(C_j (some ⟨b_2,0,none⟩) v43 w11 (fun w12=>IsAt p∧(zd w12 (pblk p) ((poff p)+1) 1∧(∀ w13,w13=World.puts (pblk p) ((poff p)+1) [Vp s] w12→(IsAt p∧(zd w13 (pblk p) ((poff p)+3) 1∧(∀ w14,w14=World.puts (pblk p) ((poff p)+3) [Vp t_] w13→(((e==f)=true→((((s.isNone==t_.isNone)&&v41)=true→(C_i (some ⟨b_2,0,none⟩) w14 (fun(v67:Bool) w15=>R v67 w15))) ∧
 (((s.isNone==t_.isNone)&&v41)=false→(R false w14)))) ∧
 ((e==f)=false→(R false w14))))))))))))))))))))))))))))))))))) ∧
 ((v13==1)=false→(((v13==3)=true→(∀ w16,(∃ k,w16=w1.drewN k)→(IsAt p∧(∃(v74:OA),w16.cell? ⟨(pblk p),(poff p),none⟩=some (Vp v74)∧(∃(v76:Int),w16.cell? ⟨b_,4,none⟩=some (Vi v76)∧(∃(v78:Int),w16.cell? ⟨b_,5,none⟩=some (Vi v78)∧(∃(v80:Slc),w16.cell? ⟨b_,6,none⟩=some (Vs v80)∧(IsAt p∧(∃(v85:OA),w16.cell? ⟨(pblk p),(poff p)+2,none⟩=some (Vp v85)∧(∃(v87:Int),w16.cell? ⟨b_,4,none⟩=some (Vi v87)∧(∃(v89:Int),w16.cell? ⟨b_,5,none⟩=some (Vi v89)∧(∃(v91:Slc),w16.cell? ⟨b_,6,none⟩=some (Vs v91)∧(C_S v74 v76 v78 v80 w16 (fun(v81:Int) w17=>w17.cell? ⟨b_,6,none⟩=some (Vs v91)∧w17.cell? ⟨b_,5,none⟩=some (Vi v89)∧w17.cell? ⟨b_,4,none⟩=some (Vi v87)∧w17.cell? ⟨(pblk p),(poff p)+2,none⟩=some (Vp v85)∧(C_k v85 v87 v89 v91 w17 (fun(v92:Int) w18=>(R (v81==v92) w18))))))))))))))))) ∧
 ((v13==3)=false→(((v13==4)=true→(∀ w19,(∃ k,w19=w1.drewN k)→(IsAt p∧(∃(v99:OA),w19.cell? ⟨(pblk p),(poff p),none⟩=some (Vp v99)∧(∃(v101:Int),w19.cell? ⟨b_,4,none⟩=some (Vi v101)∧(IsAt p∧(∃(v106:OA),w19.cell? ⟨(pblk p),(poff p)+2,none⟩=some (Vp v106)∧(∃(v108:Int),w19.cell? ⟨b_,4,none⟩=some (Vi v108)∧(C_y v99 v101 w19 (fun(v102:Int) w20=>w20.cell? ⟨b_,4,none⟩=some (Vi v108)∧w20.cell? ⟨(pblk p),(poff p)+2,none⟩=some (Vp v106)∧(C_l v106 v108 w20 (fun(v109:Int) w21=>(R (v102==v109) w21))))))))))))) ∧
 ((v13==4)=false→(((v13==5)=true→(∀ w22,(∃ k,w22=w1.drewN k)→(IsAt p∧(∃(v116:OA),w22.cell? ⟨(pblk p),(poff p),none⟩=some (Vp v116)∧(∃(v118:Int),w22.cell? ⟨b_,7,none⟩=some (Vi v118)∧(IsAt p∧(∃(v123:OA),w22.cell? ⟨(pblk p),(poff p)+2,none⟩=some (Vp v123)∧(∃(v125:Int),w22.cell? ⟨b_,7,none⟩=some (Vi v125)∧(C_3b v116 v118 w22 (fun(v119:Int) w23=>w23.cell? ⟨b_,7,none⟩=some (Vi v125)∧w23.cell? ⟨(pblk p),(poff p)+2,none⟩=some (Vp v123)∧(C_x v123 v125 w23 (fun(v126:Int) w24=>(R (v119==v126) w24))))))))))))) ∧
 ((v13==5)=false→(((v13==6)=true→(∀ w25,(∃ k,w25=w1.drewN k)→(IsAt p∧(∃(v133:OA),w25.cell? ⟨(pblk p),(poff p),none⟩=some (Vp v133)∧(IsAt p∧(∃(v138:OA),w25.cell? ⟨(pblk p),(poff p)+2,none⟩=some (Vp v138)∧(C_Mb v133 w25 (fun(v134:Int) w26=>w26.cell? ⟨(pblk p),(poff p)+2,none⟩=some (Vp v138)∧(C_s v138 w26 (fun(v139:Int) w27=>(R (v134==v139) w27))))))))))) ∧
 ((v13==6)=false→(∀ w28,(∃ k,w28=w1.drewN k)→(IsAt p∧(∃(v144:OA),w28.cell? ⟨(pblk p),(poff p)+1,none⟩=some (Vp v144)∧(IsAt p∧(∃(v149:OA),w28.cell? ⟨(pblk p),(poff p)+3,none⟩=some (Vp v149)∧(C_mb v144 w28 (fun(v145:Int) w29=>w29.cell? ⟨(pblk p),(poff p)+3,none⟩=some (Vp v149)∧(C_p v149 w29 (fun(v150:Int) w30=>(R (v145==v150) w30)))))))))))))))))))))

def F_G (R:Bool→WP) (i:Int) (again_:Int→WP) (t138:Bool) (w12:World):Prop :=
 (t138=true→(R false w12)) ∧
 (t138=false→(again_ (IntKind.i64.wrap (i+1)) w12))

def F_Gb (p:OA) (R:Bool→WP) (again_:Int→WP) (i:Int) (w9:World):Prop :=
 ((decide (i<2))=true→(IsAt p∧(∃(v116:OA),w9.cell? ⟨(pblk p),(poff p),none⟩=some (Vp v116)∧(C_8 v116 i w9 (fun(a_:Slc) (g:Int) w10=>IsAt p∧(∃(v125:OA),w10.cell? ⟨(pblk p),(poff p)+2,none⟩=some (Vp v125)∧(C_b v125 i w10 (fun(b_2:Slc) (h_:Int) w11=>((g != h_)=true→(F_G R i again_ true w11)) ∧
 ((g != h_)=false→(C_Pb a_ b_2 w11 (fun(v136:Bool) w13=>F_G R i again_ (!v136) w13))))))))))) ∧
 ((decide (i<2))=false→(R true w9))

def F_d (p:OA) (k_:OA) (R:Bool→WP) (b_:Nat) (t104:Bool) (w7:World):Prop :=
 (t104=true→(R false w7)) ∧
 (t104=false→(∃(v106:T_b),ze w7 b_ 0 [Vi v106.Mark,Vs v106.Beyond,Vs v106.Held]∧(C_j k_ v106 w7 (fun w8=>∃(I:Int→WP) (μ:Int→World→Nat),I 0 w8 ∧
 ∀(i:Int) w,I i w→F_Gb p R (fun(i':Int) w'=>I i' w'∧μ i' w'<μ i w) i w))))

def F_ad (p:OA) (k_:OA) (R:Bool→WP) (w:World):Prop :=
 IsAt p∧(∃(v24:OA),w.cell? ⟨(pblk p),(poff p),none⟩=some (Vp v24)∧(C_Jb v24 w (fun(v25:T_b) (generation:Int) (slot:Int) (ok:Bool) (e:Int) w1=>∀ b_ w2,b_=w1.heap.size→w2=w1.alloc (Obj.cells ([Vi 0,Value.slice none 0 0,Value.slice none 0 0]).toArray y_a (0,0))→(zd w2 b_ 0 3∧(∀ w3,w3=World.puts b_ 0 [Vi v25.Mark,Vs v25.Beyond,Vs v25.Held] w2→(IsAt p∧(∃(v35:OA),w3.cell? ⟨(pblk p),(poff p)+2,none⟩=some (Vp v35)∧(C_r v35 w3 (fun(v36:T_b) (n_:Int) (m_:Int) (is:Bool) (f:Int) w4=>∀ b_1 w5,b_1=w4.heap.size→w5=w4.alloc (Obj.cells ([Vi 0,Value.slice none 0 0,Value.slice none 0 0]).toArray y_a (0,0))→(zd w5 b_1 0 3∧(∀ w6,w6=World.puts b_1 0 [Vi v36.Mark,Vs v36.Beyond,Vs v36.Held] w5→(∀ w14,(∃ k,w14=w6.drewN k)→((((((generation != n_)||(slot != m_))||(!(ok==is)))||(e != f))=true→(F_d p k_ R b_ true w14)) ∧
 (((((generation != n_)||(slot != m_))||(!(ok==is)))||(e != f))=false→(∃(v61:T_b),ze w14 b_ 0 [Vi v61.Mark,Vs v61.Beyond,Vs v61.Held]∧(∃(v62:T_b),ze w14 b_1 0 [Vi v62.Mark,Vs v62.Beyond,Vs v62.Held]∧(C_Nb v61 v62 w14 (fun(v63:Bool) w15=>(((!v63)=true→(F_d p k_ R b_ true w15)) ∧
 ((!v63)=false→(IsAt p∧(∃(v70:OA),w15.cell? ⟨(pblk p),(poff p)+1,none⟩=some (Vp v70)∧(IsAt p∧(∃(v75:OA),w15.cell? ⟨(pblk p),(poff p)+3,none⟩=some (Vp v75)∧(C_nb v70 w15 (fun(v71:Int) w16=>w16.cell? ⟨(pblk p),(poff p)+3,none⟩=some (Vp v75)∧(C_m v75 w16 (fun(v76:Int) w17=>(((v71 != v76)=true→(F_d p k_ R b_ true w17)) ∧
 ((v71 != v76)=false→(IsAt p∧(∃(v83:OA),w17.cell? ⟨(pblk p),(poff p),none⟩=some (Vp v83)∧(IsAt p∧(∃(v88:OA),w17.cell? ⟨(pblk p),(poff p)+2,none⟩=some (Vp v88)∧(C_Ob v83 w17 (fun(v84:Bool) w18=>w18.cell? ⟨(pblk p),(poff p)+2,none⟩=some (Vp v88)∧(C_t v88 w18 (fun(v89:Bool) w19=>(((!(v84==v89))=true→(F_d p k_ R b_ true w19)) ∧
 ((!(v84==v89))=false→(IsAt p∧(∃(v96:OA),w19.cell? ⟨(pblk p),(poff p),none⟩=some (Vp v96)∧(IsAt p∧(∃(v101:OA),w19.cell? ⟨(pblk p),(poff p)+2,none⟩=some (Vp v101)∧(C_pb v96 w19 (fun(v97:Int) w20=>w20.cell? ⟨(pblk p),(poff p)+2,none⟩=some (Vp v101)∧(C_n v101 w20 (fun(v102:Int) w21=>(F_d p k_ R b_ (v97 != v102) w21)))))))))))))))))))))))))))))))))))))))))))))))))

def F_bd (b_:OA) (R:Bool→WP) (w:World):Prop :=
 C_9 b_ w (fun w1=>C_qb b_ w1 (fun w2=>C_ab b_ w2 (fun w3=>C_T b_ w3 (fun w4=>C_U b_ w4 (fun w5=>C_I b_ w5 (fun w6=>C_rb b_ w6 (fun w7=>C_bb b_ w7 (fun w8=>C_C b_ w8 (fun w9=>C_V b_ w9 (fun w10=>C_M b_ w10 (fun w11=>C_cb b_ w11 (fun w12=>C_sb b_ w12 (fun w13=>C_db b_ w13 (fun w14=>C_W b_ w14 (fun w15=>C_X b_ w15 (fun w16=>C_J b_ w16 (fun w17=>C_tb b_ w17 (fun w18=>C_eb b_ w18 (fun w19=>C_D b_ w19 (fun w20=>C_Y b_ w20 (fun w21=>C_N b_ w21 (fun w22=>C_fb b_ w22 (fun(v48:Bool) w23=>(v48=true→(C_ub b_ w23 (fun(v51:Bool) w24=>(v51=true→(C_gb b_ w24 (fun(v55:Bool) w25=>(v55=true→(C_Z b_ w25 (fun(v59:Bool) w26=>(v59=true→(C_0 b_ w26 (fun(v63:Bool) w27=>(v63=true→(C_K b_ w27 (fun(v67:Bool) w28=>(v67=true→(C_vb b_ w28 (fun(v71:Bool) w29=>(v71=true→(C_hb b_ w29 (fun(v75:Bool) w30=>(v75=true→(C_E b_ w30 (fun(v79:Bool) w31=>(v79=true→(C_1 b_ w31 (fun(v83:Bool) w32=>(v83=true→(C_O b_ w32 (fun(v87:Bool) w33=>R v87 w33))) ∧
 (v83=false→(R false w32))))) ∧
 (v79=false→(R false w31))))) ∧
 (v75=false→(R false w30))))) ∧
 (v71=false→(R false w29))))) ∧
 (v67=false→(R false w28))))) ∧
 (v63=false→(R false w27))))) ∧
 (v59=false→(R false w26))))) ∧
 (v55=false→(R false w25))))) ∧
 (v51=false→(R false w24))))) ∧
 (v48=false→(R false w23)))))))))))))))))))))))))

def F_vb (s:OA) (R:Int→WP) (t6:Bool) (w1:World):Prop :=
 (t6=true→(R 2 w1)) ∧
 (t6=false→(IsAt s∧(∃(v20:Bool),w1.cell? ⟨(pblk s),(poff s)+5,none⟩=some (Vo v20)∧(((!v20)=true→(∀ w2,(∃ k,w2=w1.drewN k)→(IsAt s∧(∃(v25:Value),w2.cell? ⟨(pblk s),(poff s)+1,none⟩=some (v25)∧(IsAt s∧(∃(v29:Int),w2.cell? ⟨(pblk s),(poff s)+2,none⟩=some (Vi v29)∧(zT (P:=Tryz.prog) v25 #[Vi v29] w2 (fun e' w3=>∃(v30:Int),e'=Ending.returned (Vi v30)∧(IsAt s∧(zd w3 (pblk s) ((poff s)+5) 1∧(∀ w4,w4=World.puts (pblk s) ((poff s)+5) [Vo (v30==0)] w3→(R v30 w4)))))))))))) ∧
 ((!v20)=false→(IsAt s∧(∃(v41:Slc),w1.cell? ⟨(pblk s),(poff s)+3,none⟩=some (Vs v41)∧(((((v41.len:Nat):Int)==0)=true→(R 9 w1)) ∧
 ((((v41.len:Nat):Int)==0)=false→(IsAt s∧(∃(v47:Slc),w1.cell? ⟨(pblk s),(poff s)+3,none⟩=some (Vs v47)∧(IsAt s∧(∃(v51:Slc),w1.cell? ⟨(pblk s),(poff s)+3,none⟩=some (Vs v51)∧(0≤(if 64<((v51.len:Nat):Int) then 64 else((v51.len:Nat):Int))∧(if 64<((v51.len:Nat):Int) then 64 else((v51.len:Nat):Int))≤((v47.cap:Nat):Int)∧(∀ w5,Ext w1 w5→(∀ w6,(∃ k,w6=w5.drewN k)→(IsAt s∧(∃(v58:Value),w6.cell? ⟨(pblk s),(poff s),none⟩=some (v58)∧(IsAt s∧(∃(v62:Int),w6.cell? ⟨(pblk s),(poff s)+2,none⟩=some (Vi v62)∧(IsAt s∧(∃(v66:Int),w6.cell? ⟨(pblk s),(poff s)+4,none⟩=some (Vi v66)∧(zT (P:=Tryz.prog) v58 #[Vi v62,Vi v66,Value.slice v47.ptr ((if 64<((v51.len:Nat):Int) then 64 else((v51.len:Nat):Int)).toNat) v47.cap] w6 (fun e' w7=>∃(v68:Int),e'=Ending.returned (Vi v68)∧(((v68 != 0)=true→(R v68 w7)) ∧
 ((v68 != 0)=false→(IsAt s∧(∃(v76:Slc),w7.cell? ⟨(pblk s),(poff s)+3,none⟩=some (Vs v76)∧((0≤(((if 64<((v51.len:Nat):Int) then 64 else((v51.len:Nat):Int)).toNat:Nat):Int)∧(((if 64<((v51.len:Nat):Int) then 64 else((v51.len:Nat):Int)).toNat:Nat):Int)≤((v76.len:Nat):Int)∧((v76.len:Nat):Int)≤((v76.cap:Nat):Int)∧((v76.cap:Nat):Int)≤((v76.cap:Nat):Int))∧(∀ s1,s1=Slc.cut 1 v76 (((if 64<((v51.len:Nat):Int) then 64 else((v51.len:Nat):Int)).toNat:Nat):Int) ((v76.len:Nat):Int) ((v76.cap:Nat):Int)→(IsAt s∧(zd w7 (pblk s) ((poff s)+3) 1∧(∀ w8,w8=World.puts (pblk s) ((poff s)+3) [Vs s1] w7→(IsAt s∧(∃(v85:Int),w8.cell? ⟨(pblk s),(poff s)+4,none⟩=some (Vi v85)∧(zd w8 (pblk s) ((poff s)+4) 1∧(∀ w9,w9=World.puts (pblk s) ((poff s)+4) [Vi (IntKind.i64.wrap (v85+(((if 64<((v51.len:Nat):Int) then 64 else((v51.len:Nat):Int)).toNat:Nat):Int)))] w8→(R 0 w9))))))))))))))))))))))))))))))))))))))

def F_Gd (s:OA) (R:Int→WP) (w:World):Prop :=
 (s.isNone=true→(F_vb s R true w)) ∧
 (s.isNone=false→(IsAt s∧(∃(v13:Value),w.cell? ⟨(pblk s),(poff s),none⟩=some (v13)∧(FnV v13∧(F_vb s R (znd v13) w)))))

def F_1b (R:Int→WP) (n_:Int) (w2:World):Prop :=
 R n_ w2

def F_wb (s:OA) (R:Int→WP) (t12:Bool) (w1:World):Prop :=
 (t12=true→(R 0 w1)) ∧
 (t12=false→(IsAt s∧(∃(v16:Slc),w1.cell? ⟨(pblk s),(poff s)+3,none⟩=some (Vs v16)∧(IsAt s∧(∃(v24:Bool),w1.cell? ⟨(pblk s),(poff s)+5,none⟩=some (Vo v24)∧(((!v24)=true→(F_1b R (IntKind.i64.wrap ((IntKind.i64.wrap (Int.tdiv (IntKind.i64.wrap ((IntKind.i64.wrap (((v16.len:Nat):Int)+64)) - 1)) 64))+1)) w1)) ∧
 ((!v24)=false→(F_1b R (IntKind.i64.wrap (Int.tdiv (IntKind.i64.wrap ((IntKind.i64.wrap (((v16.len:Nat):Int)+64)) - 1)) 64)) w1))))))))

def F_Hd (s:OA) (R:Int→WP) (w:World):Prop :=
 (s.isNone=true→(F_wb s R true w)) ∧
 (s.isNone=false→(IsAt s∧(∃(v10:Value),w.cell? ⟨(pblk s),(poff s),none⟩=some (v10)∧(FnV v10∧(F_wb s R (znd v10) w)))))

def F_ld (x:T_b) (R:T_b→WP) (w:World):Prop :=
 ∀ b_ w1,b_=w.heap.size→w1=w.alloc (Obj.cells ([Vi x.Mark,Vs x.Beyond,Vs x.Held]).toArray y_a (0,0))→(∀ b_1 w2,b_1=w1.heap.size→w2=w1.alloc (Obj.cells ([Vi 0,Value.slice none 0 0,Value.slice none 0 0]).toArray y_a (0,0))→(∀ w3,(∃ k,w3=w2.drewN k)→(∃(v4:Int),w3.cell? ⟨b_,0,none⟩=some (Vi v4)∧(∃(v6:Slc),w3.cell? ⟨b_,1,none⟩=some (Vs v6)∧(∃(v9:Slc),w3.cell? ⟨b_,2,none⟩=some (Vs v9)∧(C_Xb v6 w3 (fun(v7:Slc) w4=>w4.cell? ⟨b_,2,none⟩=some (Vs v9)∧w4.cell? ⟨b_,0,none⟩=some (Vi v4)∧(C_Qb v9 w4 (fun(v10:Slc) w5=>w5.cell? ⟨b_,0,none⟩=some (Vi v4)∧(zd w5 b_1 0 3∧(∀ w6,w6=World.puts b_1 0 [Vi v4,Vs v7,Vs v10] w5→((∃(res:T_b),ze w6 b_1 0 [Vi res.Mark,Vs res.Beyond,Vs res.Held]∧(R res w6))))))))))))))

def F_kd (d:OA) (R:OA→Int→WP) (generation:Int) (x:Slc) (slot1:Int) (w6:World):Prop :=
 ((generation==4611686018427387904)=true→(R none 3 w6)) ∧
 ((generation==4611686018427387904)=false→(C_7b (IntKind.u64.wrap ((IntKind.u64.wrap generation)+1)) x w6 (fun(v41:List Int) w7=>(v41.length=20)→∀ b_2 w8,b_2=w7.heap.size→w8=w7.alloc (Obj.cells ((List.map (Value.int .u8) (List.replicate 20 0))).toArray y_j (0,0))→(zd w8 b_2 0 20∧(∀ w9,w9=World.puts b_2 0 (List.map (Value.int .u8) v41) w8→(C_ac d w9 (fun(v45:Int) w10=>((decide (((x.len:Nat):Int)>(IntKind.i64.wrap (v45 - 20))))=true→(R none 13 w10)) ∧
 ((decide (((x.len:Nat):Int)>(IntKind.i64.wrap (v45 - 20))))=false→(∃ src,zh w10 x 1 src∧zj 1 1 y_e [Value.int .u8 0] (Slc.mk (some ⟨b_2,0,none⟩) 20 20) src x.len w10 (fun v55 w11=>∀ b_3 w12,b_3=w11.heap.size→w12=w11.alloc (Obj.cells ([Value.func (.func 19) #[Vp d] #[],Value.func (.func 21) #[Vp d] #[],Vi slot1,Vs v55,Vi 0,Vo false]).toArray y_n (0,0))→(R (some ⟨b_3,0,none⟩) 0 w12)))))))))))

def F_Re (d:OA) (s:T_b) (R:OA→Int→WP) (w:World):Prop :=
 ∀ b_ w1,b_=w.heap.size→w1=w.alloc (Obj.cells ([Vi s.Mark,Vs s.Beyond,Vs s.Held]).toArray y_a (0,0))→(C_Jb d w1 (fun(v15:T_b) (generation:Int) (slot:Int) (ok:Bool) (e:Int) w2=>∀ b_1 w3,b_1=w2.heap.size→w3=w2.alloc (Obj.cells ([Vi 0,Value.slice none 0 0,Value.slice none 0 0]).toArray y_a (0,0))→(zd w3 b_1 0 3∧(∀ w4,w4=World.puts b_1 0 [Vi v15.Mark,Vs v15.Beyond,Vs v15.Held] w3→(((e != 0)=true→(R none e w4)) ∧
 ((e != 0)=false→(∃(v25:T_b),ze w4 b_ 0 [Vi v25.Mark,Vs v25.Beyond,Vs v25.Held]∧(C_Fc v25 w4 (fun(x:Slc) (e1:Int) w5=>((e1 != 0)=true→(R none e1 w5)) ∧
 ((e1 != 0)=false→((ok=true→(F_kd d R generation x (IntKind.i64.wrap (1 - slot)) w5)) ∧
 (ok=false→(F_kd d R generation x slot w5)))))))))))))

def F_xb (d:OA) (R:OA→Int→WP) (x:Slc) (generation:Int) (slot1:Int) (w6:World):Prop :=
 ((generation==4611686018427387904)=true→(R none 3 w6)) ∧
 ((generation==4611686018427387904)=false→(C_bc (IntKind.u64.wrap ((IntKind.u64.wrap generation)+1)) x w6 (fun(v40:Slc) w7=>C_ib d w7 (fun(v44:Int) w8=>((decide (((v40.len:Nat):Int)>v44))=true→(R none 13 w8)) ∧
 ((decide (((v40.len:Nat):Int)>v44))=false→(∀ b_2 w9,b_2=w8.heap.size→w9=w8.alloc (Obj.cells ([Vp d,Vi slot1,Vs v40,Vi 0]).toArray y_o (0,0))→(R (some ⟨b_2,0,none⟩) 0 w9)))))))

def F_Id (d:OA) (s:T_b) (R:OA→Int→WP) (w:World):Prop :=
 ∀ b_ w1,b_=w.heap.size→w1=w.alloc (Obj.cells ([Vi s.Mark,Vs s.Beyond,Vs s.Held]).toArray y_a (0,0))→((d.isNone=true→(R none 2 w1)) ∧
 (d.isNone=false→(∃(v17:T_b),ze w1 b_ 0 [Vi v17.Mark,Vs v17.Beyond,Vs v17.Held]∧(C_8b v17 w1 (fun(x:Slc) (e:Int) w2=>((e != 0)=true→(R none 1 w2)) ∧
 ((e != 0)=false→(C_r d w2 (fun(v25:T_b) (generation:Int) (slot:Int) (ok:Bool) (v25_4:Int) w3=>∀ b_1 w4,b_1=w3.heap.size→w4=w3.alloc (Obj.cells ([Vi 0,Value.slice none 0 0,Value.slice none 0 0]).toArray y_a (0,0))→(zd w4 b_1 0 3∧(∀ w5,w5=World.puts b_1 0 [Vi v25.Mark,Vs v25.Beyond,Vs v25.Held] w4→((ok=true→(F_xb d R x generation (IntKind.i64.wrap (1 - slot)) w5)) ∧
 (ok=false→(F_xb d R x generation slot w5)))))))))))))

def F_md (t_:T_b) (x:T_b) (R:Bool→WP) (w:World):Prop :=
 ∀ b_ w1,b_=w.heap.size→w1=w.alloc (Obj.cells ([Vi t_.Mark,Vs t_.Beyond,Vs t_.Held]).toArray y_a (0,0))→(∀ b_1 w2,b_1=w1.heap.size→w2=w1.alloc (Obj.cells ([Vi x.Mark,Vs x.Beyond,Vs x.Held]).toArray y_a (0,0))→(∃(v6:Int),w2.cell? ⟨b_,0,none⟩=some (Vi v6)∧(∃(v8:Int),w2.cell? ⟨b_1,0,none⟩=some (Vi v8)∧(((v6==v8)=true→(∃(v12:Slc),w2.cell? ⟨b_,1,none⟩=some (Vs v12)∧(∃(v14:Slc),w2.cell? ⟨b_1,1,none⟩=some (Vs v14)∧(C_Yb v12 v14 w2 (fun(v15:Bool) w3=>(v15=true→(∃(v19:Slc),w3.cell? ⟨b_,2,none⟩=some (Vs v19)∧(∃(v21:Slc),w3.cell? ⟨b_1,2,none⟩=some (Vs v21)∧(C_Rb v19 v21 w3 (fun(v22:Bool) w4=>R v22 w4))))) ∧
 (v15=false→(R false w3))))))) ∧
 ((v6==v8)=false→(R false w2))))))

def F_cd (b_:OA) (s:T_b) (R:WP) (w:World):Prop :=
 ∀ b_1 w1,b_1=w.heap.size→w1=w.alloc (Obj.cells ([Vi s.Mark,Vs s.Beyond,Vs s.Held]).toArray y_a (0,0))→(∃(v6:Slc),w1.cell? ⟨b_1,1,none⟩=some (Vs v6)∧(C_Sb b_ v6 w1 (fun w2=>∃(v10:Slc),w2.cell? ⟨b_1,2,none⟩=some (Vs v10)∧(C_Bb b_ v10 w2 (fun w3=>R w3)))))

def F_Hb (d:OA) (slot:Int) (at_:Int) (b_:Slc) (R:Int→WP) (w3:World):Prop :=
 IsAt d∧(0≤slot∧slot<(2:Int)∧(∃(v90:Slc),w3.cell? ⟨(pblk d),((poff d)+2)+slot.toNat,none⟩=some (Vs v90)∧((0≤at_∧at_≤((v90.len:Nat):Int)∧((v90.len:Nat):Int)≤((v90.cap:Nat):Int)∧((v90.cap:Nat):Int)≤((v90.cap:Nat):Int))∧(∀ s,s=Slc.cut 1 v90 at_ ((v90.len:Nat):Int) ((v90.cap:Nat):Int)→(∃ src,zRc w3 b_ (min b_.len s.len) 1 src∧zth s src w3 (fun w4=>R 0 w4))))))

def F_we (d:OA) (slot:Int) (at_:Int) (b_:Slc) (R:Int→WP) (w:World):Prop :=
 C_u d slot w (fun(v14:Int) w1=>((v14 != 0)=true→(R v14 w1)) ∧
 ((v14 != 0)=false→((((decide (at_<0))||(decide (((b_.len:Nat):Int)>64)))=true→(R 1 w1)) ∧
 (((decide (at_<0))||(decide (((b_.len:Nat):Int)>64)))=false→(IsAt d∧(0≤slot∧slot<(2:Int)∧(∃(v33:Slc),w1.cell? ⟨(pblk d),((poff d)+2)+slot.toNat,none⟩=some (Vs v33)∧(((decide (at_>((v33.len:Nat):Int)))=true→(R 6 w1)) ∧
 ((decide (at_>((v33.len:Nat):Int)))=false→(IsAt d∧(∃(v41:Int),w1.cell? ⟨(pblk d),(poff d)+1,none⟩=some (Vi v41)∧(((decide (at_>(IntKind.i64.wrap (v41 - ((b_.len:Nat):Int)))))=true→(R 13 w1)) ∧
 ((decide (at_>(IntKind.i64.wrap (v41 - ((b_.len:Nat):Int)))))=false→(C_jc d w1 (fun(v47:Int) w2=>((v47 != 0)=true→(R v47 w2)) ∧
 ((v47 != 0)=false→(IsAt d∧(0≤slot∧slot<(2:Int)∧(∃(v61:Slc),w2.cell? ⟨(pblk d),((poff d)+2)+slot.toNat,none⟩=some (Vs v61)∧(((decide ((IntKind.i64.wrap (at_+((b_.len:Nat):Int)))>((v61.len:Nat):Int)))=true→(∀ w5,(∃ k,w5=w2.drewN k)→(IsAt d∧(0≤slot∧slot<(2:Int)∧(∃(v71:Slc),w5.cell? ⟨(pblk d),((poff d)+2)+slot.toNat,none⟩=some (Vs v71)∧(IsAt d∧(0≤slot∧slot<(2:Int)∧(∃(v78:Slc),w5.cell? ⟨(pblk d),((poff d)+2)+slot.toNat,none⟩=some (Vs v78)∧(IsAt d∧(0≤IntKind.i64.wrap ((IntKind.i64.wrap (at_+((b_.len:Nat):Int))) - ((v78.len:Nat):Int))∧IntKind.i64.wrap ((IntKind.i64.wrap (at_+((b_.len:Nat):Int))) - ((v78.len:Nat):Int))*(1:Int)≤281474976710656∧zj 1 1 y_e [Value.int .u8 0] v71 (zI ((IntKind.i64.wrap ((IntKind.i64.wrap (at_+((b_.len:Nat):Int))) - ((v78.len:Nat):Int))).toNat) [Value.int .u8 0]).toList ((IntKind.i64.wrap ((IntKind.i64.wrap (at_+((b_.len:Nat):Int))) - ((v78.len:Nat):Int))).toNat) w5 (fun v81 w6=>(0≤slot∧slot<(2:Int)∧(zd w6 (pblk d) (((poff d)+2)+slot.toNat) 1∧(∀ w7,w7=World.puts (pblk d) (((poff d)+2)+slot.toNat) [Vs v81] w6→((F_Hb d slot at_ b_ R w7)))))))))))))))) ∧
 ((decide ((IntKind.i64.wrap (at_+((b_.len:Nat):Int)))>((v61.len:Nat):Int)))=false→(F_Hb d slot at_ b_ R w2))))))))))))))))))))))

def F_H (d:OA) (slot:Int) (R:Int→WP) (l_2:Slc) (w4:World):Prop :=
 IsAt d∧(0≤slot∧slot<(2:Int)∧(zd w4 (pblk d) (((poff d)+1)+slot.toNat) 1∧(∀ w5,w5=World.puts (pblk d) (((poff d)+1)+slot.toNat) [Vs l_2] w4→(R 0 w5))))

def F_dd (d:OA) (slot:Int) (at_:Int) (b_:Slc) (R:Int→WP) (w:World):Prop :=
 (d.isNone=true→(R 2 w)) ∧
 (d.isNone=false→((((((slot != 0)&&(slot != 1))||(decide (at_<0)))||(decide (((b_.len:Nat):Int)>64)))=true→(R 1 w)) ∧
 (((((slot != 0)&&(slot != 1))||(decide (at_<0)))||(decide (((b_.len:Nat):Int)>64)))=false→(IsAt d∧(0≤slot∧slot<(2:Int)∧(∃(old:Slc),w.cell? ⟨(pblk d),((poff d)+1)+slot.toNat,none⟩=some (Vs old)∧(((decide (at_>((old.len:Nat):Int)))=true→(R 6 w)) ∧
 ((decide (at_>((old.len:Nat):Int)))=false→(IsAt d∧(∃(v46:Int),w.cell? ⟨(pblk d),(poff d),none⟩=some (Vi v46)∧(((decide ((IntKind.i64.wrap (at_+((b_.len:Nat):Int)))>v46))=true→(R 13 w)) ∧
 ((decide ((IntKind.i64.wrap (at_+((b_.len:Nat):Int)))>v46))=false→(C_3 d w (fun(v49:Int) w1=>((v49 != 0)=true→(R v49 w1)) ∧
 ((v49 != 0)=false→(0≤at_∧at_≤((old.cap:Nat):Int)∧(∃ src,zh w1 (Slc.mk old.ptr at_.toNat old.cap) 1 src∧zj 1 1 y_e [Value.int .u8 0] (Slc.mk none 0 0) src at_.toNat w1 (fun l_ w2=>∃ src,zh w2 b_ 1 src∧zj 1 1 y_e [Value.int .u8 0] l_ src b_.len w2 (fun l_1 w3=>((decide ((IntKind.i64.wrap (at_+((b_.len:Nat):Int)))<((old.len:Nat):Int)))=true→((0≤IntKind.i64.wrap (at_+((b_.len:Nat):Int))∧IntKind.i64.wrap (at_+((b_.len:Nat):Int))≤((old.len:Nat):Int)∧((old.len:Nat):Int)≤((old.cap:Nat):Int)∧((old.cap:Nat):Int)≤((old.cap:Nat):Int))∧(∀ s,s=Slc.cut 1 old (IntKind.i64.wrap (at_+((b_.len:Nat):Int))) ((old.len:Nat):Int) ((old.cap:Nat):Int)→(∃ src,zh w3 s 1 src∧zj 1 1 y_e [Value.int .u8 0] l_1 src s.len w3 (fun l_3 w6=>F_H d slot R l_3 w6))))) ∧
 ((decide ((IntKind.i64.wrap (at_+((b_.len:Nat):Int)))<((old.len:Nat):Int)))=false→(F_H d slot R l_1 w3)))))))))))))))))))))

def F_4e (d:OA) (slot:Int) (R:Int→WP) (w:World):Prop :=
 C_u d slot w (fun(v9:Int) w1=>((v9 != 0)=true→(R v9 w1)) ∧
 ((v9 != 0)=false→(C_jc d w1 (fun(v14:Int) w2=>((v14 != 0)=true→(R v14 w2)) ∧
 ((v14 != 0)=false→(IsAt d∧(0≤slot∧slot<(2:Int)∧(zd w2 (pblk d) (((poff d)+2)+slot.toNat) 1∧(∀ w3,w3=World.puts (pblk d) (((poff d)+2)+slot.toNat) [Value.slice none 0 0] w2→(R 0 w3))))))))))

def F_I (R:Int→WP) (v15:Int) (w2:World):Prop :=
 R v15 w2

def F_ed (d:OA) (slot:Int) (R:Int→WP) (w:World):Prop :=
 (d.isNone=true→(R 2 w)) ∧
 (d.isNone=false→((((slot != 0)&&(slot != 1))=true→(R 1 w)) ∧
 (((slot != 0)&&(slot != 1))=false→(C_3 d w (fun(v15:Int) w1=>((v15==0)=true→(IsAt d∧(0≤slot∧slot<(2:Int)∧(zd w1 (pblk d) (((poff d)+1)+slot.toNat) 1∧(∀ w3,w3=World.puts (pblk d) (((poff d)+1)+slot.toNat) [Value.slice none 0 0] w1→(F_I R v15 w3)))))) ∧
 ((v15==0)=false→(F_I R v15 w1)))))))

def F_cf (d:OA) (n_:Int) (R:Int→WP) (w:World):Prop :=
 C_u d 0 w (fun(v7:Int) w1=>((v7 != 0)=true→(R v7 w1)) ∧
 ((v7 != 0)=false→(IsAt d∧(∃(v14:Bool),w1.cell? ⟨(pblk d),(poff d)+5,none⟩=some (Vo v14)∧((v14=true→(R 11 w1)) ∧
 (v14=false→(IsAt d∧(zd w1 (pblk d) ((poff d)+4) 1∧(∀ w2,w2=World.puts (pblk d) ((poff d)+4) [Vi (if(-1)>n_ then(-1) else n_)] w1→(R 0 w2))))))))))

def F_2 (R:Int→WP) (w2:World):Prop :=
 R 0 w2

def F_ve (d:OA) (n_:Int) (R:Int→WP) (w:World):Prop :=
 (d.isNone=true→(R 2 w)) ∧
 (d.isNone=false→(IsAt d∧(∃(v10:Bool),w.cell? ⟨(pblk d),(poff d)+4,none⟩=some (Vo v10)∧((v10=true→(R 11 w)) ∧
 (v10=false→(IsAt d∧(zd w (pblk d) ((poff d)+3) 1∧(∀ w1,w1=World.puts (pblk d) ((poff d)+3) [Vi n_] w→(((decide (n_<0))=true→(IsAt d∧(zd w1 (pblk d) ((poff d)+3) 1∧(∀ w3,w3=World.puts (pblk d) ((poff d)+3) [Vi (-1)] w1→(F_2 R w3))))) ∧
 ((decide (n_<0))=false→(F_2 R w1)))))))))))

def F_7e (d:OA) (R:Int→WP) (w:World):Prop :=
 C_u d 0 w (fun(v5:Int) w1=>((v5 != 0)=true→(R v5 w1)) ∧
 ((v5 != 0)=false→(IsAt d∧(zd w1 (pblk d) ((poff d)+5) 1∧(∀ w2,w2=World.puts (pblk d) ((poff d)+5) [Vo false] w1→(IsAt d∧(zd w2 (pblk d) ((poff d)+4) 1∧(∀ w3,w3=World.puts (pblk d) ((poff d)+4) [Vi (-1)] w2→(R 0 w3)))))))))

def F_je (d:OA) (R:Int→WP) (w:World):Prop :=
 (d.isNone=true→(R 2 w)) ∧
 (d.isNone=false→(IsAt d∧(zd w (pblk d) ((poff d)+4) 1∧(∀ w1,w1=World.puts (pblk d) ((poff d)+4) [Vo false] w→(IsAt d∧(zd w1 (pblk d) ((poff d)+3) 1∧(∀ w2,w2=World.puts (pblk d) ((poff d)+3) [Vi (-1)] w1→(R 0 w2))))))))

def F_n (R:Int→WP) (e:Int) (w3:World):Prop :=
 R e w3

def F_o (s:OA) (R:Int→WP) (e:Int) (w2:World):Prop :=
 ((e==0)=true→(IsAt s∧(∃(v68:Int),w2.cell? ⟨(pblk s),(poff s)+3,none⟩=some (Vi v68)∧(IsAt s∧(zd w2 (pblk s) ((poff s)+3) 1∧(∀ w4,w4=World.puts (pblk s) ((poff s)+3) [Vi (IntKind.i64.wrap (v68+1))] w2→(F_n R e w4))))))) ∧
 ((e==0)=false→(F_n R e w2))

def F_p (s:OA) (R:Int→WP) (v28:Int) (end_:Int) (w7:World):Prop :=
 ∀ w8,(∃ k,w8=w7.drewN k)→(IsAt s∧(∃(v48:OA),w8.cell? ⟨(pblk s),(poff s),none⟩=some (Vp v48)∧(IsAt s∧(∃(v52:Int),w8.cell? ⟨(pblk s),(poff s)+1,none⟩=some (Vi v52)∧(IsAt s∧(∃(v57:Slc),w8.cell? ⟨(pblk s),(poff s)+2,none⟩=some (Vs v57)∧((0≤IntKind.i64.wrap ((IntKind.i64.wrap (v28 - 1))*64)∧IntKind.i64.wrap ((IntKind.i64.wrap (v28 - 1))*64)≤end_∧end_≤((v57.cap:Nat):Int)∧((v57.cap:Nat):Int)≤((v57.cap:Nat):Int))∧(∀ s1,s1=Slc.cut 1 v57 (IntKind.i64.wrap ((IntKind.i64.wrap (v28 - 1))*64)) end_ ((v57.cap:Nat):Int)→(C_k v48 v52 (IntKind.i64.wrap ((IntKind.i64.wrap (v28 - 1))*64)) s1 w8 (fun(v61:Int) w9=>F_o s R v61 w9))))))))))

def F_fd (s:OA) (R:Int→WP) (w:World):Prop :=
 (s.isNone=true→(R 2 w)) ∧
 (s.isNone=false→(C_m s w (fun(v9:Int) w1=>((v9==0)=true→(R 9 w1)) ∧
 ((v9==0)=false→(IsAt s∧(∃(v14:Int),w1.cell? ⟨(pblk s),(poff s)+3,none⟩=some (Vi v14)∧(((v14==0)=true→(∀ w5,(∃ k,w5=w1.drewN k)→(IsAt s∧(∃(v19:OA),w5.cell? ⟨(pblk s),(poff s),none⟩=some (Vp v19)∧(IsAt s∧(∃(v23:Int),w5.cell? ⟨(pblk s),(poff s)+1,none⟩=some (Vi v23)∧(C_l v19 v23 w5 (fun(v24:Int) w6=>F_o s R v24 w6)))))))) ∧
 ((v14==0)=false→(IsAt s∧(∃(v28:Int),w1.cell? ⟨(pblk s),(poff s)+3,none⟩=some (Vi v28)∧(IsAt s∧(∃(v37:Slc),w1.cell? ⟨(pblk s),(poff s)+2,none⟩=some (Vs v37)∧(((decide ((IntKind.i64.wrap ((IntKind.i64.wrap ((IntKind.i64.wrap (v28 - 1))*64))+64))>((v37.len:Nat):Int)))=true→(IsAt s∧(∃(v43:Slc),w1.cell? ⟨(pblk s),(poff s)+2,none⟩=some (Vs v43)∧(F_p s R v28 ((v43.len:Nat):Int) w1)))) ∧
 ((decide ((IntKind.i64.wrap ((IntKind.i64.wrap ((IntKind.i64.wrap (v28 - 1))*64))+64))>((v37.len:Nat):Int)))=false→(F_p s R v28 (IntKind.i64.wrap ((IntKind.i64.wrap ((IntKind.i64.wrap (v28 - 1))*64))+64)) w1)))))))))))))))

def F_gc (t13:Int) (again_:Int→Int→Bool→Int→WP) (generation1:Int) (slot1:Int) (ok1:Bool) (w3:World):Prop :=
 again_ generation1 slot1 ok1 (IntKind.i64.wrap (t13+1)) w3

def F_8c (d:OA) (R:T_b→Int→Int→Bool→Int→WP) (b_:Nat) (again_:Int→Int→Bool→Int→WP) (generation:Int) (slot:Int) (ok:Bool) (t13:Int) (w2:World):Prop :=
 ((decide (t13<2))=true→(C_8 d t13 w2 (fun(b_1:Slc) (f:Int) w4=>((f != 0)=true→(zd w4 b_ 0 3∧(∀ w5,w5=World.puts b_ 0 [Vi 0,Value.slice none 0 0,Value.slice none 0 0] w4→(∃(res:T_b),ze w5 b_ 0 [Vi res.Mark,Vs res.Beyond,Vs res.Held]∧(R res 0 0 false f w5))))) ∧
 ((f != 0)=false→(C_uc b_1 w4 (fun(v28:T_b) (n_:Int) (is:Bool) w6=>∀ b_2 w7,b_2=w6.heap.size→w7=w6.alloc (Obj.cells ([Vi 0,Value.slice none 0 0,Value.slice none 0 0]).toArray y_a (0,0))→(zd w7 b_2 0 3∧(∀ w8,w8=World.puts b_2 0 [Vi v28.Mark,Vs v28.Beyond,Vs v28.Held] w7→(((is&&((!ok)||(decide (n_>(IntKind.u64.wrap generation)))))=true→(∃(v43:T_b),ze w8 b_2 0 [Vi v43.Mark,Vs v43.Beyond,Vs v43.Held]∧(zd w8 b_ 0 3∧(∀ w9,w9=World.puts b_ 0 [Vi v43.Mark,Vs v43.Beyond,Vs v43.Held] w8→(F_gc t13 again_ (IntKind.i64.wrap n_) t13 true w9))))) ∧
 ((is&&((!ok)||(decide (n_>(IntKind.u64.wrap generation)))))=false→(F_gc t13 again_ generation slot ok w8))))))))))) ∧
 ((decide (t13<2))=false→(∃(v48:T_b),ze w2 b_ 0 [Vi v48.Mark,Vs v48.Beyond,Vs v48.Held]∧(zd w2 b_ 0 3∧(∀ w10,w10=World.puts b_ 0 [Vi v48.Mark,Vs v48.Beyond,Vs v48.Held] w2→(∃(res1:T_b),ze w10 b_ 0 [Vi res1.Mark,Vs res1.Beyond,Vs res1.Held]∧(R res1 generation slot ok 0 w10))))))

def F_re (d:OA) (R:T_b→Int→Int→Bool→Int→WP) (w:World):Prop :=
 ∀ b_ w1,b_=w.heap.size→w1=w.alloc (Obj.cells ([Vi 0,Value.slice none 0 0,Value.slice none 0 0]).toArray y_a (0,0))→(∃(I:Int→Int→Bool→Int→WP) (μ:Int→Int→Bool→Int→World→Nat),I 0 0 false 0 w1 ∧
 ∀(generation:Int) (slot:Int) (ok:Bool) (t13:Int) w,I generation slot ok t13 w→F_8c d R b_ (fun(generation':Int) (slot':Int) (ok':Bool) (t13':Int) w'=>I generation' slot' ok' t13' w'∧μ generation' slot' ok' t13' w'<μ generation slot ok t13 w) generation slot ok t13 w)

def F_Yc (d:OA) (R:T_b→Int→Int→Bool→Int→WP) (w:World):Prop :=
 ∀ b_ w1,b_=w.heap.size→w1=w.alloc (Obj.cells ([Vi 0,Value.slice none 0 0,Value.slice none 0 0]).toArray y_a (0,0))→((d.isNone=true→(zd w1 b_ 0 3∧(∀ w2,w2=World.puts b_ 0 [Vi 0,Value.slice none 0 0,Value.slice none 0 0] w1→(∃(res:T_b),ze w2 b_ 0 [Vi res.Mark,Vs res.Beyond,Vs res.Held]∧(R res 0 0 false 2 w2))))) ∧
 (d.isNone=false→(C_b d 0 w1 (fun(a_:Slc) (v22_1:Int) w3=>C_b d 1 w3 (fun(b_1:Slc) (v27_1:Int) w4=>C_Cb a_ w4 (fun(v32:T_b) (m_:Int) (one:Bool) w5=>∀ b_2 w6,b_2=w5.heap.size→w6=w5.alloc (Obj.cells ([Vi 0,Value.slice none 0 0,Value.slice none 0 0]).toArray y_a (0,0))→(zd w6 b_2 0 3∧(∀ w7,w7=World.puts b_2 0 [Vi v32.Mark,Vs v32.Beyond,Vs v32.Held] w6→(C_Cb b_1 w7 (fun(v38:T_b) (n_:Int) (two:Bool) w8=>∀ b_3 w9,b_3=w8.heap.size→w9=w8.alloc (Obj.cells ([Vi 0,Value.slice none 0 0,Value.slice none 0 0]).toArray y_a (0,0))→(zd w9 b_3 0 3∧(∀ w10,w10=World.puts b_3 0 [Vi v38.Mark,Vs v38.Beyond,Vs v38.Held] w9→(((two&&((!one)||(decide (n_>m_))))=true→(∃(v52:T_b),ze w10 b_3 0 [Vi v52.Mark,Vs v52.Beyond,Vs v52.Held]∧(zd w10 b_ 0 3∧(∀ w11,w11=World.puts b_ 0 [Vi v52.Mark,Vs v52.Beyond,Vs v52.Held] w10→(∃(res1:T_b),ze w11 b_ 0 [Vi res1.Mark,Vs res1.Beyond,Vs res1.Held]∧(R res1 (IntKind.i64.wrap n_) 1 true 0 w11)))))) ∧
 ((two&&((!one)||(decide (n_>m_))))=false→((one=true→(∃(v56:T_b),ze w10 b_2 0 [Vi v56.Mark,Vs v56.Beyond,Vs v56.Held]∧(zd w10 b_ 0 3∧(∀ w12,w12=World.puts b_ 0 [Vi v56.Mark,Vs v56.Beyond,Vs v56.Held] w10→(∃(res2:T_b),ze w12 b_ 0 [Vi res2.Mark,Vs res2.Beyond,Vs res2.Held]∧(R res2 (IntKind.i64.wrap m_) 0 true 0 w12)))))) ∧
 (one=false→(zd w10 b_ 0 3∧(∀ w13,w13=World.puts b_ 0 [Vi 0,Value.slice none 0 0,Value.slice none 0 0] w10→(∃(res3:T_b),ze w13 b_ 0 [Vi res3.Mark,Vs res3.Beyond,Vs res3.Held]∧(R res3 0 0 false 0 w13))))))))))))))))))))

def F_nd (a_:T_b) (b_:T_b) (R:Bool→WP) (w:World):Prop :=
 ∀ b_1 w1,b_1=w.heap.size→w1=w.alloc (Obj.cells ([Vi a_.Mark,Vs a_.Beyond,Vs a_.Held]).toArray y_a (0,0))→(∀ b_2 w2,b_2=w1.heap.size→w2=w1.alloc (Obj.cells ([Vi b_.Mark,Vs b_.Beyond,Vs b_.Held]).toArray y_a (0,0))→(∃(v6:Int),w2.cell? ⟨b_1,0,none⟩=some (Vi v6)∧(∃(v8:Int),w2.cell? ⟨b_2,0,none⟩=some (Vi v8)∧(((v6==v8)=true→(∃(v12:Slc),w2.cell? ⟨b_1,1,none⟩=some (Vs v12)∧(∃(v14:Slc),w2.cell? ⟨b_2,1,none⟩=some (Vs v14)∧(C_Zb v12 v14 w2 (fun(v15:Bool) w3=>(v15=true→(∃(v19:Slc),w3.cell? ⟨b_1,2,none⟩=some (Vs v19)∧(∃(v21:Slc),w3.cell? ⟨b_2,2,none⟩=some (Vs v21)∧(C_P v19 v21 w3 (fun(v22:Bool) w4=>R v22 w4))))) ∧
 (v15=false→(R false w3))))))) ∧
 ((v6==v8)=false→(R false w2))))))

def F_gd (s:OA) (R:Int→WP) (w:World):Prop :=
 (s.isNone=true→(R 0 w)) ∧
 (s.isNone=false→(∀ w1,(∃ k,w1=w.drewN k)→(IsAt s∧(∃(v10:Int),w1.cell? ⟨(pblk s),(poff s)+3,none⟩=some (Vi v10)∧(C_lc s w1 (fun(v6:Int) w2=>w2.cell? ⟨(pblk s),(poff s)+3,none⟩=some (Vi v10)∧(R (IntKind.i64.wrap (v6 - v10)) w2)))))))

def F_8e (d:OA) (R:Bool→WP) (w:World):Prop :=
 ((!d.isNone)=true→(IsAt d∧(∃(v9:Bool),w.cell? ⟨(pblk d),(poff d)+5,none⟩=some (Vo v9)∧(R v9 w)))) ∧
 ((!d.isNone)=false→(R false w))

def F_ke (d:OA) (R:Bool→WP) (w:World):Prop :=
 ((!d.isNone)=true→(IsAt d∧(∃(v9:Bool),w.cell? ⟨(pblk d),(poff d)+4,none⟩=some (Vo v9)∧(R v9 w)))) ∧
 ((!d.isNone)=false→(R false w))

def F_Te (d:OA) (R:Int→WP) (w:World):Prop :=
 (d.isNone=true→(R 0 w)) ∧
 (d.isNone=false→(IsAt d∧(∃(v8:Int),w.cell? ⟨(pblk d),(poff d)+6,none⟩=some (Vi v8)∧(R v8 w))))

def F_7d (d:OA) (R:Int→WP) (w:World):Prop :=
 (d.isNone=true→(R 0 w)) ∧
 (d.isNone=false→(IsAt d∧(∃(v8:Int),w.cell? ⟨(pblk d),(poff d)+5,none⟩=some (Vi v8)∧(R v8 w))))

def F_9e (d:OA) (slot:Int) (R:Slc→Int→WP) (w:World):Prop :=
 C_u d slot w (fun(v9:Int) w1=>((v9 != 0)=true→(R (Slc.mk none 0 0) v9 w1)) ∧
 ((v9 != 0)=false→(IsAt d∧(0≤slot∧slot<(2:Int)∧(∃(v18:Slc),w1.cell? ⟨(pblk d),((poff d)+2)+slot.toNat,none⟩=some (Vs v18)∧(C_v v18 w1 (fun(v19:Slc) w2=>R v19 0 w2)))))))

def F_9b (d:OA) (slot:Int) (R:Slc→Int→WP) (w:World):Prop :=
 (d.isNone=true→(R (Slc.mk none 0 0) 2 w)) ∧
 (d.isNone=false→((((slot != 0)&&(slot != 1))=true→(R (Slc.mk none 0 0) 1 w)) ∧
 (((slot != 0)&&(slot != 1))=false→(IsAt d∧(0≤slot∧slot<(2:Int)∧(∃(v19:Slc),w.cell? ⟨(pblk d),((poff d)+1)+slot.toNat,none⟩=some (Vs v19)∧(R v19 0 w)))))))

def F_Kb (a_:Slc) (b_:Slc) (R:Bool→WP) (again_:Int→WP) (i:Int) (w1:World):Prop :=
 ((decide (i<((a_.len:Nat):Int)))=true→(IsAt a_.ptr∧(0≤i∧i<((a_.len:Nat):Int)∧(∃(v20:Int),w1.cell? ⟨(pblk a_.ptr),(poff a_.ptr)+i.toNat,none⟩=some (Value.int .u8 v20)∧(IsAt b_.ptr∧(0≤i∧i<((b_.len:Nat):Int)∧(∃(v24:Int),w1.cell? ⟨(pblk b_.ptr),(poff b_.ptr)+i.toNat,none⟩=some (Value.int .u8 v24)∧(∀ w2,Ext w1 w2→(((v20 != v24)=true→(R false w2)) ∧
 ((v20 != v24)=false→(again_ (IntKind.i64.wrap (i+1)) w2))))))))))) ∧
 ((decide (i<((a_.len:Nat):Int)))=false→(R true w1))

def F_od (a_:Slc) (b_:Slc) (R:Bool→WP) (w:World):Prop :=
 ((((a_.len:Nat):Int) != ((b_.len:Nat):Int))=true→(R false w)) ∧
 ((((a_.len:Nat):Int) != ((b_.len:Nat):Int))=false→(∃(I:Int→WP) (μ:Int→World→Nat),I 0 w ∧
 ∀(i:Int) w,I i w→F_Kb a_ b_ R (fun(i':Int) w'=>I i' w'∧μ i' w'<μ i w) i w))

def F_3 (b_:OA) (R:WP) (again_:Int→WP) (i:Int) (w1:World):Prop :=
 IsAt b_∧(∃(v9:Slc),w1.cell? ⟨(pblk b_),(poff b_)+1,none⟩=some (Vs v9)∧(((decide (i<((v9.len:Nat):Int)))=true→(False)) ∧
 ((decide (i<((v9.len:Nat):Int)))=false→(R w1))))

def F_yc (b_:OA) (R:WP) (w:World):Prop :=
 ∃(I:Int→WP) (μ:Int→World→Nat),I 0 w ∧
 ∀(i:Int) w,I i w→F_3 b_ R (fun(i':Int) w'=>I i' w'∧μ i' w'<μ i w) i w

def F_hb (i:Int) (again_:Int→WP) (b_1:Nat) (again_1:Int→WP) (k_:Int) (w4:World):Prop :=
 ∃(v23:Slc),w4.cell? ⟨b_1,0,none⟩=some (Vs v23)∧(((decide (k_<((v23.len:Nat):Int)))=true→(∀ w5,(∃ k,w5=w4.drewN k)→(∃(v29:Slc),w5.cell? ⟨b_1,0,none⟩=some (Vs v29)∧(∃(v32:Int),w5.cell? ⟨b_1,2,none⟩=some (Vi v32)∧(C_lb v32 w5 (fun(v33:Int) w6=>w6.cell? ⟨b_1,0,none⟩=some (Vs v29)∧(IsAt v29.ptr∧(0≤k_∧k_<((v29.len:Nat):Int)∧(zd w6 (pblk v29.ptr) ((poff v29.ptr)+k_.toNat) 1∧(∀ w7,w7=World.puts (pblk v29.ptr) ((poff v29.ptr)+k_.toNat) [Vi v33] w6→((again_1 (IntKind.i64.wrap (k_+1)) w7)))))))))))) ∧
 ((decide (k_<((v23.len:Nat):Int)))=false→(again_ (IntKind.i64.wrap (i+1)) w4)))

def F_ib (b_:OA) (R:WP) (again_:Int→WP) (i:Int) (w1:World):Prop :=
 IsAt b_∧(∃(v9:Slc),w1.cell? ⟨(pblk b_),(poff b_)+2,none⟩=some (Vs v9)∧(((decide (i<((v9.len:Nat):Int)))=true→(IsAt b_∧(∃(v17:Slc),w1.cell? ⟨(pblk b_),(poff b_)+2,none⟩=some (Vs v17)∧(IsAt v17.ptr∧(0≤i∧i<((v17.len:Nat):Int)∧(∃(v20:T_h),ze w1 (pblk v17.ptr) ((poff v17.ptr)+i.toNat*3) [Vs v20.l,Vs v20.long,Vi v20.n]∧(∀ b_1 w2,b_1=w1.heap.size→w2=w1.alloc (Obj.cells ([Value.slice none 0 0,Value.slice none 0 0,Vi 0]).toArray y_h (0,0))→(zd w2 b_1 0 3∧(∀ w3,w3=World.puts b_1 0 [Vs v20.l,Vs v20.long,Vi v20.n] w2→(∃(I:Int→WP) (μ:Int→World→Nat),I 0 w3 ∧
 ∀(k_:Int) w,I k_ w→F_hb i again_ b_1 (fun(k_':Int) w'=>I k_' w'∧μ k_' w'<μ k_ w) k_ w)))))))))) ∧
 ((decide (i<((v9.len:Nat):Int)))=false→(R w1))))

def F_Nc (b_:OA) (R:WP) (w:World):Prop :=
 ∃(I:Int→WP) (μ:Int→World→Nat),I 0 w ∧
 ∀(i:Int) w,I i w→F_ib b_ R (fun(i':Int) w'=>I i' w'∧μ i' w'<μ i w) i w

def F_4 (b_:OA) (R:WP) (again_:Int→WP) (i:Int) (w1:World):Prop :=
 IsAt b_∧(∃(v9:Slc),w1.cell? ⟨(pblk b_),(poff b_)+3,none⟩=some (Vs v9)∧(((decide (i<((v9.len:Nat):Int)))=true→(False)) ∧
 ((decide (i<((v9.len:Nat):Int)))=false→(R w1))))

def F_zc (b_:OA) (R:WP) (w:World):Prop :=
 ∃(I:Int→WP) (μ:Int→World→Nat),I 0 w ∧
 ∀(i:Int) w,I i w→F_4 b_ R (fun(i':Int) w'=>I i' w'∧μ i' w'<μ i w) i w

def F_S (b_:OA) (R:WP) (again_:Int→WP) (i:Int) (w1:World):Prop :=
 IsAt b_∧(∃(v9:Slc),w1.cell? ⟨(pblk b_),(poff b_)+4,none⟩=some (Vs v9)∧(((decide (i<((v9.len:Nat):Int)))=true→(False)) ∧
 ((decide (i<((v9.len:Nat):Int)))=false→(R w1))))

def F_hc (b_:OA) (R:WP) (w:World):Prop :=
 ∃(I:Int→WP) (μ:Int→World→Nat),I 0 w ∧
 ∀(i:Int) w,I i w→F_S b_ R (fun(i':Int) w'=>I i' w'∧μ i' w'<μ i w) i w

def F_T (b_:OA) (R:WP) (again_:Int→WP) (i:Int) (w1:World):Prop :=
 IsAt b_∧(∃(v9:Slc),w1.cell? ⟨(pblk b_),(poff b_)+5,none⟩=some (Vs v9)∧(((decide (i<((v9.len:Nat):Int)))=true→(False)) ∧
 ((decide (i<((v9.len:Nat):Int)))=false→(R w1))))

def F_ic (b_:OA) (R:WP) (w:World):Prop :=
 ∃(I:Int→WP) (μ:Int→World→Nat),I 0 w ∧
 ∀(i:Int) w,I i w→F_T b_ R (fun(i':Int) w'=>I i' w'∧μ i' w'<μ i w) i w

def F_A (i:Int) (again_:Int→WP) (b_1:Nat) (again_1:Int→WP) (k_:Int) (w4:World):Prop :=
 ∃(v23:Slc),w4.cell? ⟨b_1,0,none⟩=some (Vs v23)∧(((decide (k_<((v23.len:Nat):Int)))=true→(∀ w5,(∃ k,w5=w4.drewN k)→(∃(v29:Slc),w5.cell? ⟨b_1,0,none⟩=some (Vs v29)∧(∃(v32:Int),w5.cell? ⟨b_1,2,none⟩=some (Vi v32)∧(C_A v32 w5 (fun(v33:T_c) w6=>w6.cell? ⟨b_1,0,none⟩=some (Vs v29)∧(IsAt v29.ptr∧(0≤k_∧k_<((v29.len:Nat):Int)∧(zd w6 (pblk v29.ptr) ((poff v29.ptr)+k_.toNat*3) 3∧(∀ w7,w7=World.puts (pblk v29.ptr) ((poff v29.ptr)+k_.toNat*3) [Vi v33.Number,Value.string v33.Val,Vo v33.Drop] w6→((again_1 (IntKind.i64.wrap (k_+1)) w7)))))))))))) ∧
 ((decide (k_<((v23.len:Nat):Int)))=false→(again_ (IntKind.i64.wrap (i+1)) w4)))

def F_B (b_:OA) (R:WP) (again_:Int→WP) (i:Int) (w1:World):Prop :=
 IsAt b_∧(∃(v9:Slc),w1.cell? ⟨(pblk b_),(poff b_)+6,none⟩=some (Vs v9)∧(((decide (i<((v9.len:Nat):Int)))=true→(IsAt b_∧(∃(v17:Slc),w1.cell? ⟨(pblk b_),(poff b_)+6,none⟩=some (Vs v17)∧(IsAt v17.ptr∧(0≤i∧i<((v17.len:Nat):Int)∧(∃(v20:T_f),ze w1 (pblk v17.ptr) ((poff v17.ptr)+i.toNat*3) [Vs v20.l,Vs v20.long,Vi v20.n]∧(∀ b_1 w2,b_1=w1.heap.size→w2=w1.alloc (Obj.cells ([Value.slice none 0 0,Value.slice none 0 0,Vi 0]).toArray y_f (0,0))→(zd w2 b_1 0 3∧(∀ w3,w3=World.puts b_1 0 [Vs v20.l,Vs v20.long,Vi v20.n] w2→(∃(I:Int→WP) (μ:Int→World→Nat),I 0 w3 ∧
 ∀(k_:Int) w,I k_ w→F_A i again_ b_1 (fun(k_':Int) w'=>I k_' w'∧μ k_' w'<μ k_ w) k_ w)))))))))) ∧
 ((decide (i<((v9.len:Nat):Int)))=false→(R w1))))

def F_4b (b_:OA) (R:WP) (w:World):Prop :=
 ∃(I:Int→WP) (μ:Int→World→Nat),I 0 w ∧
 ∀(i:Int) w,I i w→F_B b_ R (fun(i':Int) w'=>I i' w'∧μ i' w'<μ i w) i w

def F_jb (b_:OA) (R:WP) (again_:Int→WP) (i:Int) (w1:World):Prop :=
 IsAt b_∧(∃(v9:Slc),w1.cell? ⟨(pblk b_),(poff b_)+7,none⟩=some (Vs v9)∧(((decide (i<((v9.len:Nat):Int)))=true→(False)) ∧
 ((decide (i<((v9.len:Nat):Int)))=false→(R w1))))

def F_Oc (b_:OA) (R:WP) (w:World):Prop :=
 ∃(I:Int→WP) (μ:Int→World→Nat),I 0 w ∧
 ∀(i:Int) w,I i w→F_jb b_ R (fun(i':Int) w'=>I i' w'∧μ i' w'<μ i w) i w

def F_5 (i:Int) (again_:Int→WP) (b_1:Nat) (again_1:Int→WP) (k_:Int) (w4:World):Prop :=
 ∃(v23:Slc),w4.cell? ⟨b_1,0,none⟩=some (Vs v23)∧(((decide (k_<((v23.len:Nat):Int)))=true→(∀ w5,(∃ k,w5=w4.drewN k)→(∃(v29:Slc),w5.cell? ⟨b_1,0,none⟩=some (Vs v29)∧(∃(v32:Int),w5.cell? ⟨b_1,2,none⟩=some (Vi v32)∧(C_4 v32 w5 (fun(v33:T_d) w6=>w6.cell? ⟨b_1,0,none⟩=some (Vs v29)∧(IsAt v29.ptr∧(0≤k_∧k_<((v29.len:Nat):Int)∧(zd w6 (pblk v29.ptr) ((poff v29.ptr)+k_.toNat*2) 2∧(∀ w7,w7=World.puts (pblk v29.ptr) ((poff v29.ptr)+k_.toNat*2) [Value.string v33.Key,Vs v33.Versions] w6→((again_1 (IntKind.i64.wrap (k_+1)) w7)))))))))))) ∧
 ((decide (k_<((v23.len:Nat):Int)))=false→(again_ (IntKind.i64.wrap (i+1)) w4)))

def F_6 (b_:OA) (R:WP) (again_:Int→WP) (i:Int) (w1:World):Prop :=
 IsAt b_∧(∃(v9:Slc),w1.cell? ⟨(pblk b_),(poff b_)+8,none⟩=some (Vs v9)∧(((decide (i<((v9.len:Nat):Int)))=true→(IsAt b_∧(∃(v17:Slc),w1.cell? ⟨(pblk b_),(poff b_)+8,none⟩=some (Vs v17)∧(IsAt v17.ptr∧(0≤i∧i<((v17.len:Nat):Int)∧(∃(v20:T_g),ze w1 (pblk v17.ptr) ((poff v17.ptr)+i.toNat*3) [Vs v20.l,Vs v20.long,Vi v20.n]∧(∀ b_1 w2,b_1=w1.heap.size→w2=w1.alloc (Obj.cells ([Value.slice none 0 0,Value.slice none 0 0,Vi 0]).toArray y_g (0,0))→(zd w2 b_1 0 3∧(∀ w3,w3=World.puts b_1 0 [Vs v20.l,Vs v20.long,Vi v20.n] w2→(∃(I:Int→WP) (μ:Int→World→Nat),I 0 w3 ∧
 ∀(k_:Int) w,I k_ w→F_5 i again_ b_1 (fun(k_':Int) w'=>I k_' w'∧μ k_' w'<μ k_ w) k_ w)))))))))) ∧
 ((decide (i<((v9.len:Nat):Int)))=false→(R w1))))

def F_Ac (b_:OA) (R:WP) (w:World):Prop :=
 ∃(I:Int→WP) (μ:Int→World→Nat),I 0 w ∧
 ∀(i:Int) w,I i w→F_6 b_ R (fun(i':Int) w'=>I i' w'∧μ i' w'<μ i w) i w

def F_x (b_:OA) (R:WP) (again_:Int→WP) (i:Int) (w1:World):Prop :=
 IsAt b_∧(∃(v9:Slc),w1.cell? ⟨(pblk b_),(poff b_)+9,none⟩=some (Vs v9)∧(((decide (i<((v9.len:Nat):Int)))=true→(False)) ∧
 ((decide (i<((v9.len:Nat):Int)))=false→(R w1))))

def F_Tb (b_:OA) (R:WP) (w:World):Prop :=
 ∃(I:Int→WP) (μ:Int→World→Nat),I 0 w ∧
 ∀(i:Int) w,I i w→F_x b_ R (fun(i':Int) w'=>I i' w'∧μ i' w'<μ i w) i w

def F_U (b_:OA) (R:WP) (again_:Int→WP) (i:Int) (w1:World):Prop :=
 IsAt b_∧(∃(v9:Slc),w1.cell? ⟨(pblk b_),(poff b_)+10,none⟩=some (Vs v9)∧(((decide (i<((v9.len:Nat):Int)))=true→(False)) ∧
 ((decide (i<((v9.len:Nat):Int)))=false→(R w1))))

def F_jc (b_:OA) (R:WP) (w:World):Prop :=
 ∃(I:Int→WP) (μ:Int→World→Nat),I 0 w ∧
 ∀(i:Int) w,I i w→F_U b_ R (fun(i':Int) w'=>I i' w'∧μ i' w'<μ i w) i w

def F_M (b_:OA) (R:WP) (again_:Int→WP) (i:Int) (w1:World):Prop :=
 IsAt b_∧(∃(v9:Slc),w1.cell? ⟨(pblk b_),(poff b_)+11,none⟩=some (Vs v9)∧(((decide (i<((v9.len:Nat):Int)))=true→(False)) ∧
 ((decide (i<((v9.len:Nat):Int)))=false→(R w1))))

def F_ac (b_:OA) (R:WP) (w:World):Prop :=
 ∃(I:Int→WP) (μ:Int→World→Nat),I 0 w ∧
 ∀(i:Int) w,I i w→F_M b_ R (fun(i':Int) w'=>I i' w'∧μ i' w'<μ i w) i w

def F_7 (b_:OA) (R:WP) (again_:Int→WP) (i:Int) (w1:World):Prop :=
 IsAt b_∧(∃(v10:Slc),w1.cell? ⟨(pblk b_),(poff b_)+1,none⟩=some (Vs v10)∧(((decide (i<((v10.len:Nat):Int)))=true→(False)) ∧
 ((decide (i<((v10.len:Nat):Int)))=false→(R w1))))

def F_Bc (b_:OA) (R:WP) (w:World):Prop :=
 ∃(I:Int→WP) (μ:Int→World→Nat),I 0 w ∧
 ∀(i:Int) w,I i w→F_7 b_ R (fun(i':Int) w'=>I i' w'∧μ i' w'<μ i w) i w

def F_kb (b_:OA) (i:Int) (again_:Int→WP) (b_1:Nat) (again_1:Slc→Int→WP) (long1:Slc) (k_:Int) (w4:World):Prop :=
 ((decide (k_<70))=true→(∃(v30:Int),w4.cell? ⟨b_1,2,none⟩=some (Vi v30)∧(C_lb v30 w4 (fun(v31:Int) w5=>∀ b_2 w6,b_2=w5.heap.size→w6=w5.alloc (Obj.cells ([Vi v31]).toArray y_i (0,0))→(∃ src,zh w6 (Slc.mk (some ⟨b_2,0,none⟩) 1 1) 1 src∧zj 1 8 y_i [Vi 0] long1 src 1 w6 (fun long2 w7=>again_1 long2 (IntKind.i64.wrap (k_+1)) w7)))))) ∧
 ((decide (k_<70))=false→(IsAt b_∧(∃(v37:Slc),w4.cell? ⟨(pblk b_),(poff b_)+2,none⟩=some (Vs v37)∧(IsAt v37.ptr∧(0≤i∧i<((v37.len:Nat):Int)∧(zd w4 (pblk v37.ptr) (((poff v37.ptr)+i.toNat*3)+1) 1∧(∀ w8,w8=World.puts (pblk v37.ptr) (((poff v37.ptr)+i.toNat*3)+1) [Vs long1] w4→(again_ (IntKind.i64.wrap (i+1)) w8))))))))

def F_lb (b_:OA) (R:WP) (again_:Int→WP) (i:Int) (w1:World):Prop :=
 IsAt b_∧(∃(v10:Slc),w1.cell? ⟨(pblk b_),(poff b_)+2,none⟩=some (Vs v10)∧(((decide (i<((v10.len:Nat):Int)))=true→(IsAt b_∧(∃(v18:Slc),w1.cell? ⟨(pblk b_),(poff b_)+2,none⟩=some (Vs v18)∧(IsAt v18.ptr∧(0≤i∧i<((v18.len:Nat):Int)∧(∃(v21:T_h),ze w1 (pblk v18.ptr) ((poff v18.ptr)+i.toNat*3) [Vs v21.l,Vs v21.long,Vi v21.n]∧(∀ b_1 w2,b_1=w1.heap.size→w2=w1.alloc (Obj.cells ([Value.slice none 0 0,Value.slice none 0 0,Vi 0]).toArray y_h (0,0))→(zd w2 b_1 0 3∧(∀ w3,w3=World.puts b_1 0 [Vs v21.l,Vs v21.long,Vi v21.n] w2→(∃(long:Slc),w3.cell? ⟨b_1,0,none⟩=some (Vs long)∧(∃(I:Slc→Int→WP) (μ:Slc→Int→World→Nat),I long 0 w3 ∧
 ∀(long1:Slc) (k_:Int) w,I long1 k_ w→F_kb b_ i again_ b_1 (fun(long1':Slc) (k_':Int) w'=>I long1' k_' w'∧μ long1' k_' w'<μ long1 k_ w) long1 k_ w))))))))))) ∧
 ((decide (i<((v10.len:Nat):Int)))=false→(R w1))))

def F_Pc (b_:OA) (R:WP) (w:World):Prop :=
 ∃(I:Int→WP) (μ:Int→World→Nat),I 0 w ∧
 ∀(i:Int) w,I i w→F_lb b_ R (fun(i':Int) w'=>I i' w'∧μ i' w'<μ i w) i w

def F_8 (b_:OA) (R:WP) (again_:Int→WP) (i:Int) (w1:World):Prop :=
 IsAt b_∧(∃(v10:Slc),w1.cell? ⟨(pblk b_),(poff b_)+3,none⟩=some (Vs v10)∧(((decide (i<((v10.len:Nat):Int)))=true→(False)) ∧
 ((decide (i<((v10.len:Nat):Int)))=false→(R w1))))

def F_Cc (b_:OA) (R:WP) (w:World):Prop :=
 ∃(I:Int→WP) (μ:Int→World→Nat),I 0 w ∧
 ∀(i:Int) w,I i w→F_8 b_ R (fun(i':Int) w'=>I i' w'∧μ i' w'<μ i w) i w

def F_V (b_:OA) (R:WP) (again_:Int→WP) (i:Int) (w1:World):Prop :=
 IsAt b_∧(∃(v10:Slc),w1.cell? ⟨(pblk b_),(poff b_)+4,none⟩=some (Vs v10)∧(((decide (i<((v10.len:Nat):Int)))=true→(False)) ∧
 ((decide (i<((v10.len:Nat):Int)))=false→(R w1))))

def F_kc (b_:OA) (R:WP) (w:World):Prop :=
 ∃(I:Int→WP) (μ:Int→World→Nat),I 0 w ∧
 ∀(i:Int) w,I i w→F_V b_ R (fun(i':Int) w'=>I i' w'∧μ i' w'<μ i w) i w

def F_W (b_:OA) (R:WP) (again_:Int→WP) (i:Int) (w1:World):Prop :=
 IsAt b_∧(∃(v10:Slc),w1.cell? ⟨(pblk b_),(poff b_)+5,none⟩=some (Vs v10)∧(((decide (i<((v10.len:Nat):Int)))=true→(False)) ∧
 ((decide (i<((v10.len:Nat):Int)))=false→(R w1))))

def F_lc (b_:OA) (R:WP) (w:World):Prop :=
 ∃(I:Int→WP) (μ:Int→World→Nat),I 0 w ∧
 ∀(i:Int) w,I i w→F_W b_ R (fun(i':Int) w'=>I i' w'∧μ i' w'<μ i w) i w

def F_C (b_:OA) (i:Int) (again_:Int→WP) (b_1:Nat) (again_1:Slc→Int→WP) (long1:Slc) (k_:Int) (w4:World):Prop :=
 ((decide (k_<70))=true→(∃(v30:Int),w4.cell? ⟨b_1,2,none⟩=some (Vi v30)∧(C_A v30 w4 (fun(v31:T_c) w5=>∀ b_2 w6,b_2=w5.heap.size→w6=w5.alloc (Obj.cells ([Vi v31.Number,Value.string v31.Val,Vo v31.Drop]).toArray y_c (0,0))→(∃ src,zh w6 (Slc.mk (some ⟨b_2,0,none⟩) 1 1) 3 src∧zj 3 32 y_c [Vi 0,Value.string ByteArray.empty,Vo false] long1 src 1 w6 (fun long2 w7=>again_1 long2 (IntKind.i64.wrap (k_+1)) w7)))))) ∧
 ((decide (k_<70))=false→(IsAt b_∧(∃(v37:Slc),w4.cell? ⟨(pblk b_),(poff b_)+6,none⟩=some (Vs v37)∧(IsAt v37.ptr∧(0≤i∧i<((v37.len:Nat):Int)∧(zd w4 (pblk v37.ptr) (((poff v37.ptr)+i.toNat*3)+1) 1∧(∀ w8,w8=World.puts (pblk v37.ptr) (((poff v37.ptr)+i.toNat*3)+1) [Vs long1] w4→(again_ (IntKind.i64.wrap (i+1)) w8))))))))

def F_D (b_:OA) (R:WP) (again_:Int→WP) (i:Int) (w1:World):Prop :=
 IsAt b_∧(∃(v10:Slc),w1.cell? ⟨(pblk b_),(poff b_)+6,none⟩=some (Vs v10)∧(((decide (i<((v10.len:Nat):Int)))=true→(IsAt b_∧(∃(v18:Slc),w1.cell? ⟨(pblk b_),(poff b_)+6,none⟩=some (Vs v18)∧(IsAt v18.ptr∧(0≤i∧i<((v18.len:Nat):Int)∧(∃(v21:T_f),ze w1 (pblk v18.ptr) ((poff v18.ptr)+i.toNat*3) [Vs v21.l,Vs v21.long,Vi v21.n]∧(∀ b_1 w2,b_1=w1.heap.size→w2=w1.alloc (Obj.cells ([Value.slice none 0 0,Value.slice none 0 0,Vi 0]).toArray y_f (0,0))→(zd w2 b_1 0 3∧(∀ w3,w3=World.puts b_1 0 [Vs v21.l,Vs v21.long,Vi v21.n] w2→(∃(long:Slc),w3.cell? ⟨b_1,0,none⟩=some (Vs long)∧(∃(I:Slc→Int→WP) (μ:Slc→Int→World→Nat),I long 0 w3 ∧
 ∀(long1:Slc) (k_:Int) w,I long1 k_ w→F_C b_ i again_ b_1 (fun(long1':Slc) (k_':Int) w'=>I long1' k_' w'∧μ long1' k_' w'<μ long1 k_ w) long1 k_ w))))))))))) ∧
 ((decide (i<((v10.len:Nat):Int)))=false→(R w1))))

def F_5b (b_:OA) (R:WP) (w:World):Prop :=
 ∃(I:Int→WP) (μ:Int→World→Nat),I 0 w ∧
 ∀(i:Int) w,I i w→F_D b_ R (fun(i':Int) w'=>I i' w'∧μ i' w'<μ i w) i w

def F_mb (b_:OA) (R:WP) (again_:Int→WP) (i:Int) (w1:World):Prop :=
 IsAt b_∧(∃(v10:Slc),w1.cell? ⟨(pblk b_),(poff b_)+7,none⟩=some (Vs v10)∧(((decide (i<((v10.len:Nat):Int)))=true→(False)) ∧
 ((decide (i<((v10.len:Nat):Int)))=false→(R w1))))

def F_Qc (b_:OA) (R:WP) (w:World):Prop :=
 ∃(I:Int→WP) (μ:Int→World→Nat),I 0 w ∧
 ∀(i:Int) w,I i w→F_mb b_ R (fun(i':Int) w'=>I i' w'∧μ i' w'<μ i w) i w

def F_9 (b_:OA) (i:Int) (again_:Int→WP) (b_1:Nat) (again_1:Slc→Int→WP) (long1:Slc) (k_:Int) (w4:World):Prop :=
 ((decide (k_<70))=true→(∃(v30:Int),w4.cell? ⟨b_1,2,none⟩=some (Vi v30)∧(C_4 v30 w4 (fun(v31:T_d) w5=>∀ b_2 w6,b_2=w5.heap.size→w6=w5.alloc (Obj.cells ([Value.string v31.Key,Vs v31.Versions]).toArray y_d (0,0))→(∃ src,zh w6 (Slc.mk (some ⟨b_2,0,none⟩) 1 1) 2 src∧zj 2 40 y_d [Value.string ByteArray.empty,Value.slice none 0 0] long1 src 1 w6 (fun long2 w7=>again_1 long2 (IntKind.i64.wrap (k_+1)) w7)))))) ∧
 ((decide (k_<70))=false→(IsAt b_∧(∃(v37:Slc),w4.cell? ⟨(pblk b_),(poff b_)+8,none⟩=some (Vs v37)∧(IsAt v37.ptr∧(0≤i∧i<((v37.len:Nat):Int)∧(zd w4 (pblk v37.ptr) (((poff v37.ptr)+i.toNat*3)+1) 1∧(∀ w8,w8=World.puts (pblk v37.ptr) (((poff v37.ptr)+i.toNat*3)+1) [Vs long1] w4→(again_ (IntKind.i64.wrap (i+1)) w8))))))))

def F_ab (b_:OA) (R:WP) (again_:Int→WP) (i:Int) (w1:World):Prop :=
 IsAt b_∧(∃(v10:Slc),w1.cell? ⟨(pblk b_),(poff b_)+8,none⟩=some (Vs v10)∧(((decide (i<((v10.len:Nat):Int)))=true→(IsAt b_∧(∃(v18:Slc),w1.cell? ⟨(pblk b_),(poff b_)+8,none⟩=some (Vs v18)∧(IsAt v18.ptr∧(0≤i∧i<((v18.len:Nat):Int)∧(∃(v21:T_g),ze w1 (pblk v18.ptr) ((poff v18.ptr)+i.toNat*3) [Vs v21.l,Vs v21.long,Vi v21.n]∧(∀ b_1 w2,b_1=w1.heap.size→w2=w1.alloc (Obj.cells ([Value.slice none 0 0,Value.slice none 0 0,Vi 0]).toArray y_g (0,0))→(zd w2 b_1 0 3∧(∀ w3,w3=World.puts b_1 0 [Vs v21.l,Vs v21.long,Vi v21.n] w2→(∃(long:Slc),w3.cell? ⟨b_1,0,none⟩=some (Vs long)∧(∃(I:Slc→Int→WP) (μ:Slc→Int→World→Nat),I long 0 w3 ∧
 ∀(long1:Slc) (k_:Int) w,I long1 k_ w→F_9 b_ i again_ b_1 (fun(long1':Slc) (k_':Int) w'=>I long1' k_' w'∧μ long1' k_' w'<μ long1 k_ w) long1 k_ w))))))))))) ∧
 ((decide (i<((v10.len:Nat):Int)))=false→(R w1))))

def F_Dc (b_:OA) (R:WP) (w:World):Prop :=
 ∃(I:Int→WP) (μ:Int→World→Nat),I 0 w ∧
 ∀(i:Int) w,I i w→F_ab b_ R (fun(i':Int) w'=>I i' w'∧μ i' w'<μ i w) i w

def F_y (b_:OA) (R:WP) (again_:Int→WP) (i:Int) (w1:World):Prop :=
 IsAt b_∧(∃(v10:Slc),w1.cell? ⟨(pblk b_),(poff b_)+9,none⟩=some (Vs v10)∧(((decide (i<((v10.len:Nat):Int)))=true→(False)) ∧
 ((decide (i<((v10.len:Nat):Int)))=false→(R w1))))

def F_Ub (b_:OA) (R:WP) (w:World):Prop :=
 ∃(I:Int→WP) (μ:Int→World→Nat),I 0 w ∧
 ∀(i:Int) w,I i w→F_y b_ R (fun(i':Int) w'=>I i' w'∧μ i' w'<μ i w) i w

def F_X (b_:OA) (R:WP) (again_:Int→WP) (i:Int) (w1:World):Prop :=
 IsAt b_∧(∃(v10:Slc),w1.cell? ⟨(pblk b_),(poff b_)+10,none⟩=some (Vs v10)∧(((decide (i<((v10.len:Nat):Int)))=true→(False)) ∧
 ((decide (i<((v10.len:Nat):Int)))=false→(R w1))))

def F_mc (b_:OA) (R:WP) (w:World):Prop :=
 ∃(I:Int→WP) (μ:Int→World→Nat),I 0 w ∧
 ∀(i:Int) w,I i w→F_X b_ R (fun(i':Int) w'=>I i' w'∧μ i' w'<μ i w) i w

def F_N (b_:OA) (R:WP) (again_:Int→WP) (i:Int) (w1:World):Prop :=
 IsAt b_∧(∃(v10:Slc),w1.cell? ⟨(pblk b_),(poff b_)+11,none⟩=some (Vs v10)∧(((decide (i<((v10.len:Nat):Int)))=true→(False)) ∧
 ((decide (i<((v10.len:Nat):Int)))=false→(R w1))))

def F_bc (b_:OA) (R:WP) (w:World):Prop :=
 ∃(I:Int→WP) (μ:Int→World→Nat),I 0 w ∧
 ∀(i:Int) w,I i w→F_N b_ R (fun(i':Int) w'=>I i' w'∧μ i' w'<μ i w) i w

def F_bb (b_:OA) (R:Bool→WP) (again_:Int→WP) (i:Int) (w1:World):Prop :=
 IsAt b_∧(∃(v10:Slc),w1.cell? ⟨(pblk b_),(poff b_)+1,none⟩=some (Vs v10)∧(((decide (i<((v10.len:Nat):Int)))=true→(False)) ∧
 ((decide (i<((v10.len:Nat):Int)))=false→(R true w1))))

def F_Ec (b_:OA) (R:Bool→WP) (w:World):Prop :=
 ∃(I:Int→WP) (μ:Int→World→Nat),I 0 w ∧
 ∀(i:Int) w,I i w→F_bb b_ R (fun(i':Int) w'=>I i' w'∧μ i' w'<μ i w) i w

def F_f (R:Bool→WP) (k_:Int) (again_1:Int→WP) (t63:Bool) (w5:World):Prop :=
 (t63=true→(R false w5)) ∧
 (t63=false→(again_1 (IntKind.i64.wrap (k_+1)) w5))

def F_nb (R:Bool→WP) (i:Int) (again_:Int→WP) (b_1:Nat) (again_1:Int→WP) (k_:Int) (w4:World):Prop :=
 ∃(v32:Slc),w4.cell? ⟨b_1,1,none⟩=some (Vs v32)∧(((decide (k_<((v32.len:Nat):Int)))=true→(∃(v38:Slc),w4.cell? ⟨b_1,1,none⟩=some (Vs v38)∧(IsAt v38.ptr∧(0≤k_∧k_<((v38.len:Nat):Int)∧(∃(v41:Int),w4.cell? ⟨(pblk v38.ptr),(poff v38.ptr)+k_.toNat,none⟩=some (Vi v41)∧(∃(v43:Int),w4.cell? ⟨b_1,2,none⟩=some (Vi v43)∧(∃(v44:Bool),(∀ w',Ext w4 w'→C_Db v41 v43 w' (fun(v44':Bool) w''=>v44'=v44∧Ext w' w''))∧(((!v44)=true→(∀ w7,Ext w4 w7→(F_f R k_ again_1 true w7))) ∧
 ((!v44)=false→(∃(v49:Slc),w4.cell? ⟨b_1,0,none⟩=some (Vs v49)∧(((decide (k_<((v49.len:Nat):Int)))=true→(∃(v54:Slc),w4.cell? ⟨b_1,0,none⟩=some (Vs v54)∧(IsAt v54.ptr∧(0≤k_∧k_<((v54.len:Nat):Int)∧(∃(v57:Int),w4.cell? ⟨(pblk v54.ptr),(poff v54.ptr)+k_.toNat,none⟩=some (Vi v57)∧(∃(v59:Int),w4.cell? ⟨b_1,2,none⟩=some (Vi v59)∧(∃(v60:Bool),(∀ w',Ext w4 w'→C_Db v57 v59 w' (fun(v60':Bool) w''=>v60'=v60∧Ext w' w''))∧(∀ w9,Ext w4 w9→(F_f R k_ again_1 (!v60) w9))))))))) ∧
 ((decide (k_<((v49.len:Nat):Int)))=false→(∀ w10,Ext w4 w10→(F_f R k_ again_1 false w10)))))))))))))) ∧
 ((decide (k_<((v32.len:Nat):Int)))=false→(again_ (IntKind.i64.wrap (i+1)) w4)))

def F_ob (b_:OA) (R:Bool→WP) (again_:Int→WP) (i:Int) (w1:World):Prop :=
 IsAt b_∧(∃(v10:Slc),w1.cell? ⟨(pblk b_),(poff b_)+2,none⟩=some (Vs v10)∧(((decide (i<((v10.len:Nat):Int)))=true→(IsAt b_∧(∃(v18:Slc),w1.cell? ⟨(pblk b_),(poff b_)+2,none⟩=some (Vs v18)∧(IsAt v18.ptr∧(0≤i∧i<((v18.len:Nat):Int)∧(∃(v21:T_h),ze w1 (pblk v18.ptr) ((poff v18.ptr)+i.toNat*3) [Vs v21.l,Vs v21.long,Vi v21.n]∧(∀ b_1 w2,b_1=w1.heap.size→w2=w1.alloc (Obj.cells ([Value.slice none 0 0,Value.slice none 0 0,Vi 0]).toArray y_h (0,0))→(zd w2 b_1 0 3∧(∀ w3,w3=World.puts b_1 0 [Vs v21.l,Vs v21.long,Vi v21.n] w2→(∃(v23:Slc),w3.cell? ⟨b_1,1,none⟩=some (Vs v23)∧(∃(v26:Slc),w3.cell? ⟨b_1,0,none⟩=some (Vs v26)∧(((((v23.len:Nat):Int) != (IntKind.i64.wrap (((v26.len:Nat):Int)+70)))=true→(R false w3)) ∧
 ((((v23.len:Nat):Int) != (IntKind.i64.wrap (((v26.len:Nat):Int)+70)))=false→(∃(I:Int→WP) (μ:Int→World→Nat),I 0 w3 ∧
 ∀(k_:Int) w,I k_ w→F_nb R i again_ b_1 (fun(k_':Int) w'=>I k_' w'∧μ k_' w'<μ k_ w) k_ w)))))))))))))) ∧
 ((decide (i<((v10.len:Nat):Int)))=false→(R true w1))))

def F_Rc (b_:OA) (R:Bool→WP) (w:World):Prop :=
 ∃(I:Int→WP) (μ:Int→World→Nat),I 0 w ∧
 ∀(i:Int) w,I i w→F_ob b_ R (fun(i':Int) w'=>I i' w'∧μ i' w'<μ i w) i w

def F_cb (b_:OA) (R:Bool→WP) (again_:Int→WP) (i:Int) (w1:World):Prop :=
 IsAt b_∧(∃(v10:Slc),w1.cell? ⟨(pblk b_),(poff b_)+3,none⟩=some (Vs v10)∧(((decide (i<((v10.len:Nat):Int)))=true→(False)) ∧
 ((decide (i<((v10.len:Nat):Int)))=false→(R true w1))))

def F_Fc (b_:OA) (R:Bool→WP) (w:World):Prop :=
 ∃(I:Int→WP) (μ:Int→World→Nat),I 0 w ∧
 ∀(i:Int) w,I i w→F_cb b_ R (fun(i':Int) w'=>I i' w'∧μ i' w'<μ i w) i w

def F_Y (b_:OA) (R:Bool→WP) (again_:Int→WP) (i:Int) (w1:World):Prop :=
 IsAt b_∧(∃(v10:Slc),w1.cell? ⟨(pblk b_),(poff b_)+4,none⟩=some (Vs v10)∧(((decide (i<((v10.len:Nat):Int)))=true→(False)) ∧
 ((decide (i<((v10.len:Nat):Int)))=false→(R true w1))))

def F_nc (b_:OA) (R:Bool→WP) (w:World):Prop :=
 ∃(I:Int→WP) (μ:Int→World→Nat),I 0 w ∧
 ∀(i:Int) w,I i w→F_Y b_ R (fun(i':Int) w'=>I i' w'∧μ i' w'<μ i w) i w

def F_Z (b_:OA) (R:Bool→WP) (again_:Int→WP) (i:Int) (w1:World):Prop :=
 IsAt b_∧(∃(v10:Slc),w1.cell? ⟨(pblk b_),(poff b_)+5,none⟩=some (Vs v10)∧(((decide (i<((v10.len:Nat):Int)))=true→(False)) ∧
 ((decide (i<((v10.len:Nat):Int)))=false→(R true w1))))

def F_oc (b_:OA) (R:Bool→WP) (w:World):Prop :=
 ∃(I:Int→WP) (μ:Int→World→Nat),I 0 w ∧
 ∀(i:Int) w,I i w→F_Z b_ R (fun(i':Int) w'=>I i' w'∧μ i' w'<μ i w) i w

def F_b (R:Bool→WP) (k_:Int) (again_1:Int→WP) (t63:Bool) (w5:World):Prop :=
 (t63=true→(R false w5)) ∧
 (t63=false→(again_1 (IntKind.i64.wrap (k_+1)) w5))

def F_E (R:Bool→WP) (i:Int) (again_:Int→WP) (b_1:Nat) (again_1:Int→WP) (k_:Int) (w4:World):Prop :=
 ∃(v32:Slc),w4.cell? ⟨b_1,1,none⟩=some (Vs v32)∧(((decide (k_<((v32.len:Nat):Int)))=true→(∃(v38:Slc),w4.cell? ⟨b_1,1,none⟩=some (Vs v38)∧(IsAt v38.ptr∧(0≤k_∧k_<((v38.len:Nat):Int)∧(∃(v41:T_c),ze w4 (pblk v38.ptr) ((poff v38.ptr)+k_.toNat*3) [Vi v41.Number,Value.string v41.Val,Vo v41.Drop]∧(∃(v43:Int),w4.cell? ⟨b_1,2,none⟩=some (Vi v43)∧(∃(v44:Bool),(∀ w',Ext w4 w'→C_Q v41 v43 w' (fun(v44':Bool) w''=>v44'=v44∧Ext w' w''))∧(((!v44)=true→(∀ w7,Ext w4 w7→(F_b R k_ again_1 true w7))) ∧
 ((!v44)=false→(∃(v49:Slc),w4.cell? ⟨b_1,0,none⟩=some (Vs v49)∧(((decide (k_<((v49.len:Nat):Int)))=true→(∃(v54:Slc),w4.cell? ⟨b_1,0,none⟩=some (Vs v54)∧(IsAt v54.ptr∧(0≤k_∧k_<((v54.len:Nat):Int)∧(∃(v57:T_c),ze w4 (pblk v54.ptr) ((poff v54.ptr)+k_.toNat*3) [Vi v57.Number,Value.string v57.Val,Vo v57.Drop]∧(∃(v59:Int),w4.cell? ⟨b_1,2,none⟩=some (Vi v59)∧(∃(v60:Bool),(∀ w',Ext w4 w'→C_Q v57 v59 w' (fun(v60':Bool) w''=>v60'=v60∧Ext w' w''))∧(∀ w9,Ext w4 w9→(F_b R k_ again_1 (!v60) w9))))))))) ∧
 ((decide (k_<((v49.len:Nat):Int)))=false→(∀ w10,Ext w4 w10→(F_b R k_ again_1 false w10)))))))))))))) ∧
 ((decide (k_<((v32.len:Nat):Int)))=false→(again_ (IntKind.i64.wrap (i+1)) w4)))

def F_F (b_:OA) (R:Bool→WP) (again_:Int→WP) (i:Int) (w1:World):Prop :=
 IsAt b_∧(∃(v10:Slc),w1.cell? ⟨(pblk b_),(poff b_)+6,none⟩=some (Vs v10)∧(((decide (i<((v10.len:Nat):Int)))=true→(IsAt b_∧(∃(v18:Slc),w1.cell? ⟨(pblk b_),(poff b_)+6,none⟩=some (Vs v18)∧(IsAt v18.ptr∧(0≤i∧i<((v18.len:Nat):Int)∧(∃(v21:T_f),ze w1 (pblk v18.ptr) ((poff v18.ptr)+i.toNat*3) [Vs v21.l,Vs v21.long,Vi v21.n]∧(∀ b_1 w2,b_1=w1.heap.size→w2=w1.alloc (Obj.cells ([Value.slice none 0 0,Value.slice none 0 0,Vi 0]).toArray y_f (0,0))→(zd w2 b_1 0 3∧(∀ w3,w3=World.puts b_1 0 [Vs v21.l,Vs v21.long,Vi v21.n] w2→(∃(v23:Slc),w3.cell? ⟨b_1,1,none⟩=some (Vs v23)∧(∃(v26:Slc),w3.cell? ⟨b_1,0,none⟩=some (Vs v26)∧(((((v23.len:Nat):Int) != (IntKind.i64.wrap (((v26.len:Nat):Int)+70)))=true→(R false w3)) ∧
 ((((v23.len:Nat):Int) != (IntKind.i64.wrap (((v26.len:Nat):Int)+70)))=false→(∃(I:Int→WP) (μ:Int→World→Nat),I 0 w3 ∧
 ∀(k_:Int) w,I k_ w→F_E R i again_ b_1 (fun(k_':Int) w'=>I k_' w'∧μ k_' w'<μ k_ w) k_ w)))))))))))))) ∧
 ((decide (i<((v10.len:Nat):Int)))=false→(R true w1))))

def F_6b (b_:OA) (R:Bool→WP) (w:World):Prop :=
 ∃(I:Int→WP) (μ:Int→World→Nat),I 0 w ∧
 ∀(i:Int) w,I i w→F_F b_ R (fun(i':Int) w'=>I i' w'∧μ i' w'<μ i w) i w

def F_pb (b_:OA) (R:Bool→WP) (again_:Int→WP) (i:Int) (w1:World):Prop :=
 IsAt b_∧(∃(v10:Slc),w1.cell? ⟨(pblk b_),(poff b_)+7,none⟩=some (Vs v10)∧(((decide (i<((v10.len:Nat):Int)))=true→(False)) ∧
 ((decide (i<((v10.len:Nat):Int)))=false→(R true w1))))

def F_Sc (b_:OA) (R:Bool→WP) (w:World):Prop :=
 ∃(I:Int→WP) (μ:Int→World→Nat),I 0 w ∧
 ∀(i:Int) w,I i w→F_pb b_ R (fun(i':Int) w'=>I i' w'∧μ i' w'<μ i w) i w

def F_e (R:Bool→WP) (k_:Int) (again_1:Int→WP) (t63:Bool) (w5:World):Prop :=
 (t63=true→(R false w5)) ∧
 (t63=false→(again_1 (IntKind.i64.wrap (k_+1)) w5))

def F_db (R:Bool→WP) (i:Int) (again_:Int→WP) (b_1:Nat) (again_1:Int→WP) (k_:Int) (w4:World):Prop :=
 ∃(v32:Slc),w4.cell? ⟨b_1,1,none⟩=some (Vs v32)∧(((decide (k_<((v32.len:Nat):Int)))=true→(∀ w6,(∃ k,w6=w4.drewN k)→(∃(v38:Slc),w6.cell? ⟨b_1,1,none⟩=some (Vs v38)∧(IsAt v38.ptr∧(0≤k_∧k_<((v38.len:Nat):Int)∧(∃(v41:T_d),ze w6 (pblk v38.ptr) ((poff v38.ptr)+k_.toNat*2) [Value.string v41.Key,Vs v41.Versions]∧(∃(v43:Int),w6.cell? ⟨b_1,2,none⟩=some (Vi v43)∧(C_F v41 v43 w6 (fun(v44:Bool) w7=>(((!v44)=true→(F_e R k_ again_1 true w7)) ∧
 ((!v44)=false→(∃(v49:Slc),w7.cell? ⟨b_1,0,none⟩=some (Vs v49)∧(((decide (k_<((v49.len:Nat):Int)))=true→(∃(v54:Slc),w7.cell? ⟨b_1,0,none⟩=some (Vs v54)∧(IsAt v54.ptr∧(0≤k_∧k_<((v54.len:Nat):Int)∧(∃(v57:T_d),ze w7 (pblk v54.ptr) ((poff v54.ptr)+k_.toNat*2) [Value.string v57.Key,Vs v57.Versions]∧(∃(v59:Int),w7.cell? ⟨b_1,2,none⟩=some (Vi v59)∧(C_F v57 v59 w7 (fun(v60:Bool) w8=>(F_e R k_ again_1 (!v60) w8))))))))) ∧
 ((decide (k_<((v49.len:Nat):Int)))=false→(F_e R k_ again_1 false w7))))))))))))))) ∧
 ((decide (k_<((v32.len:Nat):Int)))=false→(again_ (IntKind.i64.wrap (i+1)) w4)))

def F_eb (b_:OA) (R:Bool→WP) (again_:Int→WP) (i:Int) (w1:World):Prop :=
 IsAt b_∧(∃(v10:Slc),w1.cell? ⟨(pblk b_),(poff b_)+8,none⟩=some (Vs v10)∧(((decide (i<((v10.len:Nat):Int)))=true→(IsAt b_∧(∃(v18:Slc),w1.cell? ⟨(pblk b_),(poff b_)+8,none⟩=some (Vs v18)∧(IsAt v18.ptr∧(0≤i∧i<((v18.len:Nat):Int)∧(∃(v21:T_g),ze w1 (pblk v18.ptr) ((poff v18.ptr)+i.toNat*3) [Vs v21.l,Vs v21.long,Vi v21.n]∧(∀ b_1 w2,b_1=w1.heap.size→w2=w1.alloc (Obj.cells ([Value.slice none 0 0,Value.slice none 0 0,Vi 0]).toArray y_g (0,0))→(zd w2 b_1 0 3∧(∀ w3,w3=World.puts b_1 0 [Vs v21.l,Vs v21.long,Vi v21.n] w2→(∃(v23:Slc),w3.cell? ⟨b_1,1,none⟩=some (Vs v23)∧(∃(v26:Slc),w3.cell? ⟨b_1,0,none⟩=some (Vs v26)∧(((((v23.len:Nat):Int) != (IntKind.i64.wrap (((v26.len:Nat):Int)+70)))=true→(R false w3)) ∧
 ((((v23.len:Nat):Int) != (IntKind.i64.wrap (((v26.len:Nat):Int)+70)))=false→(∃(I:Int→WP) (μ:Int→World→Nat),I 0 w3 ∧
 ∀(k_:Int) w,I k_ w→F_db R i again_ b_1 (fun(k_':Int) w'=>I k_' w'∧μ k_' w'<μ k_ w) k_ w)))))))))))))) ∧
 ((decide (i<((v10.len:Nat):Int)))=false→(R true w1))))

def F_Gc (b_:OA) (R:Bool→WP) (w:World):Prop :=
 ∃(I:Int→WP) (μ:Int→World→Nat),I 0 w ∧
 ∀(i:Int) w,I i w→F_eb b_ R (fun(i':Int) w'=>I i' w'∧μ i' w'<μ i w) i w

def F_z (b_:OA) (R:Bool→WP) (again_:Int→WP) (i:Int) (w1:World):Prop :=
 IsAt b_∧(∃(v10:Slc),w1.cell? ⟨(pblk b_),(poff b_)+9,none⟩=some (Vs v10)∧(((decide (i<((v10.len:Nat):Int)))=true→(False)) ∧
 ((decide (i<((v10.len:Nat):Int)))=false→(R true w1))))

def F_Vb (b_:OA) (R:Bool→WP) (w:World):Prop :=
 ∃(I:Int→WP) (μ:Int→World→Nat),I 0 w ∧
 ∀(i:Int) w,I i w→F_z b_ R (fun(i':Int) w'=>I i' w'∧μ i' w'<μ i w) i w

def F_0 (b_:OA) (R:Bool→WP) (again_:Int→WP) (i:Int) (w1:World):Prop :=
 IsAt b_∧(∃(v10:Slc),w1.cell? ⟨(pblk b_),(poff b_)+10,none⟩=some (Vs v10)∧(((decide (i<((v10.len:Nat):Int)))=true→(False)) ∧
 ((decide (i<((v10.len:Nat):Int)))=false→(R true w1))))

def F_pc (b_:OA) (R:Bool→WP) (w:World):Prop :=
 ∃(I:Int→WP) (μ:Int→World→Nat),I 0 w ∧
 ∀(i:Int) w,I i w→F_0 b_ R (fun(i':Int) w'=>I i' w'∧μ i' w'<μ i w) i w

def F_O (b_:OA) (R:Bool→WP) (again_:Int→WP) (i:Int) (w1:World):Prop :=
 IsAt b_∧(∃(v10:Slc),w1.cell? ⟨(pblk b_),(poff b_)+11,none⟩=some (Vs v10)∧(((decide (i<((v10.len:Nat):Int)))=true→(False)) ∧
 ((decide (i<((v10.len:Nat):Int)))=false→(R true w1))))

def F_cc (b_:OA) (R:Bool→WP) (w:World):Prop :=
 ∃(I:Int→WP) (μ:Int→World→Nat),I 0 w ∧
 ∀(i:Int) w,I i w→F_O b_ R (fun(i':Int) w'=>I i' w'∧μ i' w'<μ i w) i w

def F_Qb (l_:Slc) (R:Slc→WP) (again_:Slc→Int→WP) (t_:Slc) (i:Int) (w2:World):Prop :=
 ((decide (i<((l_.len:Nat):Int)))=true→(IsAt l_.ptr∧(0≤i∧i<((l_.len:Nat):Int)∧(∃(v19:Int),w2.cell? ⟨(pblk l_.ptr),(poff l_.ptr)+i.toNat,none⟩=some (Vi v19)∧(∀ b_1 w3,b_1=w2.heap.size→w3=w2.alloc (Obj.cells ([Vi v19]).toArray y_i (0,0))→(∃ src,zh w3 (Slc.mk (some ⟨b_1,0,none⟩) 1 1) 1 src∧zj 1 8 y_i [Vi 0] t_ src 1 w3 (fun t_1 w4=>again_ t_1 (IntKind.i64.wrap (i+1)) w4))))))) ∧
 ((decide (i<((l_.len:Nat):Int)))=false→(∀ b_2 w5,b_2=w2.heap.size→w5=w2.alloc (Obj.cells ([Vi 7777]).toArray y_i (0,0))→(∃ src,zh w5 (Slc.mk (some ⟨b_2,0,none⟩) 1 1) 1 src∧zj 1 8 y_i [Vi 0] t_ src 1 w5 (fun v24 w6=>0≤((l_.len:Nat):Int)∧((l_.len:Nat):Int)≤((v24.cap:Nat):Int)∧(R (Slc.mk v24.ptr (((l_.len:Nat):Int).toNat) v24.cap) w6)))))

def F_yd (l_:Slc) (R:Slc→WP) (w:World):Prop :=
 0≤(0:Int)∧(0:Int)≤IntKind.i64.wrap (((l_.len:Nat):Int)+1)∧(8:Int)*(IntKind.i64.wrap (((l_.len:Nat):Int)+1))≤281474976710656∧(∀ b_ w1,b_=w.heap.size→w1=w.alloc (Obj.cells (zI ((IntKind.i64.wrap (((l_.len:Nat):Int)+1)).toNat) [Vi 0]) y_i (0,0))→(∃(I:Slc→Int→WP) (μ:Slc→Int→World→Nat),I (Slc.mk (some ⟨b_,0,none⟩) 0 ((IntKind.i64.wrap (((l_.len:Nat):Int)+1)).toNat)) 0 w1 ∧
 ∀(t_:Slc) (i:Int) w,I t_ i w→F_Qb l_ R (fun(t_':Slc) (i':Int) w'=>I t_' i' w'∧μ t_' i' w'<μ t_ i w) t_ i w))

def F_Lb (l_:Slc) (R:Slc→WP) (again_:Slc→Int→WP) (t_:Slc) (i:Int) (w2:World):Prop :=
 ((decide (i<((l_.len:Nat):Int)))=true→(IsAt l_.ptr∧(0≤i∧i<((l_.len:Nat):Int)∧(∃(v19:T_d),ze w2 (pblk l_.ptr) ((poff l_.ptr)+i.toNat*2) [Value.string v19.Key,Vs v19.Versions]∧(C_0b v19 w2 (fun(v20:T_d) w3=>∀ b_1 w4,b_1=w3.heap.size→w4=w3.alloc (Obj.cells ([Value.string v20.Key,Vs v20.Versions]).toArray y_d (0,0))→(∃ src,zh w4 (Slc.mk (some ⟨b_1,0,none⟩) 1 1) 2 src∧zj 2 40 y_d [Value.string ByteArray.empty,Value.slice none 0 0] t_ src 1 w4 (fun t_1 w5=>again_ t_1 (IntKind.i64.wrap (i+1)) w5)))))))) ∧
 ((decide (i<((l_.len:Nat):Int)))=false→(∀ b_2 w6,b_2=w2.heap.size→w6=w2.alloc (Obj.cells ([Value.string (ByteArray.mk #[115,112,97,114,101]),Value.slice none 0 0]).toArray y_d (0,0))→(∃ src,zh w6 (Slc.mk (some ⟨b_2,0,none⟩) 1 1) 2 src∧zj 2 40 y_d [Value.string ByteArray.empty,Value.slice none 0 0] t_ src 1 w6 (fun v26 w7=>0≤((l_.len:Nat):Int)∧((l_.len:Nat):Int)≤((v26.cap:Nat):Int)∧(R (Slc.mk v26.ptr (((l_.len:Nat):Int).toNat) v26.cap) w7)))))

def F_pd (l_:Slc) (R:Slc→WP) (w:World):Prop :=
 0≤(0:Int)∧(0:Int)≤IntKind.i64.wrap (((l_.len:Nat):Int)+1)∧(40:Int)*(IntKind.i64.wrap (((l_.len:Nat):Int)+1))≤281474976710656∧(∀ b_ w1,b_=w.heap.size→w1=w.alloc (Obj.cells (zI ((IntKind.i64.wrap (((l_.len:Nat):Int)+1)).toNat) [Value.string ByteArray.empty,Value.slice none 0 0]) y_d (0,0))→(∃(I:Slc→Int→WP) (μ:Slc→Int→World→Nat),I (Slc.mk (some ⟨b_,0,none⟩) 0 ((IntKind.i64.wrap (((l_.len:Nat):Int)+1)).toNat)) 0 w1 ∧
 ∀(t_:Slc) (i:Int) w,I t_ i w→F_Lb l_ R (fun(t_':Slc) (i':Int) w'=>I t_' i' w'∧μ t_' i' w'<μ t_ i w) t_ i w))

def F_Hc (t67:Int) (again_2:Int→WP) (w15:World):Prop :=
 again_2 (IntKind.i64.wrap (t67+1)) w15

def F_qd (v17:OA) (t50:Int) (again_1:Int→WP) (v65:Slc) (again_2:Int→WP) (t67:Int) (w14:World):Prop :=
 ((decide (t67<((v65.len:Nat):Int)))=true→(IsAt v65.ptr∧(0≤t67∧t67<((v65.len:Nat):Int)∧(∃(v70:T_c),ze w14 (pblk v65.ptr) ((poff v65.ptr)+t67.toNat*3) [Vi v70.Number,Value.string v70.Val,Vo v70.Drop]∧(∀ b_2 w16,b_2=w14.heap.size→w16=w14.alloc (Obj.cells ([Vi 0,Value.string ByteArray.empty,Vo false]).toArray y_c (0,0))→(zd w16 b_2 0 3∧(∀ w17,w17=World.puts b_2 0 [Vi v70.Number,Value.string v70.Val,Vo v70.Drop] w16→(∃(v73:Int),w17.cell? ⟨b_2,0,none⟩=some (Vi v73)∧(C_g v17 (IntKind.u64.wrap v73) w17 (fun w18=>∃(v77:Bool),w18.cell? ⟨b_2,2,none⟩=some (Vo v77)∧((v77=true→(C_Eb v17 1 1 w18 (fun(v79:Int) w19=>F_Hc t67 again_2 w19))) ∧
 (v77=false→(C_Eb v17 0 1 w18 (fun(v81:Int) w20=>∃(v84:ByteArray),w20.cell? ⟨b_2,1,none⟩=some (Value.string v84)∧(C_Tb v17 v84 w20 (fun w21=>F_Hc t67 again_2 w21)))))))))))))))) ∧
 ((decide (t67<((v65.len:Nat):Int)))=false→(again_1 (IntKind.i64.wrap (t50+1)) w14))

def F_Td (R:Slc→Int→WP) (v17:OA) (v48:Slc) (again_1:Int→WP) (t50:Int) (w9:World):Prop :=
 ((decide (t50<((v48.len:Nat):Int)))=true→(IsAt v48.ptr∧(0≤t50∧t50<((v48.len:Nat):Int)∧(∃(v53:T_d),ze w9 (pblk v48.ptr) ((poff v48.ptr)+t50.toNat*2) [Value.string v53.Key,Vs v53.Versions]∧(∀ b_1 w10,b_1=w9.heap.size→w10=w9.alloc (Obj.cells ([Value.string ByteArray.empty,Value.slice none 0 0]).toArray y_d (0,0))→(zd w10 b_1 0 2∧(∀ w11,w11=World.puts b_1 0 [Value.string v53.Key,Vs v53.Versions] w10→(∃(v56:ByteArray),w11.cell? ⟨b_1,0,none⟩=some (Value.string v56)∧(C_Tb v17 v56 w11 (fun w12=>∃(v60:Slc),w12.cell? ⟨b_1,1,none⟩=some (Vs v60)∧(C_g v17 (IntKind.u64.wrap ((v60.len:Nat):Int)) w12 (fun w13=>∃(v65:Slc),w13.cell? ⟨b_1,1,none⟩=some (Vs v65)∧(∃(I:Int→WP) (μ:Int→World→Nat),I 0 w13 ∧
 ∀(t67:Int) w,I t67 w→F_qd v17 t50 again_1 v65 (fun(t67':Int) w'=>I t67' w'∧μ t67' w'<μ t67 w) t67 w))))))))))))) ∧
 ((decide (t50<((v48.len:Nat):Int)))=false→(C_hc v17 w9 (fun(v89:Slc) w22=>R v89 0 w22)))

def F_Ud (R:Slc→Int→WP) (b_:Nat) (v17:OA) (v30:Slc) (again_:Int→WP) (t32:Int) (w6:World):Prop :=
 ((decide (t32<((v30.len:Nat):Int)))=true→(IsAt v30.ptr∧(0≤t32∧t32<((v30.len:Nat):Int)∧(∃(n_:Int),w6.cell? ⟨(pblk v30.ptr),(poff v30.ptr)+t32.toNat,none⟩=some (Vi n_)∧(C_g v17 (IntKind.u64.wrap n_) w6 (fun w7=>again_ (IntKind.i64.wrap (t32+1)) w7)))))) ∧
 ((decide (t32<((v30.len:Nat):Int)))=false→(∃(v43:Slc),w6.cell? ⟨b_,2,none⟩=some (Vs v43)∧(C_g v17 (IntKind.u64.wrap ((v43.len:Nat):Int)) w6 (fun w8=>∃(v48:Slc),w8.cell? ⟨b_,2,none⟩=some (Vs v48)∧(∃(I:Int→WP) (μ:Int→World→Nat),I 0 w8 ∧
 ∀(t50:Int) w,I t50 w→F_Td R v17 v48 (fun(t50':Int) w'=>I t50' w'∧μ t50' w'<μ t50 w) t50 w)))))

def F_Ze (s:T_b) (R:Slc→Int→WP) (w:World):Prop :=
 ∀ b_ w1,b_=w.heap.size→w1=w.alloc (Obj.cells ([Vi s.Mark,Vs s.Beyond,Vs s.Held]).toArray y_a (0,0))→(∃(v12:T_b),ze w1 b_ 0 [Vi v12.Mark,Vs v12.Beyond,Vs v12.Held]∧(C_xc v12 w1 (fun(v13:Int) w2=>((v13 != 0)=true→(R (Slc.mk none 0 0) v13 w2)) ∧
 ((v13 != 0)=false→(C_sc w2 (fun(v17:OA) w3=>∃(v20:Int),w3.cell? ⟨b_,0,none⟩=some (Vi v20)∧(C_g v17 (IntKind.u64.wrap v20) w3 (fun w4=>∃(v25:Slc),w4.cell? ⟨b_,1,none⟩=some (Vs v25)∧(C_g v17 (IntKind.u64.wrap ((v25.len:Nat):Int)) w4 (fun w5=>∃(v30:Slc),w5.cell? ⟨b_,1,none⟩=some (Vs v30)∧(∃(I:Int→WP) (μ:Int→World→Nat),I 0 w5 ∧
 ∀(t32:Int) w,I t32 w→F_Ud R b_ v17 v30 (fun(t32':Int) w'=>I t32' w'∧μ t32' w'<μ t32 w) t32 w)))))))))))

def F_Pe (generation:Int) (x:Slc) (R:List Int→WP) (w:World):Prop :=
 ∀ b_ w1,b_=w.heap.size→w1=w.alloc (Obj.cells ((List.map (Value.int .u8) (List.replicate 20 0))).toArray y_j (0,0))→(C_6b (Slc.mk (some ⟨b_,0,none⟩) 4 20) 1464880980 w1 (fun w2=>C_6b (Slc.mk (some ⟨b_,4,none⟩) 8 16) generation w2 (fun w3=>C_6b (Slc.mk (some ⟨b_,12,none⟩) 4 8) (IntKind.u64.wrap (IntKind.u32.wrap ((x.len:Nat):Int))) w3 (fun w4=>∀ w5,(∃ k,w5=w4.drewN k)→(C_wc (some ⟨b_,0,none⟩) x w5 (fun(v18:Int) w6=>(C_6b (Slc.mk (some ⟨b_,16,none⟩) 4 4) (IntKind.u64.wrap v18) w6 (fun w7=>(∃(v21:List Int),(v21.length=20)∧ze w7 b_ 0 (List.map (Value.int .u8) v21)∧(zd w7 b_ 0 20∧(∀ w8,w8=World.puts b_ 0 (List.map (Value.int .u8) v21) w7→(∃(res:List Int),(res.length=20)∧ze w8 b_ 0 (List.map (Value.int .u8) res)∧(R res w8)))))))))))))

def F_ze (d:OA) (R:Int→WP) (w:World):Prop :=
 (d.isNone=true→(R 0 w)) ∧
 (d.isNone=false→(IsAt d∧(∃(v8:Int),w.cell? ⟨(pblk d),(poff d)+1,none⟩=some (Vi v8)∧(R v8 w))))

def F_J (k_:Int) (again_2:Slc→Int→WP) (b_4:Slc) (w12:World):Prop :=
 again_2 b_4 (IntKind.i64.wrap (k_+1)) w12

def F_yb (i1:Int) (again_1:Slc→Int→WP) (v:Slc) (again_2:Slc→Int→WP) (b_3:Slc) (k_:Int) (w11:World):Prop :=
 ((decide (k_<((v.len:Nat):Int)))=true→(IsAt v.ptr∧(0≤k_∧k_<((v.len:Nat):Int)∧(∃(v80:Int),w11.cell? ⟨(pblk v.ptr),(poff v.ptr)+k_.toNat*3,none⟩=some (Vi v80)∧(C_h b_3 (IntKind.u64.wrap v80) w11 (fun(v82:Slc) w13=>IsAt v.ptr∧(0≤k_∧k_<((v.len:Nat):Int)∧(∃(v87:Bool),w13.cell? ⟨(pblk v.ptr),((poff v.ptr)+k_.toNat*3)+2,none⟩=some (Vo v87)∧((v87=true→(∀ b_5 w14,b_5=w13.heap.size→w14=w13.alloc (Obj.cells ([Value.int .u8 1]).toArray y_e (0,0))→(∃ src,zh w14 (Slc.mk (some ⟨b_5,0,none⟩) 1 1) 1 src∧zj 1 1 y_e [Value.int .u8 0] v82 src 1 w14 (fun b_6 w15=>F_J k_ again_2 b_6 w15)))) ∧
 (v87=false→(∀ b_7 w16,b_7=w13.heap.size→w16=w13.alloc (Obj.cells ([Value.int .u8 0]).toArray y_e (0,0))→(∃ src,zh w16 (Slc.mk (some ⟨b_7,0,none⟩) 1 1) 1 src∧zj 1 1 y_e [Value.int .u8 0] v82 src 1 w16 (fun b_8 w17=>IsAt v.ptr∧(0≤k_∧k_<((v.len:Nat):Int)∧(∃(v99:ByteArray),w17.cell? ⟨(pblk v.ptr),((poff v.ptr)+k_.toNat*3)+1,none⟩=some (Value.string v99)∧(C_Ub b_8 v99 w17 (fun(v100:Slc) w18=>F_J k_ again_2 v100 w18))))))))))))))))) ∧
 ((decide (k_<((v.len:Nat):Int)))=false→(again_1 b_3 (IntKind.i64.wrap (i1+1)) w11))

def F_dc (R:Slc→Int→WP) (b_:Nat) (again_1:Slc→Int→WP) (b_2:Slc) (i1:Int) (w8:World):Prop :=
 ∃(v45:Slc),w8.cell? ⟨b_,2,none⟩=some (Vs v45)∧(((decide (i1<((v45.len:Nat):Int)))=true→(∃(v52:Slc),w8.cell? ⟨b_,2,none⟩=some (Vs v52)∧(IsAt v52.ptr∧(0≤i1∧i1<((v52.len:Nat):Int)∧(∃(v56:ByteArray),w8.cell? ⟨(pblk v52.ptr),(poff v52.ptr)+i1.toNat*2,none⟩=some (Value.string v56)∧(C_Ub b_2 v56 w8 (fun(v57:Slc) w9=>∃(v59:Slc),w9.cell? ⟨b_,2,none⟩=some (Vs v59)∧(IsAt v59.ptr∧(0≤i1∧i1<((v59.len:Nat):Int)∧(∃(v:Slc),w9.cell? ⟨(pblk v59.ptr),((poff v59.ptr)+i1.toNat*2)+1,none⟩=some (Vs v)∧(C_h v57 (IntKind.u64.wrap ((v.len:Nat):Int)) w9 (fun(v68:Slc) w10=>∃(I:Slc→Int→WP) (μ:Slc→Int→World→Nat),I v68 0 w10 ∧
 ∀(b_3:Slc) (k_:Int) w,I b_3 k_ w→F_yb i1 again_1 v (fun(b_3':Slc) (k_':Int) w'=>I b_3' k_' w'∧μ b_3' k_' w'<μ b_3 k_ w) b_3 k_ w)))))))))))) ∧
 ((decide (i1<((v45.len:Nat):Int)))=false→(R b_2 0 w8)))

def F_ec (R:Slc→Int→WP) (b_:Nat) (again_:Slc→Int→WP) (b_1:Slc) (i:Int) (w5:World):Prop :=
 ∃(v24:Slc),w5.cell? ⟨b_,1,none⟩=some (Vs v24)∧(((decide (i<((v24.len:Nat):Int)))=true→(∃(v31:Slc),w5.cell? ⟨b_,1,none⟩=some (Vs v31)∧(IsAt v31.ptr∧(0≤i∧i<((v31.len:Nat):Int)∧(∃(v34:Int),w5.cell? ⟨(pblk v31.ptr),(poff v31.ptr)+i.toNat,none⟩=some (Vi v34)∧(C_h b_1 (IntKind.u64.wrap v34) w5 (fun(v36:Slc) w6=>again_ v36 (IntKind.i64.wrap (i+1)) w6))))))) ∧
 ((decide (i<((v24.len:Nat):Int)))=false→(∃(v39:Slc),w5.cell? ⟨b_,2,none⟩=some (Vs v39)∧(C_h b_1 (IntKind.u64.wrap ((v39.len:Nat):Int)) w5 (fun(v42:Slc) w7=>∃(I:Slc→Int→WP) (μ:Slc→Int→World→Nat),I v42 0 w7 ∧
 ∀(b_2:Slc) (i1:Int) w,I b_2 i1 w→F_dc R b_ (fun(b_2':Slc) (i1':Int) w'=>I b_2' i1' w'∧μ b_2' i1' w'<μ b_2 i1 w) b_2 i1 w)))))

def F_Md (s:T_b) (R:Slc→Int→WP) (w:World):Prop :=
 ∀ b_ w1,b_=w.heap.size→w1=w.alloc (Obj.cells ([Vi s.Mark,Vs s.Beyond,Vs s.Held]).toArray y_a (0,0))→(∃(v9:T_b),ze w1 b_ 0 [Vi v9.Mark,Vs v9.Beyond,Vs v9.Held]∧(C_Fb v9 w1 (fun(v10:Int) w2=>((v10 != 0)=true→(R (Slc.mk none 0 0) 1 w2)) ∧
 ((v10 != 0)=false→(∃(v13:Int),w2.cell? ⟨b_,0,none⟩=some (Vi v13)∧(C_h (Slc.mk none 0 0) (IntKind.u64.wrap v13) w2 (fun(v15:Slc) w3=>∃(v18:Slc),w3.cell? ⟨b_,1,none⟩=some (Vs v18)∧(C_h v15 (IntKind.u64.wrap ((v18.len:Nat):Int)) w3 (fun(v21:Slc) w4=>∃(I:Slc→Int→WP) (μ:Slc→Int→World→Nat),I v21 0 w4 ∧
 ∀(b_1:Slc) (i:Int) w,I b_1 i w→F_ec R b_ (fun(b_1':Slc) (i':Int) w'=>I b_1' i' w'∧μ b_1' i' w'<μ b_1 i w) b_1 i w)))))))))

def F_Vd (generation:Int) (x:Slc) (R:Slc→WP) (w:World):Prop :=
 C_w (Slc.mk none 0 0) 1464880980 4 w (fun(b_:Slc) (v11_1:Int) w1=>C_w (Slc.mk none 0 0) generation 8 w1 (fun(c:Slc) (v16_1:Int) w2=>C_w c (IntKind.u64.wrap ((x.len:Nat):Int)) 4 w2 (fun(c1:Slc) (v24_1:Int) w3=>C_4b c1 w3 (fun(v28:Int) w4=>C_5 v28 x w4 (fun(v30:Int) w5=>∃ src,zh w5 c1 1 src∧zj 1 1 y_e [Value.int .u8 0] b_ src c1.len w5 (fun b_1 w6=>C_w b_1 (IntKind.u64.wrap v30) 4 w6 (fun(b_2:Slc) (v38_1:Int) w7=>∃ src,zh w7 x 1 src∧zj 1 1 y_e [Value.int .u8 0] b_2 src x.len w7 (fun v43 w8=>R v43 w8))))))))

def F_Nd (d:OA) (R:Int→WP) (w:World):Prop :=
 (d.isNone=true→(R 0 w)) ∧
 (d.isNone=false→(IsAt d∧(∃(v8:Int),w.cell? ⟨(pblk d),(poff d),none⟩=some (Vi v8)∧(R v8 w))))

def F_Rb (t_:Slc) (l_:Slc) (R:Bool→WP) (again_:Int→WP) (i:Int) (w1:World):Prop :=
 ((decide (i<((l_.len:Nat):Int)))=true→(IsAt t_.ptr∧(0≤i∧i<((t_.len:Nat):Int)∧(∃(v28:Int),w1.cell? ⟨(pblk t_.ptr),(poff t_.ptr)+i.toNat,none⟩=some (Vi v28)∧(IsAt l_.ptr∧(0≤i∧i<((l_.len:Nat):Int)∧(∃(v32:Int),w1.cell? ⟨(pblk l_.ptr),(poff l_.ptr)+i.toNat,none⟩=some (Vi v32)∧(∀ w2,Ext w1 w2→(((v28 != v32)=true→(R false w2)) ∧
 ((v28 != v32)=false→(again_ (IntKind.i64.wrap (i+1)) w2))))))))))) ∧
 ((decide (i<((l_.len:Nat):Int)))=false→(0≤IntKind.i64.wrap (((l_.len:Nat):Int)+1)∧IntKind.i64.wrap (((l_.len:Nat):Int)+1)≤((t_.cap:Nat):Int)∧(IsAt t_.ptr∧(0≤((l_.len:Nat):Int)∧((l_.len:Nat):Int)<(((IntKind.i64.wrap (((l_.len:Nat):Int)+1)).toNat:Nat):Int)∧(∃(x:Int),w1.cell? ⟨(pblk t_.ptr),(poff t_.ptr)+((l_.len:Nat):Int).toNat,none⟩=some (Vi x)∧(R (x==7777) w1))))))

def F_zd (t_:Slc) (l_:Slc) (R:Bool→WP) (w:World):Prop :=
 (((((t_.len:Nat):Int) != ((l_.len:Nat):Int))||(decide (((t_.cap:Nat):Int)≤((l_.len:Nat):Int))))=true→(R false w)) ∧
 (((((t_.len:Nat):Int) != ((l_.len:Nat):Int))||(decide (((t_.cap:Nat):Int)≤((l_.len:Nat):Int))))=false→(∃(I:Int→WP) (μ:Int→World→Nat),I 0 w ∧
 ∀(i:Int) w,I i w→F_Rb t_ l_ R (fun(i':Int) w'=>I i' w'∧μ i' w'<μ i w) i w))

def F_Mb (t_:Slc) (l_:Slc) (R:Bool→WP) (again_:Int→WP) (i:Int) (w1:World):Prop :=
 ((decide (i<((l_.len:Nat):Int)))=true→(IsAt t_.ptr∧(0≤i∧i<((t_.len:Nat):Int)∧(∃(v28:T_d),ze w1 (pblk t_.ptr) ((poff t_.ptr)+i.toNat*2) [Value.string v28.Key,Vs v28.Versions]∧(IsAt l_.ptr∧(0≤i∧i<((l_.len:Nat):Int)∧(∃(v32:T_d),ze w1 (pblk l_.ptr) ((poff l_.ptr)+i.toNat*2) [Value.string v32.Key,Vs v32.Versions]∧(∃(v33:Bool),(∀ w',Ext w1 w'→C_1b v28 v32 w' (fun(v33':Bool) w''=>v33'=v33∧Ext w' w''))∧(∀ w3,Ext w1 w3→(((!v33)=true→(R false w3)) ∧
 ((!v33)=false→(again_ (IntKind.i64.wrap (i+1)) w3)))))))))))) ∧
 ((decide (i<((l_.len:Nat):Int)))=false→(0≤IntKind.i64.wrap (((l_.len:Nat):Int)+1)∧IntKind.i64.wrap (((l_.len:Nat):Int)+1)≤((t_.cap:Nat):Int)∧(IsAt t_.ptr∧(0≤((l_.len:Nat):Int)∧((l_.len:Nat):Int)<(((IntKind.i64.wrap (((l_.len:Nat):Int)+1)).toNat:Nat):Int)∧(∃(v43:T_d),ze w1 (pblk t_.ptr) ((poff t_.ptr)+((l_.len:Nat):Int).toNat*2) [Value.string v43.Key,Vs v43.Versions]∧(∀ b_ w4,b_=w1.heap.size→w4=w1.alloc (Obj.cells ([Value.string ByteArray.empty,Value.slice none 0 0]).toArray y_d (0,0))→(zd w4 b_ 0 2∧(∀ w5,w5=World.puts b_ 0 [Value.string v43.Key,Vs v43.Versions] w4→(∃(v45:ByteArray),w5.cell? ⟨b_,0,none⟩=some (Value.string v45)∧(R (v45.toList==(ByteArray.mk #[115,112,97,114,101]).toList) w5))))))))))

def F_rd (t_:Slc) (l_:Slc) (R:Bool→WP) (w:World):Prop :=
 (((((t_.len:Nat):Int) != ((l_.len:Nat):Int))||(decide (((t_.cap:Nat):Int)≤((l_.len:Nat):Int))))=true→(R false w)) ∧
 (((((t_.len:Nat):Int) != ((l_.len:Nat):Int))||(decide (((t_.cap:Nat):Int)≤((l_.len:Nat):Int))))=false→(∃(I:Int→WP) (μ:Int→World→Nat),I 0 w ∧
 ∀(i:Int) w,I i w→F_Mb t_ l_ R (fun(i':Int) w'=>I i' w'∧μ i' w'<μ i w) i w))

def F_sd (b_:OA) (l_:Slc) (R:WP) (w:World):Prop :=
 C_wb b_ l_ w (fun w1=>R w1)

def F_Ib (b_:OA) (l_:Slc) (R:WP) (again_:Int→WP) (i:Int) (w1:World):Prop :=
 ((decide (i<((l_.len:Nat):Int)))=true→(IsAt l_.ptr∧(0≤i∧i<((l_.len:Nat):Int)∧(∃(v16:Slc),w1.cell? ⟨(pblk l_.ptr),((poff l_.ptr)+i.toNat*2)+1,none⟩=some (Vs v16)∧(C_jb b_ v16 w1 (fun w2=>again_ (IntKind.i64.wrap (i+1)) w2)))))) ∧
 ((decide (i<((l_.len:Nat):Int)))=false→(C_kb b_ l_ w1 (fun w3=>R w3)))

def F_ee (b_:OA) (l_:Slc) (R:WP) (w:World):Prop :=
 ∃(I:Int→WP) (μ:Int→World→Nat),I 0 w ∧
 ∀(i:Int) w,I i w→F_Ib b_ l_ R (fun(i':Int) w'=>I i' w'∧μ i' w'<μ i w) i w

def F_Ob (slot:Int) (R:Int→WP) (t5:Bool) (w1:World):Prop :=
 (t5=true→(R 2 w1)) ∧
 (t5=false→((((slot != 0)&&(slot != 1))=true→(R 1 w1)) ∧
 (((slot != 0)&&(slot != 1))=false→(R 0 w1))))

def F_Wd (d:OA) (slot:Int) (R:Int→WP) (w:World):Prop :=
 (d.isNone=true→(F_Ob slot R true w)) ∧
 (d.isNone=false→(IsAt d∧(∃(v12:Bool),w.cell? ⟨(pblk d),(poff d),none⟩=some (Vo v12)∧(F_Ob slot R (!v12) w))))

def F_zb (d:OA) (R:Int→WP) (t13:Bool) (w1:World):Prop :=
 (t13=true→(IsAt d∧(zd w1 (pblk d) ((poff d)+5) 1∧(∀ w2,w2=World.puts (pblk d) ((poff d)+5) [Vo true] w1→(R 11 w2))))) ∧
 (t13=false→(IsAt d∧(∃(v21:Int),w1.cell? ⟨(pblk d),(poff d)+4,none⟩=some (Vi v21)∧(IsAt d∧(zd w1 (pblk d) ((poff d)+4) 1∧(∀ w3,w3=World.puts (pblk d) ((poff d)+4) [Vi (if(-1)>(IntKind.i64.wrap (v21 - 1)) then(-1) else(IntKind.i64.wrap (v21 - 1)))] w1→(IsAt d∧(∃(v29:Int),w3.cell? ⟨(pblk d),(poff d)+6,none⟩=some (Vi v29)∧(zd w3 (pblk d) ((poff d)+6) 1∧(∀ w4,w4=World.puts (pblk d) ((poff d)+6) [Vi (IntKind.i64.wrap (v29+1))] w3→(R 0 w4)))))))))))

def F_Ae (d:OA) (R:Int→WP) (w:World):Prop :=
 IsAt d∧(∃(v6:Bool),w.cell? ⟨(pblk d),(poff d)+5,none⟩=some (Vo v6)∧((v6=true→(F_zb d R true w)) ∧
 (v6=false→(IsAt d∧(∃(v11:Int),w.cell? ⟨(pblk d),(poff d)+4,none⟩=some (Vi v11)∧(F_zb d R (v11==0) w))))))

def F_v (d:OA) (R:Int→WP) (w3:World):Prop :=
 IsAt d∧(∃(v34:Int),w3.cell? ⟨(pblk d),(poff d)+5,none⟩=some (Vi v34)∧(IsAt d∧(zd w3 (pblk d) ((poff d)+5) 1∧(∀ w4,w4=World.puts (pblk d) ((poff d)+5) [Vi (IntKind.i64.wrap (v34+1))] w3→(R 0 w4)))))

def F_l (d:OA) (R:Int→WP) (t13:Bool) (w1:World):Prop :=
 (t13=true→(IsAt d∧(zd w1 (pblk d) ((poff d)+4) 1∧(∀ w2,w2=World.puts (pblk d) ((poff d)+4) [Vo true] w1→(R 11 w2))))) ∧
 (t13=false→(IsAt d∧(∃(v20:Int),w1.cell? ⟨(pblk d),(poff d)+3,none⟩=some (Vi v20)∧(((decide (v20>0))=true→(IsAt d∧(∃(v26:Int),w1.cell? ⟨(pblk d),(poff d)+3,none⟩=some (Vi v26)∧(IsAt d∧(zd w1 (pblk d) ((poff d)+3) 1∧(∀ w5,w5=World.puts (pblk d) ((poff d)+3) [Vi (IntKind.i64.wrap (v26 - 1))] w1→(F_v d R w5))))))) ∧
 ((decide (v20>0))=false→(F_v d R w1))))))

def F_Ad (d:OA) (R:Int→WP) (w:World):Prop :=
 IsAt d∧(∃(v6:Bool),w.cell? ⟨(pblk d),(poff d)+4,none⟩=some (Vo v6)∧((v6=true→(F_l d R true w)) ∧
 (v6=false→(IsAt d∧(∃(v11:Int),w.cell? ⟨(pblk d),(poff d)+3,none⟩=some (Vi v11)∧(F_l d R (v11==0) w))))))

def F_Wb (b_:Slc) (R:T_b→Int→Bool→WP) (b_1:Nat) (generation:Int) (t40:Bool) (w6:World):Prop :=
 (t40=true→(zd w6 b_1 0 3∧(∀ w7,w7=World.puts b_1 0 [Vi 0,Value.slice none 0 0,Value.slice none 0 0] w6→(∃(res1:T_b),ze w7 b_1 0 [Vi res1.Mark,Vs res1.Beyond,Vs res1.Held]∧(R res1 0 false w7))))) ∧
 (t40=false→((0≤(20:Int)∧(20:Int)≤((b_.len:Nat):Int)∧((b_.len:Nat):Int)≤((b_.cap:Nat):Int)∧((b_.cap:Nat):Int)≤((b_.cap:Nat):Int))∧(∀ s,s=Slc.cut 1 b_ 20 ((b_.len:Nat):Int) ((b_.cap:Nat):Int)→(C_Gc s w6 (fun(v45:T_b) (e:Int) w8=>zd w8 b_1 0 3∧(∀ w9,w9=World.puts b_1 0 [Vi v45.Mark,Vs v45.Beyond,Vs v45.Held] w8→(∃(v48:T_b),ze w9 b_1 0 [Vi v48.Mark,Vs v48.Beyond,Vs v48.Held]∧(zd w9 b_1 0 3∧(∀ w10,w10=World.puts b_1 0 [Vi v48.Mark,Vs v48.Beyond,Vs v48.Held] w9→(∃(res2:T_b),ze w10 b_1 0 [Vi res2.Mark,Vs res2.Beyond,Vs res2.Held]∧(R res2 generation (e==0) w10)))))))))))

def F_Xd (b_:Slc) (R:T_b→Int→Bool→WP) (b_1:Nat) (b_2:Nat) (again_:Int→Int→WP) (generation:Int) (i:Int) (w5:World):Prop :=
 ((decide (i≥4))=true→(0≤i∧i<(20:Int)∧(∃(v24:Int),w5.cell? ⟨b_2,0+i.toNat,none⟩=some (Value.int .u8 v24)∧(again_ (bor .u64 (IntKind.u64.wrap (generation*2 ^ 8)) (IntKind.u64.wrap v24)) (IntKind.i64.wrap (i - 1)) w5)))) ∧
 ((decide (i≥4))=false→(∀ w11,(∃ k,w11=w5.drewN k)→((((decide (generation<1))||(decide (generation>4611686018427387904)))=true→(F_Wb b_ R b_1 generation true w11)) ∧
 (((decide (generation<1))||(decide (generation>4611686018427387904)))=false→(∃(v34:List Int),(v34.length=20)∧ze w11 b_2 0 (List.map (Value.int .u8) v34)∧((0≤(20:Int)∧(20:Int)≤((b_.len:Nat):Int)∧((b_.len:Nat):Int)≤((b_.cap:Nat):Int)∧((b_.cap:Nat):Int)≤((b_.cap:Nat):Int))∧(∀ s1,s1=Slc.cut 1 b_ 20 ((b_.len:Nat):Int) ((b_.cap:Nat):Int)→(C_7b generation s1 w11 (fun(v38:List Int) w12=>(v38.length=20)→ze w12 b_2 0 (List.map (Value.int .u8) v34)∧(F_Wb b_ R b_1 generation (!(v34==v38)) w12))))))))))

def F_0e (b_:Slc) (R:T_b→Int→Bool→WP) (w:World):Prop :=
 ∀ b_1 w1,b_1=w.heap.size→w1=w.alloc (Obj.cells ([Vi 0,Value.slice none 0 0,Value.slice none 0 0]).toArray y_a (0,0))→(((decide (((b_.len:Nat):Int)<20))=true→(zd w1 b_1 0 3∧(∀ w2,w2=World.puts b_1 0 [Vi 0,Value.slice none 0 0,Value.slice none 0 0] w1→(∃(res:T_b),ze w2 b_1 0 [Vi res.Mark,Vs res.Beyond,Vs res.Held]∧(R res 0 false w2))))) ∧
 ((decide (((b_.len:Nat):Int)<20))=false→(0≤(20:Int)∧(20:Int)≤((b_.cap:Nat):Int)∧(IsAt b_.ptr∧(∃(v15:List Int),(v15.length=20)∧ze w1 (pblk b_.ptr) (poff b_.ptr) (List.map (Value.int .u8) v15)∧(∀ b_2 w3,b_2=w1.heap.size→w3=w1.alloc (Obj.cells ((List.map (Value.int .u8) (List.replicate 20 0))).toArray y_j (0,0))→(zd w3 b_2 0 20∧(∀ w4,w4=World.puts b_2 0 (List.map (Value.int .u8) v15) w3→(∃(I:Int→Int→WP) (μ:Int→Int→World→Nat),I 0 11 w4 ∧
 ∀(generation:Int) (i:Int) w,I generation i w→F_Xd b_ R b_1 b_2 (fun(generation':Int) (i':Int) w'=>I generation' i' w'∧μ generation' i' w'<μ generation i w) generation i w)))))))))

def F_g (b_:Slc) (R:T_b→Int→Bool→WP) (b_1:Nat) (generation:Int) (sum:Int) (t56:Bool) (w12:World):Prop :=
 (t56=true→(zd w12 b_1 0 3∧(∀ w13,w13=World.puts b_1 0 [Vi 0,Value.slice none 0 0,Value.slice none 0 0] w12→(∃(res:T_b),ze w13 b_1 0 [Vi res.Mark,Vs res.Beyond,Vs res.Held]∧(R res 0 false w13))))) ∧
 (t56=false→((0≤(20:Int)∧(20:Int)≤((b_.len:Nat):Int)∧((b_.len:Nat):Int)≤((b_.cap:Nat):Int)∧((b_.cap:Nat):Int)≤((b_.cap:Nat):Int))∧(∀ s,s=Slc.cut 1 b_ 20 ((b_.len:Nat):Int) ((b_.cap:Nat):Int)→((0≤(4:Int)∧(4:Int)≤(16:Int)∧(16:Int)≤((b_.cap:Nat):Int)∧((b_.cap:Nat):Int)≤((b_.cap:Nat):Int))∧(∀ s1,s1=Slc.cut 1 b_ 4 16 ((b_.cap:Nat):Int)→(C_4b s1 w12 (fun(v63:Int) w14=>C_5 v63 s w14 (fun(v65:Int) w15=>((sum != (IntKind.u64.wrap v65))=true→(zd w15 b_1 0 3∧(∀ w16,w16=World.puts b_1 0 [Vi 0,Value.slice none 0 0,Value.slice none 0 0] w15→(∃(res1:T_b),ze w16 b_1 0 [Vi res1.Mark,Vs res1.Beyond,Vs res1.Held]∧(R res1 0 false w16))))) ∧
 ((sum != (IntKind.u64.wrap v65))=false→(C_9b s w15 (fun(v71:T_b) (e:Int) w17=>∀ b_3 w18,b_3=w17.heap.size→w18=w17.alloc (Obj.cells ([Vi 0,Value.slice none 0 0,Value.slice none 0 0]).toArray y_a (0,0))→(zd w18 b_3 0 3∧(∀ w19,w19=World.puts b_3 0 [Vi v71.Mark,Vs v71.Beyond,Vs v71.Held] w18→(∃(v74:T_b),ze w19 b_3 0 [Vi v74.Mark,Vs v74.Beyond,Vs v74.Held]∧(zd w19 b_1 0 3∧(∀ w20,w20=World.puts b_1 0 [Vi v74.Mark,Vs v74.Beyond,Vs v74.Held] w19→(∃(res2:T_b),ze w20 b_1 0 [Vi res2.Mark,Vs res2.Beyond,Vs res2.Held]∧(R res2 generation (e==0) w20))))))))))))))))))

def F_Yd (b_:Slc) (R:T_b→Int→Bool→WP) (w:World):Prop :=
 ∀ b_1 w1,b_1=w.heap.size→w1=w.alloc (Obj.cells ([Vi 0,Value.slice none 0 0,Value.slice none 0 0]).toArray y_a (0,0))→(∀ b_2 w2,b_2=w1.heap.size→w2=w1.alloc (Obj.cells ([Vo false,Value.slice none 0 0,Vi 0,Vi 0]).toArray y_b (0,0))→(zd w2 b_2 0 4∧(∀ w3,w3=World.puts b_2 0 [Vo false,Vs b_,Vi 0,Vi 0] w2→(∃(v16:T_a),ze w3 b_2 0 [Vo v16.Gone,Vs v16.B,Vi v16.At,Vi v16.Code]∧(C_c v16 4 w3 (fun(v17:T_a) (magic:Int) w4=>zd w4 b_2 0 4∧(∀ w5,w5=World.puts b_2 0 [Vo v17.Gone,Vs v17.B,Vi v17.At,Vi v17.Code] w4→(∃(v21:T_a),ze w5 b_2 0 [Vo v21.Gone,Vs v21.B,Vi v21.At,Vi v21.Code]∧(C_c v21 8 w5 (fun(v22:T_a) (generation:Int) w6=>zd w6 b_2 0 4∧(∀ w7,w7=World.puts b_2 0 [Vo v22.Gone,Vs v22.B,Vi v22.At,Vi v22.Code] w6→(∃(v26:T_a),ze w7 b_2 0 [Vo v26.Gone,Vs v26.B,Vi v26.At,Vi v26.Code]∧(C_c v26 4 w7 (fun(v27:T_a) (length:Int) w8=>zd w8 b_2 0 4∧(∀ w9,w9=World.puts b_2 0 [Vo v27.Gone,Vs v27.B,Vi v27.At,Vi v27.Code] w8→(∃(v31:T_a),ze w9 b_2 0 [Vo v31.Gone,Vs v31.B,Vi v31.At,Vi v31.Code]∧(C_c v31 4 w9 (fun(v32:T_a) (sum:Int) w10=>zd w10 b_2 0 4∧(∀ w11,w11=World.puts b_2 0 [Vo v32.Gone,Vs v32.B,Vi v32.At,Vi v32.Code] w10→(∃(v36:Int),w11.cell? ⟨b_2,3,none⟩=some (Vi v36)∧((((((v36 != 0)||(magic != 1464880980))||(decide (generation<1)))||(decide (generation>4611686018427387904)))=true→(F_g b_ R b_1 generation sum true w11)) ∧
 (((((v36 != 0)||(magic != 1464880980))||(decide (generation<1)))||(decide (generation>4611686018427387904)))=false→(∃(v52:T_a),ze w11 b_2 0 [Vo v52.Gone,Vs v52.B,Vi v52.At,Vi v52.Code]∧(C_B v52 w11 (fun(v53:Int) w21=>F_g b_ R b_1 generation sum (length != (IntKind.u64.wrap v53)) w21)))))))))))))))))))))))))

def F_Sb (a_:Slc) (b_:Slc) (R:Bool→WP) (again_:Int→WP) (i:Int) (w1:World):Prop :=
 ((decide (i<((a_.len:Nat):Int)))=true→(IsAt a_.ptr∧(0≤i∧i<((a_.len:Nat):Int)∧(∃(v20:Int),w1.cell? ⟨(pblk a_.ptr),(poff a_.ptr)+i.toNat,none⟩=some (Vi v20)∧(IsAt b_.ptr∧(0≤i∧i<((b_.len:Nat):Int)∧(∃(v24:Int),w1.cell? ⟨(pblk b_.ptr),(poff b_.ptr)+i.toNat,none⟩=some (Vi v24)∧(∀ w2,Ext w1 w2→(((v20 != v24)=true→(R false w2)) ∧
 ((v20 != v24)=false→(again_ (IntKind.i64.wrap (i+1)) w2))))))))))) ∧
 ((decide (i<((a_.len:Nat):Int)))=false→(R true w1))

def F_Bd (a_:Slc) (b_:Slc) (R:Bool→WP) (w:World):Prop :=
 ((((a_.len:Nat):Int) != ((b_.len:Nat):Int))=true→(R false w)) ∧
 ((((a_.len:Nat):Int) != ((b_.len:Nat):Int))=false→(∃(I:Int→WP) (μ:Int→World→Nat),I 0 w ∧
 ∀(i:Int) w,I i w→F_Sb a_ b_ R (fun(i':Int) w'=>I i' w'∧μ i' w'<μ i w) i w))

def F_Nb (a_:Slc) (b_:Slc) (R:Bool→WP) (again_:Int→WP) (i:Int) (w1:World):Prop :=
 ((decide (i<((a_.len:Nat):Int)))=true→(IsAt a_.ptr∧(0≤i∧i<((a_.len:Nat):Int)∧(∃(v20:T_d),ze w1 (pblk a_.ptr) ((poff a_.ptr)+i.toNat*2) [Value.string v20.Key,Vs v20.Versions]∧(IsAt b_.ptr∧(0≤i∧i<((b_.len:Nat):Int)∧(∃(v24:T_d),ze w1 (pblk b_.ptr) ((poff b_.ptr)+i.toNat*2) [Value.string v24.Key,Vs v24.Versions]∧(∃(v25:Bool),(∀ w',Ext w1 w'→C_2b v20 v24 w' (fun(v25':Bool) w''=>v25'=v25∧Ext w' w''))∧(∀ w3,Ext w1 w3→(((!v25)=true→(R false w3)) ∧
 ((!v25)=false→(again_ (IntKind.i64.wrap (i+1)) w3)))))))))))) ∧
 ((decide (i<((a_.len:Nat):Int)))=false→(R true w1))

def F_td (a_:Slc) (b_:Slc) (R:Bool→WP) (w:World):Prop :=
 ((((a_.len:Nat):Int) != ((b_.len:Nat):Int))=true→(R false w)) ∧
 ((((a_.len:Nat):Int) != ((b_.len:Nat):Int))=false→(∃(I:Int→WP) (μ:Int→World→Nat),I 0 w ∧
 ∀(i:Int) w,I i w→F_Nb a_ b_ R (fun(i':Int) w'=>I i' w'∧μ i' w'<μ i w) i w))

def F_le (s:OA) (R:Int→WP) (w:World):Prop :=
 IsAt s∧(∃(v6:Slc),w.cell? ⟨(pblk s),(poff s)+2,none⟩=some (Vs v6)∧(R (IntKind.i64.wrap (1+(IntKind.i64.wrap (Int.tdiv (IntKind.i64.wrap ((IntKind.i64.wrap (((v6.len:Nat):Int)+64)) - 1)) 64)))) w))

def F_ud (s:Slc) (R:Slc→WP) (w:World):Prop :=
 (s.ptr.isNone=true→(R (Slc.mk none 0 0) w)) ∧
 (s.ptr.isNone=false→(∀ b_ w1,b_=w.heap.size→w1=w.alloc (Obj.cells ([]).toArray y_e (0,0))→(∃ src,zh w1 s 1 src∧zj 1 1 y_e [Value.int .u8 0] (Slc.mk (some ⟨b_,0,none⟩) 0 0) src s.len w1 (fun v7 w2=>R v7 w2))))

def F_Kd (n_:Int) (R:Int→WP) (w:World):Prop :=
 R (IntKind.i64.wrap ((-1000) - n_)) w

def F_7c (n_:Int) (R:T_c→WP) (w:World):Prop :=
 ∀ b_ w1,b_=w.heap.size→w1=w.alloc (Obj.cells ([Vi 0,Value.string ByteArray.empty,Vo false]).toArray y_c (0,0))→(zd w1 b_ 0 3∧(∀ w2,w2=World.puts b_ 0 [Vi (IntKind.i64.wrap ((-1000) - n_)),Value.string ByteArray.empty,Vo false] w1→(∃(res:T_c),ze w2 b_ 0 [Vi res.Number,Value.string res.Val,Vo res.Drop]∧(R res w2))))

def F_Cd (n_:Int) (R:T_d→WP) (w:World):Prop :=
 ∀ b_ w1,b_=w.heap.size→w1=w.alloc (Obj.cells ([Value.string ByteArray.empty,Value.slice none 0 0]).toArray y_d (0,0))→(C_Vb n_ w1 (fun(v4:ByteArray) w2=>zd w2 b_ 0 2∧(∀ w3,w3=World.puts b_ 0 [Value.string v4,Value.slice none 0 0] w2→(∃(res:T_d),ze w3 b_ 0 [Value.string res.Key,Vs res.Versions]∧(R res w3)))))

def F_Zd (x:Int) (n_:Int) (R:Bool→WP) (w:World):Prop :=
 R (x==(IntKind.i64.wrap ((-1000) - n_))) w

def F_vd (x:T_c) (n_:Int) (R:Bool→WP) (w:World):Prop :=
 ∀ b_ w1,b_=w.heap.size→w1=w.alloc (Obj.cells ([Vi x.Number,Value.string x.Val,Vo x.Drop]).toArray y_c (0,0))→(∃(v5:T_c),ze w1 b_ 0 [Vi v5.Number,Value.string v5.Val,Vo v5.Drop]∧(R (((v5.Number==(IntKind.i64.wrap ((-1000) - n_)))&&(v5.Val==ByteArray.empty))&&(v5.Drop==false)) w1))

def F_Od (x:T_d) (n_:Int) (R:Bool→WP) (w:World):Prop :=
 ∀ b_ w1,b_=w.heap.size→w1=w.alloc (Obj.cells ([Value.string x.Key,Vs x.Versions]).toArray y_d (0,0))→(∀ w2,(∃ k,w2=w1.drewN k)→(∃(v6:ByteArray),w2.cell? ⟨b_,0,none⟩=some (Value.string v6)∧(C_Vb n_ w2 (fun(v8:ByteArray) w3=>w3.cell? ⟨b_,0,none⟩=some (Value.string v6)∧(((v6.toList==v8.toList)=true→(∃(v12:Slc),w3.cell? ⟨b_,1,none⟩=some (Vs v12)∧(R (((v12.len:Nat):Int)==0) w3))) ∧
 ((v6.toList==v8.toList)=false→(R false w3)))))))

def F_Dd (x:T_d) (R:T_d→WP) (w:World):Prop :=
 ∀ b_ w1,b_=w.heap.size→w1=w.alloc (Obj.cells ([Value.string x.Key,Vs x.Versions]).toArray y_d (0,0))→(∀ b_1 w2,b_1=w1.heap.size→w2=w1.alloc (Obj.cells ([Value.string ByteArray.empty,Value.slice none 0 0]).toArray y_d (0,0))→(∀ w3,(∃ k,w3=w2.drewN k)→(∃(v4:ByteArray),w3.cell? ⟨b_,0,none⟩=some (Value.string v4)∧(∃(v6:Slc),w3.cell? ⟨b_,1,none⟩=some (Vs v6)∧(C_xb v6 w3 (fun(v7:Slc) w4=>w4.cell? ⟨b_,0,none⟩=some (Value.string v4)∧(zd w4 b_1 0 2∧(∀ w5,w5=World.puts b_1 0 [Value.string v4,Vs v7] w4→((∃(res:T_d),ze w5 b_1 0 [Value.string res.Key,Vs res.Versions]∧(R res w5)))))))))))

def F_qb (R:Int→WP) (b_:Nat) (t60:Int) (again_2:Int→WP) (b_2:Nat) (t77:Bool) (w11:World):Prop :=
 (t77=true→(R 1 w11)) ∧
 (t77=false→(∃(v80:Slc),w11.cell? ⟨b_,1,none⟩=some (Vs v80)∧(∃(v82:Int),w11.cell? ⟨b_2,0,none⟩=some (Vi v82)∧(C_2 v80 v82 w11 (fun(v83:Int) (ok:Bool) w12=>∃(v87:Int),w12.cell? ⟨b_2,0,none⟩=some (Vi v87)∧(∃(v89:Int),w12.cell? ⟨b_,0,none⟩=some (Vi v89)∧((((decide (v87>v89))&&(!ok))=true→(R 1 w12)) ∧
 (((decide (v87>v89))&&(!ok))=false→(again_2 (IntKind.i64.wrap (t60+1)) w12)))))))))

def F_Jd (R:Int→WP) (b_:Nat) (t53:Int) (again_1:Int→WP) (v58:Slc) (again_2:Int→WP) (t60:Int) (w8:World):Prop :=
 ((decide (t60<((v58.len:Nat):Int)))=true→(IsAt v58.ptr∧(0≤t60∧t60<((v58.len:Nat):Int)∧(∃(v64:T_c),ze w8 (pblk v58.ptr) ((poff v58.ptr)+t60.toNat*3) [Vi v64.Number,Value.string v64.Val,Vo v64.Drop]∧(∀ b_2 w9,b_2=w8.heap.size→w9=w8.alloc (Obj.cells ([Vi 0,Value.string ByteArray.empty,Vo false]).toArray y_c (0,0))→(zd w9 b_2 0 3∧(∀ w10,w10=World.puts b_2 0 [Vi v64.Number,Value.string v64.Val,Vo v64.Drop] w9→(∃(v66:Int),w10.cell? ⟨b_2,0,none⟩=some (Vi v66)∧(∃(v68:Int),w10.cell? ⟨b_,0,none⟩=some (Vi v68)∧(((decide (v66≤v68))=true→(((decide (t60>0))=true→(F_qb R b_ t60 again_2 b_2 true w10)) ∧
 ((decide (t60>0))=false→(∃(v75:Bool),w10.cell? ⟨b_2,2,none⟩=some (Vo v75)∧(F_qb R b_ t60 again_2 b_2 v75 w10))))) ∧
 ((decide (v66≤v68))=false→(F_qb R b_ t60 again_2 b_2 false w10)))))))))))) ∧
 ((decide (t60<((v58.len:Nat):Int)))=false→(again_1 (IntKind.i64.wrap (t53+1)) w8))

def F_fe (R:Int→WP) (b_:Nat) (v51:Slc) (again_1:Int→WP) (t53:Int) (w5:World):Prop :=
 ((decide (t53<((v51.len:Nat):Int)))=true→(IsAt v51.ptr∧(0≤t53∧t53<((v51.len:Nat):Int)∧(∃(v56:T_d),ze w5 (pblk v51.ptr) ((poff v51.ptr)+t53.toNat*2) [Value.string v56.Key,Vs v56.Versions]∧(∀ b_1 w6,b_1=w5.heap.size→w6=w5.alloc (Obj.cells ([Value.string ByteArray.empty,Value.slice none 0 0]).toArray y_d (0,0))→(zd w6 b_1 0 2∧(∀ w7,w7=World.puts b_1 0 [Value.string v56.Key,Vs v56.Versions] w6→(∃(v58:Slc),w7.cell? ⟨b_1,1,none⟩=some (Vs v58)∧(∃(I:Int→WP) (μ:Int→World→Nat),I 0 w7 ∧
 ∀(t60:Int) w,I t60 w→F_Jd R b_ t53 again_1 v58 (fun(t60':Int) w'=>I t60' w'∧μ t60' w'<μ t60 w) t60 w))))))))) ∧
 ((decide (t53<((v51.len:Nat):Int)))=false→(R 0 w5))

def F_ge (R:Int→WP) (b_:Nat) (v26:Slc) (again_:Int→Int→WP) (least:Int) (t28:Int) (w3:World):Prop :=
 ((decide (t28<((v26.len:Nat):Int)))=true→(IsAt v26.ptr∧(0≤t28∧t28<((v26.len:Nat):Int)∧(∃(n_:Int),w3.cell? ⟨(pblk v26.ptr),(poff v26.ptr)+t28.toNat,none⟩=some (Vi n_)∧((((decide (n_<least))||(decide (n_>65536)))=true→(R 1 w3)) ∧
 (((decide (n_<least))||(decide (n_>65536)))=false→(again_ (IntKind.i64.wrap (n_+1)) (IntKind.i64.wrap (t28+1)) w3))))))) ∧
 ((decide (t28<((v26.len:Nat):Int)))=false→(∃(v44:Slc),w3.cell? ⟨b_,2,none⟩=some (Vs v44)∧(C_Hc v44 w3 (fun(v45:OA) (e:Int) w4=>((e != 0)=true→(R 1 w4)) ∧
 ((e != 0)=false→(∃(v51:Slc),w4.cell? ⟨b_,2,none⟩=some (Vs v51)∧(∃(I:Int→WP) (μ:Int→World→Nat),I 0 w4 ∧
 ∀(t53:Int) w,I t53 w→F_fe R b_ v51 (fun(t53':Int) w'=>I t53' w'∧μ t53' w'<μ t53 w) t53 w)))))))

def F_Zc (R:Int→WP) (b_:Nat) (t21:Bool) (w2:World):Prop :=
 (t21=true→(R 1 w2)) ∧
 (t21=false→(∃(v23:Int),w2.cell? ⟨b_,0,none⟩=some (Vi v23)∧(∃(v26:Slc),w2.cell? ⟨b_,1,none⟩=some (Vs v26)∧(∃(I:Int→Int→WP) (μ:Int→Int→World→Nat),I (IntKind.i64.wrap (v23+2)) 0 w2 ∧
 ∀(least:Int) (t28:Int) w,I least t28 w→F_ge R b_ v26 (fun(least':Int) (t28':Int) w'=>I least' t28' w'∧μ least' t28' w'<μ least t28 w) least t28 w))))

def F_af (s:T_b) (R:Int→WP) (w:World):Prop :=
 ∀ b_ w1,b_=w.heap.size→w1=w.alloc (Obj.cells ([Vi s.Mark,Vs s.Beyond,Vs s.Held]).toArray y_a (0,0))→(∃(v15:Int),w1.cell? ⟨b_,0,none⟩=some (Vi v15)∧(((decide (v15<0))=true→(F_Zc R b_ true w1)) ∧
 ((decide (v15<0))=false→(∃(v19:Int),w1.cell? ⟨b_,0,none⟩=some (Vi v19)∧(F_Zc R b_ (decide (v19>65536)) w1)))))

def F_5e (R:OA→WP) (w:World):Prop :=
 ∀ b_ w1,b_=w.heap.size→w1=w.alloc (Obj.cells ([Vo true,Value.slice none 0 0]).toArray y_u (0,0))→(R (some ⟨b_,0,none⟩) w1)

def F_0c (w_:OA) (R:WP) (again_:Int→WP) (n_1:Int) (w2:World):Prop :=
 ((decide (n_1≥128))=true→(IsAt w_∧(∃(v14:Slc),w2.cell? ⟨(pblk w_),(poff w_)+1,none⟩=some (Vs v14)∧(∀ b_ w3,b_=w2.heap.size→w3=w2.alloc (Obj.cells ([Value.int .u8 (bor .u8 (IntKind.u8.wrap n_1) 128)]).toArray y_e (0,0))→(∃ src,zh w3 (Slc.mk (some ⟨b_,0,none⟩) 1 1) 1 src∧zj 1 1 y_e [Value.int .u8 0] v14 src 1 w3 (fun v19 w4=>IsAt w_∧(zd w4 (pblk w_) ((poff w_)+1) 1∧(∀ w5,w5=World.puts (pblk w_) ((poff w_)+1) [Vs v19] w4→(again_ (Int.fdiv n_1 (2 ^ 7)) w5))))))))) ∧
 ((decide (n_1≥128))=false→(IsAt w_∧(∃(v26:Slc),w2.cell? ⟨(pblk w_),(poff w_)+1,none⟩=some (Vs v26)∧(∀ b_1 w6,b_1=w2.heap.size→w6=w2.alloc (Obj.cells ([Value.int .u8 (IntKind.u8.wrap n_1)]).toArray y_e (0,0))→(∃ src,zh w6 (Slc.mk (some ⟨b_1,0,none⟩) 1 1) 1 src∧zj 1 1 y_e [Value.int .u8 0] v26 src 1 w6 (fun v30 w7=>IsAt w_∧(zd w7 (pblk w_) ((poff w_)+1) 1∧(∀ w8,w8=World.puts (pblk w_) ((poff w_)+1) [Vs v30] w7→(R w8)))))))))

def F_Ue (w_:OA) (n_:Int) (R:WP) (w:World):Prop :=
 C_z w_ w (fun(v5:Bool) w1=>(v5=true→(R w1)) ∧
 (v5=false→(∃(I:Int→WP) (μ:Int→World→Nat),I n_ w1 ∧
 ∀(n_1:Int) w,I n_1 w→F_0c w_ R (fun(n_1':Int) w'=>I n_1' w'∧μ n_1' w'<μ n_1 w) n_1 w)))

def F_Je (w_:OA) (s:ByteArray) (R:WP) (w:World):Prop :=
 C_z w_ w (fun(v5:Bool) w1=>(v5=true→(R w1)) ∧
 (v5=false→(C_g w_ (IntKind.u64.wrap ((s.size:Nat):Int)) w1 (fun w2=>IsAt w_∧(∃(v15:Slc),w2.cell? ⟨(pblk w_),(poff w_)+1,none⟩=some (Vs v15)∧(zj 1 1 y_e [Value.int .u8 0] v15 (zcb s) s.size w2 (fun v17 w3=>IsAt w_∧(zd w3 (pblk w_) ((poff w_)+1) 1∧(∀ w4,w4=World.puts (pblk w_) ((poff w_)+1) [Vs v17] w3→(R w4))))))))))

def F_rc (w_:OA) (width:Int) (R:Int→WP) (again_:Int→Int→WP) (n_1:Int) (t24:Int) (w2:World):Prop :=
 ((decide (t24<width))=true→(IsAt w_∧(∃(v30:Slc),w2.cell? ⟨(pblk w_),(poff w_)+1,none⟩=some (Vs v30)∧(∀ b_ w3,b_=w2.heap.size→w3=w2.alloc (Obj.cells ([Value.int .u8 (IntKind.u8.wrap n_1)]).toArray y_e (0,0))→(∃ src,zh w3 (Slc.mk (some ⟨b_,0,none⟩) 1 1) 1 src∧zj 1 1 y_e [Value.int .u8 0] v30 src 1 w3 (fun v34 w4=>IsAt w_∧(zd w4 (pblk w_) ((poff w_)+1) 1∧(∀ w5,w5=World.puts (pblk w_) ((poff w_)+1) [Vs v34] w4→(again_ (Int.fdiv n_1 (2 ^ 8)) (IntKind.i64.wrap (t24+1)) w5))))))))) ∧
 ((decide (t24<width))=false→(R 0 w2))

def F_Be (w_:OA) (n_:Int) (width:Int) (R:Int→WP) (w:World):Prop :=
 C_z w_ w (fun(v9:Bool) w1=>(v9=true→(R 2 w1)) ∧
 (v9=false→((((decide (width<1))||(decide (width>8)))=true→(R 1 w1)) ∧
 (((decide (width<1))||(decide (width>8)))=false→(0≤IntKind.i64.wrap (8*width)∧((((Int.fdiv n_ (2 ^ (min (IntKind.i64.wrap (8*width)).toNat 64))) != 0)=true→(R 3 w1)) ∧
 (((Int.fdiv n_ (2 ^ (min (IntKind.i64.wrap (8*width)).toNat 64))) != 0)=false→(∃(I:Int→Int→WP) (μ:Int→Int→World→Nat),I n_ 0 w1 ∧
 ∀(n_1:Int) (t24:Int) w,I n_1 t24 w→F_rc w_ width R (fun(n_1':Int) (t24':Int) w'=>I n_1' t24' w'∧μ n_1' t24' w'<μ n_1 t24 w) n_1 t24 w))))))))

def F_Ke (w_:OA) (R:Slc→WP) (w:World):Prop :=
 C_z w_ w (fun(v4:Bool) w1=>(v4=true→(R (Slc.mk none 0 0) w1)) ∧
 (v4=false→(IsAt w_∧(∃(v8:Slc),w1.cell? ⟨(pblk w_),(poff w_)+1,none⟩=some (Vs v8)∧(C_v v8 w1 (fun(v9:Slc) w2=>R v9 w2))))))

def F_se (b_:Slc) (n_:Int) (R:WP) (again_:Int→WP) (t7:Int) (w1:World):Prop :=
 ((decide (t7<((b_.len:Nat):Int)))=true→(0≤IntKind.i64.wrap (8*t7)∧(IsAt b_.ptr∧(0≤t7∧t7<((b_.len:Nat):Int)∧(zd w1 (pblk b_.ptr) ((poff b_.ptr)+t7.toNat) 1∧(∀ w2,w2=World.puts (pblk b_.ptr) ((poff b_.ptr)+t7.toNat) [Value.int .u8 (IntKind.u8.wrap (Int.fdiv n_ (2 ^ (min (IntKind.i64.wrap (8*t7)).toNat 64))))] w1→(again_ (IntKind.i64.wrap (t7+1)) w2))))))) ∧
 ((decide (t7<((b_.len:Nat):Int)))=false→(R w1))

def F_if (b_:Slc) (n_:Int) (R:WP) (w:World):Prop :=
 ∃(I:Int→WP) (μ:Int→World→Nat),I 0 w ∧
 ∀(t7:Int) w,I t7 w→F_se b_ n_ R (fun(t7':Int) w'=>I t7' w'∧μ t7' w'<μ t7 w) t7 w

def F_ye (h_:OA) (x:Slc) (R:Int→WP) (w:World):Prop :=
 IsAt h_∧(C_Oc (Slc.mk (some ⟨(pblk h_),(poff h_)+4,none⟩) 12 16) w (fun(v8:Int) w1=>C_yc v8 x w1 (fun(v10:Int) w2=>R v10 w2)))

def F_P (k_:Int) (again_1:Int→WP) (w5:World):Prop :=
 again_1 (IntKind.i64.wrap (k_+1)) w5

def F_Q (R:Int→WP) (k_:Int) (again_1:Int→WP) (t53:Bool) (w7:World):Prop :=
 (t53=true→(R 1 w7)) ∧
 (t53=false→(F_P k_ again_1 w7))

def F_sc (R:Int→WP) (b_:Nat) (i:Int) (again_:Int→WP) (v:Slc) (again_1:Int→WP) (k_:Int) (w4:World):Prop :=
 ((decide (k_<((v.len:Nat):Int)))=true→(IsAt v.ptr∧(0≤k_∧k_<((v.len:Nat):Int)∧(∃(v41:Int),w4.cell? ⟨(pblk v.ptr),(poff v.ptr)+k_.toNat*3,none⟩=some (Vi v41)∧(∃(v43:Int),w4.cell? ⟨b_,0,none⟩=some (Vi v43)∧(∀ w6,Ext w4 w6→(((decide (v41≤v43))=true→(((decide (k_>0))=true→(F_Q R k_ again_1 true w6)) ∧
 ((decide (k_>0))=false→(IsAt v.ptr∧(0≤k_∧k_<((v.len:Nat):Int)∧(∃(v52:Bool),w6.cell? ⟨(pblk v.ptr),((poff v.ptr)+k_.toNat*3)+2,none⟩=some (Vo v52)∧(F_Q R k_ again_1 v52 w6))))))) ∧
 ((decide (v41≤v43))=false→(∀ w8,(∃ k,w8=w6.drewN k)→(∃(v55:Slc),w8.cell? ⟨b_,1,none⟩=some (Vs v55)∧(IsAt v.ptr∧(0≤k_∧k_<((v.len:Nat):Int)∧(∃(v60:Int),w8.cell? ⟨(pblk v.ptr),(poff v.ptr)+k_.toNat*3,none⟩=some (Vi v60)∧(C_cc v55 v60 w8 (fun(v61:Bool) w9=>(((!v61)=true→(R 1 w9)) ∧
 ((!v61)=false→(F_P k_ again_1 w9)))))))))))))))))) ∧
 ((decide (k_<((v.len:Nat):Int)))=false→(again_ (IntKind.i64.wrap (i+1)) w4))

def F_tc (R:Int→WP) (b_:Nat) (again_:Int→WP) (i:Int) (w3:World):Prop :=
 ∃(v20:Slc),w3.cell? ⟨b_,2,none⟩=some (Vs v20)∧(((decide (i<((v20.len:Nat):Int)))=true→(∃(v26:Slc),w3.cell? ⟨b_,2,none⟩=some (Vs v26)∧(IsAt v26.ptr∧(0≤i∧i<((v26.len:Nat):Int)∧(∃(v:Slc),w3.cell? ⟨(pblk v26.ptr),((poff v26.ptr)+i.toNat*2)+1,none⟩=some (Vs v)∧(∃(I:Int→WP) (μ:Int→World→Nat),I 0 w3 ∧
 ∀(k_:Int) w,I k_ w→F_sc R b_ i again_ v (fun(k_':Int) w'=>I k_' w'∧μ k_' w'<μ k_ w) k_ w)))))) ∧
 ((decide (i<((v20.len:Nat):Int)))=false→(R 0 w3)))

def F_t (R:Int→WP) (b_:Nat) (t17:Bool) (w2:World):Prop :=
 (t17=true→(R 1 w2)) ∧
 (t17=false→(∃(I:Int→WP) (μ:Int→World→Nat),I 0 w2 ∧
 ∀(i:Int) w,I i w→F_tc R b_ (fun(i':Int) w'=>I i' w'∧μ i' w'<μ i w) i w))

def F_0d (s:T_b) (R:Int→WP) (w:World):Prop :=
 ∀ b_ w1,b_=w.heap.size→w1=w.alloc (Obj.cells ([Vi s.Mark,Vs s.Beyond,Vs s.Held]).toArray y_a (0,0))→(∃(v7:Int),w1.cell? ⟨b_,0,none⟩=some (Vi v7)∧(∃(v9:Slc),w1.cell? ⟨b_,1,none⟩=some (Vs v9)∧(C_mc v7 v9 w1 (fun(v10:Bool) w10=>((!v10)=true→(F_t R b_ true w10)) ∧
 ((!v10)=false→(∃(v14:Slc),w10.cell? ⟨b_,2,none⟩=some (Vs v14)∧(C_nc v14 w10 (fun(v15:Bool) w11=>F_t R b_ (!v15) w11))))))))

def F_1c (R:Slc→WP) (again_:Slc→Int→WP) (b_1:Slc) (n_1:Int) (w1:World):Prop :=
 ((decide (n_1≥128))=true→(∀ b_2 w2,b_2=w1.heap.size→w2=w1.alloc (Obj.cells ([Value.int .u8 (IntKind.u8.wrap (IntKind.u64.wrap (128+(Int.tmod n_1 128))))]).toArray y_e (0,0))→(∃ src,zh w2 (Slc.mk (some ⟨b_2,0,none⟩) 1 1) 1 src∧zj 1 1 y_e [Value.int .u8 0] b_1 src 1 w2 (fun b_3 w3=>again_ b_3 (IntKind.u64.wrap (Int.tdiv n_1 128)) w3)))) ∧
 ((decide (n_1≥128))=false→(∀ b_4 w4,b_4=w1.heap.size→w4=w1.alloc (Obj.cells ([Value.int .u8 (IntKind.u8.wrap n_1)]).toArray y_e (0,0))→(∃ src,zh w4 (Slc.mk (some ⟨b_4,0,none⟩) 1 1) 1 src∧zj 1 1 y_e [Value.int .u8 0] b_1 src 1 w4 (fun v20 w5=>R v20 w5))))

def F_Ve (b_:Slc) (n_:Int) (R:Slc→WP) (w:World):Prop :=
 ∃(I:Slc→Int→WP) (μ:Slc→Int→World→Nat),I b_ n_ w ∧
 ∀(b_1:Slc) (n_1:Int) w,I b_1 n_1 w→F_1c R (fun(b_1':Slc) (n_1':Int) w'=>I b_1' n_1' w'∧μ b_1' n_1' w'<μ b_1 n_1 w) b_1 n_1 w

def F_Kc (s:ByteArray) (R:Slc→WP) (again_:Slc→Int→WP) (b_1:Slc) (i:Int) (w2:World):Prop :=
 ((decide (i<((s.size:Nat):Int)))=true→(0≤i∧i<((s.size:Nat):Int)∧(∀ b_2 w3,b_2=w2.heap.size→w3=w2.alloc (Obj.cells ([Value.int .u8 (zef s i)]).toArray y_e (0,0))→(∃ src,zh w3 (Slc.mk (some ⟨b_2,0,none⟩) 1 1) 1 src∧zj 1 1 y_e [Value.int .u8 0] b_1 src 1 w3 (fun b_3 w4=>again_ b_3 (IntKind.i64.wrap (i+1)) w4))))) ∧
 ((decide (i<((s.size:Nat):Int)))=false→(R b_1 w2))

def F_be (b_:Slc) (s:ByteArray) (R:Slc→WP) (w:World):Prop :=
 C_h b_ (IntKind.u64.wrap ((s.size:Nat):Int)) w (fun(v10:Slc) w1=>∃(I:Slc→Int→WP) (μ:Slc→Int→World→Nat),I v10 0 w1 ∧
 ∀(b_1:Slc) (i:Int) w,I b_1 i w→F_Kc s R (fun(b_1':Slc) (i':Int) w'=>I b_1' i' w'∧μ b_1' i' w'<μ b_1 i w) b_1 i w)

def F_uc (width:Int) (R:Slc→Int→WP) (again_:Slc→Int→Int→WP) (b_1:Slc) (n_1:Int) (i:Int) (w2:World):Prop :=
 ((decide (i<width))=true→(∀ b_2 w3,b_2=w2.heap.size→w3=w2.alloc (Obj.cells ([Value.int .u8 (IntKind.u8.wrap (Int.tmod n_1 256))]).toArray y_e (0,0))→(∃ src,zh w3 (Slc.mk (some ⟨b_2,0,none⟩) 1 1) 1 src∧zj 1 1 y_e [Value.int .u8 0] b_1 src 1 w3 (fun b_3 w4=>again_ b_3 (IntKind.u64.wrap (Int.tdiv n_1 256)) (IntKind.i64.wrap (i+1)) w4)))) ∧
 ((decide (i<width))=false→(R b_1 0 w2))

def F_u (b_:Slc) (n_:Int) (width:Int) (R:Slc→Int→WP) (t24:Bool) (w1:World):Prop :=
 (t24=true→(R b_ 3 w1)) ∧
 (t24=false→(∃(I:Slc→Int→Int→WP) (μ:Slc→Int→Int→World→Nat),I b_ n_ 0 w1 ∧
 ∀(b_1:Slc) (n_1:Int) (i:Int) w,I b_1 n_1 i w→F_uc width R (fun(b_1':Slc) (n_1':Int) (i':Int) w'=>I b_1' n_1' i' w'∧μ b_1' n_1' i' w'<μ b_1 n_1 i w) b_1 n_1 i w))

def F_1d (b_:Slc) (n_:Int) (width:Int) (R:Slc→Int→WP) (w:World):Prop :=
 (((decide (width<1))||(decide (width>8)))=true→(R b_ 1 w)) ∧
 (((decide (width<1))||(decide (width>8)))=false→(((decide (width<8))=true→(C_dc (IntKind.i64.wrap (8*width)) w (fun(v22:Int) w5=>F_u b_ n_ width R (decide (n_≥v22)) w5))) ∧
 ((decide (width<8))=false→(F_u b_ n_ width R false w))))

def F_fb (k_:Int) (again_1:Int→Int→WP) (c2:Int) (w3:World):Prop :=
 again_1 c2 (IntKind.i64.wrap (k_+1)) w3

def F_Lc (i:Int) (again_:Int→Int→WP) (again_1:Int→Int→WP) (c1:Int) (k_:Int) (w2:World):Prop :=
 ((decide (k_<8))=true→((((Int.tmod c1 2)==1)=true→(F_fb k_ again_1 (bxor .u32 (IntKind.u32.wrap (Int.tdiv c1 2)) 2197175160) w2)) ∧
 (((Int.tmod c1 2)==1)=false→(F_fb k_ again_1 (IntKind.u32.wrap (Int.tdiv c1 2)) w2)))) ∧
 ((decide (k_<8))=false→(again_ c1 (IntKind.i64.wrap (i+1)) w2))

def F_Mc (b_:Slc) (R:Int→WP) (again_:Int→Int→WP) (c:Int) (i:Int) (w1:World):Prop :=
 ((decide (i<((b_.len:Nat):Int)))=true→(IsAt b_.ptr∧(0≤i∧i<((b_.len:Nat):Int)∧(∃(v21:Int),w1.cell? ⟨(pblk b_.ptr),(poff b_.ptr)+i.toNat,none⟩=some (Value.int .u8 v21)∧(∃(I:Int→Int→WP) (μ:Int→Int→World→Nat),I (bxor .u32 c (IntKind.u32.wrap v21)) 0 w1 ∧
 ∀(c1:Int) (k_:Int) w,I c1 k_ w→F_Lc i again_ (fun(c1':Int) (k_':Int) w'=>I c1' k_' w'∧μ c1' k_' w'<μ c1 k_ w) c1 k_ w))))) ∧
 ((decide (i<((b_.len:Nat):Int)))=false→(R (IntKind.u32.wrap (4294967295 - c)) w1))

def F_ce (sum:Int) (b_:Slc) (R:Int→WP) (w:World):Prop :=
 ∃(I:Int→Int→WP) (μ:Int→Int→World→Nat),I (IntKind.u32.wrap (4294967295 - sum)) 0 w ∧
 ∀(c:Int) (i:Int) w,I c i w→F_Mc b_ R (fun(c':Int) (i':Int) w'=>I c' i' w'∧μ c' i' w'<μ c i w) c i w

def F_me (b_:Slc) (R:Int→WP) (w:World):Prop :=
 C_5 0 b_ w (fun(v4:Int) w1=>R v4 w1)

def F_Ed (t_:T_d) (x:T_d) (R:Bool→WP) (w:World):Prop :=
 ∀ b_ w1,b_=w.heap.size→w1=w.alloc (Obj.cells ([Value.string t_.Key,Vs t_.Versions]).toArray y_d (0,0))→(∀ b_1 w2,b_1=w1.heap.size→w2=w1.alloc (Obj.cells ([Value.string x.Key,Vs x.Versions]).toArray y_d (0,0))→(∃(v6:ByteArray),w2.cell? ⟨b_,0,none⟩=some (Value.string v6)∧(∃(v8:ByteArray),w2.cell? ⟨b_1,0,none⟩=some (Value.string v8)∧(((v6.toList==v8.toList)=true→(∃(v12:Slc),w2.cell? ⟨b_,1,none⟩=some (Vs v12)∧(∃(v14:Slc),w2.cell? ⟨b_1,1,none⟩=some (Vs v14)∧(C_yb v12 v14 w2 (fun(v15:Bool) w3=>R v15 w3))))) ∧
 ((v6.toList==v8.toList)=false→(R false w2))))))

def F_Tc (b_:OA) (l_:Slc) (R:WP) (w:World):Prop :=
 IsAt b_∧(∃(v7:Int),w.cell? ⟨(pblk b_),(poff b_),none⟩=some (Vi v7)∧(zd w (pblk b_) (poff b_) 1∧(∀ w1,w1=World.puts (pblk b_) (poff b_) [Vi (IntKind.i64.wrap (v7+1))] w→(∀ w2,(∃ k,w2=w1.drewN k)→(IsAt b_∧(∃(v15:Slc),w2.cell? ⟨(pblk b_),(poff b_)+2,none⟩=some (Vs v15)∧(IsAt b_∧(∃(v20:Int),w2.cell? ⟨(pblk b_),(poff b_),none⟩=some (Vi v20)∧(∀ b_1 w3,b_1=w2.heap.size→w3=w2.alloc (Obj.cells ([Vs l_,Value.slice none 0 0,Vi v20]).toArray y_h (0,0))→(w3.cell? ⟨(pblk b_),(poff b_)+2,none⟩=some (Vs v15)∧(∃ src,zh w3 (Slc.mk (some ⟨b_1,0,none⟩) 1 1) 3 src∧zj 3 56 y_h [Value.slice none 0 0,Value.slice none 0 0,Vi 0] v15 src 1 w3 (fun v23 w4=>(IsAt b_∧(zd w4 (pblk b_) ((poff b_)+2) 1∧(∀ w5,w5=World.puts (pblk b_) ((poff b_)+2) [Vs v23] w4→((R w5)))))))))))))))))

def F_Ic (b_:OA) (l_:Slc) (R:WP) (w:World):Prop :=
 C_L b_ l_ w (fun w1=>R w1)

def F_Jc (b_:OA) (l_:Slc) (R:WP) (w:World):Prop :=
 IsAt b_∧(∃(v7:Int),w.cell? ⟨(pblk b_),(poff b_),none⟩=some (Vi v7)∧(zd w (pblk b_) (poff b_) 1∧(∀ w1,w1=World.puts (pblk b_) (poff b_) [Vi (IntKind.i64.wrap (v7+1))] w→(∀ w2,(∃ k,w2=w1.drewN k)→(IsAt b_∧(∃(v15:Slc),w2.cell? ⟨(pblk b_),(poff b_)+8,none⟩=some (Vs v15)∧(IsAt b_∧(∃(v20:Int),w2.cell? ⟨(pblk b_),(poff b_),none⟩=some (Vi v20)∧(∀ b_1 w3,b_1=w2.heap.size→w3=w2.alloc (Obj.cells ([Vs l_,Value.slice none 0 0,Vi v20]).toArray y_g (0,0))→(w3.cell? ⟨(pblk b_),(poff b_)+8,none⟩=some (Vs v15)∧(∃ src,zh w3 (Slc.mk (some ⟨b_1,0,none⟩) 1 1) 3 src∧zj 3 56 y_g [Value.slice none 0 0,Value.slice none 0 0,Vi 0] v15 src 1 w3 (fun v23 w4=>(IsAt b_∧(zd w4 (pblk b_) ((poff b_)+8) 1∧(∀ w5,w5=World.puts (pblk b_) ((poff b_)+8) [Vs v23] w4→((R w5)))))))))))))))))

def F_Ab (R:T_b→Int→WP) (b_1:Nat) (b_2:Nat) (b_3:Nat) (w24:World):Prop :=
 ∃(v83:Int),w24.cell? ⟨b_2,0,none⟩=some (Vi v83)∧(((v83 != 0)=true→(∀ w25,(∃ k,w25=w24.drewN k)→(∃(v86:Int),w25.cell? ⟨b_2,0,none⟩=some (Vi v86)∧(zd w25 b_1 0 3∧(∀ w26,w26=World.puts b_1 0 [Vi 0,Value.slice none 0 0,Value.slice none 0 0] w25→(w26.cell? ⟨b_2,0,none⟩=some (Vi v86)∧(zd w26 b_2 0 1∧(∀ w27,w27=World.puts b_2 0 [Vi v86] w26→((∃(res:T_b),ze w27 b_1 0 [Vi res.Mark,Vs res.Beyond,Vs res.Held]∧(∃(res1:Int),ze w27 b_2 0 [Vi res1]∧(R res res1 w27)))))))))))) ∧
 ((v83 != 0)=false→(∃(v88:OA),w24.cell? ⟨b_3,0,none⟩=some (Vp v88)∧(C_6 v88 w24 (fun(v89:Int) w28=>((decide (v89>0))=true→(zd w28 b_1 0 3∧(∀ w29,w29=World.puts b_1 0 [Vi 0,Value.slice none 0 0,Value.slice none 0 0] w28→(zd w29 b_2 0 1∧(∀ w30,w30=World.puts b_2 0 [Vi 4] w29→(∃(res2:T_b),ze w30 b_1 0 [Vi res2.Mark,Vs res2.Beyond,Vs res2.Held]∧(∃(res3:Int),ze w30 b_2 0 [Vi res3]∧(R res2 res3 w30)))))))) ∧
 ((decide (v89>0))=false→(∃(v93:T_b),ze w28 b_1 0 [Vi v93.Mark,Vs v93.Beyond,Vs v93.Held]∧(C_xc v93 w28 (fun(v94:Int) w31=>((v94 != 0)=true→(zd w31 b_1 0 3∧(∀ w32,w32=World.puts b_1 0 [Vi 0,Value.slice none 0 0,Value.slice none 0 0] w31→(zd w32 b_2 0 1∧(∀ w33,w33=World.puts b_2 0 [Vi 1] w32→(∃(res4:T_b),ze w33 b_1 0 [Vi res4.Mark,Vs res4.Beyond,Vs res4.Held]∧(∃(res5:Int),ze w33 b_2 0 [Vi res5]∧(R res4 res5 w33)))))))) ∧
 ((v94 != 0)=false→(∃(v97:T_b),ze w31 b_1 0 [Vi v97.Mark,Vs v97.Beyond,Vs v97.Held]∧(zd w31 b_1 0 3∧(∀ w34,w34=World.puts b_1 0 [Vi v97.Mark,Vs v97.Beyond,Vs v97.Held] w31→(zd w34 b_2 0 1∧(∀ w35,w35=World.puts b_2 0 [Vi 0] w34→(∃(res6:T_b),ze w35 b_1 0 [Vi res6.Mark,Vs res6.Beyond,Vs res6.Held]∧(∃(res7:Int),ze w35 b_2 0 [Vi res7]∧(R res6 res7 w35))))))))))))))))))

def F_Xb (b_1:Nat) (b_2:Nat) (b_3:Nat) (b_5:Nat) (b_6:Nat) (keys:Int) (again_1:Int→WP) (b_8:Nat) (k_:Int) (again_2:Int→WP) (t66:Bool) (w44:World):Prop :=
 (t66=true→(∀ w45,(∃ k,w45=w44.drewN k)→(∃(v70:Slc),w45.cell? ⟨b_8,1,none⟩=some (Vs v70)∧(C_Bc (some ⟨b_6,0,none⟩) (some ⟨b_2,0,none⟩) (some ⟨b_3,0,none⟩) (some ⟨b_5,0,none⟩) w45 (fun(v72:T_c) w46=>w46.cell? ⟨b_8,1,none⟩=some (Vs v70)∧(∀ b_9 w47,b_9=w46.heap.size→w47=w46.alloc (Obj.cells ([Vi v72.Number,Value.string v72.Val,Vo v72.Drop]).toArray y_c (0,0))→(w47.cell? ⟨b_8,1,none⟩=some (Vs v70)∧(∃ src,zh w47 (Slc.mk (some ⟨b_9,0,none⟩) 1 1) 3 src∧zj 3 32 y_c [Vi 0,Value.string ByteArray.empty,Vo false] v70 src 1 w47 (fun v74 w48=>(zd w48 b_8 1 1∧(∀ w49,w49=World.puts b_8 1 [Vs v74] w48→((again_2 (IntKind.i64.wrap (k_ - 1)) w49))))))))))))) ∧
 (t66=false→(∃(v77:Slc),w44.cell? ⟨b_1,2,none⟩=some (Vs v77)∧(∃(v78:T_d),ze w44 b_8 0 [Value.string v78.Key,Vs v78.Versions]∧(∀ b_10 w50,b_10=w44.heap.size→w50=w44.alloc (Obj.cells ([Value.string v78.Key,Vs v78.Versions]).toArray y_d (0,0))→(∃ src,zh w50 (Slc.mk (some ⟨b_10,0,none⟩) 1 1) 2 src∧zj 2 40 y_d [Value.string ByteArray.empty,Value.slice none 0 0] v77 src 1 w50 (fun v80 w51=>zd w51 b_1 2 1∧(∀ w52,w52=World.puts b_1 2 [Vs v80] w51→(again_1 (IntKind.u64.wrap (keys - 1)) w52))))))))

def F_wd (b_1:Nat) (b_2:Nat) (b_3:Nat) (b_5:Nat) (b_6:Nat) (keys:Int) (again_1:Int→WP) (b_8:Nat) (again_2:Int→WP) (k_:Int) (w43:World):Prop :=
 ((decide (k_>0))=true→(∃(v64:Int),w43.cell? ⟨b_2,0,none⟩=some (Vi v64)∧(F_Xb b_1 b_2 b_3 b_5 b_6 keys again_1 b_8 k_ again_2 (v64==0) w43))) ∧
 ((decide (k_>0))=false→(F_Xb b_1 b_2 b_3 b_5 b_6 keys again_1 b_8 k_ again_2 false w43))

def F_Yb (R:T_b→Int→WP) (b_1:Nat) (b_2:Nat) (b_3:Nat) (b_5:Nat) (b_6:Nat) (keys:Int) (again_1:Int→WP) (t51:Bool) (w37:World):Prop :=
 (t51=true→(∃(v54:OA),w37.cell? ⟨b_3,0,none⟩=some (Vp v54)∧(C_Wb v54 64 w37 (fun(v55:ByteArray) w38=>∀ b_8 w39,b_8=w38.heap.size→w39=w38.alloc (Obj.cells ([Value.string ByteArray.empty,Value.slice none 0 0]).toArray y_d (0,0))→(zd w39 b_8 0 2∧(∀ w40,w40=World.puts b_8 0 [Value.string v55,Value.slice none 0 0] w39→(∃(v57:Value),w40.cell? ⟨b_5,0,none⟩=some (v57)∧(zT (P:=Tryz.prog) v57 #[Vo false,Vi 0] w40 (fun e' w41=>∃(v58:Bool),e'=Ending.returned (Vo v58)∧((v58=true→(F_Ab R b_1 b_2 b_3 w41)) ∧
 (v58=false→(∃(v59:Value),w41.cell? ⟨b_6,0,none⟩=some (v59)∧(zT (P:=Tryz.prog) v59 #[] w41 (fun e' w42=>∃(v60:Int),e'=Ending.returned (Vi v60)∧(∃(I:Int→WP) (μ:Int→World→Nat),I v60 w42 ∧
 ∀(k_:Int) w,I k_ w→F_wd b_1 b_2 b_3 b_5 b_6 keys again_1 b_8 (fun(k_':Int) w'=>I k_' w'∧μ k_' w'<μ k_ w) k_ w))))))))))))))) ∧
 (t51=false→(F_Ab R b_1 b_2 b_3 w37))

def F_2d (R:T_b→Int→WP) (b_1:Nat) (b_2:Nat) (b_3:Nat) (b_5:Nat) (b_6:Nat) (again_1:Int→WP) (keys:Int) (w36:World):Prop :=
 ((decide (keys>0))=true→(∃(v49:Int),w36.cell? ⟨b_2,0,none⟩=some (Vi v49)∧(F_Yb R b_1 b_2 b_3 b_5 b_6 keys again_1 (v49==0) w36))) ∧
 ((decide (keys>0))=false→(F_Yb R b_1 b_2 b_3 b_5 b_6 keys again_1 false w36))

def F_Zb (R:T_b→Int→WP) (b_1:Nat) (b_2:Nat) (b_3:Nat) (b_5:Nat) (b_6:Nat) (v41:Int) (w23:World):Prop :=
 ∃(I:Int→WP) (μ:Int→World→Nat),I v41 w23 ∧
 ∀(keys:Int) w,I keys w→F_2d R b_1 b_2 b_3 b_5 b_6 (fun(keys':Int) w'=>I keys' w'∧μ keys' w'<μ keys w) keys w

def F_0b (R:T_b→Int→WP) (b_1:Nat) (b_2:Nat) (b_3:Nat) (b_5:Nat) (b_6:Nat) (n_:Int) (again_:Int→WP) (t30:Bool) (w16:World):Prop :=
 (t30=true→(∀ w17,(∃ k,w17=w16.drewN k)→(∃(v34:Slc),w17.cell? ⟨b_1,1,none⟩=some (Vs v34)∧(∃(v35:Value),w17.cell? ⟨b_6,0,none⟩=some (v35)∧(zT (P:=Tryz.prog) v35 #[] w17 (fun e' w18=>∃(v36:Int),e'=Ending.returned (Vi v36)∧w18.cell? ⟨b_1,1,none⟩=some (Vs v34)∧(∀ b_7 w19,b_7=w18.heap.size→w19=w18.alloc (Obj.cells ([Vi v36]).toArray y_i (0,0))→(w19.cell? ⟨b_1,1,none⟩=some (Vs v34)∧(∃ src,zh w19 (Slc.mk (some ⟨b_7,0,none⟩) 1 1) 1 src∧zj 1 8 y_i [Vi 0] v34 src 1 w19 (fun v38 w20=>(zd w20 b_1 1 1∧(∀ w21,w21=World.puts b_1 1 [Vs v38] w20→((again_ (IntKind.i64.wrap (n_ - 1)) w21)))))))))))))) ∧
 (t30=false→(∃(v40:OA),w16.cell? ⟨b_3,0,none⟩=some (Vp v40)∧(C_5b v40 w16 (fun(v41:Int) w22=>∃(v42:Int),w22.cell? ⟨b_2,0,none⟩=some (Vi v42)∧(((v42==0)=true→(∃(v44:Value),w22.cell? ⟨b_5,0,none⟩=some (v44)∧(zT (P:=Tryz.prog) v44 #[Vo false,Vi 0] w22 (fun e' w53=>∃(v45:Bool),e'=Ending.returned (Vo v45)∧(F_Zb R b_1 b_2 b_3 b_5 b_6 v41 w53))))) ∧
 ((v42==0)=false→(F_Zb R b_1 b_2 b_3 b_5 b_6 v41 w22)))))))

def F_xd (R:T_b→Int→WP) (b_1:Nat) (b_2:Nat) (b_3:Nat) (b_5:Nat) (b_6:Nat) (again_:Int→WP) (n_:Int) (w15:World):Prop :=
 ((decide (n_>0))=true→(∃(v28:Int),w15.cell? ⟨b_2,0,none⟩=some (Vi v28)∧(F_0b R b_1 b_2 b_3 b_5 b_6 n_ again_ (v28==0) w15))) ∧
 ((decide (n_>0))=false→(F_0b R b_1 b_2 b_3 b_5 b_6 n_ again_ false w15))

def F_1e (b_:Slc) (R:T_b→Int→WP) (w:World):Prop :=
 ∀ b_1 w1,b_1=w.heap.size→w1=w.alloc (Obj.cells ([Vi 0,Value.slice none 0 0,Value.slice none 0 0]).toArray y_a (0,0))→(∀ b_2 w2,b_2=w1.heap.size→w2=w1.alloc (Obj.cells ([Vi 0]).toArray y_y (0,0))→(C_tc b_ w2 (fun(v14:OA) w3=>∀ b_3 w4,b_3=w3.heap.size→w4=w3.alloc (Obj.cells ([Vp none]).toArray y_s (0,0))→(zd w4 b_3 0 1∧(∀ w5,w5=World.puts b_3 0 [Vp v14] w4→(∀ b_4 w6,b_4=w5.heap.size→w6=w5.alloc (Obj.cells ([Vi 0]).toArray y_i (0,0))→(zd w6 b_4 0 1∧(∀ w7,w7=World.puts b_4 0 [Vi ((b_.len:Nat):Int)] w6→(∀ b_5 w8,b_5=w7.heap.size→w8=w7.alloc (Obj.cells ([Value.nilFunc]).toArray y_m (0,0))→(zd w8 b_5 0 1∧(∀ w9,w9=World.puts b_5 0 [Value.func (.func 155) #[] #[Vp (some ⟨b_2,0,none⟩),Vp (some ⟨b_3,0,none⟩),Vp (some ⟨b_4,0,none⟩)]] w8→(∀ b_6 w10,b_6=w9.heap.size→w10=w9.alloc (Obj.cells ([Value.nilFunc]).toArray y_A (0,0))→(zd w10 b_6 0 1∧(∀ w11,w11=World.puts b_6 0 [Value.func (.func 158) #[] #[Vp (some ⟨b_2,0,none⟩),Vp (some ⟨b_3,0,none⟩),Vp (some ⟨b_5,0,none⟩)]] w10→(∃(v20:Value),w11.cell? ⟨b_6,0,none⟩=some (v20)∧(zT (P:=Tryz.prog) v20 #[] w11 (fun e' w12=>∃(v21:Int),e'=Ending.returned (Vi v21)∧(zd w12 b_1 0 1∧(∀ w13,w13=World.puts b_1 0 [Vi v21] w12→(∃(v23:Value),w13.cell? ⟨b_6,0,none⟩=some (v23)∧(zT (P:=Tryz.prog) v23 #[] w13 (fun e' w14=>∃(v24:Int),e'=Ending.returned (Vi v24)∧(∃(I:Int→WP) (μ:Int→World→Nat),I v24 w14 ∧
 ∀(n_:Int) w,I n_ w→F_xd R b_1 b_2 b_3 b_5 b_6 (fun(n_':Int) w'=>I n_' w'∧μ n_' w'<μ n_ w) n_ w)))))))))))))))))))))))

def F_rb (width:Int) (R:T_a→Int→WP) (b_:Nat) (b_1:Nat) (again_:Int→Int→WP) (n_:Int) (i:Int) (w9:World):Prop :=
 ((decide (i≥0))=true→(∃(v38:Slc),w9.cell? ⟨b_,1,none⟩=some (Vs v38)∧(∃(v40:Int),w9.cell? ⟨b_,2,none⟩=some (Vi v40)∧(IsAt v38.ptr∧(0≤IntKind.i64.wrap (v40+i)∧IntKind.i64.wrap (v40+i)<((v38.len:Nat):Int)∧(∃(v44:Int),w9.cell? ⟨(pblk v38.ptr),(poff v38.ptr)+(IntKind.i64.wrap (v40+i)).toNat,none⟩=some (Value.int .u8 v44)∧(again_ (IntKind.u64.wrap ((IntKind.u64.wrap (256*n_))+(IntKind.u64.wrap v44))) (IntKind.i64.wrap (i - 1)) w9))))))) ∧
 ((decide (i≥0))=false→(∃(v48:Int),w9.cell? ⟨b_,2,none⟩=some (Vi v48)∧(zd w9 b_ 2 1∧(∀ w10,w10=World.puts b_ 2 [Vi (IntKind.i64.wrap (v48+width))] w9→(∃(v52:T_a),ze w10 b_ 0 [Vo v52.Gone,Vs v52.B,Vi v52.At,Vi v52.Code]∧(zd w10 b_1 0 4∧(∀ w11,w11=World.puts b_1 0 [Vo v52.Gone,Vs v52.B,Vi v52.At,Vi v52.Code] w10→(∃(res3:T_a),ze w11 b_1 0 [Vo res3.Gone,Vs res3.B,Vi res3.At,Vi res3.Code]∧(R res3 n_ w11)))))))))

def F_Rd (r:T_a) (width:Int) (R:T_a→Int→WP) (w:World):Prop :=
 ∀ b_ w1,b_=w.heap.size→w1=w.alloc (Obj.cells ([Vo r.Gone,Vs r.B,Vi r.At,Vi r.Code]).toArray y_b (0,0))→(∀ b_1 w2,b_1=w1.heap.size→w2=w1.alloc (Obj.cells ([Vo false,Value.slice none 0 0,Vi 0,Vi 0]).toArray y_b (0,0))→(∃(v8:T_a),ze w2 b_ 0 [Vo v8.Gone,Vs v8.B,Vi v8.At,Vi v8.Code]∧(C_f v8 w2 (fun(v9:Bool) w3=>(v9=true→(∃(v10:T_a),ze w3 b_ 0 [Vo v10.Gone,Vs v10.B,Vi v10.At,Vi v10.Code]∧(zd w3 b_1 0 4∧(∀ w4,w4=World.puts b_1 0 [Vo v10.Gone,Vs v10.B,Vi v10.At,Vi v10.Code] w3→(∃(res:T_a),ze w4 b_1 0 [Vo res.Gone,Vs res.B,Vi res.At,Vi res.Code]∧(R res 0 w4)))))) ∧
 (v9=false→((((decide (width<1))||(decide (width>8)))=true→(∃(v17:T_a),ze w3 b_ 0 [Vo v17.Gone,Vs v17.B,Vi v17.At,Vi v17.Code]∧(C_a v17 1 w3 (fun(v18:T_a) w5=>zd w5 b_1 0 4∧(∀ w6,w6=World.puts b_1 0 [Vo v18.Gone,Vs v18.B,Vi v18.At,Vi v18.Code] w5→(∃(res1:T_a),ze w6 b_1 0 [Vo res1.Gone,Vs res1.B,Vi res1.At,Vi res1.Code]∧(R res1 0 w6))))))) ∧
 (((decide (width<1))||(decide (width>8)))=false→(∃(v21:Slc),w3.cell? ⟨b_,1,none⟩=some (Vs v21)∧(∃(v24:Int),w3.cell? ⟨b_,2,none⟩=some (Vi v24)∧(((decide (width>(IntKind.i64.wrap (((v21.len:Nat):Int) - v24))))=true→(∃(v27:T_a),ze w3 b_ 0 [Vo v27.Gone,Vs v27.B,Vi v27.At,Vi v27.Code]∧(C_a v27 5 w3 (fun(v28:T_a) w7=>zd w7 b_1 0 4∧(∀ w8,w8=World.puts b_1 0 [Vo v28.Gone,Vs v28.B,Vi v28.At,Vi v28.Code] w7→(∃(res2:T_a),ze w8 b_1 0 [Vo res2.Gone,Vs res2.B,Vi res2.At,Vi res2.Code]∧(R res2 0 w8))))))) ∧
 ((decide (width>(IntKind.i64.wrap (((v21.len:Nat):Int) - v24))))=false→(∃(I:Int→Int→WP) (μ:Int→Int→World→Nat),I 0 (IntKind.i64.wrap (width - 1)) w3 ∧
 ∀(n_:Int) (i:Int) w,I n_ i w→F_rb width R b_ b_1 (fun(n_':Int) (i':Int) w'=>I n_' i' w'∧μ n_' i' w'<μ n_ i w) n_ i w))))))))))))

def F_8d (r:T_a) (R:Int→WP) (w:World):Prop :=
 ∀ b_ w1,b_=w.heap.size→w1=w.alloc (Obj.cells ([Vo r.Gone,Vs r.B,Vi r.At,Vi r.Code]).toArray y_b (0,0))→(∃(v4:Bool),w1.cell? ⟨b_,0,none⟩=some (Vo v4)∧((v4=true→(R 0 w1)) ∧
 (v4=false→(∃(v6:Slc),w1.cell? ⟨b_,1,none⟩=some (Vs v6)∧(∃(v9:Int),w1.cell? ⟨b_,2,none⟩=some (Vi v9)∧(R (IntKind.i64.wrap (((v6.len:Nat):Int) - v9)) w1))))))

def F_K (b_5:Nat) (k_:Int) (again_2:Int→WP) (b_6:Nat) (w28:World):Prop :=
 ∃(v86:Slc),w28.cell? ⟨b_5,1,none⟩=some (Vs v86)∧(∃(v87:T_c),ze w28 b_6 0 [Vi v87.Number,Value.string v87.Val,Vo v87.Drop]∧(∀ b_7 w29,b_7=w28.heap.size→w29=w28.alloc (Obj.cells ([Vi v87.Number,Value.string v87.Val,Vo v87.Drop]).toArray y_c (0,0))→(∃ src,zh w29 (Slc.mk (some ⟨b_7,0,none⟩) 1 1) 3 src∧zj 3 32 y_c [Vi 0,Value.string ByteArray.empty,Vo false] v86 src 1 w29 (fun v89 w30=>zd w30 b_5 1 1∧(∀ w31,w31=World.puts b_5 1 [Vs v89] w30→(again_2 (IntKind.i64.wrap (k_+1)) w31))))))

def F_r (b_2:Nat) (b_3:Nat) (i1:Int) (again_1:Int→WP) (b_5:Nat) (k_:Int) (again_2:Int→WP) (t70:Bool) (w22:World):Prop :=
 (t70=true→(C_d (some ⟨b_2,0,none⟩) w22 (fun(v74:Int) w23=>∀ b_6 w24,b_6=w23.heap.size→w24=w23.alloc (Obj.cells ([Vi 0,Value.string ByteArray.empty,Vo false]).toArray y_c (0,0))→(zd w24 b_6 0 3∧(∀ w25,w25=World.puts b_6 0 [Vi v74,Value.string ByteArray.empty,Vo false] w24→(C_Hb (some ⟨b_2,0,none⟩) w25 (fun(v77:Bool) w26=>zd w26 b_6 2 1∧(∀ w27,w27=World.puts b_6 2 [Vo v77] w26→(∃(v80:Bool),w27.cell? ⟨b_6,2,none⟩=some (Vo v80)∧(((!v80)=true→(C_H (some ⟨b_2,0,none⟩) 1024 w27 (fun(v83:ByteArray) w32=>zd w32 b_6 1 1∧(∀ w33,w33=World.puts b_6 1 [Value.string v83] w32→(F_K b_5 k_ again_2 b_6 w33))))) ∧
 ((!v80)=false→(F_K b_5 k_ again_2 b_6 w27)))))))))))) ∧
 (t70=false→(∃(v92:Slc),w22.cell? ⟨b_3,2,none⟩=some (Vs v92)∧(∃(v93:T_d),ze w22 b_5 0 [Value.string v93.Key,Vs v93.Versions]∧(∀ b_8 w34,b_8=w22.heap.size→w34=w22.alloc (Obj.cells ([Value.string v93.Key,Vs v93.Versions]).toArray y_d (0,0))→(∃ src,zh w34 (Slc.mk (some ⟨b_8,0,none⟩) 1 1) 2 src∧zj 2 40 y_d [Value.string ByteArray.empty,Value.slice none 0 0] v92 src 1 w34 (fun v95 w35=>zd w35 b_3 2 1∧(∀ w36,w36=World.puts b_3 2 [Vs v95] w35→(again_1 (IntKind.u64.wrap (i1+1)) w36))))))))

def F_Bb (b_2:Nat) (b_3:Nat) (i1:Int) (again_1:Int→WP) (b_5:Nat) (v60:Int) (again_2:Int→WP) (k_:Int) (w21:World):Prop :=
 ((decide (k_<v60))=true→(∃(v68:Int),w21.cell? ⟨b_2,4,none⟩=some (Vi v68)∧(F_r b_2 b_3 i1 again_1 b_5 k_ again_2 (v68==0) w21))) ∧
 ((decide (k_<v60))=false→(F_r b_2 b_3 i1 again_1 b_5 k_ again_2 false w21))

def F_j (R:T_b→Int→WP) (b_1:Nat) (b_2:Nat) (b_3:Nat) (i1:Int) (again_1:Int→WP) (t53:Bool) (w16:World):Prop :=
 (t53=true→(C_H (some ⟨b_2,0,none⟩) 64 w16 (fun(v57:ByteArray) w17=>∀ b_5 w18,b_5=w17.heap.size→w18=w17.alloc (Obj.cells ([Value.string ByteArray.empty,Value.slice none 0 0]).toArray y_d (0,0))→(zd w18 b_5 0 2∧(∀ w19,w19=World.puts b_5 0 [Value.string v57,Value.slice none 0 0] w18→(C_d (some ⟨b_2,0,none⟩) w19 (fun(v60:Int) w20=>∃(I:Int→WP) (μ:Int→World→Nat),I 0 w20 ∧
 ∀(k_:Int) w,I k_ w→F_Bb b_2 b_3 i1 again_1 b_5 v60 (fun(k_':Int) w'=>I k_' w'∧μ k_' w'<μ k_ w) k_ w))))))) ∧
 (t53=false→(∃(v100:Int),w16.cell? ⟨b_2,4,none⟩=some (Vi v100)∧(((v100 != 0)=true→(∀ w37,(∃ k,w37=w16.drewN k)→(∃(v106:Int),w37.cell? ⟨b_2,4,none⟩=some (Vi v106)∧(zd w37 b_1 0 3∧(∀ w38,w38=World.puts b_1 0 [Vi 0,Value.slice none 0 0,Value.slice none 0 0] w37→(w38.cell? ⟨b_2,4,none⟩=some (Vi v106)∧(∃(res:T_b),ze w38 b_1 0 [Vi res.Mark,Vs res.Beyond,Vs res.Held]∧(R res v106 w38)))))))) ∧
 ((v100 != 0)=false→(∃(v110:T_a),ze w16 b_2 0 [Vo v110.Gone,Vs v110.B,Vi v110.At,Vi v110.Code]∧(C_Ib v110 w16 (fun(v111:Int) w39=>((v111 != 0)=true→(zd w39 b_1 0 3∧(∀ w40,w40=World.puts b_1 0 [Vi 0,Value.slice none 0 0,Value.slice none 0 0] w39→(∃(res1:T_b),ze w40 b_1 0 [Vi res1.Mark,Vs res1.Beyond,Vs res1.Held]∧(R res1 4 w40))))) ∧
 ((v111 != 0)=false→(∃(v114:T_b),ze w39 b_3 0 [Vi v114.Mark,Vs v114.Beyond,Vs v114.Held]∧(C_Fb v114 w39 (fun(v115:Int) w41=>((v115 != 0)=true→(zd w41 b_1 0 3∧(∀ w42,w42=World.puts b_1 0 [Vi 0,Value.slice none 0 0,Value.slice none 0 0] w41→(∃(res2:T_b),ze w42 b_1 0 [Vi res2.Mark,Vs res2.Beyond,Vs res2.Held]∧(R res2 1 w42))))) ∧
 ((v115 != 0)=false→(∃(v118:T_b),ze w41 b_3 0 [Vi v118.Mark,Vs v118.Beyond,Vs v118.Held]∧(zd w41 b_1 0 3∧(∀ w43,w43=World.puts b_1 0 [Vi v118.Mark,Vs v118.Beyond,Vs v118.Held] w41→(∃(res3:T_b),ze w43 b_1 0 [Vi res3.Mark,Vs res3.Beyond,Vs res3.Held]∧(R res3 0 w43)))))))))))))))))

def F_Cb (R:T_b→Int→WP) (b_1:Nat) (b_2:Nat) (b_3:Nat) (v43:Int) (again_1:Int→WP) (i1:Int) (w15:World):Prop :=
 ((decide (i1<v43))=true→(∃(v51:Int),w15.cell? ⟨b_2,4,none⟩=some (Vi v51)∧(F_j R b_1 b_2 b_3 i1 again_1 (v51==0) w15))) ∧
 ((decide (i1<v43))=false→(F_j R b_1 b_2 b_3 i1 again_1 false w15))

def F_s (R:T_b→Int→WP) (b_1:Nat) (b_2:Nat) (b_3:Nat) (i:Int) (again_:Int→WP) (t32:Bool) (w8:World):Prop :=
 (t32=true→(∀ w9,(∃ k,w9=w8.drewN k)→(∃(v36:Slc),w9.cell? ⟨b_3,1,none⟩=some (Vs v36)∧(C_d (some ⟨b_2,0,none⟩) w9 (fun(v38:Int) w10=>w10.cell? ⟨b_3,1,none⟩=some (Vs v36)∧(∀ b_4 w11,b_4=w10.heap.size→w11=w10.alloc (Obj.cells ([Vi v38]).toArray y_i (0,0))→(w11.cell? ⟨b_3,1,none⟩=some (Vs v36)∧(∃ src,zh w11 (Slc.mk (some ⟨b_4,0,none⟩) 1 1) 1 src∧zj 1 8 y_i [Vi 0] v36 src 1 w11 (fun v40 w12=>(zd w12 b_3 1 1∧(∀ w13,w13=World.puts b_3 1 [Vs v40] w12→((again_ (IntKind.i64.wrap (i+1)) w13))))))))))))) ∧
 (t32=false→(C_Gb (some ⟨b_2,0,none⟩) w8 (fun(v43:Int) w14=>∃(I:Int→WP) (μ:Int→World→Nat),I 0 w14 ∧
 ∀(i1:Int) w,I i1 w→F_Cb R b_1 b_2 b_3 v43 (fun(i1':Int) w'=>I i1' w'∧μ i1' w'<μ i1 w) i1 w)))

def F_fc (R:T_b→Int→WP) (b_1:Nat) (b_2:Nat) (b_3:Nat) (v22:Int) (again_:Int→WP) (i:Int) (w7:World):Prop :=
 ((decide (i<v22))=true→(∃(v30:Int),w7.cell? ⟨b_2,4,none⟩=some (Vi v30)∧(F_s R b_1 b_2 b_3 i again_ (v30==0) w7))) ∧
 ((decide (i<v22))=false→(F_s R b_1 b_2 b_3 i again_ false w7))

def F_Pd (b_:Slc) (R:T_b→Int→WP) (w:World):Prop :=
 ∀ b_1 w1,b_1=w.heap.size→w1=w.alloc (Obj.cells ([Vi 0,Value.slice none 0 0,Value.slice none 0 0]).toArray y_a (0,0))→(∀ b_2 w2,b_2=w1.heap.size→w2=w1.alloc (Obj.cells ([Vo false,Vs b_,Vi 0,Vi 0,Vi 0]).toArray y_p (0,0))→(C_d (some ⟨b_2,0,none⟩) w2 (fun(v19:Int) w3=>∀ b_3 w4,b_3=w3.heap.size→w4=w3.alloc (Obj.cells ([Vi 0,Value.slice none 0 0,Value.slice none 0 0]).toArray y_a (0,0))→(zd w4 b_3 0 3∧(∀ w5,w5=World.puts b_3 0 [Vi v19,Value.slice none 0 0,Value.slice none 0 0] w4→(C_d (some ⟨b_2,0,none⟩) w5 (fun(v22:Int) w6=>∃(I:Int→WP) (μ:Int→World→Nat),I 0 w6 ∧
 ∀(i:Int) w,I i w→F_fc R b_1 b_2 b_3 v22 (fun(i':Int) w'=>I i' w'∧μ i' w'<μ i w) i w)))))))

def F_Fd (a_:T_d) (b_:T_d) (R:Bool→WP) (w:World):Prop :=
 ∀ b_1 w1,b_1=w.heap.size→w1=w.alloc (Obj.cells ([Value.string a_.Key,Vs a_.Versions]).toArray y_d (0,0))→(∀ b_2 w2,b_2=w1.heap.size→w2=w1.alloc (Obj.cells ([Value.string b_.Key,Vs b_.Versions]).toArray y_d (0,0))→(∃(v6:ByteArray),w2.cell? ⟨b_1,0,none⟩=some (Value.string v6)∧(∃(v8:ByteArray),w2.cell? ⟨b_2,0,none⟩=some (Value.string v8)∧(((v6.toList==v8.toList)=true→(∃(v12:Slc),w2.cell? ⟨b_1,1,none⟩=some (Vs v12)∧(∃(v14:Slc),w2.cell? ⟨b_2,1,none⟩=some (Vs v14)∧(C_zb v12 v14 w2 (fun(v15:Bool) w3=>R v15 w3))))) ∧
 ((v6.toList==v8.toList)=false→(R false w2))))))

def F_de (n_:Int) (R:ByteArray→WP) (w:World):Prop :=
 C_Kc n_ w (fun(v4:ByteArray) w1=>(((ByteArray.mk #[35]).size+v4.size:Nat):Int)≤9223372036854775807∧(R ((ByteArray.mk #[35])++v4) w1))

def F_sb (l_:Slc) (R:Slc→WP) (again_:Slc→Int→WP) (t_:Slc) (i:Int) (w2:World):Prop :=
 ((decide (i<((l_.len:Nat):Int)))=true→(IsAt l_.ptr∧(0≤i∧i<((l_.len:Nat):Int)∧(∃(v19:T_c),ze w2 (pblk l_.ptr) ((poff l_.ptr)+i.toNat*3) [Vi v19.Number,Value.string v19.Val,Vo v19.Drop]∧(∀ b_1 w3,b_1=w2.heap.size→w3=w2.alloc (Obj.cells ([Vi v19.Number,Value.string v19.Val,Vo v19.Drop]).toArray y_c (0,0))→(∃ src,zh w3 (Slc.mk (some ⟨b_1,0,none⟩) 1 1) 3 src∧zj 3 32 y_c [Vi 0,Value.string ByteArray.empty,Vo false] t_ src 1 w3 (fun t_1 w4=>again_ t_1 (IntKind.i64.wrap (i+1)) w4))))))) ∧
 ((decide (i<((l_.len:Nat):Int)))=false→(∀ b_2 w5,b_2=w2.heap.size→w5=w2.alloc (Obj.cells ([Vi 7777,Value.string ByteArray.empty,Vo false]).toArray y_c (0,0))→(∃ src,zh w5 (Slc.mk (some ⟨b_2,0,none⟩) 1 1) 3 src∧zj 3 32 y_c [Vi 0,Value.string ByteArray.empty,Vo false] t_ src 1 w5 (fun v25 w6=>0≤((l_.len:Nat):Int)∧((l_.len:Nat):Int)≤((v25.cap:Nat):Int)∧(R (Slc.mk v25.ptr (((l_.len:Nat):Int).toNat) v25.cap) w6)))))

def F_Uc (l_:Slc) (R:Slc→WP) (w:World):Prop :=
 0≤(0:Int)∧(0:Int)≤IntKind.i64.wrap (((l_.len:Nat):Int)+1)∧(32:Int)*(IntKind.i64.wrap (((l_.len:Nat):Int)+1))≤281474976710656∧(∀ b_ w1,b_=w.heap.size→w1=w.alloc (Obj.cells (zI ((IntKind.i64.wrap (((l_.len:Nat):Int)+1)).toNat) [Vi 0,Value.string ByteArray.empty,Vo false]) y_c (0,0))→(∃(I:Slc→Int→WP) (μ:Slc→Int→World→Nat),I (Slc.mk (some ⟨b_,0,none⟩) 0 ((IntKind.i64.wrap (((l_.len:Nat):Int)+1)).toNat)) 0 w1 ∧
 ∀(t_:Slc) (i:Int) w,I t_ i w→F_sb l_ R (fun(t_':Slc) (i':Int) w'=>I t_' i' w'∧μ t_' i' w'<μ t_ i w) t_ i w))

def F_h (R:OA→Int→WP) (v7:OA) (t10:Int) (again_:Int→WP) (b_:Nat) (t45:Bool) (w5:World):Prop :=
 (t45=true→(R none 1 w5)) ∧
 (t45=false→(∀ w6,(∃ k,w6=w5.drewN k)→(IsAt v7∧(∃(v50:Option Nat),w6.cell? ⟨(pblk v7),(poff v7),none⟩=some (Value.map v50)∧(∃(v52:ByteArray),w6.cell? ⟨b_,0,none⟩=some (Value.string v52)∧(∃(v54:Slc),w6.cell? ⟨b_,1,none⟩=some (Vs v54)∧(C_o v54 w6 (fun(v55:Slc) w7=>w7.cell? ⟨b_,0,none⟩=some (Value.string v52)∧w7.cell? ⟨(pblk v7),(poff v7),none⟩=some (Value.map v50)∧(∃(r:Nat) (es:Array MapEntry) (c:Nat),v50=some r∧w7.heap[r]? =some (.map es c)∧(zpf es∧(¬ zof es v52∧(∀ w8,w8={ w7 with heap:=w7.heap.setIfInBounds r (.map (es.push ⟨.string v52,Vs v55,c⟩) (c+1)) }→((again_ (IntKind.i64.wrap (t10+1)) w8))))))))))))))

def F_2c (l_:Slc) (R:OA→Int→WP) (v7:OA) (again_:Int→WP) (t10:Int) (w2:World):Prop :=
 ((decide (t10<((l_.len:Nat):Int)))=true→(IsAt l_.ptr∧(0≤t10∧t10<((l_.len:Nat):Int)∧(∃(v14:T_d),ze w2 (pblk l_.ptr) ((poff l_.ptr)+t10.toNat*2) [Value.string v14.Key,Vs v14.Versions]∧(∀ b_ w3,b_=w2.heap.size→w3=w2.alloc (Obj.cells ([Value.string ByteArray.empty,Value.slice none 0 0]).toArray y_d (0,0))→(zd w3 b_ 0 2∧(∀ w4,w4=World.puts b_ 0 [Value.string v14.Key,Vs v14.Versions] w3→(∀ w9,(∃ k,w9=w4.drewN k)→(∃(v16:ByteArray),w9.cell? ⟨b_,0,none⟩=some (Value.string v16)∧(C_Ic v16 w9 (fun(v17:Bool) w10=>(((!v17)=true→(F_h R v7 t10 again_ b_ true w10)) ∧
 ((!v17)=false→(((decide (t10>0))=true→(IsAt l_.ptr∧(0≤IntKind.i64.wrap (t10 - 1)∧IntKind.i64.wrap (t10 - 1)<((l_.len:Nat):Int)∧(∃(v28:ByteArray),w10.cell? ⟨(pblk l_.ptr),(poff l_.ptr)+(IntKind.i64.wrap (t10 - 1)).toNat*2,none⟩=some (Value.string v28)∧(∃(v30:ByteArray),w10.cell? ⟨b_,0,none⟩=some (Value.string v30)∧(((!(Op.bytesLess v28.toList v30.toList))=true→(F_h R v7 t10 again_ b_ true w10)) ∧
 ((!(Op.bytesLess v28.toList v30.toList))=false→(∃(v36:Slc),w10.cell? ⟨b_,1,none⟩=some (Vs v36)∧(((((v36.len:Nat):Int)==0)=true→(F_h R v7 t10 again_ b_ true w10)) ∧
 ((((v36.len:Nat):Int)==0)=false→(∃(v42:Slc),w10.cell? ⟨b_,1,none⟩=some (Vs v42)∧(C_fc v42 w10 (fun(v43:Int) w11=>(F_h R v7 t10 again_ b_ (v43 != 0) w11)))))))))))))) ∧
 ((decide (t10>0))=false→(∃(v361:Slc),w10.cell? ⟨b_,1,none⟩=some (Vs v361)∧(((((v361.len:Nat):Int)==0)=true→(F_h R v7 t10 again_ b_ true w10)) ∧
 ((((v361.len:Nat):Int)==0)=false→(∃(v421:Slc),w10.cell? ⟨b_,1,none⟩=some (Vs v421)∧(C_fc v421 w10 (fun(v431:Int) w12=>(F_h R v7 t10 again_ b_ (v431 != 0) w12)))))))))))))))))))))) ∧
 ((decide (t10<((l_.len:Nat):Int)))=false→(R v7 0 w2))

def F_bf (l_:Slc) (R:OA→Int→WP) (w:World):Prop :=
 C_Pc w (fun(v7:OA) w1=>∃(I:Int→WP) (μ:Int→World→Nat),I 0 w1 ∧
 ∀(t10:Int) w,I t10 w→F_2c l_ R v7 (fun(t10':Int) w'=>I t10' w'∧μ t10' w'<μ t10 w) t10 w)

def F_1 (x:Slc) (target:Int) (R:Int→Bool→WP) (again_:Int→Int→WP) (i:Int) (j:Int) (w1:World):Prop :=
 ((decide (i<j))=true→(IsAt x.ptr∧(0≤IntKind.i64.wrap (Int.fdiv (IntKind.u64.wrap (IntKind.i64.wrap (i+j))) (2 ^ 1))∧IntKind.i64.wrap (Int.fdiv (IntKind.u64.wrap (IntKind.i64.wrap (i+j))) (2 ^ 1))<((x.len:Nat):Int)∧(∃(v25:Int),w1.cell? ⟨(pblk x.ptr),(poff x.ptr)+(IntKind.i64.wrap (Int.fdiv (IntKind.u64.wrap (IntKind.i64.wrap (i+j))) (2 ^ 1))).toNat,none⟩=some (Vi v25)∧(C_Dc v25 target w1 (fun(v27:Bool) w2=>(v27=true→(again_ (IntKind.i64.wrap ((IntKind.i64.wrap (Int.fdiv (IntKind.u64.wrap (IntKind.i64.wrap (i+j))) (2 ^ 1)))+1)) j w2)) ∧
 (v27=false→(again_ i (IntKind.i64.wrap (Int.fdiv (IntKind.u64.wrap (IntKind.i64.wrap (i+j))) (2 ^ 1))) w2)))))))) ∧
 ((decide (i<j))=false→(((decide (i<((x.len:Nat):Int)))=true→(IsAt x.ptr∧(0≤i∧i<((x.len:Nat):Int)∧(∃(v39:Int),w1.cell? ⟨(pblk x.ptr),(poff x.ptr)+i.toNat,none⟩=some (Vi v39)∧(((v39==target)=true→(R i true w1)) ∧
 ((v39==target)=false→(IsAt x.ptr∧(0≤i∧i<((x.len:Nat):Int)∧(∃(v46:Int),w1.cell? ⟨(pblk x.ptr),(poff x.ptr)+i.toNat,none⟩=some (Vi v46)∧(C_pc v46 w1 (fun(v47:Bool) w3=>(v47=true→(C_pc target w3 (fun(v50:Bool) w4=>R i v50 w4))) ∧
 (v47=false→(R i false w3))))))))))))) ∧
 ((decide (i<((x.len:Nat):Int)))=false→(R i false w1))))

def F_qc (x:Slc) (target:Int) (R:Int→Bool→WP) (w:World):Prop :=
 ∃(I:Int→Int→WP) (μ:Int→Int→World→Nat),I 0 ((x.len:Nat):Int) w ∧
 ∀(i:Int) (j:Int) w,I i j w→F_1 x target R (fun(i':Int) (j':Int) w'=>I i' j' w'∧μ i' j' w'<μ i j w) i j w

def F_Le (w_:OA) (R:Bool→WP) (w:World):Prop :=
 (w_.isNone=true→(R true w)) ∧
 (w_.isNone=false→(IsAt w_∧(∃(v9:Bool),w.cell? ⟨(pblk w_),(poff w_),none⟩=some (Vo v9)∧(R (!v9) w))))

def F_xe (b_:Slc) (R:Int→WP) (b_1:Nat) (again_:Int→Int→WP) (c:Int) (t14:Int) (w4:World):Prop :=
 ((decide (t14<((b_.len:Nat):Int)))=true→(IsAt b_.ptr∧(0≤t14∧t14<((b_.len:Nat):Int)∧(∃(x:Int),w4.cell? ⟨(pblk b_.ptr),(poff b_.ptr)+t14.toNat,none⟩=some (Value.int .u8 x)∧(0≤bxor .u8 (IntKind.u8.wrap c) x∧bxor .u8 (IntKind.u8.wrap c) x<(256:Int)∧(∃(v23:Int),w4.cell? ⟨b_1,0+(bxor .u8 (IntKind.u8.wrap c) x).toNat,none⟩=some (Value.int .u32 v23)∧(again_ (bxor .u32 v23 (Int.fdiv c (2 ^ 8))) (IntKind.i64.wrap (t14+1)) w4))))))) ∧
 ((decide (t14<((b_.len:Nat):Int)))=false→(R (bxor .u32 (IntKind.max .u32) c) w4))

def F_gf (sum:Int) (b_:Slc) (R:Int→WP) (w:World):Prop :=
 C_Ec w (fun(v9:List Int) w1=>(v9.length=256)→∀ b_1 w2,b_1=w1.heap.size→w2=w1.alloc (Obj.cells ((List.map (Value.int .u32) (List.replicate 256 0))).toArray y_k (0,0))→(zd w2 b_1 0 256∧(∀ w3,w3=World.puts b_1 0 (List.map (Value.int .u32) v9) w2→(∃(I:Int→Int→WP) (μ:Int→Int→World→Nat),I (bxor .u32 (IntKind.max .u32) sum) 0 w3 ∧
 ∀(c:Int) (t14:Int) w,I c t14 w→F_xe b_ R b_1 (fun(c':Int) (t14':Int) w'=>I c' t14' w'∧μ c' t14' w'<μ c t14 w) c t14 w))))

def F_hf (b_:Slc) (R:Int→WP) (w:World):Prop :=
 C_yc 0 b_ w (fun(v4:Int) w1=>R v4 w1)

def F_L (R:Bool→WP) (i:Int) (again_:Int→WP) (t47:Bool) (w2:World):Prop :=
 (t47=true→(R false w2)) ∧
 (t47=false→(again_ (IntKind.i64.wrap (i+1)) w2))

def F_3c (mark:Int) (beyond:Slc) (R:Bool→WP) (again_:Int→WP) (i:Int) (w1:World):Prop :=
 ((decide (i<((beyond.len:Nat):Int)))=true→(IsAt beyond.ptr∧(0≤i∧i<((beyond.len:Nat):Int)∧(∃(v21:Int),w1.cell? ⟨(pblk beyond.ptr),(poff beyond.ptr)+i.toNat,none⟩=some (Vi v21)∧(((decide (v21<(IntKind.i64.wrap (mark+2))))=true→(∀ w3,Ext w1 w3→(F_L R i again_ true w3))) ∧
 ((decide (v21<(IntKind.i64.wrap (mark+2))))=false→(IsAt beyond.ptr∧(0≤i∧i<((beyond.len:Nat):Int)∧(∃(v29:Int),w1.cell? ⟨(pblk beyond.ptr),(poff beyond.ptr)+i.toNat,none⟩=some (Vi v29)∧(((decide (v29>65536))=true→(∀ w4,Ext w1 w4→(F_L R i again_ true w4))) ∧
 ((decide (v29>65536))=false→(((decide (i>0))=true→(IsAt beyond.ptr∧(0≤IntKind.i64.wrap (i - 1)∧IntKind.i64.wrap (i - 1)<((beyond.len:Nat):Int)∧(∃(v40:Int),w1.cell? ⟨(pblk beyond.ptr),(poff beyond.ptr)+(IntKind.i64.wrap (i - 1)).toNat,none⟩=some (Vi v40)∧(IsAt beyond.ptr∧(0≤i∧i<((beyond.len:Nat):Int)∧(∃(v44:Int),w1.cell? ⟨(pblk beyond.ptr),(poff beyond.ptr)+i.toNat,none⟩=some (Vi v44)∧(∀ w5,Ext w1 w5→(F_L R i again_ (decide (v40≥v44)) w5))))))))) ∧
 ((decide (i>0))=false→(∀ w6,Ext w1 w6→(F_L R i again_ false w6))))))))))))))) ∧
 ((decide (i<((beyond.len:Nat):Int)))=false→(R true w1))

def F_ne (mark:Int) (beyond:Slc) (R:Bool→WP) (w:World):Prop :=
 (((decide (mark<0))||(decide (mark>65536)))=true→(R false w)) ∧
 (((decide (mark<0))||(decide (mark>65536)))=false→(∃(I:Int→WP) (μ:Int→World→Nat),I 0 w ∧
 ∀(i:Int) w,I i w→F_3c mark beyond R (fun(i':Int) w'=>I i' w'∧μ i' w'<μ i w) i w))

def F_a (R:Bool→WP) (i:Int) (again_:Int→WP) (t52:Bool) (w2:World):Prop :=
 (t52=true→(R false w2)) ∧
 (t52=false→(again_ (IntKind.i64.wrap (i+1)) w2))

def F_4c (l_:Slc) (R:Bool→WP) (again_:Int→WP) (i:Int) (w1:World):Prop :=
 ((decide (i<((l_.len:Nat):Int)))=true→(∀ w3,(∃ k,w3=w1.drewN k)→(IsAt l_.ptr∧(0≤i∧i<((l_.len:Nat):Int)∧(∃(v14:ByteArray),w3.cell? ⟨(pblk l_.ptr),(poff l_.ptr)+i.toNat*2,none⟩=some (Value.string v14)∧(C_qc v14 w3 (fun(v15:Bool) w4=>(((!v15)=true→(F_a R i again_ true w4)) ∧
 ((!v15)=false→(((decide (i>0))=true→(IsAt l_.ptr∧(0≤IntKind.i64.wrap (i - 1)∧IntKind.i64.wrap (i - 1)<((l_.len:Nat):Int)∧(∃(v26:ByteArray),w4.cell? ⟨(pblk l_.ptr),(poff l_.ptr)+(IntKind.i64.wrap (i - 1)).toNat*2,none⟩=some (Value.string v26)∧(IsAt l_.ptr∧(0≤i∧i<((l_.len:Nat):Int)∧(∃(v31:ByteArray),w4.cell? ⟨(pblk l_.ptr),(poff l_.ptr)+i.toNat*2,none⟩=some (Value.string v31)∧(((!(Op.bytesLess v26.toList v31.toList))=true→(F_a R i again_ true w4)) ∧
 ((!(Op.bytesLess v26.toList v31.toList))=false→(IsAt l_.ptr∧(0≤i∧i<((l_.len:Nat):Int)∧(∃(v40:Slc),w4.cell? ⟨(pblk l_.ptr),((poff l_.ptr)+i.toNat*2)+1,none⟩=some (Vs v40)∧(((((v40.len:Nat):Int)==0)=true→(F_a R i again_ true w4)) ∧
 ((((v40.len:Nat):Int)==0)=false→(IsAt l_.ptr∧(0≤i∧i<((l_.len:Nat):Int)∧(∃(v49:Slc),w4.cell? ⟨(pblk l_.ptr),((poff l_.ptr)+i.toNat*2)+1,none⟩=some (Vs v49)∧(C_R v49 w4 (fun(v50:Int) w5=>(F_a R i again_ (v50 != 0) w5)))))))))))))))))))) ∧
 ((decide (i>0))=false→(IsAt l_.ptr∧(0≤i∧i<((l_.len:Nat):Int)∧(∃(v401:Slc),w4.cell? ⟨(pblk l_.ptr),((poff l_.ptr)+i.toNat*2)+1,none⟩=some (Vs v401)∧(((((v401.len:Nat):Int)==0)=true→(F_a R i again_ true w4)) ∧
 ((((v401.len:Nat):Int)==0)=false→(IsAt l_.ptr∧(0≤i∧i<((l_.len:Nat):Int)∧(∃(v491:Slc),w4.cell? ⟨(pblk l_.ptr),((poff l_.ptr)+i.toNat*2)+1,none⟩=some (Vs v491)∧(C_R v491 w4 (fun(v501:Int) w6=>(F_a R i again_ (v501 != 0) w6)))))))))))))))))))))) ∧
 ((decide (i<((l_.len:Nat):Int)))=false→(R true w1))

def F_oe (l_:Slc) (R:Bool→WP) (w:World):Prop :=
 ∃(I:Int→WP) (μ:Int→World→Nat),I 0 w ∧
 ∀(i:Int) w,I i w→F_4c l_ R (fun(i':Int) w'=>I i' w'∧μ i' w'<μ i w) i w

def F_vc (l_:Slc) (n_:Int) (R:Bool→WP) (again_:Int→WP) (i:Int) (w1:World):Prop :=
 ((decide (i<((l_.len:Nat):Int)))=true→(IsAt l_.ptr∧(0≤i∧i<((l_.len:Nat):Int)∧(∃(v15:Int),w1.cell? ⟨(pblk l_.ptr),(poff l_.ptr)+i.toNat,none⟩=some (Vi v15)∧(((v15==n_)=true→(R true w1)) ∧
 ((v15==n_)=false→(again_ (IntKind.i64.wrap (i+1)) w1))))))) ∧
 ((decide (i<((l_.len:Nat):Int)))=false→(R false w1))

def F_3d (l_:Slc) (n_:Int) (R:Bool→WP) (w:World):Prop :=
 ∃(I:Int→WP) (μ:Int→World→Nat),I 0 w ∧
 ∀(i:Int) w,I i w→F_vc l_ n_ R (fun(i':Int) w'=>I i' w'∧μ i' w'<μ i w) i w

def F_wc (n_:Int) (R:Int→WP) (again_:Int→Int→WP) (p:Int) (i:Int) (w1:World):Prop :=
 ((decide (i<n_))=true→(again_ (IntKind.u64.wrap (2*p)) (IntKind.i64.wrap (i+1)) w1)) ∧
 ((decide (i<n_))=false→(R p w1))

def F_Ce (n_:Int) (R:Int→WP) (w:World):Prop :=
 ∃(I:Int→Int→WP) (μ:Int→Int→World→Nat),I 1 0 w ∧
 ∀(p:Int) (i:Int) w,I p i w→F_wc n_ R (fun(p':Int) (i':Int) w'=>I p' i' w'∧μ p' i' w'<μ p i w) p i w

def F_tb (t_:Slc) (l_:Slc) (R:Bool→WP) (again_:Int→WP) (i:Int) (w1:World):Prop :=
 ((decide (i<((l_.len:Nat):Int)))=true→(IsAt t_.ptr∧(0≤i∧i<((t_.len:Nat):Int)∧(∃(v28:T_c),ze w1 (pblk t_.ptr) ((poff t_.ptr)+i.toNat*3) [Vi v28.Number,Value.string v28.Val,Vo v28.Drop]∧(IsAt l_.ptr∧(0≤i∧i<((l_.len:Nat):Int)∧(∃(v32:T_c),ze w1 (pblk l_.ptr) ((poff l_.ptr)+i.toNat*3) [Vi v32.Number,Value.string v32.Val,Vo v32.Drop]∧(∀ w2,Ext w1 w2→(((!(((v28.Number==v32.Number)&&(v28.Val==v32.Val))&&(v28.Drop==v32.Drop)))=true→(R false w2)) ∧
 ((!(((v28.Number==v32.Number)&&(v28.Val==v32.Val))&&(v28.Drop==v32.Drop)))=false→(again_ (IntKind.i64.wrap (i+1)) w2))))))))))) ∧
 ((decide (i<((l_.len:Nat):Int)))=false→(0≤IntKind.i64.wrap (((l_.len:Nat):Int)+1)∧IntKind.i64.wrap (((l_.len:Nat):Int)+1)≤((t_.cap:Nat):Int)∧(IsAt t_.ptr∧(0≤((l_.len:Nat):Int)∧((l_.len:Nat):Int)<(((IntKind.i64.wrap (((l_.len:Nat):Int)+1)).toNat:Nat):Int)∧(∃(v42:T_c),ze w1 (pblk t_.ptr) ((poff t_.ptr)+((l_.len:Nat):Int).toNat*3) [Vi v42.Number,Value.string v42.Val,Vo v42.Drop]∧(∀ b_ w3,b_=w1.heap.size→w3=w1.alloc (Obj.cells ([Vi 0,Value.string ByteArray.empty,Vo false]).toArray y_c (0,0))→(zd w3 b_ 0 3∧(∀ w4,w4=World.puts b_ 0 [Vi v42.Number,Value.string v42.Val,Vo v42.Drop] w3→(∃(v43:T_c),ze w4 b_ 0 [Vi v43.Number,Value.string v43.Val,Vo v43.Drop]∧(R (((v43.Number==7777)&&(v43.Val==ByteArray.empty))&&(v43.Drop==false)) w4))))))))))

def F_Vc (t_:Slc) (l_:Slc) (R:Bool→WP) (w:World):Prop :=
 (((((t_.len:Nat):Int) != ((l_.len:Nat):Int))||(decide (((t_.cap:Nat):Int)≤((l_.len:Nat):Int))))=true→(R false w)) ∧
 (((((t_.len:Nat):Int) != ((l_.len:Nat):Int))||(decide (((t_.cap:Nat):Int)≤((l_.len:Nat):Int))))=false→(∃(I:Int→WP) (μ:Int→World→Nat),I 0 w ∧
 ∀(i:Int) w,I i w→F_tb t_ l_ R (fun(i':Int) w'=>I i' w'∧μ i' w'<μ i w) i w))

def F_7b (b_:OA) (l_:Slc) (R:WP) (w:World):Prop :=
 IsAt b_∧(∃(v7:Int),w.cell? ⟨(pblk b_),(poff b_),none⟩=some (Vi v7)∧(zd w (pblk b_) (poff b_) 1∧(∀ w1,w1=World.puts (pblk b_) (poff b_) [Vi (IntKind.i64.wrap (v7+1))] w→(∀ w2,(∃ k,w2=w1.drewN k)→(IsAt b_∧(∃(v15:Slc),w2.cell? ⟨(pblk b_),(poff b_)+6,none⟩=some (Vs v15)∧(IsAt b_∧(∃(v20:Int),w2.cell? ⟨(pblk b_),(poff b_),none⟩=some (Vi v20)∧(∀ b_1 w3,b_1=w2.heap.size→w3=w2.alloc (Obj.cells ([Vs l_,Value.slice none 0 0,Vi v20]).toArray y_f (0,0))→(w3.cell? ⟨(pblk b_),(poff b_)+6,none⟩=some (Vs v15)∧(∃ src,zh w3 (Slc.mk (some ⟨b_1,0,none⟩) 1 1) 3 src∧zj 3 56 y_f [Value.slice none 0 0,Value.slice none 0 0,Vi 0] v15 src 1 w3 (fun v23 w4=>(IsAt b_∧(zd w4 (pblk b_) ((poff b_)+6) 1∧(∀ w5,w5=World.puts (pblk b_) ((poff b_)+6) [Vs v23] w4→((R w5)))))))))))))))))

def F_6e (b_:Slc) (R:OA→WP) (w:World):Prop :=
 C_v b_ w (fun(v4:Slc) w1=>∀ b_1 w2,b_1=w1.heap.size→w2=w1.alloc (Obj.cells ([Vo true,Vs v4,Vi 0]).toArray y_v (0,0))→(R (some ⟨b_1,0,none⟩) w2))

def F_w (t2:OA) (t3:OA) (t4:OA) (R:Bool→WP) (w1:World):Prop :=
 IsAt t3∧(∃(v23:OA),w1.cell? ⟨(pblk t3),(poff t3),none⟩=some (Vp v23)∧(C_6 v23 w1 (fun(v24:Int) w2=>IsAt t4∧(zd w2 (pblk t4) (poff t4) 1∧(∀ w3,w3=World.puts (pblk t4) (poff t4) [Vi v24] w2→(IsAt t2∧(∃(v25:Int),w3.cell? ⟨(pblk t2),(poff t2),none⟩=some (Vi v25)∧(R (v25 != 0) w3))))))))

def F_De (is:Bool) (f:Int) (t2:OA) (t3:OA) (t4:OA) (R:Bool→WP) (w:World):Prop :=
 IsAt t2∧(∃(v9:Int),w.cell? ⟨(pblk t2),(poff t2),none⟩=some (Vi v9)∧(((v9 != 0)=true→(F_w t2 t3 t4 R w)) ∧
 ((v9 != 0)=false→(∀ w4,(∃ k,w4=w.drewN k)→(IsAt t3∧(∃(v12:OA),w4.cell? ⟨(pblk t3),(poff t3),none⟩=some (Vp v12)∧(IsAt t4∧(∃(v14:Int),w4.cell? ⟨(pblk t4),(poff t4),none⟩=some (Vi v14)∧(C_6 v12 w4 (fun(v13:Int) w5=>w5.cell? ⟨(pblk t4),(poff t4),none⟩=some (Vi v14)∧(((v13==v14)=true→(IsAt t3∧(∃(v16:OA),w5.cell? ⟨(pblk t3),(poff t3),none⟩=some (Vp v16)∧(C_oc v16 w5 (fun(v17:Int) w6=>IsAt t2∧(zd w6 (pblk t2) (poff t2) 1∧(∀ w7,w7=World.puts (pblk t2) (poff t2) [Vi v17] w6→(IsAt t2∧(∃(v18:Int),w7.cell? ⟨(pblk t2),(poff t2),none⟩=some (Vi v18)∧(((v18==0)=true→(IsAt t2∧(zd w7 (pblk t2) (poff t2) 1∧(∀ w8,w8=World.puts (pblk t2) (poff t2) [Vi 5] w7→(F_w t2 t3 t4 R w8))))) ∧
 ((v18==0)=false→(F_w t2 t3 t4 R w7)))))))))))) ∧
 ((v13==v14)=false→((is=true→(IsAt t2∧(zd w5 (pblk t2) (poff t2) 1∧(∀ w9,w9=World.puts (pblk t2) (poff t2) [Vi f] w5→(F_w t2 t3 t4 R w9))))) ∧
 (is=false→(F_w t2 t3 t4 R w5)))))))))))))))

def F_Me (r:OA) (R:Int→WP) (w:World):Prop :=
 (r.isNone=true→(R 0 w)) ∧
 (r.isNone=false→(IsAt r∧(∃(v8:Slc),w.cell? ⟨(pblk r),(poff r)+1,none⟩=some (Vs v8)∧(R ((v8.len:Nat):Int) w))))

def F_5c (r:OA) (R:Int→WP) (t13:Bool) (w2:World):Prop :=
 (t13=true→(R 4 w2)) ∧
 (t13=false→(IsAt r∧(∃(v30:Int),w2.cell? ⟨(pblk r),(poff r)+2,none⟩=some (Vi v30)∧(R v30 w2))))

def F_6c (r:OA) (R:Int→WP) (t3:Bool) (w1:World):Prop :=
 (t3=true→(R 2 w1)) ∧
 (t3=false→(IsAt r∧(∃(v17:Int),w1.cell? ⟨(pblk r),(poff r)+2,none⟩=some (Vi v17)∧(((v17==0)=true→(IsAt r∧(∃(v23:Slc),w1.cell? ⟨(pblk r),(poff r)+1,none⟩=some (Vs v23)∧(F_5c r R (decide (((v23.len:Nat):Int)>0)) w1)))) ∧
 ((v17==0)=false→(F_5c r R false w1))))))

def F_We (r:OA) (R:Int→WP) (w:World):Prop :=
 (r.isNone=true→(F_6c r R true w)) ∧
 (r.isNone=false→(IsAt r∧(∃(v10:Bool),w.cell? ⟨(pblk r),(poff r),none⟩=some (Vo v10)∧(F_6c r R (!v10) w))))

def F_Ee (t0:OA) (t1:OA) (t2:OA) (R:Int→WP) (w:World):Prop :=
 IsAt t0∧(∃(v5:Int),w.cell? ⟨(pblk t0),(poff t0),none⟩=some (Vi v5)∧(((v5 != 0)=true→(R 0 w)) ∧
 ((v5 != 0)=false→(IsAt t1∧(∃(v7:OA),w.cell? ⟨(pblk t1),(poff t1),none⟩=some (Vp v7)∧(C_5b v7 w (fun(v8:Int) w1=>IsAt t2∧(∃(v9:Value),w1.cell? ⟨(pblk t2),(poff t2),none⟩=some (v9)∧(zT (P:=Tryz.prog) v9 #[Vo (decide (v8>65536)),Vi 3] w1 (fun e' w2=>∃(v12:Bool),e'=Ending.returned (Vo v12)∧((v12=true→(R 0 w2)) ∧
 (v12=false→(R (IntKind.i64.wrap v8) w2)))))))))))))

def F_Xe (r:OA) (R:Int→WP) (w:World):Prop :=
 ∀ b_ w1,b_=w.heap.size→w1=w.alloc (Obj.cells ([Value.int .u64 0]).toArray y_x (0,0))→(C_7 r (Value.func (.func 182) #[] #[Vp (some ⟨b_,0,none⟩)]) w1 (fun(v5:Bool) w2=>∃(v6:Int),w2.cell? ⟨b_,0,none⟩=some (Value.int .u64 v6)∧(zd w2 b_ 0 1∧(∀ w3,w3=World.puts b_ 0 [Value.int .u64 v6] w2→(∃(res:Int),ze w3 b_ 0 [Value.int .u64 res]∧(R res w3))))))

def F_2b (R:T_c→WP) (b_:Nat) (w6:World):Prop :=
 ∃(v32:T_c),ze w6 b_ 0 [Vi v32.Number,Value.string v32.Val,Vo v32.Drop]∧(zd w6 b_ 0 3∧(∀ w7,w7=World.puts b_ 0 [Vi v32.Number,Value.string v32.Val,Vo v32.Drop] w6→(∃(res1:T_c),ze w7 b_ 0 [Vi res1.Number,Value.string res1.Val,Vo res1.Drop]∧(R res1 w7))))

def F_Db (t2:OA) (t3:OA) (R:T_c→WP) (b_:Nat) (t26:Bool) (w9:World):Prop :=
 (t26=true→(IsAt t2∧(∃(v27:OA),w9.cell? ⟨(pblk t2),(poff t2),none⟩=some (Vp v27)∧(C_Wb v27 1024 w9 (fun(v28:ByteArray) w10=>zd w10 b_ 1 1∧(∀ w11,w11=World.puts b_ 1 [Value.string v28] w10→(IsAt t3∧(∃(v30:Value),w11.cell? ⟨(pblk t3),(poff t3),none⟩=some (v30)∧(zT (P:=Tryz.prog) v30 #[Vo false,Vi 0] w11 (fun e' w12=>∃(v31:Bool),e'=Ending.returned (Vo v31)∧(F_2b R b_ w12))))))))))) ∧
 (t26=false→(F_2b R b_ w9))

def F_Fe (t0:OA) (t1:OA) (t2:OA) (t3:OA) (R:T_c→WP) (w:World):Prop :=
 ∀ b_ w1,b_=w.heap.size→w1=w.alloc (Obj.cells ([Vi 0,Value.string ByteArray.empty,Vo false]).toArray y_c (0,0))→(IsAt t0∧(∃(v6:Value),w1.cell? ⟨(pblk t0),(poff t0),none⟩=some (v6)∧(zT (P:=Tryz.prog) v6 #[] w1 (fun e' w2=>∃(v7:Int),e'=Ending.returned (Vi v7)∧(zd w2 b_ 0 1∧(∀ w3,w3=World.puts b_ 0 [Vi v7] w2→(IsAt t1∧(∃(v9:Int),w3.cell? ⟨(pblk t1),(poff t1),none⟩=some (Vi v9)∧(((v9 != 0)=true→(∃(v11:T_c),ze w3 b_ 0 [Vi v11.Number,Value.string v11.Val,Vo v11.Drop]∧(zd w3 b_ 0 3∧(∀ w4,w4=World.puts b_ 0 [Vi v11.Number,Value.string v11.Val,Vo v11.Drop] w3→(∃(res:T_c),ze w4 b_ 0 [Vi res.Number,Value.string res.Val,Vo res.Drop]∧(R res w4)))))) ∧
 ((v9 != 0)=false→(IsAt t2∧(∃(v12:OA),w3.cell? ⟨(pblk t2),(poff t2),none⟩=some (Vp v12)∧(C_ec v12 1 w3 (fun(v13:Int) w5=>zd w5 b_ 2 1∧(∀ w8,w8=World.puts b_ 2 [Vo (v13==1)] w5→(IsAt t3∧(∃(v17:Value),w8.cell? ⟨(pblk t3),(poff t3),none⟩=some (v17)∧(zT (P:=Tryz.prog) v17 #[Vo (decide (v13>1)),Vi 4] w8 (fun e' w13=>∃(v20:Bool),e'=Ending.returned (Vo v20)∧(((!v20)=true→(∃(v24:Bool),w13.cell? ⟨b_,2,none⟩=some (Vo v24)∧(F_Db t2 t3 R b_ (!v24) w13))) ∧
 ((!v20)=false→(F_Db t2 t3 R b_ false w13))))))))))))))))))))))

def F_Ge (r:OA) (width:Int) (R:Int→WP) (w:World):Prop :=
 ∀ b_ w1,b_=w.heap.size→w1=w.alloc (Obj.cells ([Vi width]).toArray y_i (0,0))→(∀ b_1 w2,b_1=w1.heap.size→w2=w1.alloc (Obj.cells ([Value.int .u64 0]).toArray y_x (0,0))→(C_7 r (Value.func (.func 184) #[] #[Vp (some ⟨b_,0,none⟩),Vp (some ⟨b_1,0,none⟩)]) w2 (fun(v7:Bool) w3=>∃(v8:Int),w3.cell? ⟨b_1,0,none⟩=some (Value.int .u64 v8)∧(zd w3 b_1 0 1∧(∀ w4,w4=World.puts b_1 0 [Value.int .u64 v8] w3→(∃(res:Int),ze w4 b_1 0 [Value.int .u64 res]∧(R res w4)))))))

def F_Ne (r:OA) (most:Int) (R:ByteArray→WP) (w:World):Prop :=
 ∀ b_ w1,b_=w.heap.size→w1=w.alloc (Obj.cells ([Vi most]).toArray y_i (0,0))→(∀ b_1 w2,b_1=w1.heap.size→w2=w1.alloc (Obj.cells ([Value.string ByteArray.empty]).toArray y_B (0,0))→(C_7 r (Value.func (.func 185) #[] #[Vp (some ⟨b_,0,none⟩),Vp (some ⟨b_1,0,none⟩)]) w2 (fun(v7:Bool) w3=>∃(v8:ByteArray),w3.cell? ⟨b_1,0,none⟩=some (Value.string v8)∧(zd w3 b_1 0 1∧(∀ w4,w4=World.puts b_1 0 [Value.string v8] w3→(∃(res:ByteArray),ze w4 b_1 0 [Value.string res]∧(R res w4)))))))

def F_9d (r:T_a) (R:Bool→WP) (w:World):Prop :=
 ∀ b_ w1,b_=w.heap.size→w1=w.alloc (Obj.cells ([Vo r.Gone,Vs r.B,Vi r.At,Vi r.Code]).toArray y_b (0,0))→(∃(v4:Bool),w1.cell? ⟨b_,0,none⟩=some (Vo v4)∧((v4=true→(R true w1)) ∧
 (v4=false→(∃(v7:Int),w1.cell? ⟨b_,3,none⟩=some (Vi v7)∧(R (v7 != 0) w1)))))

def F_Sd (r:T_a) (e:Int) (R:T_a→WP) (w:World):Prop :=
 ∀ b_ w1,b_=w.heap.size→w1=w.alloc (Obj.cells ([Vo r.Gone,Vs r.B,Vi r.At,Vi r.Code]).toArray y_b (0,0))→(∀ b_1 w2,b_1=w1.heap.size→w2=w1.alloc (Obj.cells ([Vo false,Value.slice none 0 0,Vi 0,Vi 0]).toArray y_b (0,0))→(zd w2 b_ 3 1∧(∀ w3,w3=World.puts b_ 3 [Vi e] w2→(∃(v7:T_a),ze w3 b_ 0 [Vo v7.Gone,Vs v7.B,Vi v7.At,Vi v7.Code]∧(zd w3 b_1 0 4∧(∀ w4,w4=World.puts b_1 0 [Vo v7.Gone,Vs v7.B,Vi v7.At,Vi v7.Code] w3→(∃(res:T_a),ze w4 b_1 0 [Vo res.Gone,Vs res.B,Vi res.At,Vi res.Code]∧(R res w4))))))))

def F_k (R:Int→WP) (n_:Int) (w6:World):Prop :=
 R (IntKind.i64.wrap (Int.tmod n_ 65537)) w6

def F_Wc (t_:OA) (R:Int→WP) (w:World):Prop :=
 IsAt t_∧(∃(v8:Int),w.cell? ⟨(pblk t_),(poff t_)+4,none⟩=some (Vi v8)∧(((v8 != 0)=true→(R 0 w)) ∧
 ((v8 != 0)=false→(IsAt t_∧(∃(v14:T_a),ze w (pblk t_) (poff t_) [Vo v14.Gone,Vs v14.B,Vi v14.At,Vi v14.Code]∧(C_q v14 w (fun(v15:T_a) (n_:Int) w1=>∀ b_ w2,b_=w1.heap.size→w2=w1.alloc (Obj.cells ([Vo false,Value.slice none 0 0,Vi 0,Vi 0]).toArray y_b (0,0))→(zd w2 b_ 0 4∧(∀ w3,w3=World.puts b_ 0 [Vo v15.Gone,Vs v15.B,Vi v15.At,Vi v15.Code] w2→(∃(v19:T_a),ze w3 b_ 0 [Vo v19.Gone,Vs v19.B,Vi v19.At,Vi v19.Code]∧(IsAt t_∧(zd w3 (pblk t_) (poff t_) 4∧(∀ w4,w4=World.puts (pblk t_) (poff t_) [Vo v19.Gone,Vs v19.B,Vi v19.At,Vi v19.Code] w3→(∃(v24:Int),w4.cell? ⟨b_,3,none⟩=some (Vi v24)∧(IsAt t_∧(zd w4 (pblk t_) ((poff t_)+4) 1∧(∀ w5,w5=World.puts (pblk t_) ((poff t_)+4) [Vi v24] w4→(IsAt t_∧(∃(v30:Int),w5.cell? ⟨(pblk t_),(poff t_)+4,none⟩=some (Vi v30)∧((((v30==0)&&(decide (n_>65536)))=true→(IsAt t_∧(zd w5 (pblk t_) ((poff t_)+4) 1∧(∀ w7,w7=World.puts (pblk t_) ((poff t_)+4) [Vi 3] w5→(F_k R n_ w7))))) ∧
 (((v30==0)&&(decide (n_>65536)))=false→(F_k R n_ w5))))))))))))))))))))))

def F_hd (t_:OA) (R:Int→WP) (w:World):Prop :=
 IsAt t_∧(∃(v8:Int),w.cell? ⟨(pblk t_),(poff t_)+4,none⟩=some (Vi v8)∧(((v8 != 0)=true→(R 0 w)) ∧
 ((v8 != 0)=false→(IsAt t_∧(∃(v14:T_a),ze w (pblk t_) (poff t_) [Vo v14.Gone,Vs v14.B,Vi v14.At,Vi v14.Code]∧(C_q v14 w (fun(v15:T_a) (n_:Int) w1=>∀ b_ w2,b_=w1.heap.size→w2=w1.alloc (Obj.cells ([Vo false,Value.slice none 0 0,Vi 0,Vi 0]).toArray y_b (0,0))→(zd w2 b_ 0 4∧(∀ w3,w3=World.puts b_ 0 [Vo v15.Gone,Vs v15.B,Vi v15.At,Vi v15.Code] w2→(∃(v19:T_a),ze w3 b_ 0 [Vo v19.Gone,Vs v19.B,Vi v19.At,Vi v19.Code]∧(IsAt t_∧(zd w3 (pblk t_) (poff t_) 4∧(∀ w4,w4=World.puts (pblk t_) (poff t_) [Vo v19.Gone,Vs v19.B,Vi v19.At,Vi v19.Code] w3→(∃(v24:Int),w4.cell? ⟨b_,3,none⟩=some (Vi v24)∧(IsAt t_∧(zd w4 (pblk t_) ((poff t_)+4) 1∧(∀ w5,w5=World.puts (pblk t_) ((poff t_)+4) [Vi v24] w4→(R n_ w5))))))))))))))))))

def F_id (t_:OA) (most:Int) (R:ByteArray→WP) (w:World):Prop :=
 IsAt t_∧(∃(v10:Int),w.cell? ⟨(pblk t_),(poff t_)+4,none⟩=some (Vi v10)∧(((v10 != 0)=true→(R ByteArray.empty w)) ∧
 ((v10 != 0)=false→(IsAt t_∧(∃(v16:T_a),ze w (pblk t_) (poff t_) [Vo v16.Gone,Vs v16.B,Vi v16.At,Vi v16.Code]∧(C_Ab v16 most w (fun(v18:T_a) (s:ByteArray) w1=>∀ b_ w2,b_=w1.heap.size→w2=w1.alloc (Obj.cells ([Vo false,Value.slice none 0 0,Vi 0,Vi 0]).toArray y_b (0,0))→(zd w2 b_ 0 4∧(∀ w3,w3=World.puts b_ 0 [Vo v18.Gone,Vs v18.B,Vi v18.At,Vi v18.Code] w2→(∃(v22:T_a),ze w3 b_ 0 [Vo v22.Gone,Vs v22.B,Vi v22.At,Vi v22.Code]∧(IsAt t_∧(zd w3 (pblk t_) (poff t_) 4∧(∀ w4,w4=World.puts (pblk t_) (poff t_) [Vo v22.Gone,Vs v22.B,Vi v22.At,Vi v22.Code] w3→(∃(v27:Int),w4.cell? ⟨b_,3,none⟩=some (Vi v27)∧(IsAt t_∧(zd w4 (pblk t_) ((poff t_)+4) 1∧(∀ w5,w5=World.puts (pblk t_) ((poff t_)+4) [Vi v27] w4→(R s w5))))))))))))))))))

def F_q (R:Bool→WP) (n_:Int) (w6:World):Prop :=
 R (n_==1) w6

def F_jd (t_:OA) (R:Bool→WP) (w:World):Prop :=
 IsAt t_∧(∃(v8:Int),w.cell? ⟨(pblk t_),(poff t_)+4,none⟩=some (Vi v8)∧(((v8 != 0)=true→(R false w)) ∧
 ((v8 != 0)=false→(IsAt t_∧(∃(v14:T_a),ze w (pblk t_) (poff t_) [Vo v14.Gone,Vs v14.B,Vi v14.At,Vi v14.Code]∧(C_c v14 1 w (fun(v15:T_a) (n_:Int) w1=>∀ b_ w2,b_=w1.heap.size→w2=w1.alloc (Obj.cells ([Vo false,Value.slice none 0 0,Vi 0,Vi 0]).toArray y_b (0,0))→(zd w2 b_ 0 4∧(∀ w3,w3=World.puts b_ 0 [Vo v15.Gone,Vs v15.B,Vi v15.At,Vi v15.Code] w2→(∃(v19:T_a),ze w3 b_ 0 [Vo v19.Gone,Vs v19.B,Vi v19.At,Vi v19.Code]∧(IsAt t_∧(zd w3 (pblk t_) (poff t_) 4∧(∀ w4,w4=World.puts (pblk t_) (poff t_) [Vo v19.Gone,Vs v19.B,Vi v19.At,Vi v19.Code] w3→(∃(v24:Int),w4.cell? ⟨b_,3,none⟩=some (Vi v24)∧(IsAt t_∧(zd w4 (pblk t_) ((poff t_)+4) 1∧(∀ w5,w5=World.puts (pblk t_) ((poff t_)+4) [Vi v24] w4→(IsAt t_∧(∃(v30:Int),w5.cell? ⟨(pblk t_),(poff t_)+4,none⟩=some (Vi v30)∧((((v30==0)&&(decide (n_>1)))=true→(IsAt t_∧(zd w5 (pblk t_) ((poff t_)+4) 1∧(∀ w7,w7=World.puts (pblk t_) ((poff t_)+4) [Vi 4] w5→(F_q R n_ w7))))) ∧
 (((v30==0)&&(decide (n_>1)))=false→(F_q R n_ w5))))))))))))))))))))))

def F_he (r:T_a) (R:Int→WP) (w:World):Prop :=
 ∀ b_ w1,b_=w.heap.size→w1=w.alloc (Obj.cells ([Vo r.Gone,Vs r.B,Vi r.At,Vi r.Code]).toArray y_b (0,0))→(∃(v4:Bool),w1.cell? ⟨b_,0,none⟩=some (Vo v4)∧((v4=true→(R 2 w1)) ∧
 (v4=false→(∃(v6:Int),w1.cell? ⟨b_,3,none⟩=some (Vi v6)∧(((v6 != 0)=true→(∃(v9:Int),w1.cell? ⟨b_,3,none⟩=some (Vi v9)∧(R v9 w1))) ∧
 ((v6 != 0)=false→(∃(v11:Int),w1.cell? ⟨b_,2,none⟩=some (Vi v11)∧(∃(v13:Slc),w1.cell? ⟨b_,1,none⟩=some (Vs v13)∧(((decide (v11<((v13.len:Nat):Int)))=true→(R 4 w1)) ∧
 ((decide (v11<((v13.len:Nat):Int)))=false→(R 0 w1)))))))))))

def F_ub (a_:Slc) (b_:Slc) (R:Bool→WP) (again_:Int→WP) (i:Int) (w1:World):Prop :=
 ((decide (i<((a_.len:Nat):Int)))=true→(IsAt a_.ptr∧(0≤i∧i<((a_.len:Nat):Int)∧(∃(v20:T_c),ze w1 (pblk a_.ptr) ((poff a_.ptr)+i.toNat*3) [Vi v20.Number,Value.string v20.Val,Vo v20.Drop]∧(IsAt b_.ptr∧(0≤i∧i<((b_.len:Nat):Int)∧(∃(v24:T_c),ze w1 (pblk b_.ptr) ((poff b_.ptr)+i.toNat*3) [Vi v24.Number,Value.string v24.Val,Vo v24.Drop]∧(∀ w2,Ext w1 w2→(((!(((v20.Number==v24.Number)&&(v20.Val==v24.Val))&&(v20.Drop==v24.Drop)))=true→(R false w2)) ∧
 ((!(((v20.Number==v24.Number)&&(v20.Val==v24.Val))&&(v20.Drop==v24.Drop)))=false→(again_ (IntKind.i64.wrap (i+1)) w2))))))))))) ∧
 ((decide (i<((a_.len:Nat):Int)))=false→(R true w1))

def F_Xc (a_:Slc) (b_:Slc) (R:Bool→WP) (w:World):Prop :=
 ((((a_.len:Nat):Int) != ((b_.len:Nat):Int))=true→(R false w)) ∧
 ((((a_.len:Nat):Int) != ((b_.len:Nat):Int))=false→(∃(I:Int→WP) (μ:Int→World→Nat),I 0 w ∧
 ∀(i:Int) w,I i w→F_ub a_ b_ R (fun(i':Int) w'=>I i' w'∧μ i' w'<μ i w) i w))

def F_df (R:OA→WP) (w:World):Prop :=
 ∀ b_ w1,b_=w.heap.size→w1=w.alloc (Obj.map #[] 0)→(∀ b_1 w2,b_1=w1.heap.size→w2=w1.alloc (Obj.cells ([Value.map (some b_)]).toArray y_w (0,0))→(R (some ⟨b_1,0,none⟩) w2))

def F_ef (key:ByteArray) (R:Bool→WP) (w:World):Prop :=
 R ((!(key.toList==ByteArray.empty.toList))&&(decide (((key.size:Nat):Int)≤64))) w

def F_c (R:Int→WP) (t7:Int) (again_:Int→WP) (t49:Bool) (w4:World):Prop :=
 (t49=true→(R 1 w4)) ∧
 (t49=false→(again_ (IntKind.i64.wrap (t7+1)) w4))

def F_4d (l_:Slc) (R:Int→WP) (again_:Int→WP) (t7:Int) (w1:World):Prop :=
 ((decide (t7<((l_.len:Nat):Int)))=true→(IsAt l_.ptr∧(0≤t7∧t7<((l_.len:Nat):Int)∧(∃(v11:T_c),ze w1 (pblk l_.ptr) ((poff l_.ptr)+t7.toNat*3) [Vi v11.Number,Value.string v11.Val,Vo v11.Drop]∧(∀ b_ w2,b_=w1.heap.size→w2=w1.alloc (Obj.cells ([Vi 0,Value.string ByteArray.empty,Vo false]).toArray y_c (0,0))→(zd w2 b_ 0 3∧(∀ w3,w3=World.puts b_ 0 [Vi v11.Number,Value.string v11.Val,Vo v11.Drop] w2→(∃(v13:Int),w3.cell? ⟨b_,0,none⟩=some (Vi v13)∧(((decide (v13<1))=true→(∀ w5,Ext w3 w5→(F_c R t7 again_ true w5))) ∧
 ((decide (v13<1))=false→(∃(v17:Int),w3.cell? ⟨b_,0,none⟩=some (Vi v17)∧(((decide (v17>65536))=true→(∀ w6,Ext w3 w6→(F_c R t7 again_ true w6))) ∧
 ((decide (v17>65536))=false→(∃(v22:ByteArray),w3.cell? ⟨b_,1,none⟩=some (Value.string v22)∧(((decide (((v22.size:Nat):Int)>1024))=true→(∀ w7,Ext w3 w7→(F_c R t7 again_ true w7))) ∧
 ((decide (((v22.size:Nat):Int)>1024))=false→(∃(v28:Bool),w3.cell? ⟨b_,2,none⟩=some (Vo v28)∧((v28=true→(∃(v31:ByteArray),w3.cell? ⟨b_,1,none⟩=some (Value.string v31)∧(((!(v31.toList==ByteArray.empty.toList))=true→(∀ w8,Ext w3 w8→(F_c R t7 again_ true w8))) ∧
 ((!(v31.toList==ByteArray.empty.toList))=false→(((decide (t7>0))=true→(IsAt l_.ptr∧(0≤IntKind.i64.wrap (t7 - 1)∧IntKind.i64.wrap (t7 - 1)<((l_.len:Nat):Int)∧(∃(v44:Int),w3.cell? ⟨(pblk l_.ptr),(poff l_.ptr)+(IntKind.i64.wrap (t7 - 1)).toNat*3,none⟩=some (Vi v44)∧(∃(v46:Int),w3.cell? ⟨b_,0,none⟩=some (Vi v46)∧(∀ w9,Ext w3 w9→(F_c R t7 again_ (decide (v44≥v46)) w9))))))) ∧
 ((decide (t7>0))=false→(∀ w10,Ext w3 w10→(F_c R t7 again_ false w10)))))))) ∧
 (v28=false→(((decide (t7>0))=true→(IsAt l_.ptr∧(0≤IntKind.i64.wrap (t7 - 1)∧IntKind.i64.wrap (t7 - 1)<((l_.len:Nat):Int)∧(∃(v441:Int),w3.cell? ⟨(pblk l_.ptr),(poff l_.ptr)+(IntKind.i64.wrap (t7 - 1)).toNat*3,none⟩=some (Vi v441)∧(∃(v461:Int),w3.cell? ⟨b_,0,none⟩=some (Vi v461)∧(∀ w11,Ext w3 w11→(F_c R t7 again_ (decide (v441≥v461)) w11))))))) ∧
 ((decide (t7>0))=false→(∀ w12,Ext w3 w12→(F_c R t7 again_ false w12))))))))))))))))))))))) ∧
 ((decide (t7<((l_.len:Nat):Int)))=false→(R 0 w1))

def F_2e (l_:Slc) (R:Int→WP) (w:World):Prop :=
 ∃(I:Int→WP) (μ:Int→World→Nat),I 0 w ∧
 ∀(t7:Int) w,I t7 w→F_4d l_ R (fun(t7':Int) w'=>I t7' w'∧μ t7' w'<μ t7 w) t7 w

def F_gb (s:Slc) (R:Slc→WP) (w:World):Prop :=
 (s.ptr.isNone=true→(R (Slc.mk none 0 0) w)) ∧
 (s.ptr.isNone=false→(∀ b_ w1,b_=w.heap.size→w1=w.alloc (Obj.cells ([]).toArray y_c (0,0))→(∃ src,zh w1 s 3 src∧zj 3 32 y_c [Vi 0,Value.string ByteArray.empty,Vo false] (Slc.mk (some ⟨b_,0,none⟩) 0 0) src s.len w1 (fun v7 w2=>R v7 w2))))

def F_Qe (x:Int) (y:Int) (R:Bool→WP) (w:World):Prop :=
 C_Cc x w (fun(v6:Bool) w1=>(v6=true→(C_Cc y w1 (fun(v9:Bool) w2=>R ((!v9)||(decide (x<y))) w2))) ∧
 (v6=false→(R (decide (x<y)) w1)))

def F_pe (x:Int) (R:Bool→WP) (w:World):Prop :=
 R (x != x) w

def F_te (b_1:Nat) (t4:Int) (again_:Int→WP) (again_1:Int→Int→WP) (c:Int) (t9:Int) (w4:World):Prop :=
 ((decide (t9<8))=true→(again_1 (bxor .u32 (Int.fdiv c (2 ^ 1)) (band .u32 2197175160 (IntKind.u32.wrap (0 - (band .u32 c 1))))) (IntKind.i64.wrap (t9+1)) w4)) ∧
 ((decide (t9<8))=false→(0≤t4∧t4<(256:Int)∧(zd w4 b_1 (0+t4.toNat) 1∧(∀ w5,w5=World.puts b_1 (0+t4.toNat) [Value.int .u32 c] w4→(again_ (IntKind.i64.wrap (t4+1)) w5)))))

def F_ue (R:List Int→WP) (b_:Nat) (b_1:Nat) (again_:Int→WP) (t4:Int) (w3:World):Prop :=
 ((decide (t4<256))=true→(∃(I:Int→Int→WP) (μ:Int→Int→World→Nat),I (IntKind.u32.wrap t4) 0 w3 ∧
 ∀(c:Int) (t9:Int) w,I c t9 w→F_te b_1 t4 again_ (fun(c':Int) (t9':Int) w'=>I c' t9' w'∧μ c' t9' w'<μ c t9 w) c t9 w)) ∧
 ((decide (t4<256))=false→(∃(v23:List Int),(v23.length=256)∧ze w3 b_1 0 (List.map (Value.int .u32) v23)∧(zd w3 b_ 0 256∧(∀ w6,w6=World.puts b_ 0 (List.map (Value.int .u32) v23) w3→(∃(res:List Int),(res.length=256)∧ze w6 b_ 0 (List.map (Value.int .u32) res)∧(R res w6))))))

def F_ff (R:List Int→WP) (w:World):Prop :=
 ∀ b_ w1,b_=w.heap.size→w1=w.alloc (Obj.cells ((List.map (Value.int .u32) (List.replicate 256 0))).toArray y_k (0,0))→(∀ b_1 w2,b_1=w1.heap.size→w2=w1.alloc (Obj.cells ((List.map (Value.int .u32) (List.replicate 256 0))).toArray y_k (0,0))→(∃(I:Int→WP) (μ:Int→World→Nat),I 0 w2 ∧
 ∀(t4:Int) w,I t4 w→F_ue R b_ b_1 (fun(t4':Int) w'=>I t4' w'∧μ t4' w'<μ t4 w) t4 w))

def F_Ye (s:ByteArray) (R:Bool→WP) (w:World):Prop :=
 R ((decide (((s.size:Nat):Int)≥1))&&(decide (((s.size:Nat):Int)≤64))) w

def F_R (R:Int→WP) (i:Int) (again_:Int→WP) (t33:Bool) (w2:World):Prop :=
 (t33=true→(R 1 w2)) ∧
 (t33=false→(again_ (IntKind.i64.wrap (i+1)) w2))

def F_xc (l_:Slc) (R:Int→WP) (again_:Int→WP) (i:Int) (w1:World):Prop :=
 ((decide (i<((l_.len:Nat):Int)))=true→(∀ w3,(∃ k,w3=w1.drewN k)→(IsAt l_.ptr∧(0≤i∧i<((l_.len:Nat):Int)∧(∃(v13:T_c),ze w3 (pblk l_.ptr) ((poff l_.ptr)+i.toNat*3) [Vi v13.Number,Value.string v13.Val,Vo v13.Drop]∧(C_rc v13 w3 (fun(v14:Bool) w4=>(((!v14)=true→(F_R R i again_ true w4)) ∧
 ((!v14)=false→(((decide (i>0))=true→(IsAt l_.ptr∧(0≤IntKind.i64.wrap (i - 1)∧IntKind.i64.wrap (i - 1)<((l_.len:Nat):Int)∧(∃(v25:Int),w4.cell? ⟨(pblk l_.ptr),(poff l_.ptr)+(IntKind.i64.wrap (i - 1)).toNat*3,none⟩=some (Vi v25)∧(IsAt l_.ptr∧(0≤i∧i<((l_.len:Nat):Int)∧(∃(v30:Int),w4.cell? ⟨(pblk l_.ptr),(poff l_.ptr)+i.toNat*3,none⟩=some (Vi v30)∧(F_R R i again_ (decide (v25≥v30)) w4)))))))) ∧
 ((decide (i>0))=false→(F_R R i again_ false w4)))))))))))) ∧
 ((decide (i<((l_.len:Nat):Int)))=false→(R 0 w1))

def F_5d (l_:Slc) (R:Int→WP) (w:World):Prop :=
 ∃(I:Int→WP) (μ:Int→World→Nat),I 0 w ∧
 ∀(i:Int) w,I i w→F_xc l_ R (fun(i':Int) w'=>I i' w'∧μ i' w'<μ i w) i w

def F_Pb (r:OA) (next:Value) (R:Bool→WP) (t22:Bool) (w1:World):Prop :=
 (t22=true→(R false w1)) ∧
 (t22=false→(IsAt r∧(∃(v28:Slc),w1.cell? ⟨(pblk r),(poff r)+1,none⟩=some (Vs v28)∧(zT (P:=Tryz.prog) next #[Vs v28] w1 (fun e' w2=>∃(n_:Int) (e:Int),e'=Ending.returned (Value.tuple #[Vi n_,Vi e])∧(((e != 0)=true→(IsAt r∧(zd w2 (pblk r) ((poff r)+2) 1∧(∀ w3,w3=World.puts (pblk r) ((poff r)+2) [Vi e] w2→(R false w3))))) ∧
 ((e != 0)=false→(∀ w4,(∃ k,w4=w2.drewN k)→(IsAt r∧(∃(v42:Slc),w4.cell? ⟨(pblk r),(poff r)+1,none⟩=some (Vs v42)∧(IsAt r∧(∃(v47:Slc),w4.cell? ⟨(pblk r),(poff r)+1,none⟩=some (Vs v47)∧(IsAt r∧(∃(v52:Slc),w4.cell? ⟨(pblk r),(poff r)+1,none⟩=some (Vs v52)∧((0≤n_∧n_≤((v47.len:Nat):Int)∧((v47.len:Nat):Int)≤((v52.len:Nat):Int)∧((v52.len:Nat):Int)≤((v42.cap:Nat):Int))∧(∀ s,s=Slc.cut 1 v42 n_ ((v47.len:Nat):Int) ((v52.len:Nat):Int)→(IsAt r∧(zd w4 (pblk r) ((poff r)+1) 1∧(∀ w5,w5=World.puts (pblk r) ((poff r)+1) [Vs s] w4→(R true w5))))))))))))))))))))

def F_Oe (r:OA) (next:Value) (R:Bool→WP) (w:World):Prop :=
 (r.isNone=true→(F_Pb r next R true w)) ∧
 (r.isNone=false→(IsAt r∧(∃(v13:Bool),w.cell? ⟨(pblk r),(poff r),none⟩=some (Vo v13)∧(((!v13)=true→(F_Pb r next R true w)) ∧
 ((!v13)=false→(IsAt r∧(∃(v20:Int),w.cell? ⟨(pblk r),(poff r)+2,none⟩=some (Vi v20)∧(F_Pb r next R (v20 != 0) w))))))))

def F_He (b_:Slc) (t1:OA) (R:Int→Int→WP) (w:World):Prop :=
 C_vc b_ w (fun(v:Int) (size:Int) (e:Int) w1=>IsAt t1∧(zd w1 (pblk t1) (poff t1) 1∧(∀ w2,w2=World.puts (pblk t1) (poff t1) [Value.int .u64 v] w1→(R size e w2))))

def F_6d (b_:Slc) (R:Int→Int→Int→WP) (again_:Int→Int→WP) (n_:Int) (t9:Int) (w1:World):Prop :=
 ((decide (t9<((b_.len:Nat):Int)))=true→(IsAt b_.ptr∧(0≤t9∧t9<((b_.len:Nat):Int)∧(∃(c:Int),w1.cell? ⟨(pblk b_.ptr),(poff b_.ptr)+t9.toNat,none⟩=some (Value.int .u8 c)∧(((((t9==9)&&(decide (c>1)))||((decide (t9>0))&&(c==0)))=true→(R 0 0 4 w1)) ∧
 ((((t9==9)&&(decide (c>1)))||((decide (t9>0))&&(c==0)))=false→(0≤IntKind.i64.wrap (7*t9)∧(((decide (c<128))=true→(R (bor .u64 n_ (IntKind.u64.wrap ((IntKind.u64.wrap (band .u8 c 127))*2 ^ (min (IntKind.i64.wrap (7*t9)).toNat 64)))) (IntKind.i64.wrap (t9+1)) 0 w1)) ∧
 ((decide (c<128))=false→(again_ (bor .u64 n_ (IntKind.u64.wrap ((IntKind.u64.wrap (band .u8 c 127))*2 ^ (min (IntKind.i64.wrap (7*t9)).toNat 64)))) (IntKind.i64.wrap (t9+1)) w1)))))))))) ∧
 ((decide (t9<((b_.len:Nat):Int)))=false→(R 0 0 5 w1))

def F_3e (b_:Slc) (R:Int→Int→Int→WP) (w:World):Prop :=
 ∃(I:Int→Int→WP) (μ:Int→Int→World→Nat),I 0 0 w ∧
 ∀(n_:Int) (t9:Int) w,I n_ t9 w→F_6d b_ R (fun(n_':Int) (t9':Int) w'=>I n_' t9' w'∧μ n_' t9' w'<μ n_ t9 w) n_ t9 w

def F_3b (b_:Slc) (t1:OA) (t2:OA) (R:Int→Int→WP) (again_:Int→WP) (i:Int) (w2:World):Prop :=
 ((decide (i≥0))=true→(∀ w3,(∃ k,w3=w2.drewN k)→(IsAt t2∧(∃(v25:Int),w3.cell? ⟨(pblk t2),(poff t2),none⟩=some (Value.int .u64 v25)∧(IsAt b_.ptr∧(0≤i∧i<((b_.len:Nat):Int)∧(∃(v30:Int),w3.cell? ⟨(pblk b_.ptr),(poff b_.ptr)+i.toNat,none⟩=some (Value.int .u8 v30)∧(zd w3 (pblk t2) (poff t2) 1∧(∀ w4,w4=World.puts (pblk t2) (poff t2) [Value.int .u64 (bor .u64 (IntKind.u64.wrap (v25*2 ^ 8)) (IntKind.u64.wrap v30))] w3→(again_ (IntKind.i64.wrap (i - 1)) w4)))))))))) ∧
 ((decide (i≥0))=false→(IsAt t1∧(∃(v33:Int),w2.cell? ⟨(pblk t1),(poff t1),none⟩=some (Vi v33)∧(R v33 0 w2))))

def F_m (b_:Slc) (t1:OA) (t2:OA) (R:Int→Int→WP) (t7:Bool) (w1:World):Prop :=
 (t7=true→(R 0 1 w1)) ∧
 (t7=false→(IsAt t1∧(∃(v15:Int),w1.cell? ⟨(pblk t1),(poff t1),none⟩=some (Vi v15)∧(((decide (v15>((b_.len:Nat):Int)))=true→(R 0 5 w1)) ∧
 ((decide (v15>((b_.len:Nat):Int)))=false→(IsAt t1∧(∃(v19:Int),w1.cell? ⟨(pblk t1),(poff t1),none⟩=some (Vi v19)∧(∃(I:Int→WP) (μ:Int→World→Nat),I (IntKind.i64.wrap (v19 - 1)) w1 ∧
 ∀(i:Int) w,I i w→F_3b b_ t1 t2 R (fun(i':Int) w'=>I i' w'∧μ i' w'<μ i w) i w))))))))

def F_Ld (b_:Slc) (t1:OA) (t2:OA) (R:Int→Int→WP) (w:World):Prop :=
 IsAt t1∧(∃(v8:Int),w.cell? ⟨(pblk t1),(poff t1),none⟩=some (Vi v8)∧(((decide (v8<1))=true→(F_m b_ t1 t2 R true w)) ∧
 ((decide (v8<1))=false→(∃(v11:Int),w.cell? ⟨(pblk t1),(poff t1),none⟩=some (Vi v11)∧(F_m b_ t1 t2 R (decide (v11>8)) w)))))

def F_Qd (b_:Slc) (t1:OA) (t2:OA) (R:Int→Int→WP) (w:World):Prop :=
 IsAt t1∧(∃(v9:Int),w.cell? ⟨(pblk t1),(poff t1),none⟩=some (Vi v9)∧(((decide (v9<0))=true→(R 0 1 w)) ∧
 ((decide (v9<0))=false→(C_vc b_ w (fun(n_:Int) (size:Int) (e:Int) w1=>((e != 0)=true→(R 0 e w1)) ∧
 ((e != 0)=false→(IsAt t1∧(∃(v23:Int),w1.cell? ⟨(pblk t1),(poff t1),none⟩=some (Vi v23)∧(((decide (n_>(IntKind.u64.wrap v23)))=true→(R 0 3 w1)) ∧
 ((decide (n_>(IntKind.u64.wrap v23)))=false→(((decide (n_>(IntKind.u64.wrap (IntKind.i64.wrap (((b_.len:Nat):Int) - size)))))=true→(R 0 5 w1)) ∧
 ((decide (n_>(IntKind.u64.wrap (IntKind.i64.wrap (((b_.len:Nat):Int) - size)))))=false→((0≤size∧size≤IntKind.i64.wrap (size+(IntKind.i64.wrap n_))∧IntKind.i64.wrap (size+(IntKind.i64.wrap n_))≤((b_.cap:Nat):Int)∧((b_.cap:Nat):Int)≤((b_.cap:Nat):Int))∧(∀ s,s=Slc.cut 1 b_ size (IntKind.i64.wrap (size+(IntKind.i64.wrap n_))) ((b_.cap:Nat):Int)→(∃ str:ByteArray,zh w1 s 1 (zcb str)∧(IsAt t2∧(zd w1 (pblk t2) (poff t2) 1∧(∀ w2,w2=World.puts (pblk t2) (poff t2) [Value.string str] w1→(R (IntKind.i64.wrap (size+(IntKind.i64.wrap n_))) 0 w2)))))))))))))))))))

def F_Jb (R:T_a→Int→WP) (b_:Nat) (b_1:Nat) (again_:Int→Int→Int→WP) (n_:Int) (f:Int) (i:Int) (w5:World):Prop :=
 ∃(v14:Int),w5.cell? ⟨b_,2,none⟩=some (Vi v14)∧(∃(v18:Slc),w5.cell? ⟨b_,1,none⟩=some (Vs v18)∧(((decide ((IntKind.i64.wrap (v14+i))≥((v18.len:Nat):Int)))=true→(∃(v21:T_a),ze w5 b_ 0 [Vo v21.Gone,Vs v21.B,Vi v21.At,Vi v21.Code]∧(C_a v21 5 w5 (fun(v22:T_a) w6=>zd w6 b_1 0 4∧(∀ w7,w7=World.puts b_1 0 [Vo v22.Gone,Vs v22.B,Vi v22.At,Vi v22.Code] w6→(∃(res1:T_a),ze w7 b_1 0 [Vo res1.Gone,Vs res1.B,Vi res1.At,Vi res1.Code]∧(R res1 0 w7))))))) ∧
 ((decide ((IntKind.i64.wrap (v14+i))≥((v18.len:Nat):Int)))=false→(∃(v24:Slc),w5.cell? ⟨b_,1,none⟩=some (Vs v24)∧(∃(v26:Int),w5.cell? ⟨b_,2,none⟩=some (Vi v26)∧(IsAt v24.ptr∧(0≤IntKind.i64.wrap (v26+i)∧IntKind.i64.wrap (v26+i)<((v24.len:Nat):Int)∧(∃(c:Int),w5.cell? ⟨(pblk v24.ptr),(poff v24.ptr)+(IntKind.i64.wrap (v26+i)).toNat,none⟩=some (Value.int .u8 c)∧(((((i==9)&&(decide (c>1)))||((decide (i>0))&&(c==0)))=true→(∃(v45:T_a),ze w5 b_ 0 [Vo v45.Gone,Vs v45.B,Vi v45.At,Vi v45.Code]∧(C_a v45 4 w5 (fun(v46:T_a) w8=>zd w8 b_1 0 4∧(∀ w9,w9=World.puts b_1 0 [Vo v46.Gone,Vs v46.B,Vi v46.At,Vi v46.Code] w8→(∃(res2:T_a),ze w9 b_1 0 [Vo res2.Gone,Vs res2.B,Vi res2.At,Vi res2.Code]∧(R res2 0 w9))))))) ∧
 ((((i==9)&&(decide (c>1)))||((decide (i>0))&&(c==0)))=false→(((decide (c<128))=true→(∃(v59:Int),w5.cell? ⟨b_,2,none⟩=some (Vi v59)∧(zd w5 b_ 2 1∧(∀ w10,w10=World.puts b_ 2 [Vi (IntKind.i64.wrap ((IntKind.i64.wrap (v59+i))+1))] w5→(∃(v64:T_a),ze w10 b_ 0 [Vo v64.Gone,Vs v64.B,Vi v64.At,Vi v64.Code]∧(zd w10 b_1 0 4∧(∀ w11,w11=World.puts b_1 0 [Vo v64.Gone,Vs v64.B,Vi v64.At,Vi v64.Code] w10→(∃(res3:T_a),ze w11 b_1 0 [Vo res3.Gone,Vs res3.B,Vi res3.At,Vi res3.Code]∧(R res3 (IntKind.u64.wrap (n_+(IntKind.u64.wrap (f*(IntKind.u64.wrap (Int.tmod c 128)))))) w11))))))))) ∧
 ((decide (c<128))=false→(again_ (IntKind.u64.wrap (n_+(IntKind.u64.wrap (f*(IntKind.u64.wrap (Int.tmod c 128)))))) (IntKind.u64.wrap (128*f)) (IntKind.i64.wrap (i+1)) w5)))))))))))))

def F_ie (r:T_a) (R:T_a→Int→WP) (w:World):Prop :=
 ∀ b_ w1,b_=w.heap.size→w1=w.alloc (Obj.cells ([Vo r.Gone,Vs r.B,Vi r.At,Vi r.Code]).toArray y_b (0,0))→(∀ b_1 w2,b_1=w1.heap.size→w2=w1.alloc (Obj.cells ([Vo false,Value.slice none 0 0,Vi 0,Vi 0]).toArray y_b (0,0))→(∃(v8:T_a),ze w2 b_ 0 [Vo v8.Gone,Vs v8.B,Vi v8.At,Vi v8.Code]∧(C_f v8 w2 (fun(v9:Bool) w3=>(v9=true→(∃(v10:T_a),ze w3 b_ 0 [Vo v10.Gone,Vs v10.B,Vi v10.At,Vi v10.Code]∧(zd w3 b_1 0 4∧(∀ w4,w4=World.puts b_1 0 [Vo v10.Gone,Vs v10.B,Vi v10.At,Vi v10.Code] w3→(∃(res:T_a),ze w4 b_1 0 [Vo res.Gone,Vs res.B,Vi res.At,Vi res.Code]∧(R res 0 w4)))))) ∧
 (v9=false→(∃(I:Int→Int→Int→WP) (μ:Int→Int→Int→World→Nat),I 0 1 0 w3 ∧
 ∀(n_:Int) (f:Int) (i:Int) w,I n_ f i w→F_Jb R b_ b_1 (fun(n_':Int) (f':Int) (i':Int) w'=>I n_' f' i' w'∧μ n_' f' i' w'<μ n_ f i w) n_ f i w))))))

def F_ae (r:T_a) (most:Int) (R:T_a→ByteArray→WP) (w:World):Prop :=
 ∀ b_ w1,b_=w.heap.size→w1=w.alloc (Obj.cells ([Vo r.Gone,Vs r.B,Vi r.At,Vi r.Code]).toArray y_b (0,0))→(∀ b_1 w2,b_1=w1.heap.size→w2=w1.alloc (Obj.cells ([Vo false,Value.slice none 0 0,Vi 0,Vi 0]).toArray y_b (0,0))→(∃(v9:T_a),ze w2 b_ 0 [Vo v9.Gone,Vs v9.B,Vi v9.At,Vi v9.Code]∧(C_f v9 w2 (fun(v10:Bool) w3=>(v10=true→(∃(v11:T_a),ze w3 b_ 0 [Vo v11.Gone,Vs v11.B,Vi v11.At,Vi v11.Code]∧(zd w3 b_1 0 4∧(∀ w4,w4=World.puts b_1 0 [Vo v11.Gone,Vs v11.B,Vi v11.At,Vi v11.Code] w3→(∃(res:T_a),ze w4 b_1 0 [Vo res.Gone,Vs res.B,Vi res.At,Vi res.Code]∧(R res ByteArray.empty w4)))))) ∧
 (v10=false→(((decide (most<0))=true→(∃(v14:T_a),ze w3 b_ 0 [Vo v14.Gone,Vs v14.B,Vi v14.At,Vi v14.Code]∧(C_a v14 1 w3 (fun(v15:T_a) w5=>zd w5 b_1 0 4∧(∀ w6,w6=World.puts b_1 0 [Vo v15.Gone,Vs v15.B,Vi v15.At,Vi v15.Code] w5→(∃(res1:T_a),ze w6 b_1 0 [Vo res1.Gone,Vs res1.B,Vi res1.At,Vi res1.Code]∧(R res1 ByteArray.empty w6))))))) ∧
 ((decide (most<0))=false→(∃(v17:T_a),ze w3 b_ 0 [Vo v17.Gone,Vs v17.B,Vi v17.At,Vi v17.Code]∧(C_q v17 w3 (fun(v18:T_a) (n_:Int) w7=>∀ b_2 w8,b_2=w7.heap.size→w8=w7.alloc (Obj.cells ([Vo false,Value.slice none 0 0,Vi 0,Vi 0]).toArray y_b (0,0))→(zd w8 b_2 0 4∧(∀ w9,w9=World.puts b_2 0 [Vo v18.Gone,Vs v18.B,Vi v18.At,Vi v18.Code] w8→(∃(v21:T_a),ze w9 b_2 0 [Vo v21.Gone,Vs v21.B,Vi v21.At,Vi v21.Code]∧(C_f v21 w9 (fun(v22:Bool) w10=>(v22=true→(∃(v23:T_a),ze w10 b_ 0 [Vo v23.Gone,Vs v23.B,Vi v23.At,Vi v23.Code]∧(∃(v25:Int),w10.cell? ⟨b_2,3,none⟩=some (Vi v25)∧(C_a v23 v25 w10 (fun(v26:T_a) w11=>zd w11 b_1 0 4∧(∀ w12,w12=World.puts b_1 0 [Vo v26.Gone,Vs v26.B,Vi v26.At,Vi v26.Code] w11→(∃(res2:T_a),ze w12 b_1 0 [Vo res2.Gone,Vs res2.B,Vi res2.At,Vi res2.Code]∧(R res2 ByteArray.empty w12)))))))) ∧
 (v22=false→(((decide (n_>(IntKind.u64.wrap most)))=true→(∃(v31:T_a),ze w10 b_ 0 [Vo v31.Gone,Vs v31.B,Vi v31.At,Vi v31.Code]∧(C_a v31 3 w10 (fun(v32:T_a) w13=>zd w13 b_1 0 4∧(∀ w14,w14=World.puts b_1 0 [Vo v32.Gone,Vs v32.B,Vi v32.At,Vi v32.Code] w13→(∃(res3:T_a),ze w14 b_1 0 [Vo res3.Gone,Vs res3.B,Vi res3.At,Vi res3.Code]∧(R res3 ByteArray.empty w14))))))) ∧
 ((decide (n_>(IntKind.u64.wrap most)))=false→(∃(v35:Slc),w10.cell? ⟨b_,1,none⟩=some (Vs v35)∧(∃(v38:Int),w10.cell? ⟨b_2,2,none⟩=some (Vi v38)∧(((decide (n_>(IntKind.u64.wrap (IntKind.i64.wrap (((v35.len:Nat):Int) - v38)))))=true→(∃(v42:T_a),ze w10 b_ 0 [Vo v42.Gone,Vs v42.B,Vi v42.At,Vi v42.Code]∧(C_a v42 5 w10 (fun(v43:T_a) w15=>zd w15 b_1 0 4∧(∀ w16,w16=World.puts b_1 0 [Vo v43.Gone,Vs v43.B,Vi v43.At,Vi v43.Code] w15→(∃(res4:T_a),ze w16 b_1 0 [Vo res4.Gone,Vs res4.B,Vi res4.At,Vi res4.Code]∧(R res4 ByteArray.empty w16))))))) ∧
 ((decide (n_>(IntKind.u64.wrap (IntKind.i64.wrap (((v35.len:Nat):Int) - v38)))))=false→(∃(v45:Slc),w10.cell? ⟨b_,1,none⟩=some (Vs v45)∧(∃(v47:Int),w10.cell? ⟨b_2,2,none⟩=some (Vi v47)∧(∃(v49:Int),w10.cell? ⟨b_2,2,none⟩=some (Vi v49)∧((0≤v47∧v47≤IntKind.i64.wrap (v49+(IntKind.i64.wrap n_))∧IntKind.i64.wrap (v49+(IntKind.i64.wrap n_))≤((v45.cap:Nat):Int)∧((v45.cap:Nat):Int)≤((v45.cap:Nat):Int))∧(∀ s,s=Slc.cut 1 v45 v47 (IntKind.i64.wrap (v49+(IntKind.i64.wrap n_))) ((v45.cap:Nat):Int)→(∃ str:ByteArray,zh w10 s 1 (zcb str)∧(∃(v56:Int),w10.cell? ⟨b_2,2,none⟩=some (Vi v56)∧(zd w10 b_2 2 1∧(∀ w17,w17=World.puts b_2 2 [Vi (IntKind.i64.wrap (v56+(IntKind.i64.wrap n_)))] w10→(∃(v61:T_a),ze w17 b_2 0 [Vo v61.Gone,Vs v61.B,Vi v61.At,Vi v61.Code]∧(zd w17 b_1 0 4∧(∀ w18,w18=World.puts b_1 0 [Vo v61.Gone,Vs v61.B,Vi v61.At,Vi v61.Code] w17→(∃(res5:T_a),ze w18 b_1 0 [Vo res5.Gone,Vs res5.B,Vi res5.At,Vi res5.Code]∧(R res5 str w18))))))))))))))))))))))))))))))))))))

def F_Ie (x:Int) (R:Bool→WP) (w:World):Prop :=
 R (x != x) w

def F_qe (v:T_c) (R:Bool→WP) (w:World):Prop :=
 ∀ b_ w1,b_=w.heap.size→w1=w.alloc (Obj.cells ([Vi v.Number,Value.string v.Val,Vo v.Drop]).toArray y_c (0,0))→(∃(v4:Int),w1.cell? ⟨b_,0,none⟩=some (Vi v4)∧(((decide (v4≥1))=true→(∃(v8:Int),w1.cell? ⟨b_,0,none⟩=some (Vi v8)∧(((decide (v8≤65536))=true→(∃(v13:ByteArray),w1.cell? ⟨b_,1,none⟩=some (Value.string v13)∧(((decide (((v13.size:Nat):Int)≤1024))=true→(∃(v19:Bool),w1.cell? ⟨b_,2,none⟩=some (Vo v19)∧(((!v19)=true→(R true w1)) ∧
 ((!v19)=false→(∃(v23:ByteArray),w1.cell? ⟨b_,1,none⟩=some (Value.string v23)∧(R (((v23.size:Nat):Int)==0) w1)))))) ∧
 ((decide (((v13.size:Nat):Int)≤1024))=false→(R false w1))))) ∧
 ((decide (v8≤65536))=false→(R false w1))))) ∧
 ((decide (v4≥1))=false→(R false w1))))

end Go.Proofs.YtjlfdepkphibgaaGreatDoor
