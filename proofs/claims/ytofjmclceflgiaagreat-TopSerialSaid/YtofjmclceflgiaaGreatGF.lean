/- WRITTEN BY PROGRAM (dec.py): for each Go function the clean formula F, the call's contract C, and the proof S that F gives C. -/
import Derived.Test.YtofjmclceflgiaaGreatRows
import Derived.Test.YtofjmclceflgiaaGreatCore
namespace Go.Proofs.YtofjmclceflgiaaGreat
open Go
set_option linter.unusedVariables false


abbrev y_h:TypeId:=3

abbrev y_J:TypeId:=5

abbrev y_l:TypeId:=23

abbrev y_o:TypeId:=27

abbrev y_c:TypeId:=35

abbrev y_D:TypeId:=57

abbrev y_b:TypeId:=69

abbrev y_a:TypeId:=72

abbrev y_k:TypeId:=74

abbrev y_j:TypeId:=84

abbrev y_e:TypeId:=89

abbrev y_d:TypeId:=92

abbrev y_s:TypeId:=99

abbrev y_m:TypeId:=105

abbrev y_K:TypeId:=112

abbrev y_z:TypeId:=115

abbrev y_i:TypeId:=119

abbrev y_u:TypeId:=132

abbrev y_r:TypeId:=133

abbrev y_A:TypeId:=138

abbrev y_B:TypeId:=143

abbrev y_C:TypeId:=145

abbrev y_f:TypeId:=147

abbrev y_v:TypeId:=152

abbrev y_L:TypeId:=163

abbrev y_E:TypeId:=171

abbrev y_p:TypeId:=178

abbrev y_H:TypeId:=188

abbrev y_G:TypeId:=190

abbrev y_M:TypeId:=193

abbrev y_N:TypeId:=198

abbrev y_O:TypeId:=202

abbrev y_g:TypeId:=209

abbrev y_q:TypeId:=220

abbrev y_F:TypeId:=224

abbrev y_x:TypeId:=237

abbrev y_w:TypeId:=247

abbrev y_t:TypeId:=325

abbrev y_y:TypeId:=345

abbrev y_n:TypeId:=357

abbrev y_I:TypeId:=391

structure T_f where
 Lanes:Int
 Shards:Int
 Window:Int
 Queue:Int

structure T_g where
 Config:T_f
 Log:Slc
 Capacity:Int
 Fed:Int
 Picks:Slc

structure T_a where
 Task:Int
 Kind:Int
 Number:Int
 Shard:Int
 Count:Int
 Mark:Int

structure T_b where
 Number:Int
 Writes:Slc

structure T_m where
 Key:ByteArray
 Val:ByteArray

structure T_k where
 Key:ByteArray
 Versions:Slc

structure T_e where
 Mark:Int
 Beyond:Slc
 Held:Slc

structure zXd where
 e0:Int
 e1:Int

structure T_d where
 Key:ByteArray
 Val:ByteArray
 Drop:Bool

structure T_c where
 Kind:Int
 From:Int
 Number:Int
 Write:T_d
 Key:ByteArray
 End:ByteArray
 Beyond:Slc

structure T_h where
 To:Int
 OK:Bool
 Entries:Slc
 Held:Slc
 Count:Int

structure T_i where
 r:OA

structure T_j where
 Number:Int
 Val:ByteArray
 Drop:Bool

structure T_l where

structure zYb where
 e0:Value
 e1:Value
 e2:Value
 e3:Value
 e4:Value
 e5:Value

structure T_n where
 l:Slc
 at_:Int

def C_T (w_:T_g) (w:World) (R:Bool→WP):Prop :=
 Calls Tryz.prog 3 #[Value.agg #[Vi w_.Config.Lanes,Vi w_.Config.Shards,Vi w_.Config.Window,Vi w_.Config.Queue,Vs w_.Log,Vi w_.Capacity,Vi w_.Fed,Vs w_.Picks]] w (fun e w'=>∃(r0:Bool),e= .returned (Vo r0)∧R r0 w')

def C_J (w_:T_g) (w:World) (R:OA→OA→WP):Prop :=
 Calls Tryz.prog 5 #[Value.agg #[Vi w_.Config.Lanes,Vi w_.Config.Shards,Vi w_.Config.Window,Vi w_.Config.Queue,Vs w_.Log,Vi w_.Capacity,Vi w_.Fed,Vs w_.Picks]] w (fun e w'=>∃(r0:OA) (r1:OA),e= .returned (Value.tuple #[Vp r0,Vp r1])∧R r0 r1 w')

def C_g (w:World) (R:Bool→WP):Prop :=
 Calls Tryz.prog 6 #[] w (fun e w'=>∃(r0:Bool),e= .returned (Vo r0)∧R r0 w')

def C_y (r:OA) (pick:Int) (w:World) (R:T_a→Int→WP):Prop :=
 Calls Tryz.prog 7 #[Vp r,Vi pick] w (fun e w'=>∃(r0:T_a) (r1:Int),e= .returned (Value.tuple #[Value.agg #[Vi r0.Task,Value.int .u8 r0.Kind,Vi r0.Number,Vi r0.Shard,Vi r0.Count,Vi r0.Mark],Vi r1])∧R r0 r1 w')

def C_ib (l_:Slc) (at_:Int) (w:World) (R:Int→WP):Prop :=
 Calls Tryz.prog 8 #[Vs l_,Vi at_] w (fun e w'=>∃(r0:Int),e= .returned (Vi r0)∧R r0 w')

def C_Wb (l_:Slc) (first:Int) (w:World) (R:Slc→Int→WP):Prop :=
 Calls Tryz.prog 9 #[Vs l_,Vi first] w (fun e w'=>∃(r0:Slc) (r1:Int),e= .returned (Value.tuple #[Vs r0,Vi r1])∧R r0 r1 w')

def C_U (r:OA) (w:World) (R:Bool→WP):Prop :=
 Calls Tryz.prog 10 #[Vp r] w (fun e w'=>∃(r0:Bool),e= .returned (Vo r0)∧R r0 w')

def C_z (r:OA) (w:World) (R:Int→WP):Prop :=
 Calls Tryz.prog 11 #[Vp r] w (fun e w'=>∃(r0:Int),e= .returned (Vi r0)∧R r0 w')

def C_H (a_:Slc) (b_:Slc) (w:World) (R:Bool→WP):Prop :=
 Calls Tryz.prog 12 #[Vs a_,Vs b_] w (fun e w'=>∃(r0:Bool),e= .returned (Vo r0)∧R r0 w')

def C_u (r:OA) (w:World) (R:Slc→WP):Prop :=
 Calls Tryz.prog 13 #[Vp r] w (fun e w'=>∃(r0:Slc),e= .returned (Vs r0)∧R r0 w')

def C_I (r:OA) (w:World) (R:Slc→WP):Prop :=
 Calls Tryz.prog 17 #[Vp r] w (fun e w'=>∃(r0:Slc),e= .returned (Vs r0)∧R r0 w')

def C_bc (capacity:Int) (w:World) (R:OA→Int→WP):Prop :=
 Calls Tryz.prog 18 #[Vi capacity] w (fun e w'=>∃(r0:OA) (r1:Int),e= .returned (Value.tuple #[Vp r0,Vi r1])∧R r0 r1 w')

def C_Qb (l_:Slc) (w:World) (R:OA→Int→WP):Prop :=
 Calls Tryz.prog 19 #[Vs l_] w (fun e w'=>∃(r0:OA) (r1:Int),e= .returned (Value.tuple #[Vp r0,Vi r1])∧R r0 r1 w')

def C_Rb (c:T_f) (s:OA) (d:OA) (w:World) (R:OA→Int→WP):Prop :=
 Calls Tryz.prog 20 #[Value.agg #[Vi c.Lanes,Vi c.Shards,Vi c.Window,Vi c.Queue],Vp s,Vp d] w (fun e w'=>∃(r0:OA) (r1:Int),e= .returned (Value.tuple #[Vp r0,Vi r1])∧R r0 r1 w')

def C_V (r:OA) (last:Int) (w:World) (R:Int→WP):Prop :=
 Calls Tryz.prog 21 #[Vp r,Vi last] w (fun e w'=>∃(r0:Int),e= .returned (Vi r0)∧R r0 w')

def C_c (r:OA) (w:World) (R:Bool→WP):Prop :=
 Calls Tryz.prog 22 #[Vp r] w (fun e w'=>∃(r0:Bool),e= .returned (Vo r0)∧R r0 w')

def C_v (r:OA) (w:World) (R:Slc→WP):Prop :=
 Calls Tryz.prog 23 #[Vp r] w (fun e w'=>∃(r0:Slc),e= .returned (Vs r0)∧R r0 w')

def C_W (r:OA) (n_:Int) (w:World) (R:T_a→Int→WP):Prop :=
 Calls Tryz.prog 24 #[Vp r,Vi n_] w (fun e w'=>∃(r0:T_a) (r1:Int),e= .returned (Value.tuple #[Value.agg #[Vi r0.Task,Value.int .u8 r0.Kind,Vi r0.Number,Vi r0.Shard,Vi r0.Count,Vi r0.Mark],Vi r1])∧R r0 r1 w')

def C_4b (l_:Slc) (first:Int) (key:ByteArray) (end_:ByteArray) (w:World) (R:Slc→Int→WP):Prop :=
 Calls Tryz.prog 25 #[Vs l_,Vi first,Value.string key,Value.string end_] w (fun e w'=>∃(r0:Slc) (r1:Int),e= .returned (Value.tuple #[Vs r0,Vi r1])∧R r0 r1 w')

def C_P (g:OA) (w:World) (R:Int→WP):Prop :=
 Calls Tryz.prog 26 #[Vp g] w (fun e w'=>∃(r0:Int),e= .returned (Vi r0)∧R r0 w')

def C_jb (o_:OA) (w:World) (R:Slc→WP):Prop :=
 Calls Tryz.prog 30 #[Vp o_] w (fun e w'=>∃(r0:Slc),e= .returned (Vs r0)∧R r0 w')

def C_C (x:Slc) (cmp:Value) (w:World) (R:WP):Prop :=
 Calls Tryz.prog 31 #[Vs x,cmp] w (fun e w'=>e= .returned (Value.tuple #[])∧R w')

def C_2 (a_:T_k) (b_:T_k) (w:World) (R:Int→WP):Prop :=
 Calls Tryz.prog 32 #[Value.agg #[Value.string a_.Key,Vs a_.Versions],Value.agg #[Value.string b_.Key,Vs b_.Versions]] w (fun e w'=>∃(r0:Int),e= .returned (Vi r0)∧R r0 w')

def C_hc (a_:ByteArray) (b_:ByteArray) (w:World) (R:Int→WP):Prop :=
 Calls Tryz.prog 33 #[Value.string a_,Value.string b_] w (fun e w'=>∃(r0:Int),e= .returned (Vi r0)∧R r0 w')

def C_Cb (l_:Slc) (w:World) (R:Int→WP):Prop :=
 Calls Tryz.prog 34 #[Vs l_] w (fun e w'=>∃(r0:Int),e= .returned (Vi r0)∧R r0 w')

def C_5 (t_:T_b) (w:World) (R:T_b→WP):Prop :=
 Calls Tryz.prog 35 #[Value.agg #[Vi t_.Number,Vs t_.Writes]] w (fun e w'=>∃(r0:T_b),e= .returned (Value.agg #[Vi r0.Number,Vs r0.Writes])∧R r0 w')

def C_3 (c:T_f) (w:World) (R:Int→WP):Prop :=
 Calls Tryz.prog 36 #[Value.agg #[Vi c.Lanes,Vi c.Shards,Vi c.Window,Vi c.Queue]] w (fun e w'=>∃(r0:Int),e= .returned (Vi r0)∧R r0 w')

def C_Nb (d:OA) (w:World) (R:T_e→Int→Int→Bool→Int→WP):Prop :=
 Calls Tryz.prog 37 #[Vp d] w (fun e w'=>∃(r0:T_e) (r1:Int) (r2:Int) (r3:Bool) (r4:Int),e= .returned (Value.tuple #[Value.agg #[Vi r0.Mark,Vs r0.Beyond,Vs r0.Held],Vi r1,Vi r2,Vo r3,Vi r4])∧R r0 r1 r2 r3 r4 w')

def C_Vb (w:World) (R:OA→WP):Prop :=
 Calls Tryz.prog 38 #[] w (fun e w'=>∃(r0:OA),e= .returned (Vp r0)∧R r0 w')

def C_cc (s:OA) (mark:Int) (beyond:Slc) (window:Int) (w:World) (R:OA→Int→WP):Prop :=
 Calls Tryz.prog 39 #[Vp s,Vi mark,Vs beyond,Vi window] w (fun e w'=>∃(r0:OA) (r1:Int),e= .returned (Value.tuple #[Vp r0,Vi r1])∧R r0 r1 w')

def C_dc (mark:Int) (beyond:Slc) (w:World) (R:OA→Int→WP):Prop :=
 Calls Tryz.prog 40 #[Vi mark,Vs beyond] w (fun e w'=>∃(r0:OA) (r1:Int),e= .returned (Value.tuple #[Vp r0,Vi r1])∧R r0 r1 w')

def C_Xb (c:T_f) (s:T_e) (w:World) (R:Slc→Int→WP):Prop :=
 Calls Tryz.prog 41 #[Value.agg #[Vi c.Lanes,Vi c.Shards,Vi c.Window,Vi c.Queue],Value.agg #[Vi s.Mark,Vs s.Beyond,Vs s.Held]] w (fun e w'=>∃(r0:Slc) (r1:Int),e= .returned (Value.tuple #[Vs r0,Vi r1])∧R r0 r1 w')

def C_ec (number:Int) (c:T_f) (w:World) (R:OA→Int→WP):Prop :=
 Calls Tryz.prog 42 #[Vi number,Value.agg #[Vi c.Lanes,Vi c.Shards,Vi c.Window,Vi c.Queue]] w (fun e w'=>∃(r0:OA) (r1:Int),e= .returned (Value.tuple #[Vp r0,Vi r1])∧R r0 r1 w')

def C_5b (number:Int) (queue:Int) (l_:Slc) (w:World) (R:OA→Int→WP):Prop :=
 Calls Tryz.prog 43 #[Vi number,Vi queue,Vs l_] w (fun e w'=>∃(r0:OA) (r1:Int),e= .returned (Value.tuple #[Vp r0,Vi r1])∧R r0 r1 w')

def C_sb (f:OA) (last:Int) (w:World) (R:Int→WP):Prop :=
 Calls Tryz.prog 44 #[Vp f,Vi last] w (fun e w'=>∃(r0:Int),e= .returned (Vi r0)∧R r0 w')

def C_6 (c:OA) (w:World) (R:Int→WP):Prop :=
 Calls Tryz.prog 45 #[Vp c] w (fun e w'=>∃(r0:Int),e= .returned (Value.int .u8 r0)∧R r0 w')

def C_Db (r:OA) (n_:Int) (w:World) (R:Value→Bool→WP):Prop :=
 Calls Tryz.prog 46 #[Vp r,Vi n_] w (fun e w'=>∃(r0:Value) (r1:Bool),e= .returned (Value.tuple #[r0,Vo r1])∧R r0 r1 w')

def C_Sb (l_:Slc) (first:Int) (w:World) (R:Option Nat→Int→WP):Prop :=
 Calls Tryz.prog 47 #[Vs l_,Vi first] w (fun e w'=>∃(r0:Option Nat) (r1:Int),e= .returned (Value.tuple #[Value.map r0,Vi r1])∧R r0 r1 w')

def C_A (seq:Value) (w:World) (R:Slc→WP):Prop :=
 Calls Tryz.prog 48 #[seq] w (fun e w'=>∃(r0:Slc),e= .returned (Vs r0)∧R r0 w')

def C_f (m_:Option Nat) (w:World) (R:Value→WP):Prop :=
 Calls Tryz.prog 49 #[Value.map m_] w (fun e w'=>∃(r0:Value),e= .returned (r0)∧R r0 w')

def C_i (o_:OA) (w:World) (R:Bool→WP):Prop :=
 Calls Tryz.prog 50 #[Vp o_] w (fun e w'=>∃(r0:Bool),e= .returned (Vo r0)∧R r0 w')

def C_kb (s:OA) (w:World) (R:Slc→WP):Prop :=
 Calls Tryz.prog 51 #[Vp s] w (fun e w'=>∃(r0:Slc),e= .returned (Vs r0)∧R r0 w')

def C_3b (w:World) (R:Value→WP):Prop :=
 Calls Tryz.prog 55 #[] w (fun e w'=>∃(r0:Value),e= .returned (r0)∧R r0 w')

def C_l (s:Slc) (w:World) (R:Slc→WP):Prop :=
 Calls Tryz.prog 56 #[Vs s] w (fun e w'=>∃(r0:Slc),e= .returned (Vs r0)∧R r0 w')

def C_tb (d:OA) (slot:Int) (w:World) (R:Slc→Int→WP):Prop :=
 Calls Tryz.prog 57 #[Vp d,Vi slot] w (fun e w'=>∃(r0:Slc) (r1:Int),e= .returned (Value.tuple #[Vs r0,Vi r1])∧R r0 r1 w')

def C_rb (b_:Slc) (w:World) (R:T_e→Int→Bool→WP):Prop :=
 Calls Tryz.prog 58 #[Vs b_] w (fun e w'=>∃(r0:T_e) (r1:Int) (r2:Bool),e= .returned (Value.tuple #[Value.agg #[Vi r0.Mark,Vs r0.Beyond,Vs r0.Held],Value.int .u64 r1,Vo r2])∧R r0 r1 r2 w')

def C_D (s:OA) (w:World) (R:Int→WP):Prop :=
 Calls Tryz.prog 59 #[Vp s] w (fun e w'=>∃(r0:Int),e= .returned (Vi r0)∧R r0 w')

def C_cb (g:OA) (n_:Int) (w:World) (R:WP):Prop :=
 Calls Tryz.prog 60 #[Vp g,Vi n_] w (fun e w'=>e= .returned (Value.tuple #[])∧R w')

def C_Yb (s:T_e) (w:World) (R:Int→WP):Prop :=
 Calls Tryz.prog 61 #[Value.agg #[Vi s.Mark,Vs s.Beyond,Vs s.Held]] w (fun e w'=>∃(r0:Int),e= .returned (Vi r0)∧R r0 w')

def C_Eb (c:T_f) (key:ByteArray) (w:World) (R:Int→Int→WP):Prop :=
 Calls Tryz.prog 62 #[Value.agg #[Vi c.Lanes,Vi c.Shards,Vi c.Window,Vi c.Queue],Value.string key] w (fun e w'=>∃(r0:Int) (r1:Int),e= .returned (Value.tuple #[Vi r0,Vi r1])∧R r0 r1 w')

def C_a (s:Slc) (w:World) (R:Slc→WP):Prop :=
 Calls Tryz.prog 63 #[Vs s] w (fun e w'=>∃(r0:Slc),e= .returned (Vs r0)∧R r0 w')

def C_Fb (l_:Slc) (w:World) (R:OA→Int→WP):Prop :=
 Calls Tryz.prog 64 #[Vs l_] w (fun e w'=>∃(r0:OA) (r1:Int),e= .returned (Value.tuple #[Vp r0,Vi r1])∧R r0 r1 w')

def C_eb (capacity:Int) (w:World) (R:OA→Int→WP):Prop :=
 Calls Tryz.prog 65 #[Vi capacity] w (fun e w'=>∃(r0:OA) (r1:Int),e= .returned (Value.tuple #[Vp r0,Vi r1])∧R r0 r1 w')

def C_s (f:OA) (w:World) (R:Bool→WP):Prop :=
 Calls Tryz.prog 66 #[Vp f] w (fun e w'=>∃(r0:Bool),e= .returned (Vo r0)∧R r0 w')

def C_ab (p:T_i) (shard:Int) (w:World) (R:Bool→WP):Prop :=
 Calls Tryz.prog 69 #[Value.agg #[Vp p.r],Vi shard] w (fun e w'=>∃(r0:Bool),e= .returned (Vo r0)∧R r0 w')

def C_jc (t_:OA) (w:World) (R:Bool→WP):Prop :=
 Calls Tryz.prog 70 #[Vp t_] w (fun e w'=>∃(r0:Bool),e= .returned (Vo r0)∧R r0 w')

def C_X (at_:Int) (most:Int) (w:World) (R:Bool→WP):Prop :=
 Calls Tryz.prog 72 #[Vi at_,Vi most] w (fun e w'=>∃(r0:Bool),e= .returned (Vo r0)∧R r0 w')

def C_Zb (l_:Slc) (w:World) (R:Int→WP):Prop :=
 Calls Tryz.prog 73 #[Vs l_] w (fun e w'=>∃(r0:Int),e= .returned (Vi r0)∧R r0 w')

def C_B (s:OA) (w:World) (R:Bool→WP):Prop :=
 Calls Tryz.prog 77 #[Vp s] w (fun e w'=>∃(r0:Bool),e= .returned (Vo r0)∧R r0 w')

def C_Lb (s:OA) (pick:Value) (w:World) (R:Slc→WP):Prop :=
 Calls Tryz.prog 78 #[Vp s,pick] w (fun e w'=>∃(r0:Slc),e= .returned (Vs r0)∧R r0 w')

def C_E (k_:OA) (key:ByteArray) (w:World) (R:Slc→WP):Prop :=
 Calls Tryz.prog 79 #[Vp k_,Value.string key] w (fun e w'=>∃(r0:Slc),e= .returned (Vs r0)∧R r0 w')

def C_Tb (t_:T_b) (t1:OA) (w:World) (R:Int→WP):Prop :=
 Calls Tryz.prog 91 #[Value.agg #[Vi t_.Number,Vs t_.Writes],Vp t1] w (fun e w'=>∃(r0:Int),e= .returned (Vi r0)∧R r0 w')

def C_O (t_:T_b) (w:World) (R:Int→WP):Prop :=
 Calls Tryz.prog 92 #[Value.agg #[Vi t_.Number,Vs t_.Writes]] w (fun e w'=>∃(r0:Int),e= .returned (Vi r0)∧R r0 w')

def C_0b (d:OA) (slot:Int) (w:World) (R:Int→WP):Prop :=
 Calls Tryz.prog 93 #[Vp d,Vi slot] w (fun e w'=>∃(r0:Int),e= .returned (Vi r0)∧R r0 w')

def C_fb (s:Slc) (w:World) (R:Slc→WP):Prop :=
 Calls Tryz.prog 94 #[Vs s] w (fun e w'=>∃(r0:Slc),e= .returned (Vs r0)∧R r0 w')

def C_lc (generation:Int) (x:Slc) (w:World) (R:List Int→WP):Prop :=
 Calls Tryz.prog 95 #[Value.int .u64 generation,Vs x] w (fun e w'=>∃(r0:List Int),r0.length=20∧e= .returned (Value.agg (List.map (Value.int .u8) r0).toArray)∧R r0 w')

def C_mc (b_:Slc) (w:World) (R:T_e→Int→WP):Prop :=
 Calls Tryz.prog 96 #[Vs b_] w (fun e w'=>∃(r0:T_e) (r1:Int),e= .returned (Value.tuple #[Value.agg #[Vi r0.Mark,Vs r0.Beyond,Vs r0.Held],Vi r1])∧R r0 r1 w')

def C_Kb (x:Slc) (target:Int) (w:World) (R:Int→Bool→WP):Prop :=
 Calls Tryz.prog 97 #[Vs x,Vi target] w (fun e w'=>∃(r0:Int) (r1:Bool),e= .returned (Value.tuple #[Vi r0,Vo r1])∧R r0 r1 w')

def C_fc (key:ByteArray) (w:World) (R:Int→WP):Prop :=
 Calls Tryz.prog 98 #[Value.string key] w (fun e w'=>∃(r0:Int),e= .returned (Value.int .u32 r0)∧R r0 w')

def C_6b (w:World) (R:OA→WP):Prop :=
 Calls Tryz.prog 99 #[] w (fun e w'=>∃(r0:OA),e= .returned (Vp r0)∧R r0 w')

def C_Ob (key:ByteArray) (w:World) (R:Bool→WP):Prop :=
 Calls Tryz.prog 100 #[Value.string key] w (fun e w'=>∃(r0:Bool),e= .returned (Vo r0)∧R r0 w')

def C_S (l_:Slc) (w:World) (R:Int→WP):Prop :=
 Calls Tryz.prog 101 #[Vs l_] w (fun e w'=>∃(r0:Int),e= .returned (Vi r0)∧R r0 w')

def C_pb (s:Slc) (w:World) (R:Slc→WP):Prop :=
 Calls Tryz.prog 103 #[Vs s] w (fun e w'=>∃(r0:Slc),e= .returned (Vs r0)∧R r0 w')

def C_gb (o_:OA) (w:World) (R:Int→WP):Prop :=
 Calls Tryz.prog 104 #[Vp o_] w (fun e w'=>∃(r0:Int),e= .returned (Vi r0)∧R r0 w')

def C_Mb (k_:OA) (w:World) (R:Slc→WP):Prop :=
 Calls Tryz.prog 107 #[Vp k_] w (fun e w'=>∃(r0:Slc),e= .returned (Vs r0)∧R r0 w')

def C_1b (w_:T_d) (w:World) (R:Bool→WP):Prop :=
 Calls Tryz.prog 113 #[Value.agg #[Value.string w_.Key,Value.string w_.Val,Vo w_.Drop]] w (fun e w'=>∃(r0:Bool),e= .returned (Vo r0)∧R r0 w')

def C_b (s:Slc) (f:Value) (w:World) (R:Bool→WP):Prop :=
 Calls Tryz.prog 114 #[Vs s,f] w (fun e w'=>∃(r0:Bool),e= .returned (Vo r0)∧R r0 w')

def C_p (r:OA) (w:World) (R:Int→WP):Prop :=
 Calls Tryz.prog 128 #[Vp r] w (fun e w'=>∃(r0:Int),e= .returned (Vi r0)∧R r0 w')

def C_d (m_:Option Nat) (w:World) (R:Value→WP):Prop :=
 Calls Tryz.prog 138 #[Value.map m_] w (fun e w'=>∃(r0:Value),e= .returned (r0)∧R r0 w')

def C_x (s:Slc) (f:Value) (w:World) (R:Int→WP):Prop :=
 Calls Tryz.prog 140 #[Vs s,f] w (fun e w'=>∃(r0:Int),e= .returned (Vi r0)∧R r0 w')

def C_q (r:OA) (w:World) (R:Bool→WP):Prop :=
 Calls Tryz.prog 149 #[Vp r] w (fun e w'=>∃(r0:Bool),e= .returned (Vo r0)∧R r0 w')

def C_Y (t_:OA) (w:World) (R:Bool→WP):Prop :=
 Calls Tryz.prog 176 #[Vp t_] w (fun e w'=>∃(r0:Bool),e= .returned (Vo r0)∧R r0 w')

def C_ac (c:OA) (k_:Int) (w:World) (R:T_a→WP):Prop :=
 Calls Tryz.prog 177 #[Vp c,Value.int .u8 k_] w (fun e w'=>∃(r0:T_a),e= .returned (Value.agg #[Vi r0.Task,Value.int .u8 r0.Kind,Vi r0.Number,Vi r0.Shard,Vi r0.Count,Vi r0.Mark])∧R r0 w')

def C_7b (c:OA) (w:World) (R:WP):Prop :=
 Calls Tryz.prog 178 #[Vp c] w (fun e w'=>e= .returned (Value.tuple #[])∧R w')

def C_m (p:T_i) (w:World) (R:Int→WP):Prop :=
 Calls Tryz.prog 181 #[Value.agg #[Vp p.r]] w (fun e w'=>∃(r0:Int),e= .returned (Vi r0)∧R r0 w')

def C_lb (o_:OA) (r:T_c) (w:World) (R:Bool→Int→WP):Prop :=
 Calls Tryz.prog 183 #[Vp o_,Value.agg #[Value.int .u8 r.Kind,Vi r.From,Vi r.Number,Value.string r.Write.Key,Value.string r.Write.Val,Vo r.Write.Drop,Value.string r.Key,Value.string r.End,Vs r.Beyond]] w (fun e w'=>∃(r0:Bool) (r1:Int),e= .returned (Value.tuple #[Vo r0,Vi r1])∧R r0 r1 w')

def C_hb (g:OA) (n_:Int) (w:World) (R:Bool→WP):Prop :=
 Calls Tryz.prog 188 #[Vp g,Vi n_] w (fun e w'=>∃(r0:Bool),e= .returned (Vo r0)∧R r0 w')

def C_8b (r:T_c) (w:World) (R:Bool→WP):Prop :=
 Calls Tryz.prog 191 #[Value.agg #[Value.int .u8 r.Kind,Vi r.From,Vi r.Number,Value.string r.Write.Key,Value.string r.Write.Val,Vo r.Write.Drop,Value.string r.Key,Value.string r.End,Vs r.Beyond]] w (fun e w'=>∃(r0:Bool),e= .returned (Vo r0)∧R r0 w')

def C_R (r:OA) (x:T_c) (w:World) (R:Bool→WP):Prop :=
 Calls Tryz.prog 192 #[Vp r,Value.agg #[Value.int .u8 x.Kind,Vi x.From,Vi x.Number,Value.string x.Write.Key,Value.string x.Write.Val,Vo x.Write.Drop,Value.string x.Key,Value.string x.End,Vs x.Beyond]] w (fun e w'=>∃(r0:Bool),e= .returned (Vo r0)∧R r0 w')

def C_nc (l_:Slc) (than:Int) (w:World) (R:Bool→WP):Prop :=
 Calls Tryz.prog 197 #[Vs l_,Vi than] w (fun e w'=>∃(r0:Bool),e= .returned (Vo r0)∧R r0 w')

def C_mb (o_:OA) (w:World) (R:Int→WP):Prop :=
 Calls Tryz.prog 211 #[Vp o_] w (fun e w'=>∃(r0:Int),e= .returned (Vi r0)∧R r0 w')

def C_r (d:OA) (w:World) (R:Int→WP):Prop :=
 Calls Tryz.prog 212 #[Vp d] w (fun e w'=>∃(r0:Int),e= .returned (Value.int .u8 r0)∧R r0 w')

def C_o (d:OA) (k_:Int) (w:World) (R:T_a→WP):Prop :=
 Calls Tryz.prog 213 #[Vp d,Value.int .u8 k_] w (fun e w'=>∃(r0:T_a),e= .returned (Value.agg #[Vi r0.Task,Value.int .u8 r0.Kind,Vi r0.Number,Vi r0.Shard,Vi r0.Count,Vi r0.Mark])∧R r0 w')

def C_Gb (f:OA) (mark:Int) (w:World) (R:Int→WP):Prop :=
 Calls Tryz.prog 214 #[Vp f,Vi mark] w (fun e w'=>∃(r0:Int),e= .returned (Value.int .u8 r0)∧R r0 w')

def C_ub (f:OA) (w:World) (R:Int→Int→WP):Prop :=
 Calls Tryz.prog 215 #[Vp f] w (fun e w'=>∃(r0:Int) (r1:Int),e= .returned (Value.tuple #[Vi r0,Vi r1])∧R r0 r1 w')

def C_ic (f:OA) (w:World) (R:Int→Int→WP):Prop :=
 Calls Tryz.prog 216 #[Vp f] w (fun e w'=>∃(r0:Int) (r1:Int),e= .returned (Value.tuple #[Vi r0,Vi r1])∧R r0 r1 w')

def C_k (f:OA) (mark:Int) (w:World) (R:T_b→Int→WP):Prop :=
 Calls Tryz.prog 217 #[Vp f,Vi mark] w (fun e w'=>∃(r0:T_b) (r1:Int),e= .returned (Value.tuple #[Value.agg #[Vi r0.Number,Vs r0.Writes],Vi r1])∧R r0 r1 w')

def C_7 (t_:OA) (x:T_b) (w:World) (R:Int→Int→WP):Prop :=
 Calls Tryz.prog 218 #[Vp t_,Value.agg #[Vi x.Number,Vs x.Writes]] w (fun e w'=>∃(r0:Int) (r1:Int),e= .returned (Value.tuple #[Vi r0,Vi r1])∧R r0 r1 w')

def C_Z (f:OA) (w:World) (R:Bool→WP):Prop :=
 Calls Tryz.prog 219 #[Vp f] w (fun e w'=>∃(r0:Bool),e= .returned (Vo r0)∧R r0 w')

def C_8 (f:OA) (mark:Int) (w:World) (R:Bool→WP):Prop :=
 Calls Tryz.prog 220 #[Vp f,Vi mark] w (fun e w'=>∃(r0:Bool),e= .returned (Vo r0)∧R r0 w')

def C_K (s:OA) (number:Int) (w:World) (R:T_b→Int→WP):Prop :=
 Calls Tryz.prog 221 #[Vp s,Vi number] w (fun e w'=>∃(r0:T_b) (r1:Int),e= .returned (Value.tuple #[Value.agg #[Vi r0.Number,Vs r0.Writes],Vi r1])∧R r0 r1 w')

def C_t (l_:OA) (w:World) (R:Int→WP):Prop :=
 Calls Tryz.prog 222 #[Vp l_] w (fun e w'=>∃(r0:Int),e= .returned (Vi r0)∧R r0 w')

def C_L (w_:OA) (w:World) (R:Int→WP):Prop :=
 Calls Tryz.prog 223 #[Vp w_] w (fun e w'=>∃(r0:Int),e= .returned (Value.int .u8 r0)∧R r0 w')

def C_n (w_:OA) (k_:Int) (w:World) (R:T_a→WP):Prop :=
 Calls Tryz.prog 224 #[Vp w_,Value.int .u8 k_] w (fun e w'=>∃(r0:T_a),e= .returned (Value.agg #[Vi r0.Task,Value.int .u8 r0.Kind,Vi r0.Number,Vi r0.Shard,Vi r0.Count,Vi r0.Mark])∧R r0 w')

def C_9 (l_:OA) (w:World) (R:Int→T_c→Bool→WP):Prop :=
 Calls Tryz.prog 225 #[Vp l_] w (fun e w'=>∃(r0:Int) (r1:T_c) (r2:Bool),e= .returned (Value.tuple #[Vi r0,Value.agg #[Value.int .u8 r1.Kind,Vi r1.From,Vi r1.Number,Value.string r1.Write.Key,Value.string r1.Write.Val,Vo r1.Write.Drop,Value.string r1.Key,Value.string r1.End,Vs r1.Beyond],Vo r2])∧R r0 r1 r2 w')

def C_0 (l_:OA) (w:World) (R:Bool→WP):Prop :=
 Calls Tryz.prog 226 #[Vp l_] w (fun e w'=>∃(r0:Bool),e= .returned (Vo r0)∧R r0 w')

def C_h (l_:OA) (w:World) (R:OA→Bool→WP):Prop :=
 Calls Tryz.prog 227 #[Vp l_] w (fun e w'=>∃(r0:OA) (r1:Bool),e= .returned (Value.tuple #[Vp r0,Vo r1])∧R r0 r1 w')

def C_vb (l_:OA) (t_:T_b) (w:World) (R:Int→WP):Prop :=
 Calls Tryz.prog 228 #[Vp l_,Value.agg #[Vi t_.Number,Vs t_.Writes]] w (fun e w'=>∃(r0:Int),e= .returned (Vi r0)∧R r0 w')

def C_wb (l_:OA) (w:World) (R:Int→WP):Prop :=
 Calls Tryz.prog 229 #[Vp l_] w (fun e w'=>∃(r0:Int),e= .returned (Vi r0)∧R r0 w')

def C_xb (l_:OA) (w:World) (R:Int→Int→WP):Prop :=
 Calls Tryz.prog 230 #[Vp l_] w (fun e w'=>∃(r0:Int) (r1:Int),e= .returned (Value.tuple #[Vi r0,Vi r1])∧R r0 r1 w')

def C_j (l_:OA) (w:World) (R:Bool→WP):Prop :=
 Calls Tryz.prog 231 #[Vp l_] w (fun e w'=>∃(r0:Bool),e= .returned (Vo r0)∧R r0 w')

def C_Hb (t_:T_b) (w:World) (R:Slc→WP):Prop :=
 Calls Tryz.prog 232 #[Value.agg #[Vi t_.Number,Vs t_.Writes]] w (fun e w'=>∃(r0:Slc),e= .returned (Vs r0)∧R r0 w')

def C_Ub (x:T_d) (t1:OA) (w:World) (R:Bool→WP):Prop :=
 Calls Tryz.prog 233 #[Value.agg #[Value.string x.Key,Value.string x.Val,Vo x.Drop],Vp t1] w (fun e w'=>∃(r0:Bool),e= .returned (Vo r0)∧R r0 w')

def C_M (k_:OA) (w:World) (R:Int→WP):Prop :=
 Calls Tryz.prog 234 #[Vp k_] w (fun e w'=>∃(r0:Int),e= .returned (Value.int .u8 r0)∧R r0 w')

def C_4 (k_:OA) (t1:Int) (w:World) (R:T_a→WP):Prop :=
 Calls Tryz.prog 235 #[Vp k_,Value.int .u8 t1] w (fun e w'=>∃(r0:T_a),e= .returned (Value.agg #[Vi r0.Task,Value.int .u8 r0.Kind,Vi r0.Number,Vi r0.Shard,Vi r0.Count,Vi r0.Mark])∧R r0 w')

def C_w (r:OA) (w:World) (R:Int→WP):Prop :=
 Calls Tryz.prog 236 #[Vp r] w (fun e w'=>∃(r0:Int),e= .returned (Vi r0)∧R r0 w')

def C_bb (o_:OA) (w:World) (R:T_h→Int→WP):Prop :=
 Calls Tryz.prog 237 #[Vp o_] w (fun e w'=>∃(r0:T_h) (r1:Int),e= .returned (Value.tuple #[Value.agg #[Vi r0.To,Vo r0.OK,Vs r0.Entries,Vs r0.Held,Vi r0.Count],Vi r1])∧R r0 r1 w')

def C_nb (l_:OA) (w:World) (R:Int→WP):Prop :=
 Calls Tryz.prog 238 #[Vp l_] w (fun e w'=>∃(r0:Int),e= .returned (Vi r0)∧R r0 w')

def C_kc (t_:OA) (r:T_h) (w:World) (R:Int→WP):Prop :=
 Calls Tryz.prog 239 #[Vp t_,Value.agg #[Vi r.To,Vo r.OK,Vs r.Entries,Vs r.Held,Vi r.Count]] w (fun e w'=>∃(r0:Int),e= .returned (Vi r0)∧R r0 w')

def C_Q (r:OA) (w:World) (R:T_c→Bool→WP):Prop :=
 Calls Tryz.prog 241 #[Vp r] w (fun e w'=>∃(r0:T_c) (r1:Bool),e= .returned (Value.tuple #[Value.agg #[Value.int .u8 r0.Kind,Vi r0.From,Vi r0.Number,Value.string r0.Write.Key,Value.string r0.Write.Val,Vo r0.Write.Drop,Value.string r0.Key,Value.string r0.End,Vs r0.Beyond],Vo r1])∧R r0 r1 w')

def C_Ib (o_:OA) (w:World) (R:zYb→WP):Prop :=
 Calls Tryz.prog 242 #[Vp o_] w (fun e w'=>∃(r0:zYb),e= .returned (Value.agg #[r0.e0,r0.e1,r0.e2,r0.e3,r0.e4,r0.e5])∧R r0 w')

def C_db (r:OA) (w:World) (R:T_c→Bool→WP):Prop :=
 Calls Tryz.prog 247 #[Vp r] w (fun e w'=>∃(r0:T_c) (r1:Bool),e= .returned (Value.tuple #[Value.agg #[Value.int .u8 r0.Kind,Vi r0.From,Vi r0.Number,Value.string r0.Write.Key,Value.string r0.Write.Val,Vo r0.Write.Drop,Value.string r0.Key,Value.string r0.End,Vs r0.Beyond],Vo r1])∧R r0 r1 w')

def C_qb (r:T_c) (out:OA) (t2:OA) (w:World) (R:WP):Prop :=
 Calls Tryz.prog 248 #[Value.agg #[Value.int .u8 r.Kind,Vi r.From,Vi r.Number,Value.string r.Write.Key,Value.string r.Write.Val,Vo r.Write.Drop,Value.string r.Key,Value.string r.End,Vs r.Beyond],Vp out,Vp t2] w (fun e w'=>e= .returned (Value.tuple #[])∧R w')

def C_F (s:OA) (number:Int) (w_:T_d) (w:World) (R:Bool→Int→WP):Prop :=
 Calls Tryz.prog 249 #[Vp s,Vi number,Value.agg #[Value.string w_.Key,Value.string w_.Val,Vo w_.Drop]] w (fun e w'=>∃(r0:Bool) (r1:Int),e= .returned (Value.tuple #[Vo r0,Vi r1])∧R r0 r1 w')

def C_9b (l_:Slc) (v:T_j) (w:World) (R:Slc→Bool→Int→WP):Prop :=
 Calls Tryz.prog 264 #[Vs l_,Value.agg #[Vi v.Number,Value.string v.Val,Vo v.Drop]] w (fun e w'=>∃(r0:Slc) (r1:Bool) (r2:Int),e= .returned (Value.tuple #[Vs r0,Vo r1,Vi r2])∧R r0 r1 r2 w')

def C_ob (l_:Slc) (at_:Int) (w:World) (R:Int→WP):Prop :=
 Calls Tryz.prog 271 #[Vs l_,Vi at_] w (fun e w'=>∃(r0:Int),e= .returned (Vi r0)∧R r0 w')

def C_e (s:Slc) (i:Int) (v:Slc) (w:World) (R:Slc→WP):Prop :=
 Calls Tryz.prog 272 #[Vs s,Vi i,Vs v] w (fun e w'=>∃(r0:Slc),e= .returned (Vs r0)∧R r0 w')

def C_gc (n_:Int) (f:Value) (w:World) (R:Int→WP):Prop :=
 Calls Tryz.prog 274 #[Vi n_,f] w (fun e w'=>∃(r0:Int),e= .returned (Vi r0)∧R r0 w')

def C_Pb (m_:T_n) (i:Int) (w:World) (R:Bool→WP):Prop :=
 Calls Tryz.prog 275 #[Value.agg #[Vs m_.l,Vi m_.at_],Vi i] w (fun e w'=>∃(r0:Bool),e= .returned (Vo r0)∧R r0 w')

def C_yb (s:Slc) (r:Int) (w:World) (R:WP):Prop :=
 Calls Tryz.prog 277 #[Vs s,Vi r] w (fun e w'=>e= .returned (Value.tuple #[])∧R w')

def C_N (w_:OA) (w:World) (R:Int→WP):Prop :=
 Calls Tryz.prog 281 #[Vp w_] w (fun e w'=>∃(r0:Int),e= .returned (Value.int .u8 r0)∧R r0 w')

def C_G (w_:OA) (t1:Int) (w:World) (R:T_a→WP):Prop :=
 Calls Tryz.prog 282 #[Vp w_,Value.int .u8 t1] w (fun e w'=>∃(r0:T_a),e= .returned (Value.agg #[Vi r0.Task,Value.int .u8 r0.Kind,Vi r0.Number,Vi r0.Shard,Vi r0.Count,Vi r0.Mark])∧R r0 w')

def C_1 (t_:OA) (number:Int) (w:World) (R:Slc→Int→WP):Prop :=
 Calls Tryz.prog 283 #[Vp t_,Vi number] w (fun e w'=>∃(r0:Slc) (r1:Int),e= .returned (Value.tuple #[Vs r0,Vi r1])∧R r0 r1 w')

def C_zb (g:OA) (number:Int) (w:World) (R:Int→Int→WP):Prop :=
 Calls Tryz.prog 284 #[Vp g,Vi number] w (fun e w'=>∃(r0:Int) (r1:Int),e= .returned (Value.tuple #[Vi r0,Vi r1])∧R r0 r1 w')

def C_Bb (x:Slc) (w:World) (R:WP):Prop :=
 Calls Tryz.prog 285 #[Vs x] w (fun e w'=>e= .returned (Value.tuple #[])∧R w')

def C_Jb (g:OA) (number:Int) (w:World) (R:Bool→WP):Prop :=
 Calls Tryz.prog 286 #[Vp g,Vi number] w (fun e w'=>∃(r0:Bool),e= .returned (Vo r0)∧R r0 w')

def C_Ab (t0:T_l) (w:World) (R:T_d→Bool→WP):Prop :=
 Calls Tryz.prog 302 #[Value.agg #[]] w (fun e w'=>∃(r0:T_d) (r1:Bool),e= .returned (Value.tuple #[Value.agg #[Value.string r0.Key,Value.string r0.Val,Vo r0.Drop],Vo r1])∧R r0 r1 w')

def C_2b (b_:OA) (w:World) (R:T_d→Bool→WP):Prop :=
 Calls Tryz.prog 305 #[Vp b_] w (fun e w'=>∃(r0:T_d) (r1:Bool),e= .returned (Value.tuple #[Value.agg #[Value.string r0.Key,Value.string r0.Val,Vo r0.Drop],Vo r1])∧R r0 r1 w')

def F_j (R:Bool→WP) (b_:Nat) (r:OA) (fed1:Int) (w6:World):Prop :=
 ∃(v59:Slc),w6.cell? ⟨b_,4,none⟩=some (Vs v59)∧(C_Wb v59 fed1 w6 (fun(want:Slc) (e:Int) w7=>((e==0)=true→(C_U r w7 (fun(v68:Bool) w8=>(v68=true→(C_z r w8 (fun(v72:Int) w9=>((v72==fed1)=true→(C_u r w9 (fun(v78:Slc) w10=>C_H v78 want w10 (fun(v80:Bool) w11=>(v80=true→(C_g w11 (fun(v83:Bool) w12=>R v83 w12))) ∧
 (v80=false→(R false w11)))))) ∧
 ((v72==fed1)=false→(R false w9))))) ∧
 (v68=false→(R false w8))))) ∧
 ((e==0)=false→(R false w7))))

def F_5 (R:Bool→WP) (b_:Nat) (r:OA) (fed1:Int) (again_:Int→WP) (i:Int) (w13:World):Prop :=
 ∃(v38:Slc),w13.cell? ⟨b_,4,none⟩=some (Vs v38)∧(((decide (i≤(IntKind.i64.wrap (70*((v38.len:Nat):Int)))))=true→(∃(v47:Slc),w13.cell? ⟨b_,7,none⟩=some (Vs v47)∧(C_ib v47 i w13 (fun(v49:Int) w14=>C_y r v49 w14 (fun(v50:T_a) (e1:Int) w15=>∀ b_1 w16,b_1=w15.heap.size→w16=w15.alloc (Obj.cells ([Vi 0,Value.int .u8 0,Vi 0,Vi 0,Vi 0,Vi 0]).toArray y_c (0,0))→(zb w16 b_1 0 6∧(∀ w17,w17=World.puts b_1 0 [Vi v50.Task,Value.int .u8 v50.Kind,Vi v50.Number,Vi v50.Shard,Vi v50.Count,Vi v50.Mark] w16→(((e1==9)=true→(F_j R b_ r fed1 w17)) ∧
 ((e1==9)=false→(((e1 != 0)=true→(R false w17)) ∧
 ((e1 != 0)=false→(again_ (IntKind.i64.wrap (i+1)) w17)))))))))))) ∧
 ((decide (i≤(IntKind.i64.wrap (70*((v38.len:Nat):Int)))))=false→(F_j R b_ r fed1 w13)))

def F_k (R:Bool→WP) (b_:Nat) (r:OA) (fed1:Int) (w5:World):Prop :=
 ∃(I:Int→WP) (μ:Int→World→Nat),I 0 w5 ∧
 ∀(i:Int) w,I i w→F_5 R b_ r fed1 (fun(i':Int) w'=>I i' w'∧μ i' w'<μ i w) i w

def F_l (R:Bool→WP) (b_:Nat) (r:OA) (fed:Int) (t35:Bool) (w18:World):Prop :=
 (t35=true→(F_k R b_ r 0 w18)) ∧
 (t35=false→(F_k R b_ r fed w18))

def F_m (R:Bool→WP) (b_:Nat) (r:OA) (t23:Bool) (w3:World):Prop :=
 (t23=true→(C_g w3 (fun(v24:Bool) w4=>R v24 w4))) ∧
 (t23=false→(∃(fed:Int),w3.cell? ⟨b_,6,none⟩=some (Vi fed)∧(((decide (fed<0))=true→(F_l R b_ r fed true w3)) ∧
 ((decide (fed<0))=false→(∃(v32:Slc),w3.cell? ⟨b_,4,none⟩=some (Vs v32)∧(F_l R b_ r fed (decide (fed>((v32.len:Nat):Int))) w3))))))

def F_Ob (w_:T_g) (R:Bool→WP) (w:World):Prop :=
 ∀ b_ w1,b_=w.heap.size→w1=w.alloc (Obj.cells ([Vi w_.Config.Lanes,Vi w_.Config.Shards,Vi w_.Config.Window,Vi w_.Config.Queue,Vs w_.Log,Vi w_.Capacity,Vi w_.Fed,Vs w_.Picks]).toArray y_o (0,0))→(∃(v12:T_g),zc w1 b_ 0 [Vi v12.Config.Lanes,Vi v12.Config.Shards,Vi v12.Config.Window,Vi v12.Config.Queue,Vs v12.Log,Vi v12.Capacity,Vi v12.Fed,Vs v12.Picks]∧(C_J v12 w1 (fun(r:OA) (v13_1:OA) w2=>(r.isNone=true→(F_m R b_ r true w2)) ∧
 (r.isNone=false→(∃(v20:Slc),w2.cell? ⟨b_,4,none⟩=some (Vs v20)∧(F_m R b_ r (decide (((v20.len:Nat):Int)>100)) w2))))))

def F_6b (w_:T_g) (R:OA→OA→WP) (w:World):Prop :=
 ∀ b_ w1,b_=w.heap.size→w1=w.alloc (Obj.cells ([Vi w_.Config.Lanes,Vi w_.Config.Shards,Vi w_.Config.Window,Vi w_.Config.Queue,Vs w_.Log,Vi w_.Capacity,Vi w_.Fed,Vs w_.Picks]).toArray y_o (0,0))→(∃(v12:Int),w1.cell? ⟨b_,5,none⟩=some (Vi v12)∧(C_bc v12 w1 (fun(d:OA) (e:Int) w2=>∃(v18:Slc),w2.cell? ⟨b_,4,none⟩=some (Vs v18)∧(C_Qb v18 w2 (fun(s:OA) (f:Int) w3=>(((e != 0)||(f != 0))=true→(R none none w3)) ∧
 (((e != 0)||(f != 0))=false→(∃(v30:T_f),zc w3 b_ 0 [Vi v30.Lanes,Vi v30.Shards,Vi v30.Window,Vi v30.Queue]∧(C_Rb v30 s d w3 (fun(r:OA) (g:Int) w4=>((g != 0)=true→(R none none w4)) ∧
 ((g != 0)=false→(∃(v40:Int),w4.cell? ⟨b_,6,none⟩=some (Vi v40)∧(C_V r v40 w4 (fun(v41:Int) w5=>R r d w5)))))))))))))

def F_t (R:Bool→WP) (r:OA) (n_:Int) (w9:World):Prop :=
 C_u r w9 (fun(v38:Slc) w10=>(((n_==14)&&(((v38.len:Nat):Int)==1))=true→(IsAt v38.ptr∧(0≤(0:Int)∧(0:Int)<((v38.len:Nat):Int)∧(∃(v49:T_m),zc w10 (pblk v38.ptr) (poff v38.ptr) [Value.string v49.Key,Value.string v49.Val]∧(R ((v49.Key==(ByteArray.mk #[97]))&&(v49.Val==(ByteArray.mk #[50]))) w10))))) ∧
 (((n_==14)&&(((v38.len:Nat):Int)==1))=false→(R false w10)))

def F_ab (R:Bool→WP) (r:OA) (again_:Int→WP) (n_1:Int) (w11:World):Prop :=
 ((decide (n_1<50))=true→(C_y r 0 w11 (fun(v32:T_a) (e:Int) w12=>∀ b_5 w13,b_5=w12.heap.size→w13=w12.alloc (Obj.cells ([Vi 0,Value.int .u8 0,Vi 0,Vi 0,Vi 0,Vi 0]).toArray y_c (0,0))→(zb w13 b_5 0 6∧(∀ w14,w14=World.puts b_5 0 [Vi v32.Task,Value.int .u8 v32.Kind,Vi v32.Number,Vi v32.Shard,Vi v32.Count,Vi v32.Mark] w13→(((e != 0)=true→(F_t R r n_1 w14)) ∧
 ((e != 0)=false→(again_ (IntKind.i64.wrap (n_1+1)) w14)))))))) ∧
 ((decide (n_1<50))=false→(F_t R r n_1 w11))

def F_7b (R:Bool→WP) (w:World):Prop :=
 ∀ b_ w1,b_=w.heap.size→w1=w.alloc (Obj.cells ([Value.string (ByteArray.mk #[97]),Value.string (ByteArray.mk #[49]),Vo false]).toArray y_b (0,0))→(∀ b_1 w2,b_1=w1.heap.size→w2=w1.alloc (Obj.cells ([Vi 0,Value.slice none 0 0]).toArray y_a (0,0))→(zb w2 b_1 0 2∧(∀ w3,w3=World.puts b_1 0 [Vi 1,Value.slice (some ⟨b_,0,none⟩) 1 1] w2→(∀ b_2 w4,b_2=w3.heap.size→w4=w3.alloc (Obj.cells ([Value.string (ByteArray.mk #[97]),Value.string (ByteArray.mk #[50]),Vo false]).toArray y_b (0,0))→(∀ b_3 w5,b_3=w4.heap.size→w5=w4.alloc (Obj.cells ([Vi 0,Value.slice none 0 0]).toArray y_a (0,0))→(zb w5 b_3 0 2∧(∀ w6,w6=World.puts b_3 0 [Vi 2,Value.slice (some ⟨b_2,0,none⟩) 1 1] w5→(∃(v17:T_b),zc w6 b_1 0 [Vi v17.Number,Vs v17.Writes]∧(∃(v18:T_b),zc w6 b_3 0 [Vi v18.Number,Vs v18.Writes]∧(∀ b_4 w7,b_4=w6.heap.size→w7=w6.alloc (Obj.cells ([Vi v17.Number,Vs v17.Writes,Vi v18.Number,Vs v18.Writes]).toArray y_a (0,0))→(C_J (T_g.mk (T_f.mk 2 1 2 1) (Slc.mk (some ⟨b_4,0,none⟩) 2 2) 0 2 (Slc.mk none 0 0)) w7 (fun(r:OA) (v21_1:OA) w8=>(r.isNone=true→(R false w8)) ∧
 (r.isNone=false→(∃(I:Int→WP) (μ:Int→World→Nat),I 0 w8 ∧
 ∀(n_1:Int) w,I n_1 w→F_ab R r (fun(n_1':Int) w'=>I n_1' w'∧μ n_1' w'<μ n_1 w) n_1 w))))))))))))))

def F_n (r:OA) (R:T_a→Int→WP) (b_:Nat) (v20:Slc) (k_:Int) (w7:World):Prop :=
 IsAt v20.ptr∧(0≤k_∧k_<((v20.len:Nat):Int)∧(∃(v39:Int),w7.cell? ⟨(pblk v20.ptr),(poff v20.ptr)+k_.toNat,none⟩=some (Vi v39)∧(C_W r v39 w7 (fun(v40:T_a) (v40_1:Int) w8=>zb w8 b_ 0 6∧(∀ w9,w9=World.puts b_ 0 [Vi v40.Task,Value.int .u8 v40.Kind,Vi v40.Number,Vi v40.Shard,Vi v40.Count,Vi v40.Mark] w8→(∃(res3:T_a),zc w9 b_ 0 [Vi res3.Task,Value.int .u8 res3.Kind,Vi res3.Number,Vi res3.Shard,Vi res3.Count,Vi res3.Mark]∧(R res3 v40_1 w9)))))))

def F_Pb (r:OA) (pick:Int) (R:T_a→Int→WP) (w:World):Prop :=
 ∀ b_ w1,b_=w.heap.size→w1=w.alloc (Obj.cells ([Vi 0,Value.int .u8 0,Vi 0,Vi 0,Vi 0,Vi 0]).toArray y_c (0,0))→(C_c r w1 (fun(v10:Bool) w2=>((!v10)=true→(zb w2 b_ 0 6∧(∀ w3,w3=World.puts b_ 0 [Vi 0,Value.int .u8 0,Vi 0,Vi 0,Vi 0,Vi 0] w2→(∃(res:T_a),zc w3 b_ 0 [Vi res.Task,Value.int .u8 res.Kind,Vi res.Number,Vi res.Shard,Vi res.Count,Vi res.Mark]∧(R res 2 w3))))) ∧
 ((!v10)=false→(IsAt r∧(∃(v17:Bool),w2.cell? ⟨(pblk r),(poff r)+17,none⟩=some (Vo v17)∧((v17=true→(zb w2 b_ 0 6∧(∀ w4,w4=World.puts b_ 0 [Vi 0,Value.int .u8 0,Vi 0,Vi 0,Vi 0,Vi 0] w2→(∃(res1:T_a),zc w4 b_ 0 [Vi res1.Task,Value.int .u8 res1.Kind,Vi res1.Number,Vi res1.Shard,Vi res1.Count,Vi res1.Mark]∧(R res1 11 w4))))) ∧
 (v17=false→(C_v r w2 (fun(v20:Slc) w5=>((((v20.len:Nat):Int)==0)=true→(zb w5 b_ 0 6∧(∀ w6,w6=World.puts b_ 0 [Vi 0,Value.int .u8 0,Vi 0,Vi 0,Vi 0,Vi 0] w5→(∃(res2:T_a),zc w6 b_ 0 [Vi res2.Task,Value.int .u8 res2.Kind,Vi res2.Number,Vi res2.Shard,Vi res2.Count,Vi res2.Mark]∧(R res2 9 w6))))) ∧
 ((((v20.len:Nat):Int)==0)=false→(((v20.len:Nat):Int)≠0∧(((decide ((Int.tmod pick ((v20.len:Nat):Int))<0))=true→(F_n r R b_ v20 (IntKind.i64.wrap ((Int.tmod pick ((v20.len:Nat):Int))+((v20.len:Nat):Int))) w5)) ∧
 ((decide ((Int.tmod pick ((v20.len:Nat):Int))<0))=false→(F_n r R b_ v20 (Int.tmod pick ((v20.len:Nat):Int)) w5))))))))))))))

def F_Gc (l_:Slc) (at_:Int) (R:Int→WP) (w:World):Prop :=
 ((decide (at_<((l_.len:Nat):Int)))=true→(IsAt l_.ptr∧(0≤at_∧at_<((l_.len:Nat):Int)∧(∃(v12:Int),w.cell? ⟨(pblk l_.ptr),(poff l_.ptr)+at_.toNat,none⟩=some (Vi v12)∧(R v12 w))))) ∧
 ((decide (at_<((l_.len:Nat):Int)))=false→(R at_ w))

def F_sd (l_:Slc) (first:Int) (R:Slc→Int→WP) (w:World):Prop :=
 C_4b l_ first ByteArray.empty ByteArray.empty w (fun(v8:Slc) (v8_1:Int) w1=>R v8 v8_1 w1)

def F_Qb (r:OA) (R:Bool→WP) (w:World):Prop :=
 C_c r w (fun(v4:Bool) w1=>(v4=true→(IsAt r∧(∃(v9:Bool),w1.cell? ⟨(pblk r),(poff r)+17,none⟩=some (Vo v9)∧((v9=true→(R true w1)) ∧
 (v9=false→(C_v r w1 (fun(v12:Slc) w2=>R (((v12.len:Nat):Int)==0) w2))))))) ∧
 (v4=false→(R false w1)))

def F_Rb (r:OA) (R:Int→WP) (w:World):Prop :=
 C_c r w (fun(v4:Bool) w1=>((!v4)=true→(R 0 w1)) ∧
 ((!v4)=false→(IsAt r∧(∃(v9:OA),w1.cell? ⟨(pblk r),(poff r)+7,none⟩=some (Vp v9)∧(C_P v9 w1 (fun(v10:Int) w2=>R v10 w2))))))

def F_F (a_:Slc) (b_:Slc) (R:Bool→WP) (again_:Int→WP) (i:Int) (w1:World):Prop :=
 ((decide (i<((a_.len:Nat):Int)))=true→(IsAt a_.ptr∧(0≤i∧i<((a_.len:Nat):Int)∧(∃(v20:T_m),zc w1 (pblk a_.ptr) ((poff a_.ptr)+i.toNat*2) [Value.string v20.Key,Value.string v20.Val]∧(IsAt b_.ptr∧(0≤i∧i<((b_.len:Nat):Int)∧(∃(v24:T_m),zc w1 (pblk b_.ptr) ((poff b_.ptr)+i.toNat*2) [Value.string v24.Key,Value.string v24.Val]∧(∀ w2,Ext w1 w2→(((!((v20.Key==v24.Key)&&(v20.Val==v24.Val)))=true→(R false w2)) ∧
 ((!((v20.Key==v24.Key)&&(v20.Val==v24.Val)))=false→(again_ (IntKind.i64.wrap (i+1)) w2))))))))))) ∧
 ((decide (i<((a_.len:Nat):Int)))=false→(R true w1))

def F_mb (a_:Slc) (b_:Slc) (R:Bool→WP) (w:World):Prop :=
 ((((a_.len:Nat):Int) != ((b_.len:Nat):Int))=true→(R false w)) ∧
 ((((a_.len:Nat):Int) != ((b_.len:Nat):Int))=false→(∃(I:Int→WP) (μ:Int→World→Nat),I 0 w ∧
 ∀(i:Int) w,I i w→F_F a_ b_ R (fun(i':Int) w'=>I i' w'∧μ i' w'<μ i w) i w))

def F_w (t14:Int) (again_:Slc→Int→WP) (out1:Slc) (w4:World):Prop :=
 again_ out1 (IntKind.i64.wrap (t14+1)) w4

def F_x (t21:Int) (again_1:OA→Int→WP) (last1:OA) (w8:World):Prop :=
 again_1 last1 (IntKind.i64.wrap (t21+1)) w8

def F_y (out:Slc) (t14:Int) (again_:Slc→Int→WP) (b_:Nat) (last:OA) (t45:Bool) (w9:World):Prop :=
 (t45=true→(∀ w10,(∃ k,w10=w9.drewN k)→(∃(v48:ByteArray),w10.cell? ⟨b_,0,none⟩=some (Value.string v48)∧(IsAt last∧(∃(v52:ByteArray),w10.cell? ⟨(pblk last),(poff last)+1,none⟩=some (Value.string v52)∧(∀ b_1 w11,b_1=w10.heap.size→w11=w10.alloc (Obj.cells ([Value.string v48,Value.string v52]).toArray y_k (0,0))→((∃ src,zr w11 (Slc.mk (some ⟨b_1,0,none⟩) 1 1) 2 src∧zo 2 32 y_k [Value.string ByteArray.empty,Value.string ByteArray.empty] out src 1 w11 (fun out2 w12=>(F_w t14 again_ out2 w12)))))))))) ∧
 (t45=false→(F_w t14 again_ out w9))

def F_U (v10:Int) (out:Slc) (t14:Int) (again_:Slc→Int→WP) (b_:Nat) (v19:Slc) (again_1:OA→Int→WP) (last:OA) (t21:Int) (w7:World):Prop :=
 ((decide (t21<((v19.len:Nat):Int)))=true→(∃(v25:Slc),w7.cell? ⟨b_,1,none⟩=some (Vs v25)∧(IsAt v25.ptr∧(0≤t21∧t21<((v25.len:Nat):Int)∧(∃(v29:Int),w7.cell? ⟨(pblk v25.ptr),(poff v25.ptr)+t21.toNat*3,none⟩=some (Vi v29)∧(((decide (v29≤v10))=true→(∃(v33:Slc),w7.cell? ⟨b_,1,none⟩=some (Vs v33)∧(IsAt v33.ptr∧(0≤t21∧t21<((v33.len:Nat):Int)∧(F_x t21 again_1 (some ⟨(pblk v33.ptr),(poff v33.ptr)+t21.toNat*3,none⟩) w7))))) ∧
 ((decide (v29≤v10))=false→(F_x t21 again_1 last w7)))))))) ∧
 ((decide (t21<((v19.len:Nat):Int)))=false→(((!last.isNone)=true→(IsAt last∧(∃(v43:Bool),w7.cell? ⟨(pblk last),(poff last)+2,none⟩=some (Vo v43)∧(F_y out t14 again_ b_ last (!v43) w7)))) ∧
 ((!last.isNone)=false→(F_y out t14 again_ b_ last false w7))))

def F_V (R:Slc→WP) (v10:Int) (v12:Slc) (again_:Slc→Int→WP) (out:Slc) (t14:Int) (w3:World):Prop :=
 ((decide (t14<((v12.len:Nat):Int)))=true→(IsAt v12.ptr∧(0≤t14∧t14<((v12.len:Nat):Int)∧(∃(v17:T_k),zc w3 (pblk v12.ptr) ((poff v12.ptr)+t14.toNat*2) [Value.string v17.Key,Vs v17.Versions]∧(∀ b_ w5,b_=w3.heap.size→w5=w3.alloc (Obj.cells ([Value.string ByteArray.empty,Value.slice none 0 0]).toArray y_e (0,0))→(zb w5 b_ 0 2∧(∀ w6,w6=World.puts b_ 0 [Value.string v17.Key,Vs v17.Versions] w5→(∃(v19:Slc),w6.cell? ⟨b_,1,none⟩=some (Vs v19)∧(∃(I:OA→Int→WP) (μ:OA→Int→World→Nat),I none 0 w6 ∧
 ∀(last:OA) (t21:Int) w,I last t21 w→F_U v10 out t14 again_ b_ v19 (fun(last':OA) (t21':Int) w'=>I last' t21' w'∧μ last' t21' w'<μ last t21 w) last t21 w))))))))) ∧
 ((decide (t14<((v12.len:Nat):Int)))=false→(R out w3))

def F_Fb (r:OA) (R:Slc→WP) (w:World):Prop :=
 C_z r w (fun(v10:Int) w1=>C_I r w1 (fun(v12:Slc) w2=>∃(I:Slc→Int→WP) (μ:Slc→Int→World→Nat),I (Slc.mk none 0 0) 0 w2 ∧
 ∀(out:Slc) (t14:Int) w,I out t14 w→F_V R v10 v12 (fun(out':Slc) (t14':Int) w'=>I out' t14' w'∧μ out' t14' w'<μ out t14 w) out t14 w))

def F_o (R:Slc→WP) (out:Slc) (w1:World):Prop :=
 C_C out (Value.func (.func 32) #[] #[]) w1 (fun w2=>R out w2)

def F_G (R:Slc→WP) (v11:Slc) (again_:Slc→Int→WP) (out1:Slc) (t13:Int) (w4:World):Prop :=
 ((decide (t13<((v11.len:Nat):Int)))=true→(IsAt v11.ptr∧(0≤t13∧t13<((v11.len:Nat):Int)∧(∃(o_:OA),w4.cell? ⟨(pblk v11.ptr),(poff v11.ptr)+t13.toNat,none⟩=some (Vp o_)∧(C_jb o_ w4 (fun(v19:Slc) w5=>∃ src,zr w5 v19 2 src∧zo 2 40 y_e [Value.string ByteArray.empty,Value.slice none 0 0] out1 src v19.len w5 (fun out2 w6=>again_ out2 (IntKind.i64.wrap (t13+1)) w6))))))) ∧
 ((decide (t13<((v11.len:Nat):Int)))=false→(F_o R out1 w4))

def F_nb (r:OA) (R:Slc→WP) (w:World):Prop :=
 C_c r w (fun(v7:Bool) w3=>(v7=true→(IsAt r∧(∃(v11:Slc),w3.cell? ⟨(pblk r),(poff r)+9,none⟩=some (Vs v11)∧(∃(I:Slc→Int→WP) (μ:Slc→Int→World→Nat),I (Slc.mk none 0 0) 0 w3 ∧
 ∀(out1:Slc) (t13:Int) w,I out1 t13 w→F_G R v11 (fun(out1':Slc) (t13':Int) w'=>I out1' t13' w'∧μ out1' t13' w'<μ out1 t13 w) out1 t13 w)))) ∧
 (v7=false→(F_o R (Slc.mk none 0 0) w3)))

def F_Jd (capacity:Int) (R:OA→Int→WP) (w:World):Prop :=
 (((decide (capacity<0))||(decide (capacity>16777216)))=true→(R none 1 w)) ∧
 (((decide (capacity<0))||(decide (capacity>16777216)))=false→(∀ b_ w1,b_=w.heap.size→w1=w.alloc (Obj.cells ([Vo true,Vi capacity,Value.slice none 0 0,Value.slice none 0 0,Vi (-1),Vo false,Vi 0]).toArray y_K (0,0))→(R (some ⟨b_,0,none⟩) 0 w1)))

def F_8b (l_:Slc) (R:OA→Int→WP) (b_:Nat) (again_:Int→WP) (t17:Int) (w3:World):Prop :=
 ((decide (t17<((l_.len:Nat):Int)))=true→(IsAt l_.ptr∧(0≤t17∧t17<((l_.len:Nat):Int)∧(∃(v20:T_b),zc w3 (pblk l_.ptr) ((poff l_.ptr)+t17.toNat*2) [Vi v20.Number,Vs v20.Writes]∧(∀ b_1 w4,b_1=w3.heap.size→w4=w3.alloc (Obj.cells ([Vi 0,Value.slice none 0 0]).toArray y_a (0,0))→(zb w4 b_1 0 2∧(∀ w5,w5=World.puts b_1 0 [Vi v20.Number,Vs v20.Writes] w4→(∀ w6,(∃ k,w6=w5.drewN k)→(∃(v25:Slc),w6.cell? ⟨b_,1,none⟩=some (Vs v25)∧(∃(v26:T_b),zc w6 b_1 0 [Vi v26.Number,Vs v26.Writes]∧(C_5 v26 w6 (fun(v27:T_b) w7=>w7.cell? ⟨b_,1,none⟩=some (Vs v25)∧(∀ b_2 w8,b_2=w7.heap.size→w8=w7.alloc (Obj.cells ([Vi v27.Number,Vs v27.Writes]).toArray y_a (0,0))→(w8.cell? ⟨b_,1,none⟩=some (Vs v25)∧(∃ src,zr w8 (Slc.mk (some ⟨b_2,0,none⟩) 1 1) 2 src∧zo 2 32 y_a [Vi 0,Value.slice none 0 0] v25 src 1 w8 (fun v29 w9=>(zb w9 b_ 1 1∧(∀ w10,w10=World.puts b_ 1 [Vs v29] w9→((again_ (IntKind.i64.wrap (t17+1)) w10)))))))))))))))))))) ∧
 ((decide (t17<((l_.len:Nat):Int)))=false→(R (some ⟨b_,0,none⟩) 0 w3))

def F_ld (l_:Slc) (R:OA→Int→WP) (w:World):Prop :=
 C_Cb l_ w (fun(v9:Int) w1=>((v9 != 0)=true→(R none v9 w1)) ∧
 ((v9 != 0)=false→(∀ b_ w2,b_=w1.heap.size→w2=w1.alloc (Obj.cells ([Vo true,Value.slice none 0 0,Value.slice none 0 0]).toArray y_z (0,0))→(∃(I:Int→WP) (μ:Int→World→Nat),I 0 w2 ∧
 ∀(t17:Int) w,I t17 w→F_8b l_ R b_ (fun(t17':Int) w'=>I t17' w'∧μ t17' w'<μ t17 w) t17 w))))

def F_tb (R:OA→Int→WP) (b_:Nat) (r:OA) (parts:Slc) (v143:Int) (again_1:Int→WP) (t144:Int) (w26:World):Prop :=
 ((decide (t144<v143))=true→(∀ w27,(∃ k,w27=w26.drewN k)→(∃(v150:Int),w27.cell? ⟨b_,3,none⟩=some (Vi v150)∧(IsAt parts.ptr∧(0≤t144∧t144<((parts.len:Nat):Int)∧(∃(v154:Slc),w27.cell? ⟨(pblk parts.ptr),(poff parts.ptr)+t144.toNat,none⟩=some (Vs v154)∧(C_5b t144 v150 v154 w27 (fun(o_:OA) (e5:Int) w28=>(((e5 != 0)=true→(R none e5 w28)) ∧
 ((e5 != 0)=false→(IsAt r∧(∃(v165:Slc),w28.cell? ⟨(pblk r),(poff r)+9,none⟩=some (Vs v165)∧(∀ b_7 w29,b_7=w28.heap.size→w29=w28.alloc (Obj.cells ([Vp o_]).toArray y_m (0,0))→(∃ src,zr w29 (Slc.mk (some ⟨b_7,0,none⟩) 1 1) 1 src∧zo 1 8 y_m [Vp none] v165 src 1 w29 (fun v168 w30=>IsAt r∧(zb w30 (pblk r) ((poff r)+9) 1∧(∀ w31,w31=World.puts (pblk r) ((poff r)+9) [Vs v168] w30→(IsAt r∧(∃(v175:Slc),w31.cell? ⟨(pblk r),(poff r)+10,none⟩=some (Vs v175)∧(∀ b_8 w32,b_8=w31.heap.size→w32=w31.alloc (Obj.cells ([Vp r,Vp o_,Vi t144]).toArray y_B (0,0))→(∀ b_9 w33,b_9=w32.heap.size→w33=w32.alloc (Obj.cells ([Value.iface 141 (Vp (some ⟨b_8,0,none⟩))]).toArray y_f (0,0))→(∃ src,zr w33 (Slc.mk (some ⟨b_9,0,none⟩) 1 1) 1 src∧zo 1 16 y_f [Value.nilIface] v175 src 1 w33 (fun v184 w34=>IsAt r∧(zb w34 (pblk r) ((poff r)+10) 1∧(∀ w35,w35=World.puts (pblk r) ((poff r)+10) [Vs v184] w34→(again_1 (IntKind.i64.wrap (t144+1)) w35)))))))))))))))))))))))))) ∧
 ((decide (t144<v143))=false→(IsAt r∧(∃(v192:Slc),w26.cell? ⟨(pblk r),(poff r)+10,none⟩=some (Vs v192)∧(∀ b_10 w36,b_10=w26.heap.size→w36=w26.alloc (Obj.cells ([Vp r]).toArray y_C (0,0))→(∀ b_11 w37,b_11=w36.heap.size→w37=w36.alloc (Obj.cells ([Value.iface 144 (Vp (some ⟨b_10,0,none⟩))]).toArray y_f (0,0))→(∃ src,zr w37 (Slc.mk (some ⟨b_11,0,none⟩) 1 1) 1 src∧zo 1 16 y_f [Value.nilIface] v192 src 1 w37 (fun v199 w38=>IsAt r∧(zb w38 (pblk r) ((poff r)+10) 1∧(∀ w39,w39=World.puts (pblk r) ((poff r)+10) [Vs v199] w38→(R r 0 w39))))))))))

def F_ub (R:OA→Int→WP) (b_:Nat) (r:OA) (parts:Slc) (v102:Int) (again_:Int→WP) (t103:Int) (w17:World):Prop :=
 ((decide (t103<v102))=true→(∃(v109:T_f),zc w17 b_ 0 [Vi v109.Lanes,Vi v109.Shards,Vi v109.Window,Vi v109.Queue]∧(C_ec (IntKind.i64.wrap (t103+1)) v109 w17 (fun(l_:OA) (e4:Int) w18=>((e4 != 0)=true→(R none e4 w18)) ∧
 ((e4 != 0)=false→(IsAt r∧(∃(v120:Slc),w18.cell? ⟨(pblk r),(poff r)+8,none⟩=some (Vs v120)∧(∀ b_4 w19,b_4=w18.heap.size→w19=w18.alloc (Obj.cells ([Vp l_]).toArray y_r (0,0))→(∃ src,zr w19 (Slc.mk (some ⟨b_4,0,none⟩) 1 1) 1 src∧zo 1 8 y_r [Vp none] v120 src 1 w19 (fun v123 w20=>IsAt r∧(zb w20 (pblk r) ((poff r)+8) 1∧(∀ w21,w21=World.puts (pblk r) ((poff r)+8) [Vs v123] w20→(IsAt r∧(∃(v130:Slc),w21.cell? ⟨(pblk r),(poff r)+10,none⟩=some (Vs v130)∧(∀ b_5 w22,b_5=w21.heap.size→w22=w21.alloc (Obj.cells ([Vp r,Vp l_]).toArray y_A (0,0))→(∀ b_6 w23,b_6=w22.heap.size→w23=w22.alloc (Obj.cells ([Value.iface 136 (Vp (some ⟨b_5,0,none⟩))]).toArray y_f (0,0))→(∃ src,zr w23 (Slc.mk (some ⟨b_6,0,none⟩) 1 1) 1 src∧zo 1 16 y_f [Value.nilIface] v130 src 1 w23 (fun v138 w24=>IsAt r∧(zb w24 (pblk r) ((poff r)+10) 1∧(∀ w25,w25=World.puts (pblk r) ((poff r)+10) [Vs v138] w24→(again_ (IntKind.i64.wrap (t103+1)) w25))))))))))))))))))))) ∧
 ((decide (t103<v102))=false→(∃(v143:Int),w17.cell? ⟨b_,1,none⟩=some (Vi v143)∧(∃(I:Int→WP) (μ:Int→World→Nat),I 0 w17 ∧
 ∀(t144:Int) w,I t144 w→F_tb R b_ r parts v143 (fun(t144':Int) w'=>I t144' w'∧μ t144' w'<μ t144 w) t144 w)))

def F_fb (s:OA) (R:OA→Int→WP) (b_:Nat) (b_1:Nat) (r:OA) (w7:World):Prop :=
 ∃(v51:Int),w7.cell? ⟨b_1,0,none⟩=some (Vi v51)∧(∃(v53:Slc),w7.cell? ⟨b_1,1,none⟩=some (Vs v53)∧(∃(v55:Int),w7.cell? ⟨b_,2,none⟩=some (Vi v55)∧(C_cc s v51 v53 v55 w7 (fun(v56:OA) (e1:Int) w8=>IsAt r∧(zb w8 (pblk r) ((poff r)+5) 1∧(∀ w9,w9=World.puts (pblk r) ((poff r)+5) [Vp v56] w8→(((e1 != 0)=true→(R none e1 w9)) ∧
 ((e1 != 0)=false→(∃(v67:Int),w9.cell? ⟨b_1,0,none⟩=some (Vi v67)∧(∃(v69:Slc),w9.cell? ⟨b_1,1,none⟩=some (Vs v69)∧(C_dc v67 v69 w9 (fun(v70:OA) (e2:Int) w10=>IsAt r∧(zb w10 (pblk r) ((poff r)+7) 1∧(∀ w11,w11=World.puts (pblk r) ((poff r)+7) [Vp v70] w10→(((e2 != 0)=true→(R none e2 w11)) ∧
 ((e2 != 0)=false→(∃(v79:T_f),zc w11 b_ 0 [Vi v79.Lanes,Vi v79.Shards,Vi v79.Window,Vi v79.Queue]∧(∃(v80:T_e),zc w11 b_1 0 [Vi v80.Mark,Vs v80.Beyond,Vs v80.Held]∧(C_Xb v79 v80 w11 (fun(parts:Slc) (e3:Int) w12=>((e3 != 0)=true→(R none e3 w12)) ∧
 ((e3 != 0)=false→(IsAt r∧(∃(v91:Slc),w12.cell? ⟨(pblk r),(poff r)+10,none⟩=some (Vs v91)∧(∀ b_2 w13,b_2=w12.heap.size→w13=w12.alloc (Obj.cells ([Vp r]).toArray y_u (0,0))→(∀ b_3 w14,b_3=w13.heap.size→w14=w13.alloc (Obj.cells ([Value.iface 130 (Vp (some ⟨b_2,0,none⟩))]).toArray y_f (0,0))→(∃ src,zr w14 (Slc.mk (some ⟨b_3,0,none⟩) 1 1) 1 src∧zo 1 16 y_f [Value.nilIface] v91 src 1 w14 (fun v98 w15=>IsAt r∧(zb w15 (pblk r) ((poff r)+10) 1∧(∀ w16,w16=World.puts (pblk r) ((poff r)+10) [Vs v98] w15→(∃(v102:Int),w16.cell? ⟨b_,0,none⟩=some (Vi v102)∧(∃(I:Int→WP) (μ:Int→World→Nat),I 0 w16 ∧
 ∀(t103:Int) w,I t103 w→F_ub R b_ r parts v102 (fun(t103':Int) w'=>I t103' w'∧μ t103' w'<μ t103 w) t103 w)))))))))))))))))))))))))))))))

def F_vb (s:OA) (d:OA) (R:OA→Int→WP) (b_:Nat) (t26:Bool) (w2:World):Prop :=
 (t26=true→(R none 2 w2)) ∧
 (t26=false→(∃(v27:T_f),zc w2 b_ 0 [Vi v27.Lanes,Vi v27.Shards,Vi v27.Window,Vi v27.Queue]∧(C_3 v27 w2 (fun(v28:Int) w3=>((v28 != 0)=true→(R none 7 w3)) ∧
 ((v28 != 0)=false→(C_Nb d w3 (fun(v32:T_e) (v32_1:Int) (v32_2:Int) (v32_3:Bool) (e:Int) w4=>∀ b_1 w5,b_1=w4.heap.size→w5=w4.alloc (Obj.cells ([Vi 0,Value.slice none 0 0,Value.slice none 0 0]).toArray y_i (0,0))→(zb w5 b_1 0 3∧(∀ w6,w6=World.puts b_1 0 [Vi v32.Mark,Vs v32.Beyond,Vs v32.Held] w5→(((e != 0)=true→(R none e w6)) ∧
 ((e != 0)=false→(∀ w40,(∃ k,w40=w6.drewN k)→(∃(v41:T_f),zc w40 b_ 0 [Vi v41.Lanes,Vi v41.Shards,Vi v41.Window,Vi v41.Queue]∧((C_Vb w40 (fun(v43:OA) w41=>zc w41 b_ 0 [Vi v41.Lanes,Vi v41.Shards,Vi v41.Window,Vi v41.Queue]∧(∀ b_12 w42,b_12=w41.heap.size→w42=w41.alloc (Obj.map #[] 0)→(zc w42 b_ 0 [Vi v41.Lanes,Vi v41.Shards,Vi v41.Window,Vi v41.Queue]∧(∀ b_13 w43,b_13=w42.heap.size→w43=w42.alloc (Obj.cells ([Vi v41.Lanes,Vi v41.Shards,Vi v41.Window,Vi v41.Queue,Vp d,Vp none,Vp v43,Vp none,Value.slice none 0 0,Value.slice none 0 0,Value.slice none 0 0,Value.slice none 0 0,Value.slice none 0 0,Value.map (some b_12),Value.slice none 0 0,Vo false,Vo false,Vo false]).toArray y_j (0,0))→((F_fb s R b_ b_1 (some ⟨b_13,0,none⟩) w43))))))) ∧
 (∀ b_14 w44,b_14=w40.heap.size→w44=w40.alloc (Obj.map #[] 0)→(zc w44 b_ 0 [Vi v41.Lanes,Vi v41.Shards,Vi v41.Window,Vi v41.Queue]∧(C_Vb w44 (fun(v431:OA) w45=>zc w45 b_ 0 [Vi v41.Lanes,Vi v41.Shards,Vi v41.Window,Vi v41.Queue]∧(∀ b_15 w46,b_15=w45.heap.size→w46=w45.alloc (Obj.cells ([Vi v41.Lanes,Vi v41.Shards,Vi v41.Window,Vi v41.Queue,Vp d,Vp none,Vp v431,Vp none,Value.slice none 0 0,Value.slice none 0 0,Value.slice none 0 0,Value.slice none 0 0,Value.slice none 0 0,Value.map (some b_14),Value.slice none 0 0,Vo false,Vo false,Vo false]).toArray y_j (0,0))→((F_fb s R b_ b_1 (some ⟨b_15,0,none⟩) w46)))))))))))))))))))))

def F_md (c:T_f) (s:OA) (d:OA) (R:OA→Int→WP) (w:World):Prop :=
 ∀ b_ w1,b_=w.heap.size→w1=w.alloc (Obj.cells ([Vi c.Lanes,Vi c.Shards,Vi c.Window,Vi c.Queue]).toArray y_l (0,0))→((s.isNone=true→(F_vb s d R b_ true w1)) ∧
 (s.isNone=false→(F_vb s d R b_ d.isNone w1)))

def F_Sb (r:OA) (last:Int) (R:Int→WP) (w:World):Prop :=
 C_c r w (fun(v7:Bool) w1=>((!v7)=true→(R 2 w1)) ∧
 ((!v7)=false→(IsAt r∧(∃(v13:Bool),w1.cell? ⟨(pblk r),(poff r)+17,none⟩=some (Vo v13)∧((v13=true→(R 11 w1)) ∧
 (v13=false→(IsAt r∧(∃(v17:OA),w1.cell? ⟨(pblk r),(poff r)+5,none⟩=some (Vp v17)∧(C_sb v17 last w1 (fun(v19:Int) w2=>R v19 w2))))))))))

def F_Gb (r:OA) (R:Bool→WP) (w:World):Prop :=
 ((!r.isNone)=true→(IsAt r∧(∃(v9:OA),w.cell? ⟨(pblk r),(poff r)+4,none⟩=some (Vp v9)∧(R (!v9.isNone) w)))) ∧
 ((!r.isNone)=false→(R false w))

def F_z (t22:Int) (again_:Slc→Int→WP) (l_1:Slc) (w3:World):Prop :=
 again_ l_1 (IntKind.i64.wrap (t22+1)) w3

def F_b (l_:Slc) (t22:Int) (again_:Slc→Int→WP) (t29:Bool) (w4:World):Prop :=
 (t29=true→(∀ b_ w5,b_=w4.heap.size→w5=w4.alloc (Obj.cells ([Vi t22]).toArray y_h (0,0))→(∃ src,zr w5 (Slc.mk (some ⟨b_,0,none⟩) 1 1) 1 src∧zo 1 8 y_h [Vi 0] l_ src 1 w5 (fun l_2 w6=>F_z t22 again_ l_2 w6)))) ∧
 (t29=false→(F_z t22 again_ l_ w4))

def F_W (t40:Int) (again_1:Slc→Int→WP) (l_4:Slc) (w13:World):Prop :=
 again_1 l_4 (IntKind.i64.wrap (t40+1)) w13

def F_X (R:Slc→WP) (v38:Slc) (again_1:Slc→Int→WP) (l_3:Slc) (t40:Int) (w12:World):Prop :=
 ((decide (t40<((v38.len:Nat):Int)))=true→(IsAt v38.ptr∧(0≤t40∧t40<((v38.len:Nat):Int)∧(∃(c:OA),w12.cell? ⟨(pblk v38.ptr),(poff v38.ptr)+t40.toNat,none⟩=some (Vp c)∧(C_6 c w12 (fun(v46:Int) w14=>((v46 != 0)=true→(∀ b_1 w15,b_1=w14.heap.size→w15=w14.alloc (Obj.cells ([Vi (IntKind.i64.wrap ((-1) - t40))]).toArray y_h (0,0))→(∃ src,zr w15 (Slc.mk (some ⟨b_1,0,none⟩) 1 1) 1 src∧zo 1 8 y_h [Vi 0] l_3 src 1 w15 (fun l_5 w16=>F_W t40 again_1 l_5 w16)))) ∧
 ((v46 != 0)=false→(F_W t40 again_1 l_3 w14)))))))) ∧
 ((decide (t40<((v38.len:Nat):Int)))=false→(R l_3 w12))

def F_Y (r:OA) (R:Slc→WP) (v20:Slc) (again_:Slc→Int→WP) (l_:Slc) (t22:Int) (w2:World):Prop :=
 ((decide (t22<((v20.len:Nat):Int)))=true→(IsAt v20.ptr∧(0≤t22∧t22<((v20.len:Nat):Int)∧(∃(t_:Value),w2.cell? ⟨(pblk v20.ptr),(poff v20.ptr)+t22.toNat,none⟩=some (t_)∧((∃(r1:OA),t_=Value.iface 97 (Vp r1)∧(C_6 r1 w2 (fun(v28:Int) w7=>F_b l_ t22 again_ (v28 != 0) w7))) ∨
 (∃(r2:OA),t_=Value.iface 130 (Vp r2)∧(C_r r2 w2 (fun(v281:Int) w8=>F_b l_ t22 again_ (v281 != 0) w8))) ∨
 (∃(r3:OA),t_=Value.iface 136 (Vp r3)∧(C_L r3 w2 (fun(v282:Int) w9=>F_b l_ t22 again_ (v282 != 0) w9))) ∨
 (∃(r4:OA),t_=Value.iface 141 (Vp r4)∧(C_M r4 w2 (fun(v283:Int) w10=>F_b l_ t22 again_ (v283 != 0) w10))) ∨
 (∃(r5:OA),t_=Value.iface 144 (Vp r5)∧(C_N r5 w2 (fun(v284:Int) w11=>F_b l_ t22 again_ (v284 != 0) w11)))))))) ∧
 ((decide (t22<((v20.len:Nat):Int)))=false→(IsAt r∧(∃(v38:Slc),w2.cell? ⟨(pblk r),(poff r)+11,none⟩=some (Vs v38)∧(∃(I:Slc→Int→WP) (μ:Slc→Int→World→Nat),I l_ 0 w2 ∧
 ∀(l_3:Slc) (t40:Int) w,I l_3 t40 w→F_X R v38 (fun(l_3':Slc) (t40':Int) w'=>I l_3' t40' w'∧μ l_3' t40' w'<μ l_3 t40 w) l_3 t40 w))))

def F_A (r:OA) (R:Slc→WP) (t16:Bool) (w1:World):Prop :=
 (t16=true→(R (Slc.mk none 0 0) w1)) ∧
 (t16=false→(IsAt r∧(∃(v20:Slc),w1.cell? ⟨(pblk r),(poff r)+10,none⟩=some (Vs v20)∧(∃(I:Slc→Int→WP) (μ:Slc→Int→World→Nat),I (Slc.mk none 0 0) 0 w1 ∧
 ∀(l_:Slc) (t22:Int) w,I l_ t22 w→F_Y r R v20 (fun(l_':Slc) (t22':Int) w'=>I l_' t22' w'∧μ l_' t22' w'<μ l_ t22 w) l_ t22 w))))

def F_Hb (r:OA) (R:Slc→WP) (w:World):Prop :=
 C_c r w (fun(v9:Bool) w17=>((!v9)=true→(F_A r R true w17)) ∧
 ((!v9)=false→(IsAt r∧(∃(v15:Bool),w17.cell? ⟨(pblk r),(poff r)+17,none⟩=some (Vo v15)∧(F_A r R v15 w17)))))

def F_d (r:OA) (n_:Int) (R:T_a→Int→WP) (b_:Nat) (k_:Int) (ev:OA) (w9:World):Prop :=
 IsAt r∧(∃(v43:OA),w9.cell? ⟨(pblk r),(poff r)+7,none⟩=some (Vp v43)∧(C_P v43 w9 (fun(v44:Int) w10=>IsAt ev∧(zb w10 (pblk ev) (poff ev) 1∧(∀ w11,w11=World.puts (pblk ev) (poff ev) [Vi n_] w10→(zb w11 (pblk ev) ((poff ev)+1) 1∧(∀ w12,w12=World.puts (pblk ev) ((poff ev)+1) [Value.int .u8 k_] w11→(zb w12 (pblk ev) ((poff ev)+5) 1∧(∀ w13,w13=World.puts (pblk ev) ((poff ev)+5) [Vi v44] w12→(IsAt ev∧(∃(v48:T_a),zc w13 (pblk ev) (poff ev) [Vi v48.Task,Value.int .u8 v48.Kind,Vi v48.Number,Vi v48.Shard,Vi v48.Count,Vi v48.Mark]∧(zb w13 b_ 0 6∧(∀ w14,w14=World.puts b_ 0 [Vi v48.Task,Value.int .u8 v48.Kind,Vi v48.Number,Vi v48.Shard,Vi v48.Count,Vi v48.Mark] w13→(∃(res4:T_a),zc w14 b_ 0 [Vi res4.Task,Value.int .u8 res4.Kind,Vi res4.Number,Vi res4.Shard,Vi res4.Count,Vi res4.Mark]∧(R res4 0 w14)))))))))))))))

def F_a (r:OA) (n_:Int) (R:T_a→Int→WP) (b_:Nat) (t_:Value) (k_:Int) (w7:World):Prop :=
 ((k_==0)=true→(zb w7 b_ 0 6∧(∀ w8,w8=World.puts b_ 0 [Vi 0,Value.int .u8 0,Vi 0,Vi 0,Vi 0,Vi 0] w7→(∃(res3:T_a),zc w8 b_ 0 [Vi res3.Task,Value.int .u8 res3.Kind,Vi res3.Number,Vi res3.Shard,Vi res3.Count,Vi res3.Mark]∧(R res3 10 w8))))) ∧
 ((k_==0)=false→((∃(r1:OA),t_=Value.iface 97 (Vp r1)∧(C_ac r1 k_ w7 (fun(v37:T_a) w15=>∀ b_1 w16,b_1=w15.heap.size→w16=w15.alloc (Obj.cells ([Vi 0,Value.int .u8 0,Vi 0,Vi 0,Vi 0,Vi 0]).toArray y_c (0,0))→(zb w16 b_1 0 6∧(∀ w17,w17=World.puts b_1 0 [Vi v37.Task,Value.int .u8 v37.Kind,Vi v37.Number,Vi v37.Shard,Vi v37.Count,Vi v37.Mark] w16→(F_d r n_ R b_ k_ (some ⟨b_1,0,none⟩) w17)))))) ∨
 (∃(r2:OA),t_=Value.iface 130 (Vp r2)∧(C_o r2 k_ w7 (fun(v371:T_a) w18=>∀ b_2 w19,b_2=w18.heap.size→w19=w18.alloc (Obj.cells ([Vi 0,Value.int .u8 0,Vi 0,Vi 0,Vi 0,Vi 0]).toArray y_c (0,0))→(zb w19 b_2 0 6∧(∀ w20,w20=World.puts b_2 0 [Vi v371.Task,Value.int .u8 v371.Kind,Vi v371.Number,Vi v371.Shard,Vi v371.Count,Vi v371.Mark] w19→(F_d r n_ R b_ k_ (some ⟨b_2,0,none⟩) w20)))))) ∨
 (∃(r3:OA),t_=Value.iface 136 (Vp r3)∧(C_n r3 k_ w7 (fun(v372:T_a) w21=>∀ b_3 w22,b_3=w21.heap.size→w22=w21.alloc (Obj.cells ([Vi 0,Value.int .u8 0,Vi 0,Vi 0,Vi 0,Vi 0]).toArray y_c (0,0))→(zb w22 b_3 0 6∧(∀ w23,w23=World.puts b_3 0 [Vi v372.Task,Value.int .u8 v372.Kind,Vi v372.Number,Vi v372.Shard,Vi v372.Count,Vi v372.Mark] w22→(F_d r n_ R b_ k_ (some ⟨b_3,0,none⟩) w23)))))) ∨
 (∃(r4:OA),t_=Value.iface 141 (Vp r4)∧(C_4 r4 k_ w7 (fun(v373:T_a) w24=>∀ b_4 w25,b_4=w24.heap.size→w25=w24.alloc (Obj.cells ([Vi 0,Value.int .u8 0,Vi 0,Vi 0,Vi 0,Vi 0]).toArray y_c (0,0))→(zb w25 b_4 0 6∧(∀ w26,w26=World.puts b_4 0 [Vi v373.Task,Value.int .u8 v373.Kind,Vi v373.Number,Vi v373.Shard,Vi v373.Count,Vi v373.Mark] w25→(F_d r n_ R b_ k_ (some ⟨b_4,0,none⟩) w26)))))) ∨
 (∃(r5:OA),t_=Value.iface 144 (Vp r5)∧(C_G r5 k_ w7 (fun(v374:T_a) w27=>∀ b_5 w28,b_5=w27.heap.size→w28=w27.alloc (Obj.cells ([Vi 0,Value.int .u8 0,Vi 0,Vi 0,Vi 0,Vi 0]).toArray y_c (0,0))→(zb w28 b_5 0 6∧(∀ w29,w29=World.puts b_5 0 [Vi v374.Task,Value.int .u8 v374.Kind,Vi v374.Number,Vi v374.Shard,Vi v374.Count,Vi v374.Mark] w28→(F_d r n_ R b_ k_ (some ⟨b_5,0,none⟩) w29))))))))

def F_Tb (r:OA) (n_:Int) (R:T_a→Int→WP) (w:World):Prop :=
 ∀ b_ w1,b_=w.heap.size→w1=w.alloc (Obj.cells ([Vi 0,Value.int .u8 0,Vi 0,Vi 0,Vi 0,Vi 0]).toArray y_c (0,0))→(C_c r w1 (fun(v12:Bool) w2=>((!v12)=true→(zb w2 b_ 0 6∧(∀ w3,w3=World.puts b_ 0 [Vi 0,Value.int .u8 0,Vi 0,Vi 0,Vi 0,Vi 0] w2→(∃(res:T_a),zc w3 b_ 0 [Vi res.Task,Value.int .u8 res.Kind,Vi res.Number,Vi res.Shard,Vi res.Count,Vi res.Mark]∧(R res 2 w3))))) ∧
 ((!v12)=false→(IsAt r∧(∃(v19:Bool),w2.cell? ⟨(pblk r),(poff r)+17,none⟩=some (Vo v19)∧((v19=true→(zb w2 b_ 0 6∧(∀ w4,w4=World.puts b_ 0 [Vi 0,Value.int .u8 0,Vi 0,Vi 0,Vi 0,Vi 0] w2→(∃(res1:T_a),zc w4 b_ 0 [Vi res1.Task,Value.int .u8 res1.Kind,Vi res1.Number,Vi res1.Shard,Vi res1.Count,Vi res1.Mark]∧(R res1 11 w4))))) ∧
 (v19=false→(C_Db r n_ w2 (fun(t_:Value) (ok:Bool) w5=>((!ok)=true→(zb w5 b_ 0 6∧(∀ w6,w6=World.puts b_ 0 [Vi 0,Value.int .u8 0,Vi 0,Vi 0,Vi 0,Vi 0] w5→(∃(res2:T_a),zc w6 b_ 0 [Vi res2.Task,Value.int .u8 res2.Kind,Vi res2.Number,Vi res2.Shard,Vi res2.Count,Vi res2.Mark]∧(R res2 1 w6))))) ∧
 ((!ok)=false→((∃(r6:OA),t_=Value.iface 97 (Vp r6)∧(C_6 r6 w5 (fun(v31:Int) w30=>F_a r n_ R b_ t_ v31 w30))) ∨
 (∃(r7:OA),t_=Value.iface 130 (Vp r7)∧(C_r r7 w5 (fun(v311:Int) w31=>F_a r n_ R b_ t_ v311 w31))) ∨
 (∃(r8:OA),t_=Value.iface 136 (Vp r8)∧(C_L r8 w5 (fun(v312:Int) w32=>F_a r n_ R b_ t_ v312 w32))) ∨
 (∃(r9:OA),t_=Value.iface 141 (Vp r9)∧(C_M r9 w5 (fun(v313:Int) w33=>F_a r n_ R b_ t_ v313 w33))) ∨
 (∃(r10:OA),t_=Value.iface 144 (Vp r10)∧(C_N r10 w5 (fun(v314:Int) w34=>F_a r n_ R b_ t_ v314 w34))))))))))))))

def F_Yb (t28:Int) (again_:Slc→Int→WP) (out1:Slc) (w5:World):Prop :=
 again_ out1 (IntKind.i64.wrap (t28+1)) w5

def F_Fc (key:ByteArray) (end_:ByteArray) (R:Slc→Int→WP) (m_:Option Nat) (v26:Slc) (again_:Slc→Int→WP) (out:Slc) (t28:Int) (w4:World):Prop :=
 ((decide (t28<((v26.len:Nat):Int)))=true→(IsAt v26.ptr∧(0≤t28∧t28<((v26.len:Nat):Int)∧(∃(k_:ByteArray),w4.cell? ⟨(pblk v26.ptr),(poff v26.ptr)+t28.toNat,none⟩=some (Value.string k_)∧((((!(Op.bytesLess k_.toList key.toList))&&((end_.toList==ByteArray.empty.toList)||(Op.bytesLess k_.toList end_.toList)))=true→(∃(es:Array MapEntry) (v48:ByteArray) (ok:Bool),zHb w4 m_ es∧(zP isKS es∧((es.toList.map (·.key)).Nodup∧(isKS (Value.string k_)∧(LkIs es (Value.string k_) (Value.string ByteArray.empty) (Value.string v48) ok∧(∀ b_ w6,b_=w4.heap.size→w6=w4.alloc (Obj.cells ([Value.string k_,Value.string v48]).toArray y_k (0,0))→(∃ src,zr w6 (Slc.mk (some ⟨b_,0,none⟩) 1 1) 2 src∧zo 2 32 y_k [Value.string ByteArray.empty,Value.string ByteArray.empty] out src 1 w6 (fun out2 w7=>F_Yb t28 again_ out2 w7))))))))) ∧
 (((!(Op.bytesLess k_.toList key.toList))&&((end_.toList==ByteArray.empty.toList)||(Op.bytesLess k_.toList end_.toList)))=false→(F_Yb t28 again_ out w4))))))) ∧
 ((decide (t28<((v26.len:Nat):Int)))=false→(R out 0 w4))

def F_Cd (l_:Slc) (first:Int) (key:ByteArray) (end_:ByteArray) (R:Slc→Int→WP) (w:World):Prop :=
 C_Sb l_ first w (fun(m_:Option Nat) (e:Int) w1=>((e != 0)=true→(R (Slc.mk none 0 0) e w1)) ∧
 ((e != 0)=false→(C_f m_ w1 (fun(v25:Value) w2=>C_A v25 w2 (fun(v26:Slc) w3=>∃(I:Slc→Int→WP) (μ:Slc→Int→World→Nat),I (Slc.mk none 0 0) 0 w3 ∧
 ∀(out:Slc) (t28:Int) w,I out t28 w→F_Fc key end_ R m_ v26 (fun(out':Slc) (t28':Int) w'=>I out' t28' w'∧μ out' t28' w'<μ out t28 w) out t28 w)))))

def F_Xc (g:OA) (R:Int→WP) (w:World):Prop :=
 (g.isNone=true→(R 0 w)) ∧
 (g.isNone=false→(IsAt g∧(∃(v8:Int),w.cell? ⟨(pblk g),(poff g)+1,none⟩=some (Vi v8)∧(R v8 w))))

def F_Hc (o_:OA) (R:Slc→WP) (w:World):Prop :=
 C_i o_ w (fun(v4:Bool) w1=>((!v4)=true→(R (Slc.mk none 0 0) w1)) ∧
 ((!v4)=false→(IsAt o_∧(∃(v9:OA),w1.cell? ⟨(pblk o_),(poff o_),none⟩=some (Vp v9)∧(C_kb v9 w1 (fun(v10:Slc) w2=>R v10 w2))))))

def F_gb (a_:T_k) (b_:T_k) (R:Int→WP) (w:World):Prop :=
 ∀ b_1 w1,b_1=w.heap.size→w1=w.alloc (Obj.cells ([Value.string a_.Key,Vs a_.Versions]).toArray y_e (0,0))→(∀ b_2 w2,b_2=w1.heap.size→w2=w1.alloc (Obj.cells ([Value.string b_.Key,Vs b_.Versions]).toArray y_e (0,0))→(∃(v6:ByteArray),w2.cell? ⟨b_1,0,none⟩=some (Value.string v6)∧(∃(v8:ByteArray),w2.cell? ⟨b_2,0,none⟩=some (Value.string v8)∧(C_hc v6 v8 w2 (fun(v9:Int) w3=>R v9 w3)))))

def F_Kb (l_:Slc) (R:Int→WP) (v7:Value) (again_:Int→WP) (t10:Int) (w2:World):Prop :=
 ((decide (t10<((l_.len:Nat):Int)))=true→(IsAt l_.ptr∧(0≤t10∧t10<((l_.len:Nat):Int)∧(∃(v13:T_b),zc w2 (pblk l_.ptr) ((poff l_.ptr)+t10.toNat*2) [Vi v13.Number,Vs v13.Writes]∧(∀ b_ w3,b_=w2.heap.size→w3=w2.alloc (Obj.cells ([Vi 0,Value.slice none 0 0]).toArray y_a (0,0))→(zb w3 b_ 0 2∧(∀ w4,w4=World.puts b_ 0 [Vi v13.Number,Vs v13.Writes] w3→(∃(v15:T_b),zc w4 b_ 0 [Vi v15.Number,Vs v15.Writes]∧(zbb (P:=Tryz.prog) v7 #[Value.agg #[Vi v15.Number,Vs v15.Writes]] w4 (fun e' w5=>∃(v16:Int),e'=Ending.returned (Vi v16)∧(((v16 != 0)=true→(R v16 w5)) ∧
 ((v16 != 0)=false→(again_ (IntKind.i64.wrap (t10+1)) w5))))))))))))) ∧
 ((decide (t10<((l_.len:Nat):Int)))=false→(R 0 w2))

def F_Ad (l_:Slc) (R:Int→WP) (w:World):Prop :=
 C_3b w (fun(v7:Value) w1=>∃(I:Int→WP) (μ:Int→World→Nat),I 0 w1 ∧
 ∀(t10:Int) w,I t10 w→F_Kb l_ R v7 (fun(t10':Int) w'=>I t10' w'∧μ t10' w'<μ t10 w) t10 w)

def F_Yc (t_:T_b) (R:T_b→WP) (w:World):Prop :=
 ∀ b_ w1,b_=w.heap.size→w1=w.alloc (Obj.cells ([Vi t_.Number,Vs t_.Writes]).toArray y_a (0,0))→(∀ b_1 w2,b_1=w1.heap.size→w2=w1.alloc (Obj.cells ([Vi 0,Value.slice none 0 0]).toArray y_a (0,0))→(∀ w3,(∃ k,w3=w2.drewN k)→(∃(v4:Int),w3.cell? ⟨b_,0,none⟩=some (Vi v4)∧(∃(v6:Slc),w3.cell? ⟨b_,1,none⟩=some (Vs v6)∧(C_l v6 w3 (fun(v7:Slc) w4=>w4.cell? ⟨b_,0,none⟩=some (Vi v4)∧(zb w4 b_1 0 2∧(∀ w5,w5=World.puts b_1 0 [Vi v4,Vs v7] w4→((∃(res:T_b),zc w5 b_1 0 [Vi res.Number,Vs res.Writes]∧(R res w5)))))))))))

def F_tc (R:Int→WP) (t19:Int) (again_:Int→WP) (t32:Bool) (w6:World):Prop :=
 (t32=true→(R 7 w6)) ∧
 (t32=false→(again_ (IntKind.i64.wrap (t19+1)) w6))

def F_uc (R:Int→WP) (b_1:Nat) (again_:Int→WP) (t19:Int) (w3:World):Prop :=
 ((decide (t19<((4:Nat):Int)))=true→(0≤t19∧t19<(4:Int)∧(∃(v22:zXd),zc w3 b_1 (0+t19.toNat*2) [Vi v22.e0,Vi v22.e1]∧(∀ b_2 w4,b_2=w3.heap.size→w4=w3.alloc (Obj.cells ([Vi 0,Vi 0]).toArray y_p (0,0))→(zb w4 b_2 0 2∧(∀ w5,w5=World.puts b_2 0 [Vi v22.e0,Vi v22.e1] w4→(0≤(0:Int)∧(0:Int)<(2:Int)∧(∃(v24:Int),w5.cell? ⟨b_2,0,none⟩=some (Vi v24)∧(((decide (v24<1))=true→(F_tc R t19 again_ true w5)) ∧
 ((decide (v24<1))=false→(0≤(0:Int)∧(0:Int)<(2:Int)∧(∃(v28:Int),w5.cell? ⟨b_2,0,none⟩=some (Vi v28)∧(0≤(1:Int)∧(1:Int)<(2:Int)∧(∃(v30:Int),w5.cell? ⟨b_2,1,none⟩=some (Vi v30)∧(F_tc R t19 again_ (decide (v28>v30)) w5))))))))))))))) ∧
 ((decide (t19<((4:Nat):Int)))=false→(R 0 w3))

def F_td (c:T_f) (R:Int→WP) (w:World):Prop :=
 ∀ b_ w1,b_=w.heap.size→w1=w.alloc (Obj.cells ([Vi c.Lanes,Vi c.Shards,Vi c.Window,Vi c.Queue]).toArray y_l (0,0))→(∃(v6:Int),w1.cell? ⟨b_,0,none⟩=some (Vi v6)∧(∃(v9:Int),w1.cell? ⟨b_,1,none⟩=some (Vi v9)∧(∃(v12:Int),w1.cell? ⟨b_,2,none⟩=some (Vi v12)∧(∃(v15:Int),w1.cell? ⟨b_,3,none⟩=some (Vi v15)∧(∀ b_1 w2,b_1=w1.heap.size→w2=w1.alloc (Obj.cells ([Vi v6,Vi 16,Vi v9,Vi 16,Vi v12,Vi 64,Vi v15,Vi 16]).toArray y_p (0,0))→(∃(I:Int→WP) (μ:Int→World→Nat),I 0 w2 ∧
 ∀(t19:Int) w,I t19 w→F_uc R b_1 (fun(t19':Int) w'=>I t19' w'∧μ t19' w'<μ t19 w) t19 w))))))

def F_pb (t13:Int) (again_:Int→Int→Bool→Int→WP) (generation1:Int) (slot1:Int) (ok1:Bool) (w3:World):Prop :=
 again_ generation1 slot1 ok1 (IntKind.i64.wrap (t13+1)) w3

def F_Xb (d:OA) (R:T_e→Int→Int→Bool→Int→WP) (b_:Nat) (again_:Int→Int→Bool→Int→WP) (generation:Int) (slot:Int) (ok:Bool) (t13:Int) (w2:World):Prop :=
 ((decide (t13<2))=true→(C_tb d t13 w2 (fun(b_1:Slc) (f:Int) w4=>((f != 0)=true→(zb w4 b_ 0 3∧(∀ w5,w5=World.puts b_ 0 [Vi 0,Value.slice none 0 0,Value.slice none 0 0] w4→(∃(res:T_e),zc w5 b_ 0 [Vi res.Mark,Vs res.Beyond,Vs res.Held]∧(R res 0 0 false f w5))))) ∧
 ((f != 0)=false→(C_rb b_1 w4 (fun(v28:T_e) (n_:Int) (is:Bool) w6=>∀ b_2 w7,b_2=w6.heap.size→w7=w6.alloc (Obj.cells ([Vi 0,Value.slice none 0 0,Value.slice none 0 0]).toArray y_i (0,0))→(zb w7 b_2 0 3∧(∀ w8,w8=World.puts b_2 0 [Vi v28.Mark,Vs v28.Beyond,Vs v28.Held] w7→(((is&&((!ok)||(decide (n_>(IntKind.u64.wrap generation)))))=true→(∃(v43:T_e),zc w8 b_2 0 [Vi v43.Mark,Vs v43.Beyond,Vs v43.Held]∧(zb w8 b_ 0 3∧(∀ w9,w9=World.puts b_ 0 [Vi v43.Mark,Vs v43.Beyond,Vs v43.Held] w8→(F_pb t13 again_ (IntKind.i64.wrap n_) t13 true w9))))) ∧
 ((is&&((!ok)||(decide (n_>(IntKind.u64.wrap generation)))))=false→(F_pb t13 again_ generation slot ok w8))))))))))) ∧
 ((decide (t13<2))=false→(∃(v48:T_e),zc w2 b_ 0 [Vi v48.Mark,Vs v48.Beyond,Vs v48.Held]∧(zb w2 b_ 0 3∧(∀ w10,w10=World.puts b_ 0 [Vi v48.Mark,Vs v48.Beyond,Vs v48.Held] w2→(∃(res1:T_e),zc w10 b_ 0 [Vi res1.Mark,Vs res1.Beyond,Vs res1.Held]∧(R res1 generation slot ok 0 w10))))))

def F_jd (d:OA) (R:T_e→Int→Int→Bool→Int→WP) (w:World):Prop :=
 ∀ b_ w1,b_=w.heap.size→w1=w.alloc (Obj.cells ([Vi 0,Value.slice none 0 0,Value.slice none 0 0]).toArray y_i (0,0))→(∃(I:Int→Int→Bool→Int→WP) (μ:Int→Int→Bool→Int→World→Nat),I 0 0 false 0 w1 ∧
 ∀(generation:Int) (slot:Int) (ok:Bool) (t13:Int) w,I generation slot ok t13 w→F_Xb d R b_ (fun(generation':Int) (slot':Int) (ok':Bool) (t13':Int) w'=>I generation' slot' ok' t13' w'∧μ generation' slot' ok' t13' w'<μ generation slot ok t13 w) generation slot ok t13 w)

def F_Kd (R:OA→WP) (w:World):Prop :=
 ∀ b_ w1,b_=w.heap.size→w1=w.alloc (Obj.map #[] 0)→(∀ b_1 w2,b_1=w1.heap.size→w2=w1.alloc (Obj.map #[] 0)→(∀ b_2 w3,b_2=w2.heap.size→w3=w2.alloc (Obj.map #[] 0)→(∀ b_3 w4,b_3=w3.heap.size→w4=w3.alloc (Obj.cells ([Value.map (some b_),Value.map (some b_1),Value.map (some b_2),Vi 0]).toArray y_H (0,0))→(R (some ⟨b_3,0,none⟩) w4))))

def F_Uc (s:OA) (mark:Int) (beyond:Slc) (window:Int) (R:OA→Int→WP) (b_:Nat) (again_:Int→Int→WP) (last:Int) (t32:Int) (w2:World):Prop :=
 ((decide (t32<((beyond.len:Nat):Int)))=true→(IsAt beyond.ptr∧(0≤t32∧t32<((beyond.len:Nat):Int)∧(∃(n_:Int),w2.cell? ⟨(pblk beyond.ptr),(poff beyond.ptr)+t32.toNat,none⟩=some (Vi n_)∧((((decide (n_≤last))||((t32==0)&&(decide ((IntKind.i64.wrap (n_ - 1))≤last))))=true→(R none 1 w2)) ∧
 (((decide (n_≤last))||((t32==0)&&(decide ((IntKind.i64.wrap (n_ - 1))≤last))))=false→(∃(r:Nat) (es:Array MapEntry) (c:Nat),(some b_)=some r∧w2.heap[r]? =some (.map es c)∧(z1c es∧(ztb es n_=false∧(∀ w3,w3={ w2 with heap:=w2.heap.setIfInBounds r (.map (es.push ⟨.int .i64 n_,Value.agg #[],c⟩) (c+1)) }→(again_ n_ (IntKind.i64.wrap (t32+1)) w3))))))))))) ∧
 ((decide (t32<((beyond.len:Nat):Int)))=false→(C_D s w2 (fun(v57:Int) w4=>((decide (last>v57))=true→(R none 6 w4)) ∧
 ((decide (last>v57))=false→(∀ b_1 w5,b_1=w4.heap.size→w5=w4.alloc (Obj.cells ([Vp s,Vi mark,Vi mark,Vi window,Value.map (some b_),Vp none,Vo false]).toArray y_M (0,0))→(R (some ⟨b_1,0,none⟩) 0 w5))))))

def F_Ld (s:OA) (mark:Int) (beyond:Slc) (window:Int) (R:OA→Int→WP) (w:World):Prop :=
 (s.isNone=true→(R none 2 w)) ∧
 (s.isNone=false→(((((decide (mark<0))||(decide (window<1)))||(decide (window>64)))=true→(R none 1 w)) ∧
 ((((decide (mark<0))||(decide (window<1)))||(decide (window>64)))=false→(∀ b_ w1,b_=w.heap.size→w1=w.alloc (Obj.map #[] 0)→(∃(I:Int→Int→WP) (μ:Int→Int→World→Nat),I mark 0 w1 ∧
 ∀(last:Int) (t32:Int) w,I last t32 w→F_Uc s mark beyond window R b_ (fun(last':Int) (t32':Int) w'=>I last' t32' w'∧μ last' t32' w'<μ last t32 w) last t32 w)))))

def F_mc (R:OA→Int→WP) (b_:Nat) (t21:Int) (again_:Int→WP) (n_:Int) (t40:Bool) (w3:World):Prop :=
 (t40=true→(R none 1 w3)) ∧
 (t40=false→(C_cb (some ⟨b_,0,none⟩) n_ w3 (fun w4=>again_ (IntKind.i64.wrap (t21+1)) w4)))

def F_Vc (mark:Int) (beyond:Slc) (R:OA→Int→WP) (b_:Nat) (again_:Int→WP) (t21:Int) (w2:World):Prop :=
 ((decide (t21<((beyond.len:Nat):Int)))=true→(IsAt beyond.ptr∧(0≤t21∧t21<((beyond.len:Nat):Int)∧(∃(n_:Int),w2.cell? ⟨(pblk beyond.ptr),(poff beyond.ptr)+t21.toNat,none⟩=some (Vi n_)∧((((decide (n_<(IntKind.i64.wrap (mark+2))))||(decide (n_>65536)))=true→(F_mc R b_ t21 again_ n_ true w2)) ∧
 (((decide (n_<(IntKind.i64.wrap (mark+2))))||(decide (n_>65536)))=false→(∃(v38:Int),w2.cell? ⟨b_,1027,none⟩=some (Vi v38)∧(F_mc R b_ t21 again_ n_ (decide (n_≤v38)) w2)))))))) ∧
 ((decide (t21<((beyond.len:Nat):Int)))=false→(R (some ⟨b_,0,none⟩) 0 w2))

def F_Md (mark:Int) (beyond:Slc) (R:OA→Int→WP) (w:World):Prop :=
 (((decide (mark<0))||(decide (mark>65536)))=true→(R none 1 w)) ∧
 (((decide (mark<0))||(decide (mark>65536)))=false→(∀ b_ w1,b_=w.heap.size→w1=w.alloc (Obj.cells (([Vo true,Vi mark]++(List.map (Value.int .u64) (List.replicate 1025 0))++[Vi mark])).toArray y_L (0,0))→(∃(I:Int→WP) (μ:Int→World→Nat),I 0 w1 ∧
 ∀(t21:Int) w,I t21 w→F_Vc mark beyond R b_ (fun(t21':Int) w'=>I t21' w'∧μ t21' w'<μ t21 w) t21 w)))

def F_vc (R:Slc→Int→WP) (b_:Nat) (b_1:Nat) (v24:Int) (b_2:Nat) (v27:Slc) (again_:Int→WP) (t29:Int) (w6:World):Prop :=
 ((decide (t29<((v27.len:Nat):Int)))=true→(∃(v33:Slc),w6.cell? ⟨b_1,2,none⟩=some (Vs v33)∧(IsAt v33.ptr∧(0≤t29∧t29<((v33.len:Nat):Int)∧(∃(v36:T_k),zc w6 (pblk v33.ptr) ((poff v33.ptr)+t29.toNat*2) [Value.string v36.Key,Vs v36.Versions]∧(∀ b_3 w7,b_3=w6.heap.size→w7=w6.alloc (Obj.cells ([Value.string ByteArray.empty,Value.slice none 0 0]).toArray y_e (0,0))→(zb w7 b_3 0 2∧(∀ w8,w8=World.puts b_3 0 [Value.string v36.Key,Vs v36.Versions] w7→(∃(v38:T_f),zc w8 b_ 0 [Vi v38.Lanes,Vi v38.Shards,Vi v38.Window,Vi v38.Queue]∧(∃(v40:ByteArray),w8.cell? ⟨b_3,0,none⟩=some (Value.string v40)∧(C_Eb v38 v40 w8 (fun(n_:Int) (v41_1:Int) w9=>∀ w10,(∃ k,w10=w9.drewN k)→(0≤n_∧n_<((v24.toNat:Nat):Int)∧(∃(v49:Slc),w10.cell? ⟨b_2,0+n_.toNat,none⟩=some (Vs v49)∧(∃(v51:ByteArray),w10.cell? ⟨b_3,0,none⟩=some (Value.string v51)∧(∃(v53:Slc),w10.cell? ⟨b_3,1,none⟩=some (Vs v53)∧(C_a v53 w10 (fun(v54:Slc) w11=>w11.cell? ⟨b_3,0,none⟩=some (Value.string v51)∧w11.cell? ⟨b_2,0+n_.toNat,none⟩=some (Vs v49)∧(∀ b_4 w12,b_4=w11.heap.size→w12=w11.alloc (Obj.cells ([Value.string v51,Vs v54]).toArray y_e (0,0))→(w12.cell? ⟨b_2,0+n_.toNat,none⟩=some (Vs v49)∧(∃ src,zr w12 (Slc.mk (some ⟨b_4,0,none⟩) 1 1) 2 src∧zo 2 40 y_e [Value.string ByteArray.empty,Value.slice none 0 0] v49 src 1 w12 (fun v57 w13=>(0≤n_∧n_<((v24.toNat:Nat):Int)∧(zb w13 b_2 (0+n_.toNat) 1∧(∀ w14,w14=World.puts b_2 (0+n_.toNat) [Vs v57] w13→((again_ (IntKind.i64.wrap (t29+1)) w14))))))))))))))))))))))))))) ∧
 ((decide (t29<((v27.len:Nat):Int)))=false→(R (Slc.mk (some ⟨b_2,0,none⟩) v24.toNat v24.toNat) 0 w6))

def F_ud (c:T_f) (s:T_e) (R:Slc→Int→WP) (w:World):Prop :=
 ∀ b_ w1,b_=w.heap.size→w1=w.alloc (Obj.cells ([Vi c.Lanes,Vi c.Shards,Vi c.Window,Vi c.Queue]).toArray y_l (0,0))→(∀ b_1 w2,b_1=w1.heap.size→w2=w1.alloc (Obj.cells ([Vi s.Mark,Vs s.Beyond,Vs s.Held]).toArray y_i (0,0))→(∃(v13:T_f),zc w2 b_ 0 [Vi v13.Lanes,Vi v13.Shards,Vi v13.Window,Vi v13.Queue]∧(C_3 v13 w2 (fun(v14:Int) w3=>((v14 != 0)=true→(R (Slc.mk none 0 0) v14 w3)) ∧
 ((v14 != 0)=false→(∃(v18:T_e),zc w3 b_1 0 [Vi v18.Mark,Vs v18.Beyond,Vs v18.Held]∧(C_Yb v18 w3 (fun(v19:Int) w4=>((v19 != 0)=true→(R (Slc.mk none 0 0) v19 w4)) ∧
 ((v19 != 0)=false→(∃(v24:Int),w4.cell? ⟨b_,1,none⟩=some (Vi v24)∧(0≤v24∧v24≤v24∧(24:Int)*v24≤281474976710656∧(∀ b_2 w5,b_2=w4.heap.size→w5=w4.alloc (Obj.cells (zu v24.toNat [Value.slice none 0 0]) y_D (0,0))→(∃(v27:Slc),w5.cell? ⟨b_1,2,none⟩=some (Vs v27)∧(∃(I:Int→WP) (μ:Int→World→Nat),I 0 w5 ∧
 ∀(t29:Int) w,I t29 w→F_vc R b_ b_1 v24 b_2 v27 (fun(t29':Int) w'=>I t29' w'∧μ t29' w'<μ t29 w) t29 w))))))))))))))

def F_ob (number:Int) (R:OA→Int→WP) (b_:Nat) (t10:Bool) (w3:World):Prop :=
 (t10=true→(R none 1 w3)) ∧
 (t10=false→(∃(v20:T_f),zc w3 b_ 0 [Vi v20.Lanes,Vi v20.Shards,Vi v20.Window,Vi v20.Queue]∧(∀ b_1 w4,b_1=w3.heap.size→w4=w3.alloc (Obj.cells ([Vi number,Vi v20.Lanes,Vi v20.Shards,Vi v20.Window,Vi v20.Queue,Value.iface 198 (Value.agg #[])]).toArray y_O (0,0))→(R (some ⟨b_1,0,none⟩) 0 w4))))

def F_Nd (number:Int) (c:T_f) (R:OA→Int→WP) (w:World):Prop :=
 ∀ b_ w1,b_=w.heap.size→w1=w.alloc (Obj.cells ([Vi c.Lanes,Vi c.Shards,Vi c.Window,Vi c.Queue]).toArray y_l (0,0))→(∃(v7:T_f),zc w1 b_ 0 [Vi v7.Lanes,Vi v7.Shards,Vi v7.Window,Vi v7.Queue]∧(C_3 v7 w1 (fun(v8:Int) w2=>((v8 != 0)=true→(R none 7 w2)) ∧
 ((v8 != 0)=false→(((decide (number<1))=true→(F_ob number R b_ true w2)) ∧
 ((decide (number<1))=false→(∃(v16:Int),w2.cell? ⟨b_,0,none⟩=some (Vi v16)∧(F_ob number R b_ (decide (number>v16)) w2))))))))

def F_Dd (number:Int) (queue:Int) (l_:Slc) (R:OA→Int→WP) (w:World):Prop :=
 (((((decide (number<0))||(decide (number≥16)))||(decide (queue<1)))||(decide (queue>16)))=true→(R none 1 w)) ∧
 (((((decide (number<0))||(decide (number≥16)))||(decide (queue<1)))||(decide (queue>16)))=false→(C_Fb l_ w (fun(s:OA) (e:Int) w1=>((e != 0)=true→(R none e w1)) ∧
 ((e != 0)=false→(C_eb queue w1 (fun(w_:OA) (e1:Int) w2=>((e1 != 0)=true→(R none e1 w2)) ∧
 ((e1 != 0)=false→(∀ b_ w3,b_=w2.heap.size→w3=w2.alloc (Obj.cells ([Vp s,Vp w_]).toArray y_E (0,0))→(R (some ⟨b_,0,none⟩) 0 w3)))))))))

def F_O (f:OA) (last:Int) (R:Int→WP) (t14:Bool) (w2:World):Prop :=
 (t14=true→(R 1 w2)) ∧
 (t14=false→(IsAt f∧(zb w2 (pblk f) ((poff f)+2) 1∧(∀ w3,w3=World.puts (pblk f) ((poff f)+2) [Vi last] w2→(R 0 w3)))))

def F_Zc (f:OA) (last:Int) (R:Int→WP) (w:World):Prop :=
 C_s f w (fun(v7:Bool) w1=>((!v7)=true→(R 2 w1)) ∧
 ((!v7)=false→(IsAt f∧(∃(v13:Bool),w1.cell? ⟨(pblk f),(poff f)+6,none⟩=some (Vo v13)∧((v13=true→(R 12 w1)) ∧
 (v13=false→(IsAt f∧(∃(v19:Int),w1.cell? ⟨(pblk f),(poff f)+2,none⟩=some (Vi v19)∧(((decide (last<v19))=true→(F_O f last R true w1)) ∧
 ((decide (last<v19))=false→(IsAt f∧(∃(v26:OA),w1.cell? ⟨(pblk f),(poff f),none⟩=some (Vp v26)∧(C_D v26 w1 (fun(v27:Int) w4=>F_O f last R (decide (last>v27)) w4))))))))))))))

def F_bb (r:OA) (n_:Int) (R:Value→Bool→WP) (t27:Bool) (w2:World):Prop :=
 (t27=true→(IsAt r∧(∃(v44:Slc),w2.cell? ⟨(pblk r),(poff r)+11,none⟩=some (Vs v44)∧(IsAt v44.ptr∧(0≤IntKind.i64.wrap ((-1) - n_)∧IntKind.i64.wrap ((-1) - n_)<((v44.len:Nat):Int)∧(∃(v48:OA),w2.cell? ⟨(pblk v44.ptr),(poff v44.ptr)+(IntKind.i64.wrap ((-1) - n_)).toNat,none⟩=some (Vp v48)∧(R (Value.iface 97 (Vp v48)) true w2))))))) ∧
 (t27=false→(R Value.nilIface false w2))

def F_K (r:OA) (n_:Int) (R:Value→Bool→WP) (t7:Bool) (w1:World):Prop :=
 (t7=true→(IsAt r∧(∃(v23:Slc),w1.cell? ⟨(pblk r),(poff r)+10,none⟩=some (Vs v23)∧(IsAt v23.ptr∧(0≤n_∧n_<((v23.len:Nat):Int)∧(∃(v26:Value),w1.cell? ⟨(pblk v23.ptr),(poff v23.ptr)+n_.toNat,none⟩=some (v26)∧(R v26 true w1))))))) ∧
 (t7=false→(((decide (n_<0))=true→(IsAt r∧(∃(v37:Slc),w1.cell? ⟨(pblk r),(poff r)+11,none⟩=some (Vs v37)∧(C_X (IntKind.i64.wrap ((-1) - n_)) ((v37.len:Nat):Int) w1 (fun(v39:Bool) w3=>F_bb r n_ R v39 w3))))) ∧
 ((decide (n_<0))=false→(F_bb r n_ R false w1))))

def F_9b (r:OA) (n_:Int) (R:Value→Bool→WP) (w:World):Prop :=
 ((decide (n_≥0))=true→(IsAt r∧(∃(v16:Slc),w.cell? ⟨(pblk r),(poff r)+10,none⟩=some (Vs v16)∧(C_X n_ ((v16.len:Nat):Int) w (fun(v18:Bool) w4=>F_K r n_ R v18 w4))))) ∧
 ((decide (n_≥0))=false→(F_K r n_ R false w))

def F_wb (t37:Int) (again_1:Int→WP) (w7:World):Prop :=
 again_1 (IntKind.i64.wrap (t37+1)) w7

def F_ac (b_:Nat) (t30:Int) (again_:Int→WP) (v35:Slc) (again_1:Int→WP) (t37:Int) (w6:World):Prop :=
 ((decide (t37<((v35.len:Nat):Int)))=true→(IsAt v35.ptr∧(0≤t37∧t37<((v35.len:Nat):Int)∧(∃(v40:T_d),zc w6 (pblk v35.ptr) ((poff v35.ptr)+t37.toNat*3) [Value.string v40.Key,Value.string v40.Val,Vo v40.Drop]∧(∀ b_2 w8,b_2=w6.heap.size→w8=w6.alloc (Obj.cells ([Value.string ByteArray.empty,Value.string ByteArray.empty,Vo false]).toArray y_b (0,0))→(zb w8 b_2 0 3∧(∀ w9,w9=World.puts b_2 0 [Value.string v40.Key,Value.string v40.Val,Vo v40.Drop] w8→(∃(v42:Bool),w9.cell? ⟨b_2,2,none⟩=some (Vo v42)∧((v42=true→(∃(v45:ByteArray),w9.cell? ⟨b_2,0,none⟩=some (Value.string v45)∧(∃(r:Nat) (es:Array MapEntry) (c:Nat),(some b_)=some r∧w9.heap[r]? =some (.map es c)∧(zP isKS es∧(isKS (Value.string v45)∧(∀ es1 w10,zGh es (Value.string v45) es1→w10={ w9 with heap:=w9.heap.setIfInBounds r (.map es1 c) }→(F_wb t37 again_1 w10))))))) ∧
 (v42=false→(∃(v48:ByteArray),w9.cell? ⟨b_2,0,none⟩=some (Value.string v48)∧(∃(v50:ByteArray),w9.cell? ⟨b_2,1,none⟩=some (Value.string v50)∧(∃(r1:Nat) (es2:Array MapEntry) (c1:Nat),(some b_)=some r1∧w9.heap[r1]? =some (.map es2 c1)∧(zP isKS es2∧((es2.toList.map (·.key)).Nodup∧(isKS (Value.string v48)∧(∀ es3 c2 w11,zae es2 c1 (Value.string v48) (Value.string v50) es3 c2→w11={ w9 with heap:=w9.heap.setIfInBounds r1 (.map es3 c2) }→(F_wb t37 again_1 w11)))))))))))))))))) ∧
 ((decide (t37<((v35.len:Nat):Int)))=false→(again_ (IntKind.i64.wrap (t30+1)) w6))

def F_bc (l_:Slc) (first:Int) (R:Option Nat→Int→WP) (b_:Nat) (again_:Int→WP) (t30:Int) (w3:World):Prop :=
 ((decide (t30<((first.toNat:Nat):Int)))=true→(IsAt l_.ptr∧(0≤t30∧t30<((first.toNat:Nat):Int)∧(∃(v33:T_b),zc w3 (pblk l_.ptr) ((poff l_.ptr)+t30.toNat*2) [Vi v33.Number,Vs v33.Writes]∧(∀ b_1 w4,b_1=w3.heap.size→w4=w3.alloc (Obj.cells ([Vi 0,Value.slice none 0 0]).toArray y_a (0,0))→(zb w4 b_1 0 2∧(∀ w5,w5=World.puts b_1 0 [Vi v33.Number,Vs v33.Writes] w4→(∃(v35:Slc),w5.cell? ⟨b_1,1,none⟩=some (Vs v35)∧(∃(I:Int→WP) (μ:Int→World→Nat),I 0 w5 ∧
 ∀(t37:Int) w,I t37 w→F_ac b_ t30 again_ v35 (fun(t37':Int) w'=>I t37' w'∧μ t37' w'<μ t37 w) t37 w))))))))) ∧
 ((decide (t30<((first.toNat:Nat):Int)))=false→(R (some b_) 0 w3))

def F_nd (l_:Slc) (first:Int) (R:Option Nat→Int→WP) (w:World):Prop :=
 C_Zb l_ w (fun(v13:Int) w1=>((v13 != 0)=true→(R none v13 w1)) ∧
 ((v13 != 0)=false→((((decide (first<0))||(decide (first>((l_.len:Nat):Int))))=true→(R none 1 w1)) ∧
 (((decide (first<0))||(decide (first>((l_.len:Nat):Int))))=false→(∀ b_ w2,b_=w1.heap.size→w2=w1.alloc (Obj.map #[] 0)→(0≤first∧first≤((l_.cap:Nat):Int)∧(∃(I:Int→WP) (μ:Int→World→Nat),I 0 w2 ∧
 ∀(t30:Int) w,I t30 w→F_bc l_ first R b_ (fun(t30':Int) w'=>I t30' w'∧μ t30' w'<μ t30 w) t30 w)))))))

def F_Z (m_:Option Nat) (R:Value→WP) (w:World):Prop :=
 ∀ b_ w1,b_=w.heap.size→w1=w.alloc (Obj.cells ([Value.map m_]).toArray y_v (0,0))→(R (Value.func (.func 76) #[] #[Vp (some ⟨b_,0,none⟩)]) w1)

def F_nc (o_:OA) (R:Bool→WP) (w:World):Prop :=
 ((!o_.isNone)=true→(IsAt o_∧(∃(v9:OA),w.cell? ⟨(pblk o_),(poff o_),none⟩=some (Vp v9)∧(R (!v9.isNone) w)))) ∧
 ((!o_.isNone)=false→(R false w))

def F_Ic (s:OA) (R:Slc→WP) (w:World):Prop :=
 C_B s w (fun(v4:Bool) w1=>(v4=true→(R (Slc.mk none 0 0) w1)) ∧
 (v4=false→(IsAt s∧(C_Lb s (Value.func (.func 79) #[Vp (some ⟨(pblk s),(poff s),none⟩)] #[]) w1 (fun(v10:Slc) w2=>R v10 w2)))))

def F_Bd (R:Value→WP) (w:World):Prop :=
 ∀ b_ w1,b_=w.heap.size→w1=w.alloc (Obj.cells ([Vi 0]).toArray y_h (0,0))→(zb w1 b_ 0 1∧(∀ w2,w2=World.puts b_ 0 [Vi 1] w1→(R (Value.func (.func 91) #[] #[Vp (some ⟨b_,0,none⟩)]) w2)))

def F_M (s:Slc) (R:Slc→WP) (w:World):Prop :=
 (s.ptr.isNone=true→(R (Slc.mk none 0 0) w)) ∧
 (s.ptr.isNone=false→(∀ b_ w1,b_=w.heap.size→w1=w.alloc (Obj.cells ([]).toArray y_b (0,0))→(∃ src,zr w1 s 3 src∧zo 3 40 y_b [Value.string ByteArray.empty,Value.string ByteArray.empty,Vo false] (Slc.mk (some ⟨b_,0,none⟩) 0 0) src s.len w1 (fun v7 w2=>R v7 w2))))

def F_0c (d:OA) (slot:Int) (R:Slc→Int→WP) (w:World):Prop :=
 C_0b d slot w (fun(v9:Int) w1=>((v9 != 0)=true→(R (Slc.mk none 0 0) v9 w1)) ∧
 ((v9 != 0)=false→(IsAt d∧(0≤slot∧slot<(2:Int)∧(∃(v18:Slc),w1.cell? ⟨(pblk d),((poff d)+2)+slot.toNat,none⟩=some (Vs v18)∧(C_fb v18 w1 (fun(v19:Slc) w2=>R v19 0 w2)))))))

def F_cc (b_:Slc) (R:T_e→Int→Bool→WP) (b_1:Nat) (generation:Int) (t40:Bool) (w6:World):Prop :=
 (t40=true→(zb w6 b_1 0 3∧(∀ w7,w7=World.puts b_1 0 [Vi 0,Value.slice none 0 0,Value.slice none 0 0] w6→(∃(res1:T_e),zc w7 b_1 0 [Vi res1.Mark,Vs res1.Beyond,Vs res1.Held]∧(R res1 0 false w7))))) ∧
 (t40=false→((0≤(20:Int)∧(20:Int)≤((b_.len:Nat):Int)∧((b_.len:Nat):Int)≤((b_.cap:Nat):Int)∧((b_.cap:Nat):Int)≤((b_.cap:Nat):Int))∧(∀ s,s=Slc.cut 1 b_ 20 ((b_.len:Nat):Int) ((b_.cap:Nat):Int)→(C_mc s w6 (fun(v45:T_e) (e:Int) w8=>zb w8 b_1 0 3∧(∀ w9,w9=World.puts b_1 0 [Vi v45.Mark,Vs v45.Beyond,Vs v45.Held] w8→(∃(v48:T_e),zc w9 b_1 0 [Vi v48.Mark,Vs v48.Beyond,Vs v48.Held]∧(zb w9 b_1 0 3∧(∀ w10,w10=World.puts b_1 0 [Vi v48.Mark,Vs v48.Beyond,Vs v48.Held] w9→(∃(res2:T_e),zc w10 b_1 0 [Vi res2.Mark,Vs res2.Beyond,Vs res2.Held]∧(R res2 generation (e==0) w10)))))))))))

def F_1c (b_:Slc) (R:T_e→Int→Bool→WP) (b_1:Nat) (b_2:Nat) (again_:Int→Int→WP) (generation:Int) (i:Int) (w5:World):Prop :=
 ((decide (i≥4))=true→(0≤i∧i<(20:Int)∧(∃(v24:Int),w5.cell? ⟨b_2,0+i.toNat,none⟩=some (Value.int .u8 v24)∧(again_ (bor .u64 (IntKind.u64.wrap (generation*2 ^ 8)) (IntKind.u64.wrap v24)) (IntKind.i64.wrap (i - 1)) w5)))) ∧
 ((decide (i≥4))=false→(∀ w11,(∃ k,w11=w5.drewN k)→((((decide (generation<1))||(decide (generation>4611686018427387904)))=true→(F_cc b_ R b_1 generation true w11)) ∧
 (((decide (generation<1))||(decide (generation>4611686018427387904)))=false→(∃(v34:List Int),(v34.length=20)∧zc w11 b_2 0 (List.map (Value.int .u8) v34)∧((0≤(20:Int)∧(20:Int)≤((b_.len:Nat):Int)∧((b_.len:Nat):Int)≤((b_.cap:Nat):Int)∧((b_.cap:Nat):Int)≤((b_.cap:Nat):Int))∧(∀ s1,s1=Slc.cut 1 b_ 20 ((b_.len:Nat):Int) ((b_.cap:Nat):Int)→(C_lc generation s1 w11 (fun(v38:List Int) w12=>(v38.length=20)→zc w12 b_2 0 (List.map (Value.int .u8) v34)∧(F_cc b_ R b_1 generation (!(v34==v38)) w12))))))))))

def F_od (b_:Slc) (R:T_e→Int→Bool→WP) (w:World):Prop :=
 ∀ b_1 w1,b_1=w.heap.size→w1=w.alloc (Obj.cells ([Vi 0,Value.slice none 0 0,Value.slice none 0 0]).toArray y_i (0,0))→(((decide (((b_.len:Nat):Int)<20))=true→(zb w1 b_1 0 3∧(∀ w2,w2=World.puts b_1 0 [Vi 0,Value.slice none 0 0,Value.slice none 0 0] w1→(∃(res:T_e),zc w2 b_1 0 [Vi res.Mark,Vs res.Beyond,Vs res.Held]∧(R res 0 false w2))))) ∧
 ((decide (((b_.len:Nat):Int)<20))=false→(0≤(20:Int)∧(20:Int)≤((b_.cap:Nat):Int)∧(IsAt b_.ptr∧(∃(v15:List Int),(v15.length=20)∧zc w1 (pblk b_.ptr) (poff b_.ptr) (List.map (Value.int .u8) v15)∧(∀ b_2 w3,b_2=w1.heap.size→w3=w1.alloc (Obj.cells ((List.map (Value.int .u8) (List.replicate 20 0))).toArray y_x (0,0))→(zb w3 b_2 0 20∧(∀ w4,w4=World.puts b_2 0 (List.map (Value.int .u8) v15) w3→(∃(I:Int→Int→WP) (μ:Int→Int→World→Nat),I 0 11 w4 ∧
 ∀(generation:Int) (i:Int) w,I generation i w→F_1c b_ R b_1 b_2 (fun(generation':Int) (i':Int) w'=>I generation' i' w'∧μ generation' i' w'<μ generation i w) generation i w)))))))))

def F_Zb (s:OA) (R:Int→WP) (w:World):Prop :=
 (s.isNone=true→(R 0 w)) ∧
 (s.isNone=false→(IsAt s∧(∃(v8:Slc),w.cell? ⟨(pblk s),(poff s)+1,none⟩=some (Vs v8)∧(R ((v8.len:Nat):Int) w))))

def F_ed (g:OA) (n_:Int) (R:WP) (w:World):Prop :=
 ∀ w1,(∃ k,w1=w.drewN k)→(IsAt g∧(0≤IntKind.i64.wrap (Int.tdiv n_ 64)∧IntKind.i64.wrap (Int.tdiv n_ 64)<(1025:Int)∧(∃(v10:Int),w1.cell? ⟨(pblk g),((poff g)+2)+(IntKind.i64.wrap (Int.tdiv n_ 64)).toNat,none⟩=some (Value.int .u64 v10)∧(0≤Int.tmod n_ 64∧(0≤IntKind.i64.wrap (Int.tdiv n_ 64)∧IntKind.i64.wrap (Int.tdiv n_ 64)<(1025:Int)∧(zb w1 (pblk g) (((poff g)+2)+(IntKind.i64.wrap (Int.tdiv n_ 64)).toNat) 1∧(∀ w2,w2=World.puts (pblk g) (((poff g)+2)+(IntKind.i64.wrap (Int.tdiv n_ 64)).toNat) [Value.int .u64 (bor .u64 v10 (IntKind.u64.wrap (1*2 ^ (min (Int.tmod n_ 64).toNat 64))))] w1→(IsAt g∧(∃(v22:Int),w2.cell? ⟨(pblk g),(poff g)+1027,none⟩=some (Vi v22)∧(IsAt g∧(zb w2 (pblk g) ((poff g)+1027) 1∧(∀ w3,w3=World.puts (pblk g) ((poff g)+1027) [Vi (if n_>v22 then n_ else v22)] w2→(R w3)))))))))))))

def F_Lb (R:Int→WP) (b_:Nat) (t60:Int) (again_2:Int→WP) (b_2:Nat) (t77:Bool) (w11:World):Prop :=
 (t77=true→(R 1 w11)) ∧
 (t77=false→(∃(v80:Slc),w11.cell? ⟨b_,1,none⟩=some (Vs v80)∧(∃(v82:Int),w11.cell? ⟨b_2,0,none⟩=some (Vi v82)∧(C_Kb v80 v82 w11 (fun(v83:Int) (ok:Bool) w12=>∃(v87:Int),w12.cell? ⟨b_2,0,none⟩=some (Vi v87)∧(∃(v89:Int),w12.cell? ⟨b_,0,none⟩=some (Vi v89)∧((((decide (v87>v89))&&(!ok))=true→(R 1 w12)) ∧
 (((decide (v87>v89))&&(!ok))=false→(again_2 (IntKind.i64.wrap (t60+1)) w12)))))))))

def F_fd (R:Int→WP) (b_:Nat) (t53:Int) (again_1:Int→WP) (v58:Slc) (again_2:Int→WP) (t60:Int) (w8:World):Prop :=
 ((decide (t60<((v58.len:Nat):Int)))=true→(IsAt v58.ptr∧(0≤t60∧t60<((v58.len:Nat):Int)∧(∃(v64:T_j),zc w8 (pblk v58.ptr) ((poff v58.ptr)+t60.toNat*3) [Vi v64.Number,Value.string v64.Val,Vo v64.Drop]∧(∀ b_2 w9,b_2=w8.heap.size→w9=w8.alloc (Obj.cells ([Vi 0,Value.string ByteArray.empty,Vo false]).toArray y_d (0,0))→(zb w9 b_2 0 3∧(∀ w10,w10=World.puts b_2 0 [Vi v64.Number,Value.string v64.Val,Vo v64.Drop] w9→(∃(v66:Int),w10.cell? ⟨b_2,0,none⟩=some (Vi v66)∧(∃(v68:Int),w10.cell? ⟨b_,0,none⟩=some (Vi v68)∧(((decide (v66≤v68))=true→(((decide (t60>0))=true→(F_Lb R b_ t60 again_2 b_2 true w10)) ∧
 ((decide (t60>0))=false→(∃(v75:Bool),w10.cell? ⟨b_2,2,none⟩=some (Vo v75)∧(F_Lb R b_ t60 again_2 b_2 v75 w10))))) ∧
 ((decide (v66≤v68))=false→(F_Lb R b_ t60 again_2 b_2 false w10)))))))))))) ∧
 ((decide (t60<((v58.len:Nat):Int)))=false→(again_1 (IntKind.i64.wrap (t53+1)) w8))

def F_wc (R:Int→WP) (b_:Nat) (v51:Slc) (again_1:Int→WP) (t53:Int) (w5:World):Prop :=
 ((decide (t53<((v51.len:Nat):Int)))=true→(IsAt v51.ptr∧(0≤t53∧t53<((v51.len:Nat):Int)∧(∃(v56:T_k),zc w5 (pblk v51.ptr) ((poff v51.ptr)+t53.toNat*2) [Value.string v56.Key,Vs v56.Versions]∧(∀ b_1 w6,b_1=w5.heap.size→w6=w5.alloc (Obj.cells ([Value.string ByteArray.empty,Value.slice none 0 0]).toArray y_e (0,0))→(zb w6 b_1 0 2∧(∀ w7,w7=World.puts b_1 0 [Value.string v56.Key,Vs v56.Versions] w6→(∃(v58:Slc),w7.cell? ⟨b_1,1,none⟩=some (Vs v58)∧(∃(I:Int→WP) (μ:Int→World→Nat),I 0 w7 ∧
 ∀(t60:Int) w,I t60 w→F_fd R b_ t53 again_1 v58 (fun(t60':Int) w'=>I t60' w'∧μ t60' w'<μ t60 w) t60 w))))))))) ∧
 ((decide (t53<((v51.len:Nat):Int)))=false→(R 0 w5))

def F_xc (R:Int→WP) (b_:Nat) (v26:Slc) (again_:Int→Int→WP) (least:Int) (t28:Int) (w3:World):Prop :=
 ((decide (t28<((v26.len:Nat):Int)))=true→(IsAt v26.ptr∧(0≤t28∧t28<((v26.len:Nat):Int)∧(∃(n_:Int),w3.cell? ⟨(pblk v26.ptr),(poff v26.ptr)+t28.toNat,none⟩=some (Vi n_)∧((((decide (n_<least))||(decide (n_>65536)))=true→(R 1 w3)) ∧
 (((decide (n_<least))||(decide (n_>65536)))=false→(again_ (IntKind.i64.wrap (n_+1)) (IntKind.i64.wrap (t28+1)) w3))))))) ∧
 ((decide (t28<((v26.len:Nat):Int)))=false→(∃(v44:Slc),w3.cell? ⟨b_,2,none⟩=some (Vs v44)∧(C_Fb v44 w3 (fun(v45:OA) (e:Int) w4=>((e != 0)=true→(R 1 w4)) ∧
 ((e != 0)=false→(∃(v51:Slc),w4.cell? ⟨b_,2,none⟩=some (Vs v51)∧(∃(I:Int→WP) (μ:Int→World→Nat),I 0 w4 ∧
 ∀(t53:Int) w,I t53 w→F_wc R b_ v51 (fun(t53':Int) w'=>I t53' w'∧μ t53' w'<μ t53 w) t53 w)))))))

def F_Mb (R:Int→WP) (b_:Nat) (t21:Bool) (w2:World):Prop :=
 (t21=true→(R 1 w2)) ∧
 (t21=false→(∃(v23:Int),w2.cell? ⟨b_,0,none⟩=some (Vi v23)∧(∃(v26:Slc),w2.cell? ⟨b_,1,none⟩=some (Vs v26)∧(∃(I:Int→Int→WP) (μ:Int→Int→World→Nat),I (IntKind.i64.wrap (v23+2)) 0 w2 ∧
 ∀(least:Int) (t28:Int) w,I least t28 w→F_xc R b_ v26 (fun(least':Int) (t28':Int) w'=>I least' t28' w'∧μ least' t28' w'<μ least t28 w) least t28 w))))

def F_vd (s:T_e) (R:Int→WP) (w:World):Prop :=
 ∀ b_ w1,b_=w.heap.size→w1=w.alloc (Obj.cells ([Vi s.Mark,Vs s.Beyond,Vs s.Held]).toArray y_i (0,0))→(∃(v15:Int),w1.cell? ⟨b_,0,none⟩=some (Vi v15)∧(((decide (v15<0))=true→(F_Mb R b_ true w1)) ∧
 ((decide (v15<0))=false→(∃(v19:Int),w1.cell? ⟨b_,0,none⟩=some (Vi v19)∧(F_Mb R b_ (decide (v19>65536)) w1)))))

def F_wd (c:T_f) (key:ByteArray) (R:Int→Int→WP) (w:World):Prop :=
 ∀ b_ w1,b_=w.heap.size→w1=w.alloc (Obj.cells ([Vi c.Lanes,Vi c.Shards,Vi c.Window,Vi c.Queue]).toArray y_l (0,0))→(∃(v7:T_f),zc w1 b_ 0 [Vi v7.Lanes,Vi v7.Shards,Vi v7.Window,Vi v7.Queue]∧(C_3 v7 w1 (fun(v8:Int) w2=>((v8 != 0)=true→(R 0 v8 w2)) ∧
 ((v8 != 0)=false→((((key.toList==ByteArray.empty.toList)||(decide (((key.size:Nat):Int)>64)))=true→(R 0 1 w2)) ∧
 (((key.toList==ByteArray.empty.toList)||(decide (((key.size:Nat):Int)>64)))=false→(∃(v20:Int),(∀ w',Ext w2 w'→C_fc key w' (fun(v20':Int) w''=>v20'=v20∧Ext w' w''))∧(∃(v22:Int),w2.cell? ⟨b_,1,none⟩=some (Vi v22)∧((IntKind.u32.wrap v22)≠0∧(∀ w4,Ext w2 w4→(R (IntKind.i64.wrap (Int.tmod v20 (IntKind.u32.wrap v22))) 0 w4)))))))))))

def F_C (s:Slc) (R:Slc→WP) (w:World):Prop :=
 (s.ptr.isNone=true→(R (Slc.mk none 0 0) w)) ∧
 (s.ptr.isNone=false→(∀ b_ w1,b_=w.heap.size→w1=w.alloc (Obj.cells ([]).toArray y_d (0,0))→(∃ src,zr w1 s 3 src∧zo 3 32 y_d [Vi 0,Value.string ByteArray.empty,Vo false] (Slc.mk (some ⟨b_,0,none⟩) 0 0) src s.len w1 (fun v7 w2=>R v7 w2))))

def F_N (R:OA→Int→WP) (v7:OA) (t10:Int) (again_:Int→WP) (b_:Nat) (t45:Bool) (w5:World):Prop :=
 (t45=true→(R none 1 w5)) ∧
 (t45=false→(∀ w6,(∃ k,w6=w5.drewN k)→(IsAt v7∧(∃(v50:Option Nat),w6.cell? ⟨(pblk v7),(poff v7),none⟩=some (Value.map v50)∧(∃(v52:ByteArray),w6.cell? ⟨b_,0,none⟩=some (Value.string v52)∧(∃(v54:Slc),w6.cell? ⟨b_,1,none⟩=some (Vs v54)∧(C_a v54 w6 (fun(v55:Slc) w7=>w7.cell? ⟨b_,0,none⟩=some (Value.string v52)∧w7.cell? ⟨(pblk v7),(poff v7),none⟩=some (Value.map v50)∧(∃(r:Nat) (es:Array MapEntry) (c:Nat),v50=some r∧w7.heap[r]? =some (.map es c)∧(zP isKS es∧((es.toList.map (·.key)).Nodup∧(isKS (Value.string v52)∧(∀ es1 c1 w8,zae es c (Value.string v52) (Vs v55) es1 c1→w8={ w7 with heap:=w7.heap.setIfInBounds r (.map es1 c1) }→((again_ (IntKind.i64.wrap (t10+1)) w8)))))))))))))))

def F_yc (l_:Slc) (R:OA→Int→WP) (v7:OA) (again_:Int→WP) (t10:Int) (w2:World):Prop :=
 ((decide (t10<((l_.len:Nat):Int)))=true→(IsAt l_.ptr∧(0≤t10∧t10<((l_.len:Nat):Int)∧(∃(v14:T_k),zc w2 (pblk l_.ptr) ((poff l_.ptr)+t10.toNat*2) [Value.string v14.Key,Vs v14.Versions]∧(∀ b_ w3,b_=w2.heap.size→w3=w2.alloc (Obj.cells ([Value.string ByteArray.empty,Value.slice none 0 0]).toArray y_e (0,0))→(zb w3 b_ 0 2∧(∀ w4,w4=World.puts b_ 0 [Value.string v14.Key,Vs v14.Versions] w3→(∀ w9,(∃ k,w9=w4.drewN k)→(∃(v16:ByteArray),w9.cell? ⟨b_,0,none⟩=some (Value.string v16)∧(C_Ob v16 w9 (fun(v17:Bool) w10=>(((!v17)=true→(F_N R v7 t10 again_ b_ true w10)) ∧
 ((!v17)=false→(((decide (t10>0))=true→(IsAt l_.ptr∧(0≤IntKind.i64.wrap (t10 - 1)∧IntKind.i64.wrap (t10 - 1)<((l_.len:Nat):Int)∧(∃(v28:ByteArray),w10.cell? ⟨(pblk l_.ptr),(poff l_.ptr)+(IntKind.i64.wrap (t10 - 1)).toNat*2,none⟩=some (Value.string v28)∧(∃(v30:ByteArray),w10.cell? ⟨b_,0,none⟩=some (Value.string v30)∧(((!(Op.bytesLess v28.toList v30.toList))=true→(F_N R v7 t10 again_ b_ true w10)) ∧
 ((!(Op.bytesLess v28.toList v30.toList))=false→(∃(v36:Slc),w10.cell? ⟨b_,1,none⟩=some (Vs v36)∧(((((v36.len:Nat):Int)==0)=true→(F_N R v7 t10 again_ b_ true w10)) ∧
 ((((v36.len:Nat):Int)==0)=false→(∃(v42:Slc),w10.cell? ⟨b_,1,none⟩=some (Vs v42)∧(C_S v42 w10 (fun(v43:Int) w11=>(F_N R v7 t10 again_ b_ (v43 != 0) w11)))))))))))))) ∧
 ((decide (t10>0))=false→(∃(v361:Slc),w10.cell? ⟨b_,1,none⟩=some (Vs v361)∧(((((v361.len:Nat):Int)==0)=true→(F_N R v7 t10 again_ b_ true w10)) ∧
 ((((v361.len:Nat):Int)==0)=false→(∃(v421:Slc),w10.cell? ⟨b_,1,none⟩=some (Vs v421)∧(C_S v421 w10 (fun(v431:Int) w12=>(F_N R v7 t10 again_ b_ (v431 != 0) w12)))))))))))))))))))))) ∧
 ((decide (t10<((l_.len:Nat):Int)))=false→(R v7 0 w2))

def F_xd (l_:Slc) (R:OA→Int→WP) (w:World):Prop :=
 C_6b w (fun(v7:OA) w1=>∃(I:Int→WP) (μ:Int→World→Nat),I 0 w1 ∧
 ∀(t10:Int) w,I t10 w→F_yc l_ R v7 (fun(t10':Int) w'=>I t10' w'∧μ t10' w'<μ t10 w) t10 w)

def F_Ac (capacity:Int) (R:OA→Int→WP) (w:World):Prop :=
 (((decide (capacity<1))||(decide (capacity>65536)))=true→(R none 1 w)) ∧
 (((decide (capacity<1))||(decide (capacity>65536)))=false→(0≤capacity∧capacity≤capacity∧(120:Int)*capacity≤281474976710656∧(∀ b_ w1,b_=w.heap.size→w1=w.alloc (Obj.cells (zu capacity.toNat [Value.int .u8 0,Vi 0,Vi 0,Value.string ByteArray.empty,Value.string ByteArray.empty,Vo false,Value.string ByteArray.empty,Value.string ByteArray.empty,Value.slice none 0 0]) y_g (0,0))→(∀ b_1 w2,b_1=w1.heap.size→w2=w1.alloc (Obj.cells ([Value.slice (some ⟨b_,0,none⟩) capacity.toNat capacity.toNat,Vi 0,Vi 0,Vo false]).toArray y_w (0,0))→(R (some ⟨b_1,0,none⟩) 0 w2)))))

def F_Jc (f:OA) (R:Bool→WP) (w:World):Prop :=
 ((!f.isNone)=true→(IsAt f∧(∃(v9:OA),w.cell? ⟨(pblk f),(poff f),none⟩=some (Vp v9)∧(R (!v9.isNone) w)))) ∧
 ((!f.isNone)=false→(R false w))

def F_oc (p:T_i) (shard:Int) (R:Bool→WP) (w:World):Prop :=
 ∀ b_ w1,b_=w.heap.size→w1=w.alloc (Obj.cells ([Vp p.r]).toArray y_s (0,0))→(∃(v6:OA),w1.cell? ⟨b_,0,none⟩=some (Vp v6)∧(IsAt v6∧(∃(v9:Slc),w1.cell? ⟨(pblk v6),(poff v6)+9,none⟩=some (Vs v9)∧(IsAt v9.ptr∧(0≤shard∧shard<((v9.len:Nat):Int)∧(∃(v12:OA),w1.cell? ⟨(pblk v9.ptr),(poff v9.ptr)+shard.toNat,none⟩=some (Vp v12)∧(C_gb v12 w1 (fun(v13:Int) w2=>R (decide (v13>0)) w2))))))))

def F_Ub (at_:Int) (most:Int) (R:Bool→WP) (w:World):Prop :=
 R ((decide (at_≥0))&&(decide (at_<most))) w

def F_zc (l_:Slc) (R:Int→WP) (again_:Int→WP) (t8:Int) (w1:World):Prop :=
 ((decide (t8<((l_.len:Nat):Int)))=true→(IsAt l_.ptr∧(0≤t8∧t8<((l_.len:Nat):Int)∧(∃(v12:T_b),zc w1 (pblk l_.ptr) ((poff l_.ptr)+t8.toNat*2) [Vi v12.Number,Vs v12.Writes]∧(∀ b_ w2,b_=w1.heap.size→w2=w1.alloc (Obj.cells ([Vi 0,Value.slice none 0 0]).toArray y_a (0,0))→(zb w2 b_ 0 2∧(∀ w3,w3=World.puts b_ 0 [Vi v12.Number,Vs v12.Writes] w2→(∃(v13:T_b),zc w3 b_ 0 [Vi v13.Number,Vs v13.Writes]∧(C_O v13 w3 (fun(v14:Int) w4=>((v14 != 0)=true→(R v14 w4)) ∧
 ((v14 != 0)=false→(∃(v19:Int),w4.cell? ⟨b_,0,none⟩=some (Vi v19)∧(((v19 != (IntKind.i64.wrap (t8+1)))=true→(R 6 w4)) ∧
 ((v19 != (IntKind.i64.wrap (t8+1)))=false→(again_ (IntKind.i64.wrap (t8+1)) w4))))))))))))))) ∧
 ((decide (t8<((l_.len:Nat):Int)))=false→(R 0 w1))

def F_yd (l_:Slc) (R:Int→WP) (w:World):Prop :=
 ∃(I:Int→WP) (μ:Int→World→Nat),I 0 w ∧
 ∀(t8:Int) w,I t8 w→F_zc l_ R (fun(t8':Int) w'=>I t8' w'∧μ t8' w'<μ t8 w) t8 w

def F_Bc (s:OA) (R:Bool→WP) (w:World):Prop :=
 (s.isNone=true→(R true w)) ∧
 (s.isNone=false→(IsAt s∧(∃(v10:Option Nat),w.cell? ⟨(pblk s),(poff s),none⟩=some (Value.map v10)∧(R v10.isNone w))))

def F_T (t16:Int) (again_:Slc→Int→WP) (out1:Slc) (w4:World):Prop :=
 again_ out1 (IntKind.i64.wrap (t16+1)) w4

def F_kb (pick:Value) (R:Slc→WP) (v14:Slc) (again_:Slc→Int→WP) (out:Slc) (t16:Int) (w3:World):Prop :=
 ((decide (t16<((v14.len:Nat):Int)))=true→(IsAt v14.ptr∧(0≤t16∧t16<((v14.len:Nat):Int)∧(∃(k_:ByteArray),w3.cell? ⟨(pblk v14.ptr),(poff v14.ptr)+t16.toNat,none⟩=some (Value.string k_)∧(zbb (P:=Tryz.prog) pick #[Value.string k_] w3 (fun e' w5=>∃(v22:Slc),e'=Ending.returned (Vs v22)∧(((decide (((v22.len:Nat):Int)>0))=true→(∀ b_ w6,b_=w5.heap.size→w6=w5.alloc (Obj.cells ([Value.string k_,Vs v22]).toArray y_e (0,0))→(∃ src,zr w6 (Slc.mk (some ⟨b_,0,none⟩) 1 1) 2 src∧zo 2 40 y_e [Value.string ByteArray.empty,Value.slice none 0 0] out src 1 w6 (fun out2 w7=>F_T t16 again_ out2 w7)))) ∧
 ((decide (((v22.len:Nat):Int)>0))=false→(F_T t16 again_ out w5))))))))) ∧
 ((decide (t16<((v14.len:Nat):Int)))=false→(R out w3))

def F_pc (s:OA) (pick:Value) (R:Slc→WP) (w:World):Prop :=
 C_B s w (fun(v10:Bool) w1=>(v10=true→(R (Slc.mk none 0 0) w1)) ∧
 (v10=false→(IsAt s∧(C_Mb (some ⟨(pblk s),(poff s),none⟩) w1 (fun(v14:Slc) w2=>∃(I:Slc→Int→WP) (μ:Slc→Int→World→Nat),I (Slc.mk none 0 0) 0 w2 ∧
 ∀(out:Slc) (t16:Int) w,I out t16 w→F_kb pick R v14 (fun(out':Slc) (t16':Int) w'=>I out' t16' w'∧μ out' t16' w'<μ out t16 w) out t16 w)))))

def F_0b (k_:OA) (key:ByteArray) (R:Slc→WP) (w:World):Prop :=
 IsAt k_∧(∃(v8:Option Nat),w.cell? ⟨(pblk k_),(poff k_),none⟩=some (Value.map v8)∧(∃(es:Array MapEntry) (v10:Slc) (ok:Bool),zHb w v8 es∧(zP isKS es∧((es.toList.map (·.key)).Nodup∧(isKS (Value.string key)∧(LkIs es (Value.string key) (Value.slice none 0 0) (Vs v10) ok∧(C_a v10 w (fun(v11:Slc) w1=>R v11 w1))))))))

def F_Kc (t_:T_b) (t1:OA) (R:Int→WP) (w:World):Prop :=
 ∀ b_ w1,b_=w.heap.size→w1=w.alloc (Obj.cells ([Vi t_.Number,Vs t_.Writes]).toArray y_a (0,0))→(∃(v5:T_b),zc w1 b_ 0 [Vi v5.Number,Vs v5.Writes]∧(C_O v5 w1 (fun(v6:Int) w2=>((v6 != 0)=true→(R v6 w2)) ∧
 ((v6 != 0)=false→(∃(v11:Int),w2.cell? ⟨b_,0,none⟩=some (Vi v11)∧(IsAt t1∧(∃(v12:Int),w2.cell? ⟨(pblk t1),(poff t1),none⟩=some (Vi v12)∧(((v11 != v12)=true→(R 6 w2)) ∧
 ((v11 != v12)=false→(IsAt t1∧(∃(v14:Int),w2.cell? ⟨(pblk t1),(poff t1),none⟩=some (Vi v14)∧(zb w2 (pblk t1) (poff t1) 1∧(∀ w3,w3=World.puts (pblk t1) (poff t1) [Vi (IntKind.i64.wrap (v14+1))] w2→(R 0 w3))))))))))))))

def F_p (R:Int→WP) (t23:Bool) (w2:World):Prop :=
 (t23=true→(R 1 w2)) ∧
 (t23=false→(R 0 w2))

def F_Id (t_:T_b) (R:Int→WP) (w:World):Prop :=
 ∀ b_ w1,b_=w.heap.size→w1=w.alloc (Obj.cells ([Vi t_.Number,Vs t_.Writes]).toArray y_a (0,0))→(∃(v5:Int),w1.cell? ⟨b_,0,none⟩=some (Vi v5)∧(((decide (v5<1))=true→(F_p R true w1)) ∧
 ((decide (v5<1))=false→(∃(v9:Int),w1.cell? ⟨b_,0,none⟩=some (Vi v9)∧(((decide (v9>65536))=true→(F_p R true w1)) ∧
 ((decide (v9>65536))=false→(∃(v14:Slc),w1.cell? ⟨b_,1,none⟩=some (Vs v14)∧(((decide (((v14.len:Nat):Int)>32))=true→(F_p R true w1)) ∧
 ((decide (((v14.len:Nat):Int)>32))=false→(∃(v20:Slc),w1.cell? ⟨b_,1,none⟩=some (Vs v20)∧(C_b v20 (Value.func (.func 113) #[] #[]) w1 (fun(v22:Bool) w3=>F_p R v22 w3))))))))))))

def F_cb (slot:Int) (R:Int→WP) (t5:Bool) (w1:World):Prop :=
 (t5=true→(R 2 w1)) ∧
 (t5=false→((((slot != 0)&&(slot != 1))=true→(R 1 w1)) ∧
 (((slot != 0)&&(slot != 1))=false→(R 0 w1))))

def F_2c (d:OA) (slot:Int) (R:Int→WP) (w:World):Prop :=
 (d.isNone=true→(F_cb slot R true w)) ∧
 (d.isNone=false→(IsAt d∧(∃(v12:Bool),w.cell? ⟨(pblk d),(poff d),none⟩=some (Vo v12)∧(F_cb slot R (!v12) w))))

def F_Cc (s:Slc) (R:Slc→WP) (w:World):Prop :=
 (s.ptr.isNone=true→(R (Slc.mk none 0 0) w)) ∧
 (s.ptr.isNone=false→(∀ b_ w1,b_=w.heap.size→w1=w.alloc (Obj.cells ([]).toArray y_J (0,0))→(∃ src,zr w1 s 1 src∧zo 1 1 y_J [Value.int .u8 0] (Slc.mk (some ⟨b_,0,none⟩) 0 0) src s.len w1 (fun v7 w2=>R v7 w2))))

def F_Wc (key:ByteArray) (R:Int→WP) (again_:Int→Int→WP) (h_:Int) (t7:Int) (w1:World):Prop :=
 ((decide (t7<((key.size:Nat):Int)))=true→(0≤t7∧t7<((key.size:Nat):Int)∧(again_ (IntKind.u32.wrap ((bxor .u32 h_ (IntKind.u32.wrap (zie key t7)))*16777619)) (IntKind.i64.wrap (t7+1)) w1))) ∧
 ((decide (t7<((key.size:Nat):Int)))=false→(R h_ w1))

def F_Od (key:ByteArray) (R:Int→WP) (w:World):Prop :=
 ∃(I:Int→Int→WP) (μ:Int→Int→World→Nat),I 2166136261 0 w ∧
 ∀(h_:Int) (t7:Int) w,I h_ t7 w→F_Wc key R (fun(h_':Int) (t7':Int) w'=>I h_' t7' w'∧μ h_' t7' w'<μ h_ t7 w) h_ t7 w

def F_Ed (R:OA→WP) (w:World):Prop :=
 ∀ b_ w1,b_=w.heap.size→w1=w.alloc (Obj.map #[] 0)→(∀ b_1 w2,b_1=w1.heap.size→w2=w1.alloc (Obj.cells ([Value.map (some b_)]).toArray y_F (0,0))→(R (some ⟨b_1,0,none⟩) w2))

def F_Fd (key:ByteArray) (R:Bool→WP) (w:World):Prop :=
 R ((!(key.toList==ByteArray.empty.toList))&&(decide (((key.size:Nat):Int)≤64))) w

def F_c (R:Int→WP) (t7:Int) (again_:Int→WP) (t49:Bool) (w4:World):Prop :=
 (t49=true→(R 1 w4)) ∧
 (t49=false→(again_ (IntKind.i64.wrap (t7+1)) w4))

def F_dc (l_:Slc) (R:Int→WP) (again_:Int→WP) (t7:Int) (w1:World):Prop :=
 ((decide (t7<((l_.len:Nat):Int)))=true→(IsAt l_.ptr∧(0≤t7∧t7<((l_.len:Nat):Int)∧(∃(v11:T_j),zc w1 (pblk l_.ptr) ((poff l_.ptr)+t7.toNat*3) [Vi v11.Number,Value.string v11.Val,Vo v11.Drop]∧(∀ b_ w2,b_=w1.heap.size→w2=w1.alloc (Obj.cells ([Vi 0,Value.string ByteArray.empty,Vo false]).toArray y_d (0,0))→(zb w2 b_ 0 3∧(∀ w3,w3=World.puts b_ 0 [Vi v11.Number,Value.string v11.Val,Vo v11.Drop] w2→(∃(v13:Int),w3.cell? ⟨b_,0,none⟩=some (Vi v13)∧(((decide (v13<1))=true→(∀ w5,Ext w3 w5→(F_c R t7 again_ true w5))) ∧
 ((decide (v13<1))=false→(∃(v17:Int),w3.cell? ⟨b_,0,none⟩=some (Vi v17)∧(((decide (v17>65536))=true→(∀ w6,Ext w3 w6→(F_c R t7 again_ true w6))) ∧
 ((decide (v17>65536))=false→(∃(v22:ByteArray),w3.cell? ⟨b_,1,none⟩=some (Value.string v22)∧(((decide (((v22.size:Nat):Int)>1024))=true→(∀ w7,Ext w3 w7→(F_c R t7 again_ true w7))) ∧
 ((decide (((v22.size:Nat):Int)>1024))=false→(∃(v28:Bool),w3.cell? ⟨b_,2,none⟩=some (Vo v28)∧((v28=true→(∃(v31:ByteArray),w3.cell? ⟨b_,1,none⟩=some (Value.string v31)∧(((!(v31.toList==ByteArray.empty.toList))=true→(∀ w8,Ext w3 w8→(F_c R t7 again_ true w8))) ∧
 ((!(v31.toList==ByteArray.empty.toList))=false→(((decide (t7>0))=true→(IsAt l_.ptr∧(0≤IntKind.i64.wrap (t7 - 1)∧IntKind.i64.wrap (t7 - 1)<((l_.len:Nat):Int)∧(∃(v44:Int),w3.cell? ⟨(pblk l_.ptr),(poff l_.ptr)+(IntKind.i64.wrap (t7 - 1)).toNat*3,none⟩=some (Vi v44)∧(∃(v46:Int),w3.cell? ⟨b_,0,none⟩=some (Vi v46)∧(∀ w9,Ext w3 w9→(F_c R t7 again_ (decide (v44≥v46)) w9))))))) ∧
 ((decide (t7>0))=false→(∀ w10,Ext w3 w10→(F_c R t7 again_ false w10)))))))) ∧
 (v28=false→(((decide (t7>0))=true→(IsAt l_.ptr∧(0≤IntKind.i64.wrap (t7 - 1)∧IntKind.i64.wrap (t7 - 1)<((l_.len:Nat):Int)∧(∃(v441:Int),w3.cell? ⟨(pblk l_.ptr),(poff l_.ptr)+(IntKind.i64.wrap (t7 - 1)).toNat*3,none⟩=some (Vi v441)∧(∃(v461:Int),w3.cell? ⟨b_,0,none⟩=some (Vi v461)∧(∀ w11,Ext w3 w11→(F_c R t7 again_ (decide (v441≥v461)) w11))))))) ∧
 ((decide (t7>0))=false→(∀ w12,Ext w3 w12→(F_c R t7 again_ false w12))))))))))))))))))))))) ∧
 ((decide (t7<((l_.len:Nat):Int)))=false→(R 0 w1))

def F_pd (l_:Slc) (R:Int→WP) (w:World):Prop :=
 ∃(I:Int→WP) (μ:Int→World→Nat),I 0 w ∧
 ∀(t7:Int) w,I t7 w→F_dc l_ R (fun(t7':Int) w'=>I t7' w'∧μ t7' w'<μ t7 w) t7 w

def F_Vb (s:Slc) (R:Slc→WP) (w:World):Prop :=
 (s.ptr.isNone=true→(R (Slc.mk none 0 0) w)) ∧
 (s.ptr.isNone=false→(∀ b_ w1,b_=w.heap.size→w1=w.alloc (Obj.cells ([]).toArray y_h (0,0))→(∃ src,zr w1 s 1 src∧zo 1 8 y_h [Vi 0] (Slc.mk (some ⟨b_,0,none⟩) 0 0) src s.len w1 (fun v7 w2=>R v7 w2))))

def F_Dc (o_:OA) (R:Int→WP) (w:World):Prop :=
 C_i o_ w (fun(v4:Bool) w1=>((!v4)=true→(R 0 w1)) ∧
 ((!v4)=false→(IsAt o_∧(∃(v9:OA),w1.cell? ⟨(pblk o_),(poff o_)+1,none⟩=some (Vp v9)∧(C_p v9 w1 (fun(v10:Int) w2=>R v10 w2))))))

def F_qc (k_:OA) (R:Slc→WP) (w:World):Prop :=
 IsAt k_∧(∃(v6:Option Nat),w.cell? ⟨(pblk k_),(poff k_),none⟩=some (Value.map v6)∧(C_d v6 w (fun(v7:Value) w1=>C_A v7 w1 (fun(v8:Slc) w2=>R v8 w2))))

def F_zd (w_:T_d) (R:Bool→WP) (w:World):Prop :=
 ∀ b_ w1,b_=w.heap.size→w1=w.alloc (Obj.cells ([Value.string w_.Key,Value.string w_.Val,Vo w_.Drop]).toArray y_b (0,0))→(∃(v4:ByteArray),w1.cell? ⟨b_,0,none⟩=some (Value.string v4)∧(((v4.toList==ByteArray.empty.toList)=true→(R true w1)) ∧
 ((v4.toList==ByteArray.empty.toList)=false→(∃(v8:ByteArray),w1.cell? ⟨b_,0,none⟩=some (Value.string v8)∧(((decide (((v8.size:Nat):Int)>64))=true→(R true w1)) ∧
 ((decide (((v8.size:Nat):Int)>64))=false→(∃(v14:ByteArray),w1.cell? ⟨b_,1,none⟩=some (Value.string v14)∧(((decide (((v14.size:Nat):Int)>1024))=true→(R true w1)) ∧
 ((decide (((v14.size:Nat):Int)>1024))=false→(∃(v20:Bool),w1.cell? ⟨b_,2,none⟩=some (Vo v20)∧((v20=true→(∃(v23:ByteArray),w1.cell? ⟨b_,1,none⟩=some (Value.string v23)∧(R (!(v23.toList==ByteArray.empty.toList)) w1))) ∧
 (v20=false→(R false w1)))))))))))))

def F_7 (s:Slc) (f:Value) (R:Bool→WP) (w:World):Prop :=
 C_x s f w (fun(v7:Int) w1=>R (decide (v7≥0)) w1)

def F_q (r:OA) (R:Int→WP) (t10:Bool) (w1:World):Prop :=
 (t10=true→(R 0 w1)) ∧
 (t10=false→(IsAt r∧(∃(v14:Slc),w1.cell? ⟨(pblk r),(poff r),none⟩=some (Vs v14)∧(IsAt r∧(∃(v19:Int),w1.cell? ⟨(pblk r),(poff r)+2,none⟩=some (Vi v19)∧(∀ w2,Ext w1 w2→(R (IntKind.i64.wrap (((v14.len:Nat):Int) - v19)) w2)))))))

def F_xb (r:OA) (R:Int→WP) (w:World):Prop :=
 C_q r w (fun(v4:Bool) w3=>(v4=true→(F_q r R true w3)) ∧
 (v4=false→(IsAt r∧(∃(v9:Bool),w3.cell? ⟨(pblk r),(poff r)+3,none⟩=some (Vo v9)∧(F_q r R v9 w3)))))

def F_v (m_:Option Nat) (R:Value→WP) (w:World):Prop :=
 ∀ b_ w1,b_=w.heap.size→w1=w.alloc (Obj.cells ([Value.map m_]).toArray y_q (0,0))→(R (Value.func (.func 154) #[] #[Vp (some ⟨b_,0,none⟩)]) w1)

def F_f (s:Slc) (f:Value) (R:Int→WP) (again_:Int→WP) (t8:Int) (w1:World):Prop :=
 ((decide (t8<((s.len:Nat):Int)))=true→(IsAt s.ptr∧(0≤t8∧t8<((s.len:Nat):Int)∧(∃(v15:T_d),zc w1 (pblk s.ptr) ((poff s.ptr)+t8.toNat*3) [Value.string v15.Key,Value.string v15.Val,Vo v15.Drop]∧(zbb (P:=Tryz.prog) f #[Value.agg #[Value.string v15.Key,Value.string v15.Val,Vo v15.Drop]] w1 (fun e' w2=>∃(v16:Bool),e'=Ending.returned (Vo v16)∧((v16=true→(R t8 w2)) ∧
 (v16=false→(again_ (IntKind.i64.wrap (t8+1)) w2))))))))) ∧
 ((decide (t8<((s.len:Nat):Int)))=false→(R (-1) w1))

def F_db (s:Slc) (f:Value) (R:Int→WP) (w:World):Prop :=
 ∃(I:Int→WP) (μ:Int→World→Nat),I 0 w ∧
 ∀(t8:Int) w,I t8 w→F_f s f R (fun(t8':Int) w'=>I t8' w'∧μ t8' w'<μ t8 w) t8 w

def F_yb (r:OA) (R:Bool→WP) (w:World):Prop :=
 (r.isNone=true→(R true w)) ∧
 (r.isNone=false→(IsAt r∧(∃(v9:Slc),w.cell? ⟨(pblk r),(poff r),none⟩=some (Vs v9)∧(R v9.ptr.isNone w))))

def F_Lc (t_:OA) (R:Bool→WP) (w:World):Prop :=
 (t_.isNone=true→(R true w)) ∧
 (t_.isNone=false→(IsAt t_∧(∃(v9:Option Nat),w.cell? ⟨(pblk t_),(poff t_),none⟩=some (Value.map v9)∧(R v9.isNone w))))

def F_rc (p:T_i) (R:Int→WP) (w:World):Prop :=
 ∀ b_ w1,b_=w.heap.size→w1=w.alloc (Obj.cells ([Vp p.r]).toArray y_s (0,0))→(∃(v4:OA),w1.cell? ⟨b_,0,none⟩=some (Vp v4)∧(IsAt v4∧(∃(v7:OA),w1.cell? ⟨(pblk v4),(poff v4)+7,none⟩=some (Vp v7)∧(C_P v7 w1 (fun(v8:Int) w2=>R v8 w2)))))

def F_Mc (o_:OA) (r:T_c) (R:Bool→Int→WP) (w:World):Prop :=
 ∀ b_ w1,b_=w.heap.size→w1=w.alloc (Obj.cells ([Value.int .u8 r.Kind,Vi r.From,Vi r.Number,Value.string r.Write.Key,Value.string r.Write.Val,Vo r.Write.Drop,Value.string r.Key,Value.string r.End,Vs r.Beyond]).toArray y_g (0,0))→(C_i o_ w1 (fun(v7:Bool) w2=>((!v7)=true→(R false 2 w2)) ∧
 ((!v7)=false→(∃(v9:T_c),zc w2 b_ 0 [Value.int .u8 v9.Kind,Vi v9.From,Vi v9.Number,Value.string v9.Write.Key,Value.string v9.Write.Val,Vo v9.Write.Drop,Value.string v9.Key,Value.string v9.End,Vs v9.Beyond]∧(C_8b v9 w2 (fun(v10:Bool) w3=>((!v10)=true→(R false 1 w3)) ∧
 ((!v10)=false→(∃(v13:Slc),w3.cell? ⟨b_,8,none⟩=some (Vs v13)∧(C_pb v13 w3 (fun(v14:Slc) w4=>zb w4 b_ 8 1∧(∀ w5,w5=World.puts b_ 8 [Vs v14] w4→(∀ w6,(∃ k,w6=w5.drewN k)→(IsAt o_∧(∃(v19:OA),w6.cell? ⟨(pblk o_),(poff o_)+1,none⟩=some (Vp v19)∧(∃(v20:T_c),zc w6 b_ 0 [Value.int .u8 v20.Kind,Vi v20.From,Vi v20.Number,Value.string v20.Write.Key,Value.string v20.Write.Val,Vo v20.Write.Drop,Value.string v20.Key,Value.string v20.End,Vs v20.Beyond]∧(C_R v19 v20 w6 (fun(v21:Bool) w7=>R v21 0 w7)))))))))))))))))

def F_kd (g:OA) (n_:Int) (R:Bool→WP) (w:World):Prop :=
 ((decide (n_≤65536))=true→(IsAt g∧(0≤IntKind.i64.wrap (Int.tdiv n_ 64)∧IntKind.i64.wrap (Int.tdiv n_ 64)<(1025:Int)∧(∃(v14:Int),w.cell? ⟨(pblk g),((poff g)+2)+(IntKind.i64.wrap (Int.tdiv n_ 64)).toNat,none⟩=some (Value.int .u64 v14)∧(0≤Int.tmod n_ 64∧(R ((band .u64 (Int.fdiv v14 (2 ^ (min (Int.tmod n_ 64).toNat 64))) 1)==1) w)))))) ∧
 ((decide (n_≤65536))=false→(R false w))

def F_1b (R:Bool→WP) (b_:Nat) (mark:Bool) (key:Bool) (bare:Bool) (read:Bool) (t53:Bool) (w5:World):Prop :=
 (t53=true→(R false w5)) ∧
 (t53=false→(∃(v55:T_d),zc w5 b_ 3 [Value.string v55.Key,Value.string v55.Val,Vo v55.Drop]∧(∀ b_1 w6,b_1=w5.heap.size→w6=w5.alloc (Obj.cells ([Value.string ByteArray.empty,Value.string ByteArray.empty,Vo false]).toArray y_b (0,0))→(zb w6 b_1 0 3∧(∀ w7,w7=World.puts b_1 0 [Value.string v55.Key,Value.string v55.Val,Vo v55.Drop] w6→(∃(v57:Int),w7.cell? ⟨b_,0,none⟩=some (Value.int .u8 v57)∧(((v57==1)=true→(∃(v61:Int),w7.cell? ⟨b_,1,none⟩=some (Vi v61)∧((((decide (v61>0))&&mark)=true→(∃(v68:Int),w7.cell? ⟨b_,2,none⟩=some (Vi v68)∧((((decide (v68>0))&&bare)=true→(∃(v76:ByteArray),w7.cell? ⟨b_1,0,none⟩=some (Value.string v76)∧(((!(v76.toList==ByteArray.empty.toList))=true→(∃(v81:ByteArray),w7.cell? ⟨b_1,0,none⟩=some (Value.string v81)∧(((decide (((v81.size:Nat):Int)≤64))=true→(∃(v87:ByteArray),w7.cell? ⟨b_1,1,none⟩=some (Value.string v87)∧(((decide (((v87.size:Nat):Int)≤1024))=true→(∃(v93:Bool),w7.cell? ⟨b_1,2,none⟩=some (Vo v93)∧(((!v93)=true→(R true w7)) ∧
 ((!v93)=false→(∃(v97:ByteArray),w7.cell? ⟨b_1,1,none⟩=some (Value.string v97)∧(R (v97.toList==ByteArray.empty.toList) w7)))))) ∧
 ((decide (((v87.size:Nat):Int)≤1024))=false→(R false w7))))) ∧
 ((decide (((v81.size:Nat):Int)≤64))=false→(R false w7))))) ∧
 ((!(v76.toList==ByteArray.empty.toList))=false→(R false w7))))) ∧
 (((decide (v68>0))&&bare)=false→(R false w7))))) ∧
 (((decide (v61>0))&&mark)=false→(R false w7))))) ∧
 ((v57==1)=false→(((v57==2)=true→(((read&&key)=true→(∃(v109:ByteArray),w7.cell? ⟨b_,7,none⟩=some (Value.string v109)∧(R (v109.toList==ByteArray.empty.toList) w7))) ∧
 ((read&&key)=false→(R false w7)))) ∧
 ((v57==2)=false→(((v57==3)=true→((read=true→(∃(v117:ByteArray),w7.cell? ⟨b_,6,none⟩=some (Value.string v117)∧(((decide (((v117.size:Nat):Int)≤64))=true→(∃(v123:ByteArray),w7.cell? ⟨b_,7,none⟩=some (Value.string v123)∧(R (decide (((v123.size:Nat):Int)≤64)) w7))) ∧
 ((decide (((v117.size:Nat):Int)≤64))=false→(R false w7))))) ∧
 (read=false→(R false w7)))) ∧
 ((v57==3)=false→(((v57==4)=true→(R (read&&bare) w7)) ∧
 ((v57==4)=false→(((v57==5)=true→(((read&&bare)=true→(∃(v141:Slc),w7.cell? ⟨b_,8,none⟩=some (Vs v141)∧(∃(v143:Int),w7.cell? ⟨b_,2,none⟩=some (Vi v143)∧(C_nc v141 v143 w7 (fun(v144:Bool) w8=>R v144 w8))))) ∧
 ((read&&bare)=false→(R false w7)))) ∧
 ((v57==5)=false→(R false w7)))))))))))))))))

def F_sb (R:Bool→WP) (b_:Nat) (mark:Bool) (key:Bool) (bare:Bool) (read:Bool) (w4:World):Prop :=
 ∃(v46:Int),w4.cell? ⟨b_,0,none⟩=some (Value.int .u8 v46)∧(((v46 != 5)=true→(∃(v50:Slc),w4.cell? ⟨b_,8,none⟩=some (Vs v50)∧(F_1b R b_ mark key bare read (decide (((v50.len:Nat):Int)>0)) w4))) ∧
 ((v46 != 5)=false→(F_1b R b_ mark key bare read false w4)))

def F_hb (R:Bool→WP) (b_:Nat) (mark:Bool) (key:Bool) (bare:Bool) (w3:World):Prop :=
 ∃(v34:Int),w3.cell? ⟨b_,1,none⟩=some (Vi v34)∧((((v34 != 0)&&mark)=true→(∃(v41:T_d),zc w3 b_ 3 [Value.string v41.Key,Value.string v41.Val,Vo v41.Drop]∧(F_sb R b_ mark key bare (((v41.Key==ByteArray.empty)&&(v41.Val==ByteArray.empty))&&(v41.Drop==false)) w3))) ∧
 (((v34 != 0)&&mark)=false→(F_sb R b_ mark key bare false w3)))

def F_2b (R:Bool→WP) (b_:Nat) (mark:Bool) (w2:World):Prop :=
 ∃(v17:ByteArray),w2.cell? ⟨b_,6,none⟩=some (Value.string v17)∧(((!(v17.toList==ByteArray.empty.toList))=true→(∃(v21:ByteArray),w2.cell? ⟨b_,6,none⟩=some (Value.string v21)∧(∃(v26:ByteArray),w2.cell? ⟨b_,6,none⟩=some (Value.string v26)∧(((v26.toList==ByteArray.empty.toList)=true→(∃(v30:ByteArray),w2.cell? ⟨b_,7,none⟩=some (Value.string v30)∧(∀ w9,Ext w2 w9→(F_hb R b_ mark (decide (((v21.size:Nat):Int)≤64)) (v30.toList==ByteArray.empty.toList) w9)))) ∧
 ((v26.toList==ByteArray.empty.toList)=false→(∀ w10,Ext w2 w10→(F_hb R b_ mark (decide (((v21.size:Nat):Int)≤64)) false w10))))))) ∧
 ((!(v17.toList==ByteArray.empty.toList))=false→(∃(v261:ByteArray),w2.cell? ⟨b_,6,none⟩=some (Value.string v261)∧(((v261.toList==ByteArray.empty.toList)=true→(∃(v301:ByteArray),w2.cell? ⟨b_,7,none⟩=some (Value.string v301)∧(∀ w11,Ext w2 w11→(F_hb R b_ mark false (v301.toList==ByteArray.empty.toList) w11)))) ∧
 ((v261.toList==ByteArray.empty.toList)=false→(∀ w12,Ext w2 w12→(F_hb R b_ mark false false w12)))))))

def F_Gd (r:T_c) (R:Bool→WP) (w:World):Prop :=
 ∀ b_ w1,b_=w.heap.size→w1=w.alloc (Obj.cells ([Value.int .u8 r.Kind,Vi r.From,Vi r.Number,Value.string r.Write.Key,Value.string r.Write.Val,Vo r.Write.Drop,Value.string r.Key,Value.string r.End,Vs r.Beyond]).toArray y_g (0,0))→(∃(v9:Int),w1.cell? ⟨b_,2,none⟩=some (Vi v9)∧(((decide (v9≥0))=true→(∃(v13:Int),w1.cell? ⟨b_,2,none⟩=some (Vi v13)∧(F_2b R b_ (decide (v13≤65536)) w1))) ∧
 ((decide (v9≥0))=false→(F_2b R b_ false w1))))

def F_Ib (r:OA) (x:T_c) (R:Bool→WP) (w:World):Prop :=
 ∀ b_ w1,b_=w.heap.size→w1=w.alloc (Obj.cells ([Value.int .u8 x.Kind,Vi x.From,Vi x.Number,Value.string x.Write.Key,Value.string x.Write.Val,Vo x.Write.Drop,Value.string x.Key,Value.string x.End,Vs x.Beyond]).toArray y_g (0,0))→(C_p r w1 (fun(v6:Int) w2=>((v6==0)=true→(R false w2)) ∧
 ((v6==0)=false→(∀ w3,(∃ k,w3=w2.drewN k)→(IsAt r∧(∃(v11:Slc),w3.cell? ⟨(pblk r),(poff r),none⟩=some (Vs v11)∧(IsAt r∧(∃(v15:Int),w3.cell? ⟨(pblk r),(poff r)+1,none⟩=some (Vi v15)∧(IsAt r∧(∃(v19:Int),w3.cell? ⟨(pblk r),(poff r)+2,none⟩=some (Vi v19)∧(IsAt r∧(∃(v24:Slc),w3.cell? ⟨(pblk r),(poff r),none⟩=some (Vs v24)∧(((v24.len:Nat):Int)≠0∧(∃(v27:T_c),zc w3 b_ 0 [Value.int .u8 v27.Kind,Vi v27.From,Vi v27.Number,Value.string v27.Write.Key,Value.string v27.Write.Val,Vo v27.Write.Drop,Value.string v27.Key,Value.string v27.End,Vs v27.Beyond]∧(IsAt v11.ptr∧(0≤Int.tmod (IntKind.i64.wrap (v15+v19)) ((v24.len:Nat):Int)∧Int.tmod (IntKind.i64.wrap (v15+v19)) ((v24.len:Nat):Int)<((v11.len:Nat):Int)∧(zb w3 (pblk v11.ptr) ((poff v11.ptr)+(Int.tmod (IntKind.i64.wrap (v15+v19)) ((v24.len:Nat):Int)).toNat*9) 9∧(∀ w4,w4=World.puts (pblk v11.ptr) ((poff v11.ptr)+(Int.tmod (IntKind.i64.wrap (v15+v19)) ((v24.len:Nat):Int)).toNat*9) [Value.int .u8 v27.Kind,Vi v27.From,Vi v27.Number,Value.string v27.Write.Key,Value.string v27.Write.Val,Vo v27.Write.Drop,Value.string v27.Key,Value.string v27.End,Vs v27.Beyond] w3→(IsAt r∧(∃(v32:Int),w4.cell? ⟨(pblk r),(poff r)+2,none⟩=some (Vi v32)∧(zb w4 (pblk r) ((poff r)+2) 1∧(∀ w5,w5=World.puts (pblk r) ((poff r)+2) [Vi (IntKind.i64.wrap (v32+1))] w4→(R true w5)))))))))))))))))))))))

def F_Nc (o_:OA) (R:Int→WP) (w:World):Prop :=
 C_i o_ w (fun(v4:Bool) w1=>((!v4)=true→(R 0 w1)) ∧
 ((!v4)=false→(IsAt o_∧(∃(v9:OA),w1.cell? ⟨(pblk o_),(poff o_)+1,none⟩=some (Vp v9)∧(C_w v9 w1 (fun(v10:Int) w2=>R v10 w2))))))

def F_zb (d:OA) (R:Int→WP) (w:World):Prop :=
 ∀ w1,(∃ k,w1=w.drewN k)→(IsAt d∧(∃(v7:OA),w1.cell? ⟨(pblk d),(poff d),none⟩=some (Vp v7)∧(IsAt v7∧(∃(v10:OA),w1.cell? ⟨(pblk v7),(poff v7)+5,none⟩=some (Vp v10)∧(IsAt d∧(∃(v14:T_i),zc w1 (pblk d) (poff d) [Vp v14.r]∧(C_m v14 w1 (fun(v15:Int) w2=>w2.cell? ⟨(pblk v7),(poff v7)+5,none⟩=some (Vp v10)∧w2.cell? ⟨(pblk d),(poff d),none⟩=some (Vp v7)∧(C_Gb v10 v15 w2 (fun(v16:Int) w3=>(R v16 w3)))))))))))

def F_g (R:T_a→WP) (b_:Nat) (t_:OA) (n_2:Int) (w9:World):Prop :=
 IsAt t_∧(∃(v108:Int),w9.cell? ⟨(pblk t_),(poff t_),none⟩=some (Vi v108)∧(zb w9 b_ 0 6∧(∀ w10,w10=World.puts b_ 0 [Vi 0,Value.int .u8 0,Vi v108,Vi 0,Vi n_2,Vi 0] w9→(∃(res2:T_a),zc w10 b_ 0 [Vi res2.Task,Value.int .u8 res2.Kind,Vi res2.Number,Vi res2.Shard,Vi res2.Count,Vi res2.Mark]∧(R res2 w10)))))

def F_e (d:OA) (R:T_a→WP) (b_:Nat) (t_:OA) (w6:World):Prop :=
 ∀ w7,(∃ k,w7=w6.drewN k)→(IsAt d∧(∃(v68:OA),w7.cell? ⟨(pblk d),(poff d),none⟩=some (Vp v68)∧(IsAt v68∧(∃(v71:OA),w7.cell? ⟨(pblk v68),(poff v68)+6,none⟩=some (Vp v71)∧(IsAt t_∧(∃(v72:T_b),zc w7 (pblk t_) (poff t_) [Vi v72.Number,Vs v72.Writes]∧(C_7 v71 v72 w7 (fun(n_2:Int) (v73_1:Int) w8=>(((n_2==0)=true→(∀ w11,(∃ k,w11=w8.drewN k)→(IsAt d∧(∃(v82:OA),w11.cell? ⟨(pblk d),(poff d),none⟩=some (Vp v82)∧(IsAt d∧(∃(v87:OA),w11.cell? ⟨(pblk d),(poff d),none⟩=some (Vp v87)∧(IsAt v87∧(∃(v90:Slc),w11.cell? ⟨(pblk v87),(poff v87)+12,none⟩=some (Vs v90)∧(IsAt t_∧(∃(v91:T_b),zc w11 (pblk t_) (poff t_) [Vi v91.Number,Vs v91.Writes]∧(∀ b_1 w12,b_1=w11.heap.size→w12=w11.alloc (Obj.cells ([Vi v91.Number,Vs v91.Writes]).toArray y_a (0,0))→(w12.cell? ⟨(pblk v87),(poff v87)+12,none⟩=some (Vs v90)∧w12.cell? ⟨(pblk d),(poff d),none⟩=some (Vp v87)∧w12.cell? ⟨(pblk d),(poff d),none⟩=some (Vp v82)∧(∃ src,zr w12 (Slc.mk (some ⟨b_1,0,none⟩) 1 1) 2 src∧zo 2 32 y_a [Vi 0,Value.slice none 0 0] v90 src 1 w12 (fun v93 w13=>w13.cell? ⟨(pblk d),(poff d),none⟩=some (Vp v82)∧(IsAt v82∧(zb w13 (pblk v82) ((poff v82)+12) 1∧(∀ w14,w14=World.puts (pblk v82) ((poff v82)+12) [Vs v93] w13→((F_g R b_ t_ n_2 w14))))))))))))))))))) ∧
 ((n_2==0)=false→(∀ w15,(∃ k,w15=w8.drewN k)→(IsAt d∧(∃(v100:OA),w15.cell? ⟨(pblk d),(poff d),none⟩=some (Vp v100)∧(IsAt v100∧(∃(v103:Option Nat),w15.cell? ⟨(pblk v100),(poff v100)+13,none⟩=some (Value.map v103)∧(IsAt t_∧(∃(v105:Int),w15.cell? ⟨(pblk t_),(poff t_),none⟩=some (Vi v105)∧(∃(v106:T_b),zc w15 (pblk t_) (poff t_) [Vi v106.Number,Vs v106.Writes]∧(∃(r:Nat) (es:Array MapEntry) (c:Nat),v103=some r∧w15.heap[r]? =some (.map es c)∧(zP isKI es∧((es.toList.map (·.key)).Nodup∧(isKI (Vi v105)∧(∀ es1 c1 w16,zae es c (Vi v105) (Value.agg #[Vi v106.Number,Vs v106.Writes]) es1 c1→w16={ w15 with heap:=w15.heap.setIfInBounds r (.map es1 c1) }→(F_g R b_ t_ n_2 w16))))))))))))))))))))))))

def F_6 (d:OA) (k_:Int) (R:T_a→WP) (w:World):Prop :=
 ∀ b_ w1,b_=w.heap.size→w1=w.alloc (Obj.cells ([Vi 0,Value.int .u8 0,Vi 0,Vi 0,Vi 0,Vi 0]).toArray y_c (0,0))→(((k_==1)=true→(IsAt d∧(∃(v21:OA),w1.cell? ⟨(pblk d),(poff d),none⟩=some (Vp v21)∧(IsAt v21∧(∃(v24:OA),w1.cell? ⟨(pblk v21),(poff v21)+5,none⟩=some (Vp v24)∧(C_ub v24 w1 (fun(n_:Int) (v25_1:Int) w2=>zb w2 b_ 0 6∧(∀ w3,w3=World.puts b_ 0 [Vi 0,Value.int .u8 0,Vi n_,Vi 0,Vi 0,Vi 0] w2→(∃(res:T_a),zc w3 b_ 0 [Vi res.Task,Value.int .u8 res.Kind,Vi res.Number,Vi res.Shard,Vi res.Count,Vi res.Mark]∧(R res w3)))))))))) ∧
 ((k_==1)=false→(((k_==2)=true→(IsAt d∧(∃(v37:OA),w1.cell? ⟨(pblk d),(poff d),none⟩=some (Vp v37)∧(IsAt v37∧(∃(v40:OA),w1.cell? ⟨(pblk v37),(poff v37)+5,none⟩=some (Vp v40)∧(C_ic v40 w1 (fun(n_1:Int) (v41_1:Int) w4=>zb w4 b_ 0 6∧(∀ w5,w5=World.puts b_ 0 [Vi 0,Value.int .u8 0,Vi n_1,Vi 0,Vi 0,Vi 0] w4→(∃(res1:T_a),zc w5 b_ 0 [Vi res1.Task,Value.int .u8 res1.Kind,Vi res1.Number,Vi res1.Shard,Vi res1.Count,Vi res1.Mark]∧(R res1 w5)))))))))) ∧
 ((k_==2)=false→(∀ w17,(∃ k,w17=w1.drewN k)→(IsAt d∧(∃(v51:OA),w17.cell? ⟨(pblk d),(poff d),none⟩=some (Vp v51)∧(IsAt v51∧(∃(v54:OA),w17.cell? ⟨(pblk v51),(poff v51)+5,none⟩=some (Vp v54)∧(IsAt d∧(∃(v58:T_i),zc w17 (pblk d) (poff d) [Vp v58.r]∧((C_m v58 w17 (fun(v59:Int) w18=>w18.cell? ⟨(pblk v51),(poff v51)+5,none⟩=some (Vp v54)∧w18.cell? ⟨(pblk d),(poff d),none⟩=some (Vp v51)∧((C_k v54 v59 w18 (fun(v60:T_b) (v60_1:Int) w19=>(∀ b_2 w20,b_2=w19.heap.size→w20=w19.alloc (Obj.cells ([Vi 0,Value.slice none 0 0]).toArray y_a (0,0))→((zb w20 b_2 0 2∧(∀ w21,w21=World.puts b_2 0 [Vi v60.Number,Vs v60.Writes] w20→((F_e d R b_ (some ⟨b_2,0,none⟩) w21)))))))) ∧
 (∀ b_3 w22,b_3=w18.heap.size→w22=w18.alloc (Obj.cells ([Vi 0,Value.slice none 0 0]).toArray y_a (0,0))→(w22.cell? ⟨(pblk v51),(poff v51)+5,none⟩=some (Vp v54)∧w22.cell? ⟨(pblk d),(poff d),none⟩=some (Vp v51)∧(C_k v54 v59 w22 (fun(v601:T_b) (v60_11:Int) w23=>(zb w23 b_3 0 2∧(∀ w24,w24=World.puts b_3 0 [Vi v601.Number,Vs v601.Writes] w23→((F_e d R b_ (some ⟨b_3,0,none⟩) w24))))))))))) ∧
 (∀ b_4 w25,b_4=w17.heap.size→w25=w17.alloc (Obj.cells ([Vi 0,Value.slice none 0 0]).toArray y_a (0,0))→(zc w25 (pblk d) (poff d) [Vp v58.r]∧w25.cell? ⟨(pblk v51),(poff v51)+5,none⟩=some (Vp v54)∧w25.cell? ⟨(pblk d),(poff d),none⟩=some (Vp v51)∧(C_m v58 w25 (fun(v591:Int) w26=>w26.cell? ⟨(pblk v51),(poff v51)+5,none⟩=some (Vp v54)∧w26.cell? ⟨(pblk d),(poff d),none⟩=some (Vp v51)∧(C_k v54 v591 w26 (fun(v602:T_b) (v60_12:Int) w27=>(zb w27 b_4 0 2∧(∀ w28,w28=World.puts b_4 0 [Vi v602.Number,Vs v602.Writes] w27→((F_e d R b_ (some ⟨b_4,0,none⟩) w28))))))))))))))))))))))

def F_r (R:Int→WP) (k_:Int) (w2:World):Prop :=
 R k_ w2

def F_0 (R:Int→WP) (w3:World):Prop :=
 R 0 w3

def F_1 (f:OA) (R:Int→WP) (t30:Bool) (w6:World):Prop :=
 (t30=true→(F_0 R w6)) ∧
 (t30=false→(IsAt f∧(∃(v44:Int),w6.cell? ⟨(pblk f),(poff f)+1,none⟩=some (Vi v44)∧(IsAt f∧(∃(v48:Int),w6.cell? ⟨(pblk f),(poff f)+2,none⟩=some (Vi v48)∧(∀ w7,Ext w6 w7→(((decide (v44≥v48))=true→(F_0 R w7)) ∧
 ((decide (v44≥v48))=false→(F_r R 1 w7)))))))))

def F_2 (f:OA) (R:Int→WP) (t19:Bool) (w5:World):Prop :=
 (t19=true→(F_r R 3 w5)) ∧
 (t19=false→(IsAt f∧(∃(v34:OA),w5.cell? ⟨(pblk f),(poff f)+5,none⟩=some (Vp v34)∧(((!v34.isNone)=true→(F_1 f R (!v34.isNone) w5)) ∧
 ((!v34.isNone)=false→(IsAt f∧(∃(v39:Bool),w5.cell? ⟨(pblk f),(poff f)+6,none⟩=some (Vo v39)∧(F_1 f R v39 w5))))))))

def F_3 (f:OA) (mark:Int) (R:Int→WP) (t9:Bool) (w4:World):Prop :=
 (t9=true→(F_r R 2 w4)) ∧
 (t9=false→(IsAt f∧(∃(v23:OA),w4.cell? ⟨(pblk f),(poff f)+5,none⟩=some (Vp v23)∧(((!v23.isNone)=true→(C_8 f mark w4 (fun(v28:Bool) w8=>F_2 f R v28 w8))) ∧
 ((!v23.isNone)=false→(F_2 f R false w4))))))

def F_gd (f:OA) (mark:Int) (R:Int→WP) (w:World):Prop :=
 C_s f w (fun(v7:Bool) w1=>((!v7)=true→(R 0 w1)) ∧
 ((!v7)=false→(IsAt f∧(∃(v13:OA),w1.cell? ⟨(pblk f),(poff f)+5,none⟩=some (Vp v13)∧(((!v13.isNone)=true→(C_Z f w1 (fun(v17:Bool) w9=>F_3 f mark R v17 w9))) ∧
 ((!v13.isNone)=false→(F_3 f mark R false w1)))))))

def F_P (f:OA) (R:Int→Int→WP) (t_:OA) (e:Int) (w3:World):Prop :=
 ((e != 0)=true→(R 0 e w3)) ∧
 ((e != 0)=false→(IsAt f∧(∃(v50:Int),w3.cell? ⟨(pblk f),(poff f)+1,none⟩=some (Vi v50)∧(zb w3 (pblk f) ((poff f)+1) 1∧(∀ w4,w4=World.puts (pblk f) ((poff f)+1) [Vi (IntKind.i64.wrap (v50+1))] w3→(IsAt f∧(zb w4 (pblk f) ((poff f)+5) 1∧(∀ w5,w5=World.puts (pblk f) ((poff f)+5) [Vp t_] w4→(IsAt t_∧(∃(v58:Int),w5.cell? ⟨(pblk t_),(poff t_),none⟩=some (Vi v58)∧(R v58 0 w5)))))))))))

def F_3c (f:OA) (R:Int→Int→WP) (w:World):Prop :=
 C_s f w (fun(v8:Bool) w1=>((!v8)=true→(R 0 2 w1)) ∧
 ((!v8)=false→(IsAt f∧(∃(v14:OA),w1.cell? ⟨(pblk f),(poff f)+5,none⟩=some (Vp v14)∧(((!v14.isNone)=true→(R 0 10 w1)) ∧
 ((!v14.isNone)=false→(IsAt f∧(∃(v20:Bool),w1.cell? ⟨(pblk f),(poff f)+6,none⟩=some (Vo v20)∧((v20=true→(R 0 12 w1)) ∧
 (v20=false→(IsAt f∧(∃(v25:Int),w1.cell? ⟨(pblk f),(poff f)+1,none⟩=some (Vi v25)∧(IsAt f∧(∃(v29:Int),w1.cell? ⟨(pblk f),(poff f)+2,none⟩=some (Vi v29)∧(∀ w2,Ext w1 w2→(((decide (v25≥v29))=true→(R 0 9 w2)) ∧
 ((decide (v25≥v29))=false→(∀ w6,(∃ k,w6=w2.drewN k)→(IsAt f∧(∃(v35:OA),w6.cell? ⟨(pblk f),(poff f),none⟩=some (Vp v35)∧(IsAt f∧(∃(v39:Int),w6.cell? ⟨(pblk f),(poff f)+1,none⟩=some (Vi v39)∧((C_K v35 (IntKind.i64.wrap (v39+1)) w6 (fun(v41:T_b) (e1:Int) w7=>(∀ b_ w8,b_=w7.heap.size→w8=w7.alloc (Obj.cells ([Vi 0,Value.slice none 0 0]).toArray y_a (0,0))→((zb w8 b_ 0 2∧(∀ w9,w9=World.puts b_ 0 [Vi v41.Number,Vs v41.Writes] w8→((F_P f R (some ⟨b_,0,none⟩) e1 w9)))))))) ∧
 (∀ b_1 w10,b_1=w6.heap.size→w10=w6.alloc (Obj.cells ([Vi 0,Value.slice none 0 0]).toArray y_a (0,0))→(w10.cell? ⟨(pblk f),(poff f)+1,none⟩=some (Vi v39)∧w10.cell? ⟨(pblk f),(poff f),none⟩=some (Vp v35)∧(C_K v35 (IntKind.i64.wrap (v39+1)) w10 (fun(v411:T_b) (e2:Int) w11=>(zb w11 b_1 0 2∧(∀ w12,w12=World.puts b_1 0 [Vi v411.Number,Vs v411.Writes] w11→((F_P f R (some ⟨b_1,0,none⟩) e2 w12)))))))))))))))))))))))))))))))

def F_u (f:OA) (R:T_b→Int→WP) (b_:Nat) (t19:Bool) (w5:World):Prop :=
 (t19=true→(zb w5 b_ 0 2∧(∀ w6,w6=World.puts b_ 0 [Vi 0,Value.slice none 0 0] w5→(∃(res2:T_b),zc w6 b_ 0 [Vi res2.Number,Vs res2.Writes]∧(R res2 6 w6))))) ∧
 (t19=false→(IsAt f∧(∃(v32:OA),w5.cell? ⟨(pblk f),(poff f)+5,none⟩=some (Vp v32)∧(IsAt v32∧(∃(v34:T_b),zc w5 (pblk v32) (poff v32) [Vi v34.Number,Vs v34.Writes]∧(∀ b_1 w7,b_1=w5.heap.size→w7=w5.alloc (Obj.cells ([Vi 0,Value.slice none 0 0]).toArray y_a (0,0))→(zb w7 b_1 0 2∧(∀ w8,w8=World.puts b_1 0 [Vi v34.Number,Vs v34.Writes] w7→(IsAt f∧(zb w8 (pblk f) ((poff f)+5) 1∧(∀ w9,w9=World.puts (pblk f) ((poff f)+5) [Vp none] w8→(∃(v38:T_b),zc w9 b_1 0 [Vi v38.Number,Vs v38.Writes]∧(zb w9 b_ 0 2∧(∀ w10,w10=World.puts b_ 0 [Vi v38.Number,Vs v38.Writes] w9→(∃(res3:T_b),zc w10 b_ 0 [Vi res3.Number,Vs res3.Writes]∧(R res3 0 w10))))))))))))))))

def F_ec (f:OA) (mark:Int) (R:T_b→Int→WP) (w:World):Prop :=
 ∀ b_ w1,b_=w.heap.size→w1=w.alloc (Obj.cells ([Vi 0,Value.slice none 0 0]).toArray y_a (0,0))→(C_s f w1 (fun(v9:Bool) w2=>((!v9)=true→(zb w2 b_ 0 2∧(∀ w3,w3=World.puts b_ 0 [Vi 0,Value.slice none 0 0] w2→(∃(res:T_b),zc w3 b_ 0 [Vi res.Number,Vs res.Writes]∧(R res 2 w3))))) ∧
 ((!v9)=false→(IsAt f∧(∃(v16:OA),w2.cell? ⟨(pblk f),(poff f)+5,none⟩=some (Vp v16)∧((v16.isNone=true→(zb w2 b_ 0 2∧(∀ w4,w4=World.puts b_ 0 [Vi 0,Value.slice none 0 0] w2→(∃(res1:T_b),zc w4 b_ 0 [Vi res1.Number,Vs res1.Writes]∧(R res1 9 w4))))) ∧
 (v16.isNone=false→(C_Z f w2 (fun(v21:Bool) w11=>(v21=true→(F_u f R b_ true w11)) ∧
 (v21=false→(C_8 f mark w11 (fun(v25:Bool) w12=>F_u f R b_ (!v25) w12))))))))))))

def F_D (t32:Int) (again_:Int→Int→WP) (n_1:Int) (w6:World):Prop :=
 again_ n_1 (IntKind.i64.wrap (t32+1)) w6

def F_Q (t_:OA) (n_:Int) (t32:Int) (again_:Int→Int→WP) (b_2:Nat) (t65:Bool) (w13:World):Prop :=
 (t65=true→(∀ w14,(∃ k,w14=w13.drewN k)→(IsAt t_∧(∃(v69:Option Nat),w14.cell? ⟨(pblk t_),(poff t_)+2,none⟩=some (Value.map v69)∧(∃(v70:zXd),zc w14 b_2 0 [Vi v70.e0,Vi v70.e1]∧(∃(r:Nat) (es2:Array MapEntry) (c:Nat),v69=some r∧w14.heap[r]? =some (.map es2 c)∧(zP isKP es2∧((es2.toList.map (·.key)).Nodup∧(isKP (Value.agg #[Vi v70.e0,Vi v70.e1])∧(∀ es3 c1 w15,zae es2 c (Value.agg #[Vi v70.e0,Vi v70.e1]) (Vo true) es3 c1→w15={ w14 with heap:=w14.heap.setIfInBounds r (.map es3 c1) }→(F_D t32 again_ (IntKind.i64.wrap (n_+1)) w15))))))))))) ∧
 (t65=false→(F_D t32 again_ n_ w13))

def F_Bb (t_:OA) (R:Int→Int→WP) (b_:Nat) (n_:Int) (v75:Slc) (again_1:Int→WP) (t77:Int) (w18:World):Prop :=
 ((decide (t77<((v75.len:Nat):Int)))=true→(IsAt v75.ptr∧(0≤t77∧t77<((v75.len:Nat):Int)∧(∃(v80:T_d),zc w18 (pblk v75.ptr) ((poff v75.ptr)+t77.toNat*3) [Value.string v80.Key,Value.string v80.Val,Vo v80.Drop]∧(∀ b_3 w19,b_3=w18.heap.size→w19=w18.alloc (Obj.cells ([Value.string ByteArray.empty,Value.string ByteArray.empty,Vo false]).toArray y_b (0,0))→(zb w19 b_3 0 3∧(∀ w20,w20=World.puts b_3 0 [Value.string v80.Key,Value.string v80.Val,Vo v80.Drop] w19→(∀ w21,(∃ k,w21=w20.drewN k)→(IsAt t_∧(∃(v84:Option Nat),w21.cell? ⟨(pblk t_),(poff t_),none⟩=some (Value.map v84)∧(∃(v86:ByteArray),w21.cell? ⟨b_3,0,none⟩=some (Value.string v86)∧(∃(v88:Int),w21.cell? ⟨b_,0,none⟩=some (Vi v88)∧(∃(r1:Nat) (es5:Array MapEntry) (c2:Nat),v84=some r1∧w21.heap[r1]? =some (.map es5 c2)∧(zP isKS es5∧((es5.toList.map (·.key)).Nodup∧(isKS (Value.string v86)∧(∀ es6 c3 w22,zae es5 c2 (Value.string v86) (Vi v88) es6 c3→w22={ w21 with heap:=w21.heap.setIfInBounds r1 (.map es6 c3) }→(again_1 (IntKind.i64.wrap (t77+1)) w22)))))))))))))))))) ∧
 ((decide (t77<((v75.len:Nat):Int)))=false→(∀ w23,(∃ k,w23=w18.drewN k)→(IsAt t_∧(∃(v93:Option Nat),w23.cell? ⟨(pblk t_),(poff t_)+1,none⟩=some (Value.map v93)∧(∃(v95:Int),w23.cell? ⟨b_,0,none⟩=some (Vi v95)∧(∃(r2:Nat) (es7:Array MapEntry) (c4:Nat),v93=some r2∧w23.heap[r2]? =some (.map es7 c4)∧(zP isKI es7∧((es7.toList.map (·.key)).Nodup∧(isKI (Vi v95)∧(∀ es8 c5 w24,zae es7 c4 (Vi v95) (Vi n_) es8 c5→w24={ w23 with heap:=w23.heap.setIfInBounds r2 (.map es8 c5) }→(∃(v99:Int),w24.cell? ⟨b_,0,none⟩=some (Vi v99)∧(IsAt t_∧(zb w24 (pblk t_) ((poff t_)+3) 1∧(∀ w25,w25=World.puts (pblk t_) ((poff t_)+3) [Vi v99] w24→(R n_ 0 w25)))))))))))))))

def F_Cb (t_:OA) (R:Int→Int→WP) (b_:Nat) (v30:Slc) (again_:Int→Int→WP) (n_:Int) (t32:Int) (w5:World):Prop :=
 ((decide (t32<((v30.len:Nat):Int)))=true→(IsAt v30.ptr∧(0≤t32∧t32<((v30.len:Nat):Int)∧(∃(v35:T_d),zc w5 (pblk v30.ptr) ((poff v30.ptr)+t32.toNat*3) [Value.string v35.Key,Value.string v35.Val,Vo v35.Drop]∧(∀ b_1 w7,b_1=w5.heap.size→w7=w5.alloc (Obj.cells ([Value.string ByteArray.empty,Value.string ByteArray.empty,Vo false]).toArray y_b (0,0))→(zb w7 b_1 0 3∧(∀ w8,w8=World.puts b_1 0 [Value.string v35.Key,Value.string v35.Val,Vo v35.Drop] w7→(∀ w9,(∃ k,w9=w8.drewN k)→(∃(v37:Int),w9.cell? ⟨b_,0,none⟩=some (Vi v37)∧(IsAt t_∧(∃(v41:Option Nat),w9.cell? ⟨(pblk t_),(poff t_),none⟩=some (Value.map v41)∧(∃(v43:ByteArray),w9.cell? ⟨b_1,0,none⟩=some (Value.string v43)∧(∃(es:Array MapEntry) (v44:Int) (ok:Bool),zHb w9 v41 es∧(zP isKS es∧((es.toList.map (·.key)).Nodup∧(isKS (Value.string v43)∧(LkIs es (Value.string v43) (Vi 0) (Vi v44) ok∧(∀ b_2 w10,b_2=w9.heap.size→w10=w9.alloc (Obj.cells ([Vi 0,Vi 0]).toArray y_p (0,0))→(zHb w10 v41 es∧w10.cell? ⟨b_1,0,none⟩=some (Value.string v43)∧w10.cell? ⟨(pblk t_),(poff t_),none⟩=some (Value.map v41)∧w10.cell? ⟨b_,0,none⟩=some (Vi v37)∧(zb w10 b_2 0 2∧(∀ w11,w11=World.puts b_2 0 [Vi v37,Vi v44] w10→((IsAt t_∧(∃(v50:Option Nat),w11.cell? ⟨(pblk t_),(poff t_)+1,none⟩=some (Value.map v50)∧(0≤(1:Int)∧(1:Int)<(2:Int)∧(∃(v52:Int),w11.cell? ⟨b_2,1,none⟩=some (Vi v52)∧(∃(es1:Array MapEntry) (v53:Int) (ok1:Bool),zHb w11 v50 es1∧(zP isKI es1∧((es1.toList.map (·.key)).Nodup∧(isKI (Vi v52)∧(LkIs es1 (Vi v52) (Vi 0) (Vi v53) ok1∧(∀ w12,Ext w11 w12→((ok1=true→(IsAt t_∧(∃(v61:Option Nat),w12.cell? ⟨(pblk t_),(poff t_)+2,none⟩=some (Value.map v61)∧(∃(v62:zXd),zc w12 b_2 0 [Vi v62.e0,Vi v62.e1]∧(∃(es4:Array MapEntry) (v63:Bool) (ok2:Bool),zHb w12 v61 es4∧(zP isKP es4∧((es4.toList.map (·.key)).Nodup∧(isKP (Value.agg #[Vi v62.e0,Vi v62.e1])∧(LkIs es4 (Value.agg #[Vi v62.e0,Vi v62.e1]) (Vo false) (Vo v63) ok2∧(∀ w16,Ext w12 w16→(F_Q t_ n_ t32 again_ b_2 (!v63) w16))))))))))) ∧
 (ok1=false→(∀ w17,Ext w12 w17→(F_Q t_ n_ t32 again_ b_2 false w17)))))))))))))))))))))))))))))))))))) ∧
 ((decide (t32<((v30.len:Nat):Int)))=false→(∃(v75:Slc),w5.cell? ⟨b_,1,none⟩=some (Vs v75)∧(∃(I:Int→WP) (μ:Int→World→Nat),I 0 w5 ∧
 ∀(t77:Int) w,I t77 w→F_Bb t_ R b_ n_ v75 (fun(t77':Int) w'=>I t77' w'∧μ t77' w'<μ t77 w) t77 w)))

def F_4c (t_:OA) (x:T_b) (R:Int→Int→WP) (w:World):Prop :=
 ∀ b_ w1,b_=w.heap.size→w1=w.alloc (Obj.cells ([Vi x.Number,Vs x.Writes]).toArray y_a (0,0))→(C_Y t_ w1 (fun(v16:Bool) w2=>(v16=true→(R 0 2 w2)) ∧
 (v16=false→(∃(v18:T_b),zc w2 b_ 0 [Vi v18.Number,Vs v18.Writes]∧(C_O v18 w2 (fun(v19:Int) w3=>((v19 != 0)=true→(R 0 1 w3)) ∧
 ((v19 != 0)=false→(∃(v23:Int),w3.cell? ⟨b_,0,none⟩=some (Vi v23)∧(IsAt t_∧(∃(v27:Int),w3.cell? ⟨(pblk t_),(poff t_)+3,none⟩=some (Vi v27)∧(∀ w4,Ext w3 w4→(((decide (v23≤v27))=true→(R 0 6 w4)) ∧
 ((decide (v23≤v27))=false→(∃(v30:Slc),w4.cell? ⟨b_,1,none⟩=some (Vs v30)∧(∃(I:Int→Int→WP) (μ:Int→Int→World→Nat),I 0 0 w4 ∧
 ∀(n_:Int) (t32:Int) w,I n_ t32 w→F_Cb t_ R b_ v30 (fun(n_':Int) (t32':Int) w'=>I n_' t32' w'∧μ n_' t32' w'<μ n_ t32 w) n_ t32 w)))))))))))))))

def F_Oc (f:OA) (R:Bool→WP) (w:World):Prop :=
 ∀ w1,(∃ k,w1=w.drewN k)→(IsAt f∧(∃(v9:Option Nat),w1.cell? ⟨(pblk f),(poff f)+4,none⟩=some (Value.map v9)∧(IsAt f∧(∃(v13:OA),w1.cell? ⟨(pblk f),(poff f)+5,none⟩=some (Vp v13)∧(IsAt v13∧(∃(v16:Int),w1.cell? ⟨(pblk v13),(poff v13),none⟩=some (Vi v16)∧(∃(es:Array MapEntry),zHb w1 v9 es∧(z1c es∧(∀ b_ w2,b_=w1.heap.size→w2=w1.alloc (Obj.cells ([]).toArray y_G (0,0))→(zHb w2 v9 es∧w2.cell? ⟨(pblk v13),(poff v13),none⟩=some (Vi v16)∧w2.cell? ⟨(pblk f),(poff f)+5,none⟩=some (Vp v13)∧w2.cell? ⟨(pblk f),(poff f)+4,none⟩=some (Value.map v9)∧(zb w2 b_ 0 0∧(∀ w3,w3=World.puts b_ 0 [] w2→((R (ztb es v16) w3))))))))))))))

def F_5c (f:OA) (mark:Int) (R:Bool→WP) (w:World):Prop :=
 IsAt f∧(∃(v8:OA),w.cell? ⟨(pblk f),(poff f)+5,none⟩=some (Vp v8)∧(IsAt v8∧(∃(v11:Int),w.cell? ⟨(pblk v8),(poff v8),none⟩=some (Vi v11)∧(IsAt f∧(∃(v15:Int),w.cell? ⟨(pblk f),(poff f)+3,none⟩=some (Vi v15)∧(∀ w1,Ext w w1→(R (decide ((IntKind.i64.wrap (v11 - v15))≤mark)) w1)))))))

def F_h (s:OA) (number:Int) (R:T_b→Int→WP) (b_:Nat) (t17:Bool) (w4:World):Prop :=
 (t17=true→(zb w4 b_ 0 2∧(∀ w5,w5=World.puts b_ 0 [Vi 0,Value.slice none 0 0] w4→(∃(res1:T_b),zc w5 b_ 0 [Vi res1.Number,Vs res1.Writes]∧(R res1 1 w5))))) ∧
 (t17=false→(IsAt s∧(∃(v34:Slc),w4.cell? ⟨(pblk s),(poff s)+2,none⟩=some (Vs v34)∧(∀ b_1 w6,b_1=w4.heap.size→w6=w4.alloc (Obj.cells ([Vi number]).toArray y_h (0,0))→(∃ src,zr w6 (Slc.mk (some ⟨b_1,0,none⟩) 1 1) 1 src∧zo 1 8 y_h [Vi 0] v34 src 1 w6 (fun v37 w7=>IsAt s∧(zb w7 (pblk s) ((poff s)+2) 1∧(∀ w8,w8=World.puts (pblk s) ((poff s)+2) [Vs v37] w7→(IsAt s∧(∃(v43:Slc),w8.cell? ⟨(pblk s),(poff s)+1,none⟩=some (Vs v43)∧(IsAt v43.ptr∧(0≤IntKind.i64.wrap (number - 1)∧IntKind.i64.wrap (number - 1)<((v43.len:Nat):Int)∧(∃(v47:T_b),zc w8 (pblk v43.ptr) ((poff v43.ptr)+(IntKind.i64.wrap (number - 1)).toNat*2) [Vi v47.Number,Vs v47.Writes]∧(C_5 v47 w8 (fun(v48:T_b) w9=>zb w9 b_ 0 2∧(∀ w10,w10=World.puts b_ 0 [Vi v48.Number,Vs v48.Writes] w9→(∃(res2:T_b),zc w10 b_ 0 [Vi res2.Number,Vs res2.Writes]∧(R res2 0 w10))))))))))))))))))

def F_L (s:OA) (number:Int) (R:T_b→Int→WP) (b_:Nat) (t6:Bool) (w2:World):Prop :=
 (t6=true→(zb w2 b_ 0 2∧(∀ w3,w3=World.puts b_ 0 [Vi 0,Value.slice none 0 0] w2→(∃(res:T_b),zc w3 b_ 0 [Vi res.Number,Vs res.Writes]∧(R res 2 w3))))) ∧
 (t6=false→(((decide (number<1))=true→(F_h s number R b_ true w2)) ∧
 ((decide (number<1))=false→(IsAt s∧(∃(v25:Slc),w2.cell? ⟨(pblk s),(poff s)+1,none⟩=some (Vs v25)∧(F_h s number R b_ (decide (number>((v25.len:Nat):Int))) w2))))))

def F_fc (s:OA) (number:Int) (R:T_b→Int→WP) (w:World):Prop :=
 ∀ b_ w1,b_=w.heap.size→w1=w.alloc (Obj.cells ([Vi 0,Value.slice none 0 0]).toArray y_a (0,0))→((s.isNone=true→(F_L s number R b_ true w1)) ∧
 (s.isNone=false→(IsAt s∧(∃(v13:Bool),w1.cell? ⟨(pblk s),(poff s),none⟩=some (Vo v13)∧(F_L s number R b_ (!v13) w1)))))

def F_Pc (l_:OA) (R:Int→WP) (w:World):Prop :=
 C_h l_ w (fun(b_:OA) (ok:Bool) w1=>(ok=true→(IsAt b_∧(∃(v14:Int),w1.cell? ⟨(pblk b_),(poff b_),none⟩=some (Vi v14)∧(R v14 w1)))) ∧
 (ok=false→(R 0 w1)))

def F_i (w_:OA) (R:Int→WP) (t39:Bool) (w5:World):Prop :=
 (t39=true→(R 5 w5)) ∧
 (t39=false→(IsAt w_∧(∃(v43:OA),w5.cell? ⟨(pblk w_),(poff w_)+1,none⟩=some (Vp v43)∧(C_0 v43 w5 (fun(v44:Bool) w6=>(v44=true→(R 6 w6)) ∧
 (v44=false→(R 0 w6)))))))

def F_gc (w_:OA) (R:Int→WP) (w:World):Prop :=
 IsAt w_∧(∃(v9:OA),w.cell? ⟨(pblk w_),(poff w_)+1,none⟩=some (Vp v9)∧(C_t v9 w (fun(v10:Int) w1=>((v10==0)=true→(IsAt w_∧(∃(v16:OA),w1.cell? ⟨(pblk w_),(poff w_),none⟩=some (Vp v16)∧(IsAt v16∧(∃(v19:Slc),w1.cell? ⟨(pblk v16),(poff v16)+12,none⟩=some (Vs v19)∧(((decide (((v19.len:Nat):Int)>0))=true→(R 4 w1)) ∧
 ((decide (((v19.len:Nat):Int)>0))=false→(R 0 w1)))))))) ∧
 ((v10==0)=false→(IsAt w_∧(∃(v26:OA),w1.cell? ⟨(pblk w_),(poff w_)+1,none⟩=some (Vp v26)∧(C_9 v26 w1 (fun(shard:Int) (v27_1:T_c) (more:Bool) w2=>∀ b_ w3,b_=w2.heap.size→w3=w2.alloc (Obj.cells ([Value.int .u8 0,Vi 0,Vi 0,Value.string ByteArray.empty,Value.string ByteArray.empty,Vo false,Value.string ByteArray.empty,Value.string ByteArray.empty,Value.slice none 0 0]).toArray y_g (0,0))→(zb w3 b_ 0 9∧(∀ w4,w4=World.puts b_ 0 [Value.int .u8 v27_1.Kind,Vi v27_1.From,Vi v27_1.Number,Value.string v27_1.Write.Key,Value.string v27_1.Write.Val,Vo v27_1.Write.Drop,Value.string v27_1.Key,Value.string v27_1.End,Vs v27_1.Beyond] w3→((more=true→(IsAt w_∧(∃(v36:T_i),zc w4 (pblk w_) (poff w_) [Vp v36.r]∧(C_ab v36 shard w4 (fun(v38:Bool) w7=>F_i w_ R v38 w7))))) ∧
 (more=false→(F_i w_ R false w4)))))))))))))

def F_4 (w_:OA) (k_:Int) (R:T_a→WP) (w:World):Prop :=
 ∀ b_ w1,b_=w.heap.size→w1=w.alloc (Obj.cells ([Vi 0,Value.int .u8 0,Vi 0,Vi 0,Vi 0,Vi 0]).toArray y_c (0,0))→(((k_==4)=true→(IsAt w_∧(∃(v18:OA),w1.cell? ⟨(pblk w_),(poff w_),none⟩=some (Vp v18)∧(IsAt v18∧(∃(v21:Slc),w1.cell? ⟨(pblk v18),(poff v18)+12,none⟩=some (Vs v21)∧(IsAt v21.ptr∧(0≤(0:Int)∧(0:Int)<((v21.len:Nat):Int)∧(∃(v23:T_b),zc w1 (pblk v21.ptr) (poff v21.ptr) [Vi v23.Number,Vs v23.Writes]∧(∀ b_1 w2,b_1=w1.heap.size→w2=w1.alloc (Obj.cells ([Vi 0,Value.slice none 0 0]).toArray y_a (0,0))→(zb w2 b_1 0 2∧(∀ w3,w3=World.puts b_1 0 [Vi v23.Number,Vs v23.Writes] w2→(∀ w4,(∃ k,w4=w3.drewN k)→(IsAt w_∧(∃(v28:OA),w4.cell? ⟨(pblk w_),(poff w_),none⟩=some (Vp v28)∧(IsAt w_∧(∃(v33:OA),w4.cell? ⟨(pblk w_),(poff w_),none⟩=some (Vp v33)∧(IsAt v33∧(∃(v36:Slc),w4.cell? ⟨(pblk v33),(poff v33)+12,none⟩=some (Vs v36)∧((0≤(1:Int)∧(1:Int)≤((v36.len:Nat):Int)∧((v36.len:Nat):Int)≤((v36.cap:Nat):Int)∧((v36.cap:Nat):Int)≤((v36.cap:Nat):Int))∧(∀ s,s=Slc.cut 2 v36 1 ((v36.len:Nat):Int) ((v36.cap:Nat):Int)→(IsAt v28∧(zb w4 (pblk v28) ((poff v28)+12) 1∧(∀ w5,w5=World.puts (pblk v28) ((poff v28)+12) [Vs s] w4→(∀ w6,(∃ k,w6=w5.drewN k)→(IsAt w_∧(∃(v43:OA),w6.cell? ⟨(pblk w_),(poff w_)+1,none⟩=some (Vp v43)∧(∃(v44:T_b),zc w6 b_1 0 [Vi v44.Number,Vs v44.Writes]∧(C_vb v43 v44 w6 (fun(v45:Int) w7=>∃(v47:Int),w7.cell? ⟨b_1,0,none⟩=some (Vi v47)∧(zb w7 b_ 0 6∧(∀ w8,w8=World.puts b_ 0 [Vi 0,Value.int .u8 0,Vi v47,Vi 0,Vi 0,Vi 0] w7→(∃(res:T_a),zc w8 b_ 0 [Vi res.Task,Value.int .u8 res.Kind,Vi res.Number,Vi res.Shard,Vi res.Count,Vi res.Mark]∧(R res w8))))))))))))))))))))))))))))))))) ∧
 ((k_==4)=false→(((k_==5)=true→(IsAt w_∧(∃(v55:OA),w1.cell? ⟨(pblk w_),(poff w_)+1,none⟩=some (Vp v55)∧(C_9 v55 w1 (fun(shard:Int) (v56_1:T_c) (v56_2:Bool) w9=>∀ b_2 w10,b_2=w9.heap.size→w10=w9.alloc (Obj.cells ([Value.int .u8 0,Vi 0,Vi 0,Value.string ByteArray.empty,Value.string ByteArray.empty,Vo false,Value.string ByteArray.empty,Value.string ByteArray.empty,Value.slice none 0 0]).toArray y_g (0,0))→(zb w10 b_2 0 9∧(∀ w11,w11=World.puts b_2 0 [Value.int .u8 v56_1.Kind,Vi v56_1.From,Vi v56_1.Number,Value.string v56_1.Write.Key,Value.string v56_1.Write.Val,Vo v56_1.Write.Drop,Value.string v56_1.Key,Value.string v56_1.End,Vs v56_1.Beyond] w10→(∀ w12,(∃ k,w12=w11.drewN k)→(IsAt w_∧(∃(v64:OA),w12.cell? ⟨(pblk w_),(poff w_),none⟩=some (Vp v64)∧(IsAt v64∧(∃(v67:Slc),w12.cell? ⟨(pblk v64),(poff v64)+9,none⟩=some (Vs v67)∧(IsAt v67.ptr∧(0≤shard∧shard<((v67.len:Nat):Int)∧(∃(v70:OA),w12.cell? ⟨(pblk v67.ptr),(poff v67.ptr)+shard.toNat,none⟩=some (Vp v70)∧(∃(v71:T_c),zc w12 b_2 0 [Value.int .u8 v71.Kind,Vi v71.From,Vi v71.Number,Value.string v71.Write.Key,Value.string v71.Write.Val,Vo v71.Write.Drop,Value.string v71.Key,Value.string v71.End,Vs v71.Beyond]∧(C_lb v70 v71 w12 (fun(v72:Bool) (v72_1:Int) w13=>IsAt w_∧(∃(v76:OA),w13.cell? ⟨(pblk w_),(poff w_)+1,none⟩=some (Vp v76)∧(C_wb v76 w13 (fun(v77:Int) w14=>IsAt w_∧(∃(v81:OA),w14.cell? ⟨(pblk w_),(poff w_)+1,none⟩=some (Vp v81)∧(C_t v81 w14 (fun(v82:Int) w15=>zb w15 b_ 0 6∧(∀ w16,w16=World.puts b_ 0 [Vi 0,Value.int .u8 0,Vi v82,Vi shard,Vi 0,Vi 0] w15→(∃(res1:T_a),zc w16 b_ 0 [Vi res1.Task,Value.int .u8 res1.Kind,Vi res1.Number,Vi res1.Shard,Vi res1.Count,Vi res1.Mark]∧(R res1 w16))))))))))))))))))))))))))) ∧
 ((k_==5)=false→(IsAt w_∧(∃(v89:OA),w1.cell? ⟨(pblk w_),(poff w_)+1,none⟩=some (Vp v89)∧(C_xb v89 w1 (fun(n_:Int) (v90_1:Int) w17=>∀ w18,(∃ k,w18=w17.drewN k)→(IsAt w_∧(∃(v97:OA),w18.cell? ⟨(pblk w_),(poff w_),none⟩=some (Vp v97)∧(IsAt w_∧(∃(v102:OA),w18.cell? ⟨(pblk w_),(poff w_),none⟩=some (Vp v102)∧(IsAt v102∧(∃(v105:Slc),w18.cell? ⟨(pblk v102),(poff v102)+14,none⟩=some (Vs v105)∧(∀ b_3 w19,b_3=w18.heap.size→w19=w18.alloc (Obj.cells ([Vi n_]).toArray y_h (0,0))→(w19.cell? ⟨(pblk v102),(poff v102)+14,none⟩=some (Vs v105)∧w19.cell? ⟨(pblk w_),(poff w_),none⟩=some (Vp v102)∧w19.cell? ⟨(pblk w_),(poff w_),none⟩=some (Vp v97)∧(∃ src,zr w19 (Slc.mk (some ⟨b_3,0,none⟩) 1 1) 1 src∧zo 1 8 y_h [Vi 0] v105 src 1 w19 (fun v108 w20=>w20.cell? ⟨(pblk w_),(poff w_),none⟩=some (Vp v97)∧(IsAt v97∧(zb w20 (pblk v97) ((poff v97)+14) 1∧(∀ w21,w21=World.puts (pblk v97) ((poff v97)+14) [Vs v108] w20→((zb w21 b_ 0 6∧(∀ w22,w22=World.puts b_ 0 [Vi 0,Value.int .u8 0,Vi n_,Vi 0,Vi 0,Vi 0] w21→(∃(res2:T_a),zc w22 b_ 0 [Vi res2.Task,Value.int .u8 res2.Kind,Vi res2.Number,Vi res2.Shard,Vi res2.Count,Vi res2.Mark]∧(R res2 w22))))))))))))))))))))))))))

def F_E (l_:OA) (R:Int→T_c→Bool→WP) (b_:Nat) (w_:OA) (ok:Bool) (w4:World):Prop :=
 ((!ok)=true→(zb w4 b_ 0 9∧(∀ w5,w5=World.puts b_ 0 [Value.int .u8 0,Vi 0,Vi 0,Value.string ByteArray.empty,Value.string ByteArray.empty,Vo false,Value.string ByteArray.empty,Value.string ByteArray.empty,Value.slice none 0 0] w4→(∃(res1:T_c),zc w5 b_ 0 [Value.int .u8 res1.Kind,Vi res1.From,Vi res1.Number,Value.string res1.Write.Key,Value.string res1.Write.Val,Vo res1.Write.Drop,Value.string res1.Key,Value.string res1.End,Vs res1.Beyond]∧(R 0 res1 false w5))))) ∧
 ((!ok)=false→(∀ w6,(∃ k,w6=w4.drewN k)→(IsAt l_∧(∃(v27:T_f),zc w6 (pblk l_) ((poff l_)+1) [Vi v27.Lanes,Vi v27.Shards,Vi v27.Window,Vi v27.Queue]∧(IsAt w_∧(∃(v29:ByteArray),w6.cell? ⟨(pblk w_),(poff w_),none⟩=some (Value.string v29)∧(C_Eb v27 v29 w6 (fun(s:Int) (v30_1:Int) w7=>(∀ w8,(∃ k,w8=w7.drewN k)→(IsAt l_∧(∃(v37:Int),w8.cell? ⟨(pblk l_),(poff l_),none⟩=some (Vi v37)∧(IsAt w_∧(∃(v40:T_d),zc w8 (pblk w_) (poff w_) [Value.string v40.Key,Value.string v40.Val,Vo v40.Drop]∧(C_t l_ w8 (fun(v39:Int) w9=>zc w9 (pblk w_) (poff w_) [Value.string v40.Key,Value.string v40.Val,Vo v40.Drop]∧w9.cell? ⟨(pblk l_),(poff l_),none⟩=some (Vi v37)∧(zb w9 b_ 0 9∧(∀ w10,w10=World.puts b_ 0 [Value.int .u8 1,Vi v37,Vi v39,Value.string v40.Key,Value.string v40.Val,Vo v40.Drop,Value.string ByteArray.empty,Value.string ByteArray.empty,Value.slice none 0 0] w9→((∃(res2:T_c),zc w10 b_ 0 [Value.int .u8 res2.Kind,Vi res2.From,Vi res2.Number,Value.string res2.Write.Key,Value.string res2.Write.Val,Vo res2.Write.Drop,Value.string res2.Key,Value.string res2.End,Vs res2.Beyond]∧(R s res2 true w10))))))))))))))))))))

def F_6c (l_:OA) (R:Int→T_c→Bool→WP) (w:World):Prop :=
 ∀ b_ w1,b_=w.heap.size→w1=w.alloc (Obj.cells ([Value.int .u8 0,Vi 0,Vi 0,Value.string ByteArray.empty,Value.string ByteArray.empty,Vo false,Value.string ByteArray.empty,Value.string ByteArray.empty,Value.slice none 0 0]).toArray y_g (0,0))→(C_j l_ w1 (fun(v10:Bool) w2=>(v10=true→(zb w2 b_ 0 9∧(∀ w3,w3=World.puts b_ 0 [Value.int .u8 0,Vi 0,Vi 0,Value.string ByteArray.empty,Value.string ByteArray.empty,Vo false,Value.string ByteArray.empty,Value.string ByteArray.empty,Value.slice none 0 0] w2→(∃(res:T_c),zc w3 b_ 0 [Value.int .u8 res.Kind,Vi res.From,Vi res.Number,Value.string res.Write.Key,Value.string res.Write.Val,Vo res.Write.Drop,Value.string res.Key,Value.string res.End,Vs res.Beyond]∧(R 0 res false w3))))) ∧
 (v10=false→(IsAt l_∧(∃(v16:Value),w2.cell? ⟨(pblk l_),(poff l_)+5,none⟩=some (v16)∧((∃(r:T_l),v16=Value.iface 198 (Value.agg #[])∧(C_Ab (T_l.mk) w2 (fun(v17:T_d) (ok1:Bool) w11=>∀ b_1 w12,b_1=w11.heap.size→w12=w11.alloc (Obj.cells ([Value.string ByteArray.empty,Value.string ByteArray.empty,Vo false]).toArray y_b (0,0))→(zb w12 b_1 0 3∧(∀ w13,w13=World.puts b_1 0 [Value.string v17.Key,Value.string v17.Val,Vo v17.Drop] w12→(F_E l_ R b_ (some ⟨b_1,0,none⟩) ok1 w13)))))) ∨
 (∃(r1:OA),v16=Value.iface 341 (Vp r1)∧(C_2b r1 w2 (fun(v171:T_d) (ok2:Bool) w14=>∀ b_2 w15,b_2=w14.heap.size→w15=w14.alloc (Obj.cells ([Value.string ByteArray.empty,Value.string ByteArray.empty,Vo false]).toArray y_b (0,0))→(zb w15 b_2 0 3∧(∀ w16,w16=World.puts b_2 0 [Value.string v171.Key,Value.string v171.Val,Vo v171.Drop] w15→(F_E l_ R b_ (some ⟨b_2,0,none⟩) ok2 w16))))))))))))

def F_Qc (l_:OA) (R:Bool→WP) (w:World):Prop :=
 C_h l_ w (fun(b_:OA) (ok:Bool) w1=>(ok=true→(IsAt b_∧(∃(v15:Slc),w1.cell? ⟨(pblk b_),(poff b_)+1,none⟩=some (Vs v15)∧(((((v15.len:Nat):Int)==0)=true→(IsAt b_∧(∃(v23:Int),w1.cell? ⟨(pblk b_),(poff b_)+2,none⟩=some (Vi v23)∧(R (v23==0) w1)))) ∧
 ((((v15.len:Nat):Int)==0)=false→(R false w1)))))) ∧
 (ok=false→(R false w1)))

def F_Db (R:OA→Bool→WP) (b_:OA) (ok:Bool) (w2:World):Prop :=
 R b_ ok w2

def F_hc (l_:OA) (R:OA→Bool→WP) (w:World):Prop :=
 C_j l_ w (fun(v7:Bool) w1=>(v7=true→(R none false w1)) ∧
 (v7=false→(IsAt l_∧(∃(v12:Value),w1.cell? ⟨(pblk l_),(poff l_)+5,none⟩=some (v12)∧((∃(b_1:OA),v12=Value.iface 341 (Vp b_1)∧(F_Db R b_1 true w1)) ∨
 (zLs 341 v12∧(F_Db R none false w1)))))))

def F_7c (l_:OA) (t_:T_b) (R:Int→WP) (w:World):Prop :=
 ∀ b_ w1,b_=w.heap.size→w1=w.alloc (Obj.cells ([Vi t_.Number,Vs t_.Writes]).toArray y_a (0,0))→(C_j l_ w1 (fun(v9:Bool) w2=>(v9=true→(R 2 w2)) ∧
 (v9=false→(C_h l_ w2 (fun(v12:OA) (ok:Bool) w3=>(ok=true→(R 10 w3)) ∧
 (ok=false→(∃(v16:T_b),zc w3 b_ 0 [Vi v16.Number,Vs v16.Writes]∧(C_O v16 w3 (fun(v17:Int) w4=>((v17 != 0)=true→(R v17 w4)) ∧
 ((v17 != 0)=false→(∀ w5,(∃ k,w5=w4.drewN k)→(∃(v23:Int),w5.cell? ⟨b_,0,none⟩=some (Vi v23)∧(∃(v24:T_b),zc w5 b_ 0 [Vi v24.Number,Vs v24.Writes]∧(C_Hb v24 w5 (fun(v25:Slc) w6=>w6.cell? ⟨b_,0,none⟩=some (Vi v23)∧(∀ b_1 w7,b_1=w6.heap.size→w7=w6.alloc (Obj.cells ([Vi v23,Vs v25,Vi 0]).toArray y_y (0,0))→((IsAt l_∧(zb w7 (pblk l_) ((poff l_)+5) 1∧(∀ w8,w8=World.puts (pblk l_) ((poff l_)+5) [Value.iface 341 (Vp (some ⟨b_1,0,none⟩))] w7→((R 0 w8))))))))))))))))))))))

def F_R (R:Int→WP) (b_:OA) (t21:Bool) (w3:World):Prop :=
 (t21=true→(R 9 w3)) ∧
 (t21=false→(IsAt b_∧(∃(v26:Slc),w3.cell? ⟨(pblk b_),(poff b_)+1,none⟩=some (Vs v26)∧((0≤(1:Int)∧(1:Int)≤((v26.len:Nat):Int)∧((v26.len:Nat):Int)≤((v26.cap:Nat):Int)∧((v26.cap:Nat):Int)≤((v26.cap:Nat):Int))∧(∀ s,s=Slc.cut 3 v26 1 ((v26.len:Nat):Int) ((v26.cap:Nat):Int)→(IsAt b_∧(zb w3 (pblk b_) ((poff b_)+1) 1∧(∀ w4,w4=World.puts (pblk b_) ((poff b_)+1) [Vs s] w3→(IsAt b_∧(∃(v33:Int),w4.cell? ⟨(pblk b_),(poff b_)+2,none⟩=some (Vi v33)∧(zb w4 (pblk b_) ((poff b_)+2) 1∧(∀ w5,w5=World.puts (pblk b_) ((poff b_)+2) [Vi (IntKind.i64.wrap (v33+1))] w4→(R 0 w5)))))))))))))

def F_8c (l_:OA) (R:Int→WP) (w:World):Prop :=
 C_j l_ w (fun(v6:Bool) w1=>(v6=true→(R 2 w1)) ∧
 (v6=false→(C_h l_ w1 (fun(b_:OA) (ok:Bool) w2=>((!ok)=true→(F_R R b_ true w2)) ∧
 ((!ok)=false→(IsAt b_∧(∃(v18:Slc),w2.cell? ⟨(pblk b_),(poff b_)+1,none⟩=some (Vs v18)∧(F_R R b_ (((v18.len:Nat):Int)==0) w2))))))))

def F_9c (l_:OA) (R:Int→Int→WP) (w:World):Prop :=
 C_j l_ w (fun(v7:Bool) w1=>(v7=true→(R 0 2 w1)) ∧
 (v7=false→(C_h l_ w1 (fun(b_:OA) (ok:Bool) w2=>((!ok)=true→(R 0 9 w2)) ∧
 ((!ok)=false→(C_0 l_ w2 (fun(v18:Bool) w3=>((!v18)=true→(R 0 10 w3)) ∧
 ((!v18)=false→(IsAt l_∧(zb w3 (pblk l_) ((poff l_)+5) 1∧(∀ w4,w4=World.puts (pblk l_) ((poff l_)+5) [Value.iface 198 (Value.agg #[])] w3→(IsAt b_∧(∃(v28:Int),w4.cell? ⟨(pblk b_),(poff b_),none⟩=some (Vi v28)∧(R v28 0 w4))))))))))))))

def F_ad (l_:OA) (R:Bool→WP) (w:World):Prop :=
 (l_.isNone=true→(R true w)) ∧
 (l_.isNone=false→(IsAt l_∧(∃(v9:Value),w.cell? ⟨(pblk l_),(poff l_)+5,none⟩=some (v9)∧(IfV v9∧(R (zhf v9) w)))))

def F_lb (t9:Int) (again_:Slc→Int→WP) (out1:Slc) (w3:World):Prop :=
 again_ out1 (IntKind.i64.wrap (t9+1)) w3

def F_Nb (R:Slc→WP) (b_:Nat) (v7:Slc) (again_:Slc→Int→WP) (out:Slc) (t9:Int) (w2:World):Prop :=
 ((decide (t9<((v7.len:Nat):Int)))=true→(IsAt v7.ptr∧(0≤t9∧t9<((v7.len:Nat):Int)∧(∃(v13:T_d),zc w2 (pblk v7.ptr) ((poff v7.ptr)+t9.toNat*3) [Value.string v13.Key,Value.string v13.Val,Vo v13.Drop]∧(∀ b_1 w4,b_1=w2.heap.size→w4=w2.alloc (Obj.cells ([Value.string ByteArray.empty,Value.string ByteArray.empty,Vo false]).toArray y_b (0,0))→(zb w4 b_1 0 3∧(∀ w5,w5=World.puts b_1 0 [Value.string v13.Key,Value.string v13.Val,Vo v13.Drop] w4→(∃(v15:Slc),w5.cell? ⟨b_,1,none⟩=some (Vs v15)∧((0≤IntKind.i64.wrap (t9+1)∧IntKind.i64.wrap (t9+1)≤((v15.len:Nat):Int)∧((v15.len:Nat):Int)≤((v15.cap:Nat):Int)∧((v15.cap:Nat):Int)≤((v15.cap:Nat):Int))∧(∀ s,s=Slc.cut 3 v15 (IntKind.i64.wrap (t9+1)) ((v15.len:Nat):Int) ((v15.cap:Nat):Int)→(C_b s (Value.func (.func 233) #[] #[Vp (some ⟨b_1,0,none⟩)]) w5 (fun(v20:Bool) w6=>((!v20)=true→(∃(v23:T_d),zc w6 b_1 0 [Value.string v23.Key,Value.string v23.Val,Vo v23.Drop]∧(∀ b_2 w7,b_2=w6.heap.size→w7=w6.alloc (Obj.cells ([Value.string v23.Key,Value.string v23.Val,Vo v23.Drop]).toArray y_b (0,0))→(∃ src,zr w7 (Slc.mk (some ⟨b_2,0,none⟩) 1 1) 3 src∧zo 3 40 y_b [Value.string ByteArray.empty,Value.string ByteArray.empty,Vo false] out src 1 w7 (fun out2 w8=>F_lb t9 again_ out2 w8))))) ∧
 ((!v20)=false→(F_lb t9 again_ out w6)))))))))))))) ∧
 ((decide (t9<((v7.len:Nat):Int)))=false→(R out w2))

def F_hd (t_:T_b) (R:Slc→WP) (w:World):Prop :=
 ∀ b_ w1,b_=w.heap.size→w1=w.alloc (Obj.cells ([Vi t_.Number,Vs t_.Writes]).toArray y_a (0,0))→(∃(v7:Slc),w1.cell? ⟨b_,1,none⟩=some (Vs v7)∧(∃(I:Slc→Int→WP) (μ:Slc→Int→World→Nat),I (Slc.mk none 0 0) 0 w1 ∧
 ∀(out:Slc) (t9:Int) w,I out t9 w→F_Nb R b_ v7 (fun(out':Slc) (t9':Int) w'=>I out' t9' w'∧μ out' t9' w'<μ out t9 w) out t9 w))

def F_rd (x:T_d) (t1:OA) (R:Bool→WP) (w:World):Prop :=
 ∀ b_ w1,b_=w.heap.size→w1=w.alloc (Obj.cells ([Value.string x.Key,Value.string x.Val,Vo x.Drop]).toArray y_b (0,0))→(∃(v5:ByteArray),w1.cell? ⟨b_,0,none⟩=some (Value.string v5)∧(IsAt t1∧(∃(v7:ByteArray),w1.cell? ⟨(pblk t1),(poff t1),none⟩=some (Value.string v7)∧(R (v5.toList==v7.toList) w1))))

def F_ic (k_:OA) (R:Int→WP) (w:World):Prop :=
 IsAt k_∧(∃(v6:OA),w.cell? ⟨(pblk k_),(poff k_)+1,none⟩=some (Vp v6)∧(C_mb v6 w (fun(v7:Int) w1=>((decide (v7>0))=true→(R 7 w1)) ∧
 ((decide (v7>0))=false→(R 0 w1)))))

def F_8 (k_:OA) (R:T_a→WP) (b_:Nat) (b_1:Nat) (w13:World):Prop :=
 ∀ w14,(∃ k,w14=w13.drewN k)→(∃(v69:Int),w14.cell? ⟨b_1,0,none⟩=some (Vi v69)∧(IsAt k_∧(∃(v73:Int),w14.cell? ⟨(pblk k_),(poff k_)+2,none⟩=some (Vi v73)∧(zb w14 b_ 0 6∧(∀ w15,w15=World.puts b_ 0 [Vi 0,Value.int .u8 0,Vi v69,Vi v73,Vi 0,Vi 0] w14→(∃(res1:T_a),zc w15 b_ 0 [Vi res1.Task,Value.int .u8 res1.Kind,Vi res1.Number,Vi res1.Shard,Vi res1.Count,Vi res1.Mark]∧(R res1 w15)))))))

def F_3b (k_:OA) (t1:Int) (R:T_a→WP) (w:World):Prop :=
 ∀ b_ w1,b_=w.heap.size→w1=w.alloc (Obj.cells ([Vi 0,Value.int .u8 0,Vi 0,Vi 0,Vi 0,Vi 0]).toArray y_c (0,0))→(IsAt k_∧(∃(v13:OA),w1.cell? ⟨(pblk k_),(poff k_)+1,none⟩=some (Vp v13)∧(C_bb v13 w1 (fun(v14:T_h) (v14_1:Int) w2=>∀ b_1 w3,b_1=w2.heap.size→w3=w2.alloc (Obj.cells ([Vi 0,Vo false,Value.slice none 0 0,Value.slice none 0 0,Vi 0]).toArray y_t (0,0))→(zb w3 b_1 0 5∧(∀ w4,w4=World.puts b_1 0 [Vi v14.To,Vo v14.OK,Vs v14.Entries,Vs v14.Held,Vi v14.Count] w3→(∃(v18:Int),w4.cell? ⟨b_1,0,none⟩=some (Vi v18)∧(((decide (v18>0))=true→(IsAt k_∧(∃(v24:OA),w4.cell? ⟨(pblk k_),(poff k_),none⟩=some (Vp v24)∧(IsAt v24∧(∃(v27:Slc),w4.cell? ⟨(pblk v24),(poff v24)+8,none⟩=some (Vs v27)∧(∃(v29:Int),w4.cell? ⟨b_1,0,none⟩=some (Vi v29)∧(IsAt v27.ptr∧(0≤IntKind.i64.wrap (v29 - 1)∧IntKind.i64.wrap (v29 - 1)<((v27.len:Nat):Int)∧(∃(l_:OA),w4.cell? ⟨(pblk v27.ptr),(poff v27.ptr)+(IntKind.i64.wrap (v29 - 1)).toNat,none⟩=some (Vp l_)∧(∀ w5,Ext w4 w5→(C_nb l_ w5 (fun(v34:Int) w6=>∀ w7,(∃ k,w7=w6.drewN k)→(IsAt k_∧(∃(v40:Int),w7.cell? ⟨(pblk k_),(poff k_)+2,none⟩=some (Vi v40)∧(C_t l_ w7 (fun(v36:Int) w8=>w8.cell? ⟨(pblk k_),(poff k_)+2,none⟩=some (Vi v40)∧(zb w8 b_ 0 6∧(∀ w9,w9=World.puts b_ 0 [Vi 0,Value.int .u8 0,Vi v36,Vi v40,Vi 0,Vi 0] w8→((∃(res:T_a),zc w9 b_ 0 [Vi res.Task,Value.int .u8 res.Kind,Vi res.Number,Vi res.Shard,Vi res.Count,Vi res.Mark]∧(R res w9))))))))))))))))))))) ∧
 ((decide (v18>0))=false→(IsAt k_∧(∃(v46:OA),w4.cell? ⟨(pblk k_),(poff k_),none⟩=some (Vp v46)∧(IsAt v46∧(∃(v49:Slc),w4.cell? ⟨(pblk v46),(poff v46)+11,none⟩=some (Vs v49)∧(∃(v51:Int),w4.cell? ⟨b_1,0,none⟩=some (Vi v51)∧(IsAt v49.ptr∧(0≤IntKind.i64.wrap ((-1) - v51)∧IntKind.i64.wrap ((-1) - v51)<((v49.len:Nat):Int)∧(∃(c:OA),w4.cell? ⟨(pblk v49.ptr),(poff v49.ptr)+(IntKind.i64.wrap ((-1) - v51)).toNat,none⟩=some (Vp c)∧(∀ w10,Ext w4 w10→(∀ w11,(∃ k,w11=w10.drewN k)→(IsAt c∧(∃(v58:OA),w11.cell? ⟨(pblk c),(poff c)+3,none⟩=some (Vp v58)∧(∃(v59:T_h),zc w11 b_1 0 [Vi v59.To,Vo v59.OK,Vs v59.Entries,Vs v59.Held,Vi v59.Count]∧(C_kc v58 v59 w11 (fun(v60:Int) w12=>IsAt c∧(∃(v64:OA),w12.cell? ⟨(pblk c),(poff c)+3,none⟩=some (Vp v64)∧(C_jc v64 w12 (fun(v65:Bool) w16=>(v65=true→(C_7b c w16 (fun w17=>F_8 k_ R b_ b_1 w17))) ∧
 (v65=false→(F_8 k_ R b_ b_1 w16)))))))))))))))))))))))))))))

def F_Jb (r:OA) (R:Int→WP) (w:World):Prop :=
 C_q r w (fun(v4:Bool) w1=>(v4=true→(R 0 w1)) ∧
 (v4=false→(IsAt r∧(∃(v8:Int),w1.cell? ⟨(pblk r),(poff r)+2,none⟩=some (Vi v8)∧(R v8 w1)))))

def F_sc (o_:OA) (R:T_h→Int→WP) (w:World):Prop :=
 ∀ b_ w1,b_=w.heap.size→w1=w.alloc (Obj.cells ([Vi 0,Vo false,Value.slice none 0 0,Value.slice none 0 0,Vi 0]).toArray y_t (0,0))→(C_i o_ w1 (fun(v8:Bool) w2=>((!v8)=true→(zb w2 b_ 0 5∧(∀ w3,w3=World.puts b_ 0 [Vi 0,Vo false,Value.slice none 0 0,Value.slice none 0 0,Vi 0] w2→(∃(res:T_h),zc w3 b_ 0 [Vi res.To,Vo res.OK,Vs res.Entries,Vs res.Held,Vi res.Count]∧(R res 2 w3))))) ∧
 ((!v8)=false→(IsAt o_∧(∃(v15:OA),w2.cell? ⟨(pblk o_),(poff o_)+1,none⟩=some (Vp v15)∧(C_Q v15 w2 (fun(v16:T_c) (ok:Bool) w4=>∀ b_1 w5,b_1=w4.heap.size→w5=w4.alloc (Obj.cells ([Value.int .u8 0,Vi 0,Vi 0,Value.string ByteArray.empty,Value.string ByteArray.empty,Vo false,Value.string ByteArray.empty,Value.string ByteArray.empty,Value.slice none 0 0]).toArray y_g (0,0))→(zb w5 b_1 0 9∧(∀ w6,w6=World.puts b_1 0 [Value.int .u8 v16.Kind,Vi v16.From,Vi v16.Number,Value.string v16.Write.Key,Value.string v16.Write.Val,Vo v16.Write.Drop,Value.string v16.Key,Value.string v16.End,Vs v16.Beyond] w5→(((!ok)=true→(zb w6 b_ 0 5∧(∀ w7,w7=World.puts b_ 0 [Vi 0,Vo false,Value.slice none 0 0,Value.slice none 0 0,Vi 0] w6→(∃(res1:T_h),zc w7 b_ 0 [Vi res1.To,Vo res1.OK,Vs res1.Entries,Vs res1.Held,Vi res1.Count]∧(R res1 9 w7))))) ∧
 ((!ok)=false→(∃(v23:Int),w6.cell? ⟨b_1,1,none⟩=some (Vi v23)∧(∀ b_2 w8,b_2=w6.heap.size→w8=w6.alloc (Obj.cells ([Vi 0,Vo false,Value.slice none 0 0,Value.slice none 0 0,Vi 0]).toArray y_t (0,0))→(zb w8 b_2 0 5∧(∀ w9,w9=World.puts b_2 0 [Vi v23,Vo true,Value.slice none 0 0,Value.slice none 0 0,Vi 0] w8→(∀ w10,(∃ k,w10=w9.drewN k)→(∃(v28:Int),w10.cell? ⟨b_1,0,none⟩=some (Value.int .u8 v28)∧(∃(v30:T_c),zc w10 b_1 0 [Value.int .u8 v30.Kind,Vi v30.From,Vi v30.Number,Value.string v30.Write.Key,Value.string v30.Write.Val,Vo v30.Write.Drop,Value.string v30.Key,Value.string v30.End,Vs v30.Beyond]∧(C_Ib o_ w10 (fun(v26:zYb) w11=>zc w11 b_1 0 [Value.int .u8 v30.Kind,Vi v30.From,Vi v30.Number,Value.string v30.Write.Key,Value.string v30.Write.Val,Vo v30.Write.Drop,Value.string v30.Key,Value.string v30.End,Vs v30.Beyond]∧w11.cell? ⟨b_1,0,none⟩=some (Value.int .u8 v28)∧(0≤v28∧v28<(6:Int)∧(zbb (P:=Tryz.prog) (([v26.e0,v26.e1,v26.e2,v26.e3,v26.e4,v26.e5]:List Value).getD v28.toNat Value.nilFunc) #[Value.agg #[Value.int .u8 v30.Kind,Vi v30.From,Vi v30.Number,Value.string v30.Write.Key,Value.string v30.Write.Val,Vo v30.Write.Drop,Value.string v30.Key,Value.string v30.End,Vs v30.Beyond],Vp (some ⟨b_2,0,none⟩)] w11 (fun e' w12=>∃(_u:Unit),e'=Ending.returned (Value.tuple #[])∧(∃(v32:T_h),zc w12 b_2 0 [Vi v32.To,Vo v32.OK,Vs v32.Entries,Vs v32.Held,Vi v32.Count]∧(zb w12 b_ 0 5∧(∀ w13,w13=World.puts b_ 0 [Vi v32.To,Vo v32.OK,Vs v32.Entries,Vs v32.Held,Vi v32.Count] w12→(∃(res2:T_h),zc w13 b_ 0 [Vi res2.To,Vo res2.OK,Vs res2.Entries,Vs res2.Held,Vi res2.Count]∧(R res2 0 w13))))))))))))))))))))))))))))

def F_I (R:Int→WP) (b_:OA) (t20:Bool) (w3:World):Prop :=
 (t20=true→(R 9 w3)) ∧
 (t20=false→(IsAt b_∧(∃(v24:Int),w3.cell? ⟨(pblk b_),(poff b_)+2,none⟩=some (Vi v24)∧(zb w3 (pblk b_) ((poff b_)+2) 1∧(∀ w4,w4=World.puts (pblk b_) ((poff b_)+2) [Vi (IntKind.i64.wrap (v24 - 1))] w3→(R 0 w4))))))

def F_Rc (l_:OA) (R:Int→WP) (w:World):Prop :=
 C_j l_ w (fun(v6:Bool) w1=>(v6=true→(R 2 w1)) ∧
 (v6=false→(C_h l_ w1 (fun(b_:OA) (ok:Bool) w2=>((!ok)=true→(F_I R b_ true w2)) ∧
 ((!ok)=false→(IsAt b_∧(∃(v18:Int),w2.cell? ⟨(pblk b_),(poff b_)+2,none⟩=some (Vi v18)∧(F_I R b_ (v18==0) w2))))))))

def F_s (R:T_c→Bool→WP) (b_:Nat) (ok:Bool) (w2:World):Prop :=
 ∃(v42:T_c),zc w2 b_ 0 [Value.int .u8 v42.Kind,Vi v42.From,Vi v42.Number,Value.string v42.Write.Key,Value.string v42.Write.Val,Vo v42.Write.Drop,Value.string v42.Key,Value.string v42.End,Vs v42.Beyond]∧(zb w2 b_ 0 9∧(∀ w3,w3=World.puts b_ 0 [Value.int .u8 v42.Kind,Vi v42.From,Vi v42.Number,Value.string v42.Write.Key,Value.string v42.Write.Val,Vo v42.Write.Drop,Value.string v42.Key,Value.string v42.End,Vs v42.Beyond] w2→(∃(res:T_c),zc w3 b_ 0 [Value.int .u8 res.Kind,Vi res.From,Vi res.Number,Value.string res.Write.Key,Value.string res.Write.Val,Vo res.Write.Drop,Value.string res.Key,Value.string res.End,Vs res.Beyond]∧(R res ok w3))))

def F_Ab (r:OA) (R:T_c→Bool→WP) (w:World):Prop :=
 ∀ b_ w1,b_=w.heap.size→w1=w.alloc (Obj.cells ([Value.int .u8 0,Vi 0,Vi 0,Value.string ByteArray.empty,Value.string ByteArray.empty,Vo false,Value.string ByteArray.empty,Value.string ByteArray.empty,Value.slice none 0 0]).toArray y_g (0,0))→(C_db r w1 (fun(v7:T_c) (ok1:Bool) w4=>zb w4 b_ 0 9∧(∀ w5,w5=World.puts b_ 0 [Value.int .u8 v7.Kind,Vi v7.From,Vi v7.Number,Value.string v7.Write.Key,Value.string v7.Write.Val,Vo v7.Write.Drop,Value.string v7.Key,Value.string v7.End,Vs v7.Beyond] w4→((ok1=true→(∀ b_1 w6,b_1=w5.heap.size→w6=w5.alloc (Obj.cells ([Value.int .u8 0,Vi 0,Vi 0,Value.string ByteArray.empty,Value.string ByteArray.empty,Vo false,Value.string ByteArray.empty,Value.string ByteArray.empty,Value.slice none 0 0]).toArray y_g (0,0))→(∀ w7,(∃ k,w7=w6.drewN k)→(IsAt r∧(∃(v14:Slc),w7.cell? ⟨(pblk r),(poff r),none⟩=some (Vs v14)∧(IsAt r∧(∃(v18:Int),w7.cell? ⟨(pblk r),(poff r)+1,none⟩=some (Vi v18)∧(∃(v19:T_c),zc w7 b_1 0 [Value.int .u8 v19.Kind,Vi v19.From,Vi v19.Number,Value.string v19.Write.Key,Value.string v19.Write.Val,Vo v19.Write.Drop,Value.string v19.Key,Value.string v19.End,Vs v19.Beyond]∧(IsAt v14.ptr∧(0≤v18∧v18<((v14.len:Nat):Int)∧(zb w7 (pblk v14.ptr) ((poff v14.ptr)+v18.toNat*9) 9∧(∀ w8,w8=World.puts (pblk v14.ptr) ((poff v14.ptr)+v18.toNat*9) [Value.int .u8 v19.Kind,Vi v19.From,Vi v19.Number,Value.string v19.Write.Key,Value.string v19.Write.Val,Vo v19.Write.Drop,Value.string v19.Key,Value.string v19.End,Vs v19.Beyond] w7→(∀ w9,(∃ k,w9=w8.drewN k)→(IsAt r∧(∃(v25:Int),w9.cell? ⟨(pblk r),(poff r)+1,none⟩=some (Vi v25)∧(IsAt r∧(∃(v30:Slc),w9.cell? ⟨(pblk r),(poff r),none⟩=some (Vs v30)∧(((v30.len:Nat):Int)≠0∧(IsAt r∧(zb w9 (pblk r) ((poff r)+1) 1∧(∀ w10,w10=World.puts (pblk r) ((poff r)+1) [Vi (Int.tmod (IntKind.i64.wrap (v25+1)) ((v30.len:Nat):Int))] w9→(IsAt r∧(∃(v38:Int),w10.cell? ⟨(pblk r),(poff r)+2,none⟩=some (Vi v38)∧(zb w10 (pblk r) ((poff r)+2) 1∧(∀ w11,w11=World.puts (pblk r) ((poff r)+2) [Vi (IntKind.i64.wrap (v38 - 1))] w10→(F_s R b_ ok1 w11)))))))))))))))))))))))))) ∧
 (ok1=false→(F_s R b_ ok1 w5))))))

def F_jc (o_:OA) (R:zYb→WP) (w:World):Prop :=
 ∀ b_ w1,b_=w.heap.size→w1=w.alloc (Obj.cells ([Vp o_]).toArray y_m (0,0))→(∀ b_1 w2,b_1=w1.heap.size→w2=w1.alloc (Obj.cells ([Value.nilFunc,Value.nilFunc,Value.nilFunc,Value.nilFunc,Value.nilFunc,Value.nilFunc]).toArray y_n (0,0))→(zb w2 b_1 0 6∧(∀ w3,w3=World.puts b_1 0 [Value.nilFunc,Value.func (.func 248) #[] #[Vp (some ⟨b_,0,none⟩)],Value.func (.func 250) #[] #[Vp (some ⟨b_,0,none⟩)],Value.func (.func 252) #[] #[Vp (some ⟨b_,0,none⟩)],Value.func (.func 254) #[] #[Vp (some ⟨b_,0,none⟩)],Value.func (.func 256) #[] #[Vp (some ⟨b_,0,none⟩)]] w2→(∃(res:zYb),zc w3 b_1 0 [res.e0,res.e1,res.e2,res.e3,res.e4,res.e5]∧(R res w3)))))

def F_qb (r:OA) (R:T_c→Bool→WP) (w:World):Prop :=
 ∀ b_ w1,b_=w.heap.size→w1=w.alloc (Obj.cells ([Value.int .u8 0,Vi 0,Vi 0,Value.string ByteArray.empty,Value.string ByteArray.empty,Vo false,Value.string ByteArray.empty,Value.string ByteArray.empty,Value.slice none 0 0]).toArray y_g (0,0))→(C_w r w1 (fun(v5:Int) w2=>((v5==0)=true→(∃(v7:T_c),zc w2 b_ 0 [Value.int .u8 v7.Kind,Vi v7.From,Vi v7.Number,Value.string v7.Write.Key,Value.string v7.Write.Val,Vo v7.Write.Drop,Value.string v7.Key,Value.string v7.End,Vs v7.Beyond]∧(zb w2 b_ 0 9∧(∀ w3,w3=World.puts b_ 0 [Value.int .u8 v7.Kind,Vi v7.From,Vi v7.Number,Value.string v7.Write.Key,Value.string v7.Write.Val,Vo v7.Write.Drop,Value.string v7.Key,Value.string v7.End,Vs v7.Beyond] w2→(∃(res:T_c),zc w3 b_ 0 [Value.int .u8 res.Kind,Vi res.From,Vi res.Number,Value.string res.Write.Key,Value.string res.Write.Val,Vo res.Write.Drop,Value.string res.Key,Value.string res.End,Vs res.Beyond]∧(R res false w3)))))) ∧
 ((v5==0)=false→(∀ w4,(∃ k,w4=w2.drewN k)→(IsAt r∧(∃(v11:Slc),w4.cell? ⟨(pblk r),(poff r),none⟩=some (Vs v11)∧(IsAt r∧(∃(v15:Int),w4.cell? ⟨(pblk r),(poff r)+1,none⟩=some (Vi v15)∧(IsAt v11.ptr∧(0≤v15∧v15<((v11.len:Nat):Int)∧(∃(v17:T_c),zc w4 (pblk v11.ptr) ((poff v11.ptr)+v15.toNat*9) [Value.int .u8 v17.Kind,Vi v17.From,Vi v17.Number,Value.string v17.Write.Key,Value.string v17.Write.Val,Vo v17.Write.Drop,Value.string v17.Key,Value.string v17.End,Vs v17.Beyond]∧(zb w4 b_ 0 9∧(∀ w5,w5=World.puts b_ 0 [Value.int .u8 v17.Kind,Vi v17.From,Vi v17.Number,Value.string v17.Write.Key,Value.string v17.Write.Val,Vo v17.Write.Drop,Value.string v17.Key,Value.string v17.End,Vs v17.Beyond] w4→(∃(res1:T_c),zc w5 b_ 0 [Value.int .u8 res1.Kind,Vi res1.From,Vi res1.Number,Value.string res1.Write.Key,Value.string res1.Write.Val,Vo res1.Write.Drop,Value.string res1.Key,Value.string res1.End,Vs res1.Beyond]∧(R res1 true w5)))))))))))))))

def F_Wb (r:T_c) (out:OA) (t2:OA) (R:WP) (w:World):Prop :=
 ∀ b_ w1,b_=w.heap.size→w1=w.alloc (Obj.cells ([Value.int .u8 r.Kind,Vi r.From,Vi r.Number,Value.string r.Write.Key,Value.string r.Write.Val,Vo r.Write.Drop,Value.string r.Key,Value.string r.End,Vs r.Beyond]).toArray y_g (0,0))→(∀ w2,(∃ k,w2=w1.drewN k)→(IsAt t2∧(∃(v7:OA),w2.cell? ⟨(pblk t2),(poff t2),none⟩=some (Vp v7)∧(IsAt v7∧(∃(v10:OA),w2.cell? ⟨(pblk v7),(poff v7),none⟩=some (Vp v10)∧(∃(v12:Int),w2.cell? ⟨b_,2,none⟩=some (Vi v12)∧(∃(v14:T_d),zc w2 b_ 3 [Value.string v14.Key,Value.string v14.Val,Vo v14.Drop]∧(C_F v10 v12 v14 w2 (fun(v15:Bool) (v15_1:Int) w3=>(IsAt out∧(zb w3 (pblk out) ((poff out)+1) 1∧(∀ w4,w4=World.puts (pblk out) ((poff out)+1) [Vo v15] w3→((R w4))))))))))))))

def F_H (R:Bool→Int→WP) (ok1:Bool) (e:Int) (w6:World):Prop :=
 R ok1 e w6

def F_4b (s:OA) (number:Int) (w_:T_d) (R:Bool→Int→WP) (w:World):Prop :=
 ∀ b_ w1,b_=w.heap.size→w1=w.alloc (Obj.cells ([Value.string w_.Key,Value.string w_.Val,Vo w_.Drop]).toArray y_b (0,0))→(C_B s w1 (fun(v13:Bool) w2=>(v13=true→(R false 2 w2)) ∧
 (v13=false→(∃(v16:ByteArray),w2.cell? ⟨b_,0,none⟩=some (Value.string v16)∧(C_Ob v16 w2 (fun(v17:Bool) w3=>((!v17)=true→(R false 1 w3)) ∧
 ((!v17)=false→(∀ w4,(∃ k,w4=w3.drewN k)→(IsAt s∧(∃(v24:Option Nat),w4.cell? ⟨(pblk s),(poff s),none⟩=some (Value.map v24)∧(∃(v26:ByteArray),w4.cell? ⟨b_,0,none⟩=some (Value.string v26)∧(∃(es:Array MapEntry) (v27:Slc) (ok:Bool),zHb w4 v24 es∧(zP isKS es∧((es.toList.map (·.key)).Nodup∧(isKS (Value.string v26)∧(LkIs es (Value.string v26) (Value.slice none 0 0) (Vs v27) ok∧(∃(v30:ByteArray),w4.cell? ⟨b_,1,none⟩=some (Value.string v30)∧(∃(v32:Bool),w4.cell? ⟨b_,2,none⟩=some (Vo v32)∧(C_9b v27 (T_j.mk number v30 v32) w4 (fun(l_:Slc) (ok1:Bool) (e:Int) w5=>(((e==0)=true→(∀ w7,(∃ k,w7=w5.drewN k)→(IsAt s∧(∃(v44:Option Nat),w7.cell? ⟨(pblk s),(poff s),none⟩=some (Value.map v44)∧(∃(v46:ByteArray),w7.cell? ⟨b_,0,none⟩=some (Value.string v46)∧(∃(r:Nat) (es1:Array MapEntry) (c:Nat),v44=some r∧w7.heap[r]? =some (.map es1 c)∧(zP isKS es1∧((es1.toList.map (·.key)).Nodup∧(isKS (Value.string v46)∧(∀ es2 c1 w8,zae es1 c (Value.string v46) (Vs l_) es2 c1→w8={ w7 with heap:=w7.heap.setIfInBounds r (.map es2 c1) }→(F_H R ok1 e w8))))))))))) ∧
 ((e==0)=false→(F_H R ok1 e w5)))))))))))))))))))))))

def F_ib (l_:Slc) (R:Slc→Bool→Int→WP) (b_:Nat) (v20:Int) (t33:Bool) (w4:World):Prop :=
 (t33=true→(C_a l_ w4 (fun(v35:Slc) w5=>R v35 false 0 w5))) ∧
 (t33=false→(∀ w6,(∃ k,w6=w4.drewN k)→(∃(v39:T_j),zc w6 b_ 0 [Vi v39.Number,Value.string v39.Val,Vo v39.Drop]∧((C_a l_ w6 (fun(v37:Slc) w7=>zc w7 b_ 0 [Vi v39.Number,Value.string v39.Val,Vo v39.Drop]∧(∀ b_1 w8,b_1=w7.heap.size→w8=w7.alloc (Obj.cells ([Vi v39.Number,Value.string v39.Val,Vo v39.Drop]).toArray y_d (0,0))→((C_e v37 v20 (Slc.mk (some ⟨b_1,0,none⟩) 1 1) w8 (fun(v41:Slc) w9=>(R v41 true 0 w9))))))) ∧
 (∀ b_2 w10,b_2=w6.heap.size→w10=w6.alloc (Obj.cells ([Vi v39.Number,Value.string v39.Val,Vo v39.Drop]).toArray y_d (0,0))→((C_a l_ w10 (fun(v371:Slc) w11=>(C_e v371 v20 (Slc.mk (some ⟨b_2,0,none⟩) 1 1) w11 (fun(v411:Slc) w12=>(R v411 true 0 w12)))))))))))

def F_jb (l_:Slc) (R:Slc→Bool→Int→WP) (b_:Nat) (t16:Bool) (w2:World):Prop :=
 (t16=true→(R (Slc.mk none 0 0) false 1 w2)) ∧
 (t16=false→(∃(v19:Int),w2.cell? ⟨b_,0,none⟩=some (Vi v19)∧(C_ob l_ v19 w2 (fun(v20:Int) w3=>((decide (v20>0))=true→(IsAt l_.ptr∧(0≤IntKind.i64.wrap (v20 - 1)∧IntKind.i64.wrap (v20 - 1)<((l_.len:Nat):Int)∧(∃(v29:Int),w3.cell? ⟨(pblk l_.ptr),(poff l_.ptr)+(IntKind.i64.wrap (v20 - 1)).toNat*3,none⟩=some (Vi v29)∧(∃(v31:Int),w3.cell? ⟨b_,0,none⟩=some (Vi v31)∧(∀ w13,Ext w3 w13→(F_ib l_ R b_ v20 (v29==v31) w13))))))) ∧
 ((decide (v20>0))=false→(∀ w14,Ext w3 w14→(F_ib l_ R b_ v20 false w14)))))))

def F_Hd (l_:Slc) (v:T_j) (R:Slc→Bool→Int→WP) (w:World):Prop :=
 ∀ b_ w1,b_=w.heap.size→w1=w.alloc (Obj.cells ([Vi v.Number,Value.string v.Val,Vo v.Drop]).toArray y_d (0,0))→(C_S l_ w1 (fun(v9:Int) w15=>((v9 != 0)=true→(F_jb l_ R b_ true w15)) ∧
 ((v9 != 0)=false→(∃(v12:T_j),zc w15 b_ 0 [Vi v12.Number,Value.string v12.Val,Vo v12.Drop]∧(∀ b_3 w16,b_3=w15.heap.size→w16=w15.alloc (Obj.cells ([Vi v12.Number,Value.string v12.Val,Vo v12.Drop]).toArray y_d (0,0))→(C_S (Slc.mk (some ⟨b_3,0,none⟩) 1 1) w16 (fun(v14:Int) w17=>F_jb l_ R b_ (v14 != 0) w17)))))))

def F_Sc (l_:Slc) (at_:Int) (R:Int→WP) (w:World):Prop :=
 C_gc ((l_.len:Nat):Int) (Value.func (.func 275) #[Value.agg #[Vs l_,Vi at_]] #[]) w (fun(v11:Int) w1=>R v11 w1)

def F_B (s:Slc) (i:Int) (v:Slc) (R:Slc→WP) (w:World):Prop :=
 (0≤i∧i≤((s.len:Nat):Int)∧((s.len:Nat):Int)≤((s.cap:Nat):Int)∧((s.cap:Nat):Int)≤((s.cap:Nat):Int))∧(∀ s1,s1=Slc.cut 3 s i ((s.len:Nat):Int) ((s.cap:Nat):Int)→(((((v.len:Nat):Int)==0)=true→(R s w)) ∧
 ((((v.len:Nat):Int)==0)=false→(((i==((s.len:Nat):Int))=true→(∃ src,zr w v 3 src∧zo 3 32 y_d [Vi 0,Value.string ByteArray.empty,Vo false] s src v.len w (fun v25 w1=>R v25 w1))) ∧
 ((i==((s.len:Nat):Int))=false→(((decide ((IntKind.i64.wrap (((s.len:Nat):Int)+((v.len:Nat):Int)))>((s.cap:Nat):Int)))=true→(0≤i∧i≤((s.cap:Nat):Int)∧(0≤IntKind.i64.wrap ((IntKind.i64.wrap (((s.len:Nat):Int)+((v.len:Nat):Int))) - i)∧IntKind.i64.wrap ((IntKind.i64.wrap (((s.len:Nat):Int)+((v.len:Nat):Int))) - i)*(32:Int)≤281474976710656∧zo 3 32 y_d [Vi 0,Value.string ByteArray.empty,Vo false] (Slc.mk s.ptr i.toNat s.cap) (zu ((IntKind.i64.wrap ((IntKind.i64.wrap (((s.len:Nat):Int)+((v.len:Nat):Int))) - i)).toNat) [Vi 0,Value.string ByteArray.empty,Vo false]).toList ((IntKind.i64.wrap ((IntKind.i64.wrap (((s.len:Nat):Int)+((v.len:Nat):Int))) - i)).toNat) w (fun s2 w2=>(0≤i∧i≤((s2.len:Nat):Int)∧((s2.len:Nat):Int)≤((s2.cap:Nat):Int)∧((s2.cap:Nat):Int)≤((s2.cap:Nat):Int))∧(∀ s3,s3=Slc.cut 3 s2 i ((s2.len:Nat):Int) ((s2.cap:Nat):Int)→(∃ src,zBb w2 v (min v.len s3.len) 3 src∧zhd s3 src w2 (fun w3=>∀ w4,(∃ k,w4=w3.drewN k)→((0≤IntKind.i64.wrap (i+((v.len:Nat):Int))∧IntKind.i64.wrap (i+((v.len:Nat):Int))≤((s2.len:Nat):Int)∧((s2.len:Nat):Int)≤((s2.cap:Nat):Int)∧((s2.cap:Nat):Int)≤((s2.cap:Nat):Int))∧(∀ s4,s4=Slc.cut 3 s2 (IntKind.i64.wrap (i+((v.len:Nat):Int))) ((s2.len:Nat):Int) ((s2.cap:Nat):Int)→((0≤i∧i≤((s.len:Nat):Int)∧((s.len:Nat):Int)≤((s.cap:Nat):Int)∧((s.cap:Nat):Int)≤((s.cap:Nat):Int))∧(∀ s5,s5=Slc.cut 3 s i ((s.len:Nat):Int) ((s.cap:Nat):Int)→(∃ src,zBb w4 s5 (min s5.len s4.len) 3 src∧zhd s4 src w4 (fun w5=>R s2 w5))))))))))))) ∧
 ((decide ((IntKind.i64.wrap (((s.len:Nat):Int)+((v.len:Nat):Int)))>((s.cap:Nat):Int)))=false→(0≤IntKind.i64.wrap (((s.len:Nat):Int)+((v.len:Nat):Int))∧IntKind.i64.wrap (((s.len:Nat):Int)+((v.len:Nat):Int))≤((s.cap:Nat):Int)∧((0≤IntKind.i64.wrap (i+((v.len:Nat):Int))∧IntKind.i64.wrap (i+((v.len:Nat):Int))≤(((IntKind.i64.wrap (((s.len:Nat):Int)+((v.len:Nat):Int))).toNat:Nat):Int)∧(((IntKind.i64.wrap (((s.len:Nat):Int)+((v.len:Nat):Int))).toNat:Nat):Int)≤((s.cap:Nat):Int)∧((s.cap:Nat):Int)≤((s.cap:Nat):Int))∧(∀ s6,s6=Slc.cut 3 (Slc.mk s.ptr ((IntKind.i64.wrap (((s.len:Nat):Int)+((v.len:Nat):Int))).toNat) s.cap) (IntKind.i64.wrap (i+((v.len:Nat):Int))) (((IntKind.i64.wrap (((s.len:Nat):Int)+((v.len:Nat):Int))).toNat:Nat):Int) ((s.cap:Nat):Int)→(zig w v s6∧(((!false)=true→(∀ w6,(∃ k,w6=w.drewN k)→((0≤IntKind.i64.wrap (i+((v.len:Nat):Int))∧IntKind.i64.wrap (i+((v.len:Nat):Int))≤(((IntKind.i64.wrap (((s.len:Nat):Int)+((v.len:Nat):Int))).toNat:Nat):Int)∧(((IntKind.i64.wrap (((s.len:Nat):Int)+((v.len:Nat):Int))).toNat:Nat):Int)≤((s.cap:Nat):Int)∧((s.cap:Nat):Int)≤((s.cap:Nat):Int))∧(∀ s7,s7=Slc.cut 3 (Slc.mk s.ptr ((IntKind.i64.wrap (((s.len:Nat):Int)+((v.len:Nat):Int))).toNat) s.cap) (IntKind.i64.wrap (i+((v.len:Nat):Int))) (((IntKind.i64.wrap (((s.len:Nat):Int)+((v.len:Nat):Int))).toNat:Nat):Int) ((s.cap:Nat):Int)→((0≤i∧i≤(((IntKind.i64.wrap (((s.len:Nat):Int)+((v.len:Nat):Int))).toNat:Nat):Int)∧(((IntKind.i64.wrap (((s.len:Nat):Int)+((v.len:Nat):Int))).toNat:Nat):Int)≤((s.cap:Nat):Int)∧((s.cap:Nat):Int)≤((s.cap:Nat):Int))∧(∀ s8,s8=Slc.cut 3 (Slc.mk s.ptr ((IntKind.i64.wrap (((s.len:Nat):Int)+((v.len:Nat):Int))).toNat) s.cap) i (((IntKind.i64.wrap (((s.len:Nat):Int)+((v.len:Nat):Int))).toNat:Nat):Int) ((s.cap:Nat):Int)→(∃ src,zBb w6 s8 (min s8.len s7.len) 3 src∧zhd s7 src w6 (fun w7=>(0≤i∧i≤(((IntKind.i64.wrap (((s.len:Nat):Int)+((v.len:Nat):Int))).toNat:Nat):Int)∧(((IntKind.i64.wrap (((s.len:Nat):Int)+((v.len:Nat):Int))).toNat:Nat):Int)≤((s.cap:Nat):Int)∧((s.cap:Nat):Int)≤((s.cap:Nat):Int))∧(∀ s9,s9=Slc.cut 3 (Slc.mk s.ptr ((IntKind.i64.wrap (((s.len:Nat):Int)+((v.len:Nat):Int))).toNat) s.cap) i (((IntKind.i64.wrap (((s.len:Nat):Int)+((v.len:Nat):Int))).toNat:Nat):Int) ((s.cap:Nat):Int)→(∃ src,zBb w7 v (min v.len s9.len) 3 src∧zhd s9 src w7 (fun w8=>R (Slc.mk s.ptr ((IntKind.i64.wrap (((s.len:Nat):Int)+((v.len:Nat):Int))).toNat) s.cap) w8))))))))))) ∧
 ((!false)=false→((0≤((s.len:Nat):Int)∧((s.len:Nat):Int)≤(((IntKind.i64.wrap (((s.len:Nat):Int)+((v.len:Nat):Int))).toNat:Nat):Int)∧(((IntKind.i64.wrap (((s.len:Nat):Int)+((v.len:Nat):Int))).toNat:Nat):Int)≤((s.cap:Nat):Int)∧((s.cap:Nat):Int)≤((s.cap:Nat):Int))∧(∀ s10,s10=Slc.cut 3 (Slc.mk s.ptr ((IntKind.i64.wrap (((s.len:Nat):Int)+((v.len:Nat):Int))).toNat) s.cap) ((s.len:Nat):Int) (((IntKind.i64.wrap (((s.len:Nat):Int)+((v.len:Nat):Int))).toNat:Nat):Int) ((s.cap:Nat):Int)→(∃ src,zBb w v (min v.len s10.len) 3 src∧zhd s10 src w (fun w9=>(0≤i∧i≤(((IntKind.i64.wrap (((s.len:Nat):Int)+((v.len:Nat):Int))).toNat:Nat):Int)∧(((IntKind.i64.wrap (((s.len:Nat):Int)+((v.len:Nat):Int))).toNat:Nat):Int)≤((s.cap:Nat):Int)∧((s.cap:Nat):Int)≤((s.cap:Nat):Int))∧(∀ s11,s11=Slc.cut 3 (Slc.mk s.ptr ((IntKind.i64.wrap (((s.len:Nat):Int)+((v.len:Nat):Int))).toNat) s.cap) i (((IntKind.i64.wrap (((s.len:Nat):Int)+((v.len:Nat):Int))).toNat:Nat):Int) ((s.cap:Nat):Int)→(C_yb s11 ((v.len:Nat):Int) w9 (fun w10=>R (Slc.mk s.ptr ((IntKind.i64.wrap (((s.len:Nat):Int)+((v.len:Nat):Int))).toNat) s.cap) w10))))))))))))))))))))

def F_kc (f:Value) (R:Int→WP) (again_:Int→Int→WP) (i:Int) (j:Int) (w1:World):Prop :=
 ((decide (i<j))=true→(zbb (P:=Tryz.prog) f #[Vi (IntKind.i64.wrap (Int.fdiv (IntKind.u64.wrap (IntKind.i64.wrap (i+j))) (2 ^ 1)))] w1 (fun e' w2=>∃(v20:Bool),e'=Ending.returned (Vo v20)∧(((!v20)=true→(again_ (IntKind.i64.wrap ((IntKind.i64.wrap (Int.fdiv (IntKind.u64.wrap (IntKind.i64.wrap (i+j))) (2 ^ 1)))+1)) j w2)) ∧
 ((!v20)=false→(again_ i (IntKind.i64.wrap (Int.fdiv (IntKind.u64.wrap (IntKind.i64.wrap (i+j))) (2 ^ 1))) w2)))))) ∧
 ((decide (i<j))=false→(R i w1))

def F_qd (n_:Int) (f:Value) (R:Int→WP) (w:World):Prop :=
 ∃(I:Int→Int→WP) (μ:Int→Int→World→Nat),I 0 n_ w ∧
 ∀(i:Int) (j:Int) w,I i j w→F_kc f R (fun(i':Int) (j':Int) w'=>I i' j' w'∧μ i' j' w'<μ i j w) i j w

def F_Ec (m_:T_n) (i:Int) (R:Bool→WP) (w:World):Prop :=
 ∀ b_ w1,b_=w.heap.size→w1=w.alloc (Obj.cells ([Vs m_.l,Vi m_.at_]).toArray y_I (0,0))→(∃(v6:Slc),w1.cell? ⟨b_,0,none⟩=some (Vs v6)∧(IsAt v6.ptr∧(0≤i∧i<((v6.len:Nat):Int)∧(∃(v10:Int),w1.cell? ⟨(pblk v6.ptr),(poff v6.ptr)+i.toNat*3,none⟩=some (Vi v10)∧(∃(v12:Int),w1.cell? ⟨b_,1,none⟩=some (Vi v12)∧(∀ w2,Ext w1 w2→(R (decide (v10>v12)) w2)))))))

def F_lc (w_:OA) (R:Int→WP) (w:World):Prop :=
 IsAt w_∧(∃(v7:OA),w.cell? ⟨(pblk w_),(poff w_),none⟩=some (Vp v7)∧(IsAt v7∧(∃(v10:Slc),w.cell? ⟨(pblk v7),(poff v7)+14,none⟩=some (Vs v10)∧(((decide (((v10.len:Nat):Int)>0))=true→(R 8 w)) ∧
 ((decide (((v10.len:Nat):Int)>0))=false→(R 0 w))))))

def F_9 (w_:OA) (R:T_a→WP) (b_:Nat) (n_:Int) (free:Slc) (again_:Int→WP) (t53:Int) (w5:World):Prop :=
 ((decide (t53<((free.len:Nat):Int)))=true→(IsAt free.ptr∧(0≤t53∧t53<((free.len:Nat):Int)∧(∃(k_:Int),w5.cell? ⟨(pblk free.ptr),(poff free.ptr)+t53.toNat,none⟩=some (Vi k_)∧(∀ w6,(∃ k,w6=w5.drewN k)→(IsAt w_∧(∃(v61:OA),w6.cell? ⟨(pblk w_),(poff w_),none⟩=some (Vp v61)∧(IsAt w_∧(∃(v66:OA),w6.cell? ⟨(pblk w_),(poff w_),none⟩=some (Vp v66)∧(IsAt v66∧(∃(v69:Slc),w6.cell? ⟨(pblk v66),(poff v66)+12,none⟩=some (Vs v69)∧(IsAt w_∧(∃(v74:OA),w6.cell? ⟨(pblk w_),(poff w_),none⟩=some (Vp v74)∧(IsAt v74∧(∃(v77:Option Nat),w6.cell? ⟨(pblk v74),(poff v74)+13,none⟩=some (Value.map v77)∧(∃(es:Array MapEntry) (v79:T_b) (ok:Bool),zHb w6 v77 es∧(zP isKI es∧((es.toList.map (·.key)).Nodup∧(isKI (Vi k_)∧(LkIs es (Vi k_) (Value.agg #[Vi 0,Value.slice none 0 0]) (Value.agg #[Vi v79.Number,Vs v79.Writes]) ok∧(∀ b_1 w7,b_1=w6.heap.size→w7=w6.alloc (Obj.cells ([Vi v79.Number,Vs v79.Writes]).toArray y_a (0,0))→(w7.cell? ⟨(pblk v66),(poff v66)+12,none⟩=some (Vs v69)∧w7.cell? ⟨(pblk w_),(poff w_),none⟩=some (Vp v66)∧w7.cell? ⟨(pblk w_),(poff w_),none⟩=some (Vp v61)∧(∃ src,zr w7 (Slc.mk (some ⟨b_1,0,none⟩) 1 1) 2 src∧zo 2 32 y_a [Vi 0,Value.slice none 0 0] v69 src 1 w7 (fun v81 w8=>w8.cell? ⟨(pblk w_),(poff w_),none⟩=some (Vp v61)∧(IsAt v61∧(zb w8 (pblk v61) ((poff v61)+12) 1∧(∀ w9,w9=World.puts (pblk v61) ((poff v61)+12) [Vs v81] w8→((IsAt w_∧(∃(v88:OA),w9.cell? ⟨(pblk w_),(poff w_),none⟩=some (Vp v88)∧(IsAt v88∧(∃(v91:Option Nat),w9.cell? ⟨(pblk v88),(poff v88)+13,none⟩=some (Value.map v91)∧(∃(r:Nat) (es1:Array MapEntry) (c:Nat),v91=some r∧w9.heap[r]? =some (.map es1 c)∧(zP isKI es1∧(isKI (Vi k_)∧(∀ es2 w10,zGh es1 (Vi k_) es2→w10={ w9 with heap:=w9.heap.setIfInBounds r (.map es2 c) }→(again_ (IntKind.i64.wrap (t53+1)) w10))))))))))))))))))))))))))))))))))))) ∧
 ((decide (t53<((free.len:Nat):Int)))=false→(IsAt w_∧(∃(v99:OA),w5.cell? ⟨(pblk w_),(poff w_),none⟩=some (Vp v99)∧(IsAt v99∧(∃(v102:OA),w5.cell? ⟨(pblk v99),(poff v99)+7,none⟩=some (Vp v102)∧(C_zb v102 n_ w5 (fun(up:Int) (v104_1:Int) w11=>zb w11 b_ 0 6∧(∀ w12,w12=World.puts b_ 0 [Vi 0,Value.int .u8 0,Vi n_,Vi 0,Vi up,Vi 0] w11→(∃(res:T_a),zc w12 b_ 0 [Vi res.Task,Value.int .u8 res.Kind,Vi res.Number,Vi res.Shard,Vi res.Count,Vi res.Mark]∧(R res w12))))))))))

def F_5b (w_:OA) (t1:Int) (R:T_a→WP) (w:World):Prop :=
 ∀ b_ w1,b_=w.heap.size→w1=w.alloc (Obj.cells ([Vi 0,Value.int .u8 0,Vi 0,Vi 0,Vi 0,Vi 0]).toArray y_c (0,0))→(IsAt w_∧(∃(v16:OA),w1.cell? ⟨(pblk w_),(poff w_),none⟩=some (Vp v16)∧(IsAt v16∧(∃(v19:Slc),w1.cell? ⟨(pblk v16),(poff v16)+14,none⟩=some (Vs v19)∧(IsAt v19.ptr∧(0≤(0:Int)∧(0:Int)<((v19.len:Nat):Int)∧(∃(n_:Int),w1.cell? ⟨(pblk v19.ptr),(poff v19.ptr),none⟩=some (Vi n_)∧(∀ w2,(∃ k,w2=w1.drewN k)→(IsAt w_∧(∃(v26:OA),w2.cell? ⟨(pblk w_),(poff w_),none⟩=some (Vp v26)∧(IsAt w_∧(∃(v31:OA),w2.cell? ⟨(pblk w_),(poff w_),none⟩=some (Vp v31)∧(IsAt v31∧(∃(v34:Slc),w2.cell? ⟨(pblk v31),(poff v31)+14,none⟩=some (Vs v34)∧((0≤(1:Int)∧(1:Int)≤((v34.len:Nat):Int)∧((v34.len:Nat):Int)≤((v34.cap:Nat):Int)∧((v34.cap:Nat):Int)≤((v34.cap:Nat):Int))∧(∀ s,s=Slc.cut 1 v34 1 ((v34.len:Nat):Int) ((v34.cap:Nat):Int)→(IsAt v26∧(zb w2 (pblk v26) ((poff v26)+14) 1∧(∀ w3,w3=World.puts (pblk v26) ((poff v26)+14) [Vs s] w2→(IsAt w_∧(∃(v43:OA),w3.cell? ⟨(pblk w_),(poff w_),none⟩=some (Vp v43)∧(IsAt v43∧(∃(v46:OA),w3.cell? ⟨(pblk v43),(poff v43)+6,none⟩=some (Vp v46)∧(C_1 v46 n_ w3 (fun(free:Slc) (v48_1:Int) w4=>∃(I:Int→WP) (μ:Int→World→Nat),I 0 w4 ∧
 ∀(t53:Int) w,I t53 w→F_9 w_ R b_ n_ free (fun(t53':Int) w'=>I t53' w'∧μ t53' w'<μ t53 w) t53 w)))))))))))))))))))))))))

def F_J (t_:OA) (number:Int) (R:Slc→Int→WP) (b_:Nat) (out:Slc) (again_:Slc→WP) (t38:Bool) (w5:World):Prop :=
 (t38=true→(∃(bm since clock:Nat) (seen:Array Nat) (es4:Array MapEntry) (e:MapEntry) (key:zXd) (val:Bool),w5.heap[b_]? =some (.mapIter (some bm) since (seen.push e.born) clock)∧(w5.heap[bm]? =some (.map es4 clock)∧(e∈es4.toList∧((es4.toList.map (·.born)).Nodup∧(e.key=Value.agg #[Vi key.e0,Vi key.e1]∧(e.val=Vo val∧(∀ b_1 w6,b_1=w5.heap.size→w6=w5.alloc (Obj.cells ([Vi 0,Vi 0]).toArray y_p (0,0))→(zb w6 b_1 0 2∧(∀ w7,w7=World.puts b_1 0 [Vi key.e0,Vi key.e1] w6→(0≤(1:Int)∧(1:Int)<(2:Int)∧(∃(v42:Int),w7.cell? ⟨b_1,1,none⟩=some (Vi v42)∧(((v42 != number)=true→(again_ out w7)) ∧
 ((v42 != number)=false→(∀ w8,(∃ k,w8=w7.drewN k)→(IsAt t_∧(∃(v48:Option Nat),w8.cell? ⟨(pblk t_),(poff t_)+2,none⟩=some (Value.map v48)∧(∃(v49:zXd),zc w8 b_1 0 [Vi v49.e0,Vi v49.e1]∧(∃(r2:Nat) (es5:Array MapEntry) (c2:Nat),v48=some r2∧w8.heap[r2]? =some (.map es5 c2)∧(zP isKP es5∧(isKP (Value.agg #[Vi v49.e0,Vi v49.e1])∧(∀ es6 w9,zGh es5 (Value.agg #[Vi v49.e0,Vi v49.e1]) es6→w9={ w8 with heap:=w8.heap.setIfInBounds r2 (.map es6 c2) }→(∀ w10,(∃ k,w10=w9.drewN k)→(IsAt t_∧(∃(v53:Option Nat),w10.cell? ⟨(pblk t_),(poff t_)+1,none⟩=some (Value.map v53)∧(0≤(0:Int)∧(0:Int)<(2:Int)∧(∃(v55:Int),w10.cell? ⟨b_1,0,none⟩=some (Vi v55)∧(∃(es7:Array MapEntry) (v56:Int) (ok1:Bool),zHb w10 v53 es7∧(zP isKI es7∧((es7.toList.map (·.key)).Nodup∧(isKI (Vi v55)∧(LkIs es7 (Vi v55) (Vi 0) (Vi v56) ok1∧(∃(r3:Nat) (es8:Array MapEntry) (c3:Nat),v53=some r3∧w10.heap[r3]? =some (.map es8 c3)∧(zP isKI es8∧((es8.toList.map (·.key)).Nodup∧(isKI (Vi v55)∧(∀ es9 c4 w11,zae es8 c3 (Vi v55) (Vi (IntKind.i64.wrap (v56 - 1))) es9 c4→w11={ w10 with heap:=w10.heap.setIfInBounds r3 (.map es9 c4) }→(IsAt t_∧(∃(v61:Option Nat),w11.cell? ⟨(pblk t_),(poff t_)+1,none⟩=some (Value.map v61)∧(0≤(0:Int)∧(0:Int)<(2:Int)∧(∃(v63:Int),w11.cell? ⟨b_1,0,none⟩=some (Vi v63)∧(∃(es10:Array MapEntry) (v64:Int) (ok2:Bool),zHb w11 v61 es10∧(zP isKI es10∧((es10.toList.map (·.key)).Nodup∧(isKI (Vi v63)∧(LkIs es10 (Vi v63) (Vi 0) (Vi v64) ok2∧(∀ w12,Ext w11 w12→(((v64==0)=true→(0≤(0:Int)∧(0:Int)<(2:Int)∧(∃(v68:Int),w12.cell? ⟨b_1,0,none⟩=some (Vi v68)∧(∀ b_2 w13,b_2=w12.heap.size→w13=w12.alloc (Obj.cells ([Vi v68]).toArray y_h (0,0))→(∃ src,zr w13 (Slc.mk (some ⟨b_2,0,none⟩) 1 1) 1 src∧zo 1 8 y_h [Vi 0] out src 1 w13 (fun out1 w14=>again_ out1 w14)))))) ∧
 ((v64==0)=false→(again_ out w12)))))))))))))))))))))))))))))))))))))))))))))))))) ∧
 (t38=false→(C_Bb out w5 (fun w15=>R out 0 w15)))

def F_rb (t_:OA) (number:Int) (R:Slc→Int→WP) (b_:Nat) (again_:Slc→WP) (out:Slc) (w4:World):Prop :=
 ∃(bm1 since1 last:Nat) (seen1:Array Nat) (es11:Array MapEntry) (clock1:Nat),w4.heap[b_]? =some (.mapIter (some bm1) since1 seen1 last)∧(w4.heap[bm1]? =some (.map es11 clock1)∧((∀ x∈es11.toList,x.born<since1)∧(since1≤last∧(((∀ x∈es11.toList,seen1.contains x.born=true)→(F_J t_ number R b_ out again_ false w4))∧(∀ e1 w16 w17,e1∈es11.toList→seen1.contains e1.born=false→(∃ k,w16=w4.drewN k)→w17={ w16 with heap:=w16.heap.setIfInBounds b_ (.mapIter (some bm1) since1 (seen1.push e1.born) clock1) }→(F_J t_ number R b_ out again_ true w17))))))

def F_Tc (t_:OA) (number:Int) (R:Slc→Int→WP) (w:World):Prop :=
 C_Y t_ w (fun(v11:Bool) w1=>(v11=true→(R (Slc.mk none 0 0) 2 w1)) ∧
 (v11=false→(IsAt t_∧(∃(v16:Option Nat),w1.cell? ⟨(pblk t_),(poff t_)+1,none⟩=some (Value.map v16)∧(∃(es:Array MapEntry) (n_:Int) (ok:Bool),zHb w1 v16 es∧(zP isKI es∧((es.toList.map (·.key)).Nodup∧(isKI (Vi number)∧(LkIs es (Vi number) (Vi 0) (Vi n_) ok∧(((!ok)=true→(R (Slc.mk none 0 0) 1 w1)) ∧
 ((!ok)=false→(((decide (n_>0))=true→(R (Slc.mk none 0 0) 6 w1)) ∧
 ((decide (n_>0))=false→(IsAt t_∧(∃(v30:Option Nat),w1.cell? ⟨(pblk t_),(poff t_)+1,none⟩=some (Value.map v30)∧(∃(r:Nat) (es1:Array MapEntry) (c:Nat),v30=some r∧w1.heap[r]? =some (.map es1 c)∧(zP isKI es1∧(isKI (Vi number)∧(∀ es2 w2,zGh es1 (Vi number) es2→w2={ w1 with heap:=w1.heap.setIfInBounds r (.map es2 c) }→(IsAt t_∧(∃(v35:Option Nat),w2.cell? ⟨(pblk t_),(poff t_)+2,none⟩=some (Value.map v35)∧(∃(r1:Nat) (es3:Array MapEntry) (c1:Nat),v35=some r1∧(w2.heap[r1]? =some (.map es3 c1)∧(∀ b_ w3,b_=w2.heap.size→w3=w2.alloc (Obj.mapIter (some r1) c1 #[] c1)→(∃(I:Slc→WP) (μ:Slc→World→Nat),I (Slc.mk none 0 0) w3 ∧
 ∀(out:Slc) w,I out w→F_rb t_ number R b_ (fun(out':Slc) w'=>I out' w'∧μ out' w'<μ out w) out w)))))))))))))))))))))))))

def F_Eb (g:OA) (R:Int→Int→WP) (again_:Int→WP) (up:Int) (w4:World):Prop :=
 IsAt g∧(∃(v36:Int),w4.cell? ⟨(pblk g),(poff g)+1,none⟩=some (Vi v36)∧(C_hb g (IntKind.i64.wrap (v36+1)) w4 (fun(v38:Bool) w5=>(v38=true→(IsAt g∧(∃(v44:Int),w5.cell? ⟨(pblk g),(poff g)+1,none⟩=some (Vi v44)∧(zb w5 (pblk g) ((poff g)+1) 1∧(∀ w6,w6=World.puts (pblk g) ((poff g)+1) [Vi (IntKind.i64.wrap (v44+1))] w5→(∀ w7,(∃ k,w7=w6.drewN k)→(IsAt g∧(∃(v52:Int),w7.cell? ⟨(pblk g),(poff g)+1,none⟩=some (Vi v52)∧(IsAt g∧(0≤IntKind.i64.wrap (Int.tdiv v52 64)∧IntKind.i64.wrap (Int.tdiv v52 64)<(1025:Int)∧(∃(v57:Int),w7.cell? ⟨(pblk g),((poff g)+2)+(IntKind.i64.wrap (Int.tdiv v52 64)).toNat,none⟩=some (Value.int .u64 v57)∧(IsAt g∧(∃(v61:Int),w7.cell? ⟨(pblk g),(poff g)+1,none⟩=some (Vi v61)∧(0≤Int.tmod v61 64∧(0≤IntKind.i64.wrap (Int.tdiv v52 64)∧IntKind.i64.wrap (Int.tdiv v52 64)<(1025:Int)∧(zb w7 (pblk g) (((poff g)+2)+(IntKind.i64.wrap (Int.tdiv v52 64)).toNat) 1∧(∀ w8,w8=World.puts (pblk g) (((poff g)+2)+(IntKind.i64.wrap (Int.tdiv v52 64)).toNat) [Value.int .u64 (z1h .u64 v57 (IntKind.u64.wrap (1*2 ^ (min (Int.tmod v61 64).toNat 64))))] w7→(again_ (IntKind.i64.wrap (up+1)) w8)))))))))))))))))) ∧
 (v38=false→(R up 0 w5)))))

def F_S (g:OA) (number:Int) (R:Int→Int→WP) (t17:Bool) (w2:World):Prop :=
 (t17=true→(R 0 1 w2)) ∧
 (t17=false→(C_cb g number w2 (fun w3=>∃(I:Int→WP) (μ:Int→World→Nat),I 0 w3 ∧
 ∀(up:Int) w,I up w→F_Eb g R (fun(up':Int) w'=>I up' w'∧μ up' w'<μ up w) up w)))

def F_eb (g:OA) (number:Int) (R:Int→Int→WP) (t7:Bool) (w1:World):Prop :=
 (t7=true→(R 0 2 w1)) ∧
 (t7=false→((((decide (number<1))||(decide (number>65536)))=true→(F_S g number R true w1)) ∧
 (((decide (number<1))||(decide (number>65536)))=false→(C_Jb g number w1 (fun(v27:Bool) w9=>F_S g number R v27 w9)))))

def F_bd (g:OA) (number:Int) (R:Int→Int→WP) (w:World):Prop :=
 (g.isNone=true→(F_eb g number R true w)) ∧
 (g.isNone=false→(IsAt g∧(∃(v14:Bool),w.cell? ⟨(pblk g),(poff g),none⟩=some (Vo v14)∧(F_eb g number R (!v14) w))))

def F_id (g:OA) (number:Int) (R:Bool→WP) (w:World):Prop :=
 ((!g.isNone)=true→(IsAt g∧(∃(v11:Bool),w.cell? ⟨(pblk g),(poff g),none⟩=some (Vo v11)∧(((v11&&(decide (number≥1)))=true→(IsAt g∧(∃(v22:Int),w.cell? ⟨(pblk g),(poff g)+1,none⟩=some (Vi v22)∧(((decide (number≤v22))=true→(R true w)) ∧
 ((decide (number≤v22))=false→(C_hb g number w (fun(v27:Bool) w1=>R v27 w1))))))) ∧
 ((v11&&(decide (number≥1)))=false→(R false w)))))) ∧
 ((!g.isNone)=false→(R false w))

def F_cd (t0:T_l) (R:T_d→Bool→WP) (w:World):Prop :=
 ∀ b_ w1,b_=w.heap.size→w1=w.alloc (Obj.cells ([]).toArray y_N (0,0))→(∀ b_1 w2,b_1=w1.heap.size→w2=w1.alloc (Obj.cells ([Value.string ByteArray.empty,Value.string ByteArray.empty,Vo false]).toArray y_b (0,0))→(zb w2 b_1 0 3∧(∀ w3,w3=World.puts b_1 0 [Value.string ByteArray.empty,Value.string ByteArray.empty,Vo false] w2→(∃(res:T_d),zc w3 b_1 0 [Value.string res.Key,Value.string res.Val,Vo res.Drop]∧(R res false w3)))))

def F_dd (b_:OA) (R:T_d→Bool→WP) (w:World):Prop :=
 ∀ b_1 w1,b_1=w.heap.size→w1=w.alloc (Obj.cells ([Value.string ByteArray.empty,Value.string ByteArray.empty,Vo false]).toArray y_b (0,0))→(IsAt b_∧(∃(v7:Slc),w1.cell? ⟨(pblk b_),(poff b_)+1,none⟩=some (Vs v7)∧(((((v7.len:Nat):Int)==0)=true→(zb w1 b_1 0 3∧(∀ w2,w2=World.puts b_1 0 [Value.string ByteArray.empty,Value.string ByteArray.empty,Vo false] w1→(∃(res:T_d),zc w2 b_1 0 [Value.string res.Key,Value.string res.Val,Vo res.Drop]∧(R res false w2))))) ∧
 ((((v7.len:Nat):Int)==0)=false→(IsAt b_∧(∃(v14:Slc),w1.cell? ⟨(pblk b_),(poff b_)+1,none⟩=some (Vs v14)∧(IsAt v14.ptr∧(0≤(0:Int)∧(0:Int)<((v14.len:Nat):Int)∧(∃(v16:T_d),zc w1 (pblk v14.ptr) (poff v14.ptr) [Value.string v16.Key,Value.string v16.Val,Vo v16.Drop]∧(zb w1 b_1 0 3∧(∀ w3,w3=World.puts b_1 0 [Value.string v16.Key,Value.string v16.Val,Vo v16.Drop] w1→(∃(res1:T_d),zc w3 b_1 0 [Value.string res1.Key,Value.string res1.Val,Vo res1.Drop]∧(R res1 true w3)))))))))))))

theorem zqg:zjd Tryz.prog 178 isKP:=keyP (et:=3) K_ K_ K_ K_ K_

def O_d (w:World) (x:T_f):Prop:=((-9223372036854775808)≤x.Lanes∧x.Lanes≤9223372036854775807)∧((-9223372036854775808)≤x.Shards∧x.Shards≤9223372036854775807)∧((-9223372036854775808)≤x.Window∧x.Window≤9223372036854775807)∧((-9223372036854775808)≤x.Queue∧x.Queue≤9223372036854775807)

def O_c (w:World) (x:T_d):Prop:=(x.Key.size≤140737488351232)∧(x.Val.size≤140737488351232)∧True

def O_a (w:World) (x:T_b):Prop:=((-9223372036854775808)≤x.Number∧x.Number≤9223372036854775807)∧(OkSl w x.Writes 3 40 (fun es=>∃ e_:T_d,es=[Value.string e_.Key,Value.string e_.Val,Vo e_.Drop]∧(O_c w e_)))

def O_b (w:World) (x:T_g):Prop:=(O_d w x.Config)∧(OkSl w x.Log 2 32 (fun es=>∃ e_:T_b,es=[Vi e_.Number,Vs e_.Writes]∧(O_a w e_)))∧((-9223372036854775808)≤x.Capacity∧x.Capacity≤9223372036854775807)∧((-9223372036854775808)≤x.Fed∧x.Fed≤9223372036854775807)∧(OkSl w x.Picks 1 8 (fun es=>∃ e_:Int,es=[Vi e_]∧((-9223372036854775808)≤e_∧e_≤9223372036854775807)))

end Go.Proofs.YtofjmclceflgiaaGreat
