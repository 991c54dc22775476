/-
  A part of the proof of TopCollects.
  Conditions: none.
-/
import Derived.Test.YtofjmclceflgiaaGreatRows
import Derived.Test.YtofjmclceflgiaaGreatCoreB
namespace Go.Proofs.YtofjmclceflgiaaGreat
open Go
open Go.IntKind (i64 u64 u32 u8)
set_option linter.unusedVariables false
abbrev y_g:TypeId:=3
abbrev y_8:TypeId:=4
abbrev y_k:TypeId:=5
abbrev y_9:TypeId:=9
abbrev y_l:TypeId:=23
abbrev y_U:TypeId:=25
abbrev y_s:TypeId:=27
abbrev y_d:TypeId:=35
abbrev y_Y:TypeId:=36
abbrev y_A:TypeId:=40
abbrev y_7:TypeId:=43
abbrev y_B:TypeId:=52
abbrev y_D:TypeId:=54
abbrev y_Q:TypeId:=57
abbrev y_f:TypeId:=69
abbrev y_a:TypeId:=72
abbrev y_h:TypeId:=74
abbrev y_m:TypeId:=84
abbrev y_c:TypeId:=89
abbrev y_b:TypeId:=92
abbrev y_y:TypeId:=94
abbrev y_q:TypeId:=97
abbrev y_C:TypeId:=99
abbrev y_o:TypeId:=102
abbrev y_J:TypeId:=104
abbrev y_p:TypeId:=105
abbrev y_Z:TypeId:=112
abbrev y_K:TypeId:=115
abbrev y_j:TypeId:=119
abbrev y_E:TypeId:=132
abbrev y_z:TypeId:=133
abbrev y_L:TypeId:=138
abbrev y_M:TypeId:=143
abbrev y_N:TypeId:=145
abbrev y_i:TypeId:=147
abbrev y_V:TypeId:=160
abbrev y_0:TypeId:=163
abbrev y_2:TypeId:=167
abbrev y_I:TypeId:=168
abbrev y_R:TypeId:=171
abbrev y_F:TypeId:=178
abbrev y_W:TypeId:=188
abbrev y_ab:TypeId:=190
abbrev y_3:TypeId:=193
abbrev y_4:TypeId:=198
abbrev y_5:TypeId:=202
abbrev y_e:TypeId:=209
abbrev y_t:TypeId:=220
abbrev y_S:TypeId:=224
abbrev y_v:TypeId:=237
abbrev y_G:TypeId:=247
abbrev y_w:TypeId:=249
abbrev y_T:TypeId:=253
abbrev y_H:TypeId:=268
abbrev y_u:TypeId:=271
abbrev y_O:TypeId:=289
abbrev y_x:TypeId:=296
abbrev y_n:TypeId:=325
abbrev y_6:TypeId:=345
abbrev y_r:TypeId:=357
abbrev y_P:TypeId:=384
abbrev y_X:TypeId:=391
structure T_j where
 Lanes:Int
 Shards:Int
 Window:Int
 Queue:Int
structure T_g where
 Config:T_j
 Log:Slc
 Capacity:Int
 Fed:Int
 Picks:Slc
structure T_f where
 Kind:Int
 Key:ByteArray
 End:ByteArray
structure T_a where
 Task:Int
 Kind:Int
 Number:Int
 Shard:Int
 Count:Int
 Mark:Int
structure T_c where
 Number:Int
 Writes:Slc
structure T_e where
 Key:ByteArray
 Val:ByteArray
structure T_b where
 Mark:Int
 Beyond:Slc
 Held:Slc
structure T_l where
 Key:ByteArray
 Versions:Slc
structure zfe where
 e0:Int
 e1:Int
structure T_i where
 Key:ByteArray
 Val:ByteArray
 Drop:Bool
structure T_d where
 Kind:Int
 From:Int
 Number:Int
 Write:T_i
 Key:ByteArray
 End:ByteArray
 Beyond:Slc
structure T_k where
 To:Int
 OK:Bool
 Entries:Slc
 Held:Slc
 Count:Int
structure T_o where
 r:OA
structure T_m where
 Code:Int
 Mark:Int
 OK:Bool
 Entries:Slc
 Count:Int
structure T_h where
 Number:Int
 Val:ByteArray
 Drop:Bool
structure T_n where
structure zmd where
 e0:Value
 e1:Value
 e2:Value
 e3:Value
 e4:Value
 e5:Value
structure T_p where
 l:Slc
 at_:Int
abbrev Lp (p:OA) (k:Nat) (G:OA->WP) (w:World):Prop:=IsAt p/\∃ v,w.cell? ⟨pblk p,poff p+k,none⟩=some (Vp v)/\G v w
abbrev Li (p:OA) (k:Nat) (G:Int->WP) (w:World):Prop:=IsAt p/\∃ v,w.cell? ⟨pblk p,poff p+k,none⟩=some (Vi v)/\G v w
abbrev Lo (p:OA) (k:Nat) (G:Bool->WP) (w:World):Prop:=IsAt p/\∃ v,w.cell? ⟨pblk p,poff p+k,none⟩=some (Vo v)/\G v w
abbrev Lt (p:OA) (k:Nat) (G:ByteArray->WP) (w:World):Prop:=IsAt p/\∃ v,w.cell? ⟨pblk p,poff p+k,none⟩=some (Vt v)/\G v w
abbrev Ls (p:OA) (k:Nat) (G:Slc->WP) (w:World):Prop:=IsAt p/\∃ v,w.cell? ⟨pblk p,poff p+k,none⟩=some (Vs v)/\G v w
abbrev Lb (p:OA) (k:Nat) (G:Int->WP) (w:World):Prop:=IsAt p/\∃ v,w.cell? ⟨pblk p,poff p+k,none⟩=some (Vb v)/\G v w
abbrev Lm (p:OA) (k:Nat) (G:Option Nat->WP) (w:World):Prop:=IsAt p/\∃ v,w.cell? ⟨pblk p,poff p+k,none⟩=some (Value.map v)/\G v w
abbrev Lv (p:OA) (k:Nat) (G:Value->WP) (w:World):Prop:=IsAt p/\∃ v,w.cell? ⟨pblk p,poff p+k,none⟩=some (v)/\G v w
abbrev Bp (p:OA) (G:OA->WP) (w:World):Prop:=IsAt p/\∃ v,w.cell? ⟨pblk p,poff p,none⟩=some (Vp v)/\G v w
abbrev Bi (p:OA) (G:Int->WP) (w:World):Prop:=IsAt p/\∃ v,w.cell? ⟨pblk p,poff p,none⟩=some (Vi v)/\G v w
abbrev Bo (p:OA) (G:Bool->WP) (w:World):Prop:=IsAt p/\∃ v,w.cell? ⟨pblk p,poff p,none⟩=some (Vo v)/\G v w
abbrev Bt (p:OA) (G:ByteArray->WP) (w:World):Prop:=IsAt p/\∃ v,w.cell? ⟨pblk p,poff p,none⟩=some (Vt v)/\G v w
abbrev Bs (p:OA) (G:Slc->WP) (w:World):Prop:=IsAt p/\∃ v,w.cell? ⟨pblk p,poff p,none⟩=some (Vs v)/\G v w
abbrev Bu (p:OA) (G:Int->WP) (w:World):Prop:=IsAt p/\∃ v,w.cell? ⟨pblk p,poff p,none⟩=some (Value.int .u64 v)/\G v w
abbrev Bm (p:OA) (G:Option Nat->WP) (w:World):Prop:=IsAt p/\∃ v,w.cell? ⟨pblk p,poff p,none⟩=some (Value.map v)/\G v w
abbrev Bv (p:OA) (G:Value->WP) (w:World):Prop:=IsAt p/\∃ v,w.cell? ⟨pblk p,poff p,none⟩=some (v)/\G v w
abbrev Ji (p:OA) (G:Int->WP) (w:World):Prop:=∃ v,w.cell? ⟨pblk p,poff p,none⟩=some (Vi v)/\G v w
abbrev Dp (b o:Nat) (G:OA->WP) (w:World):Prop:=∃ v,w.cell? ⟨b,o,none⟩=some (Vp v)/\G v w
abbrev Di (b o:Nat) (G:Int->WP) (w:World):Prop:=∃ v,w.cell? ⟨b,o,none⟩=some (Vi v)/\G v w
abbrev Do (b o:Nat) (G:Bool->WP) (w:World):Prop:=∃ v,w.cell? ⟨b,o,none⟩=some (Vo v)/\G v w
abbrev Dt (b o:Nat) (G:ByteArray->WP) (w:World):Prop:=∃ v,w.cell? ⟨b,o,none⟩=some (Vt v)/\G v w
abbrev Ds (b o:Nat) (G:Slc->WP) (w:World):Prop:=∃ v,w.cell? ⟨b,o,none⟩=some (Vs v)/\G v w
abbrev Db (b o:Nat) (G:Int->WP) (w:World):Prop:=∃ v,w.cell? ⟨b,o,none⟩=some (Vb v)/\G v w
abbrev Du (b o:Nat) (G:Int->WP) (w:World):Prop:=∃ v,w.cell? ⟨b,o,none⟩=some (Value.int .u64 v)/\G v w
abbrev Da (b o:Nat) (G:Int->WP) (w:World):Prop:=∃ v,w.cell? ⟨b,o,none⟩=some (Value.int .u32 v)/\G v w
abbrev Dv (b o:Nat) (G:Value->WP) (w:World):Prop:=∃ v,w.cell? ⟨b,o,none⟩=some (v)/\G v w
abbrev Lz {α:Type} (b o:Nat) (f:α->List Value) (G:α->WP) (w:World):Prop:=∃ v,zf w b o (f v)/\G v w
abbrev Ap (x:Slc) (z n:Nat) (e:TypeId) (c:List Value) (s:Slc) (k:Nat) (G:Slc->WP) (w:World):Prop:=∃ src,zj w x z src/\zG z n e c s src k w G
abbrev Aw (A:World->(Slc->WP)->Prop) (G:Slc->WP) (w:World):Prop:=A w G
abbrev Cl {α:Type} (c:World->α->Prop) (G:α) (w:World):Prop:=c w G
abbrev Al (l:List Value) (t:TypeId) (G:Nat->WP) (w:World):Prop:=∀ b w',b=w.heap.size->w'=w.alloc (Obj.cells l.toArray t (0,0))->G b w'
abbrev Ao (o:Obj) (G:Nat->WP) (w:World):Prop:=∀ b w',b=w.heap.size->w'=w.alloc o->G b w'
abbrev Ex (G:WP) (w:World):Prop:=∀ w',Ext w w'->G w'
abbrev Dr (G:WP) (w:World):Prop:=∀ w',(∃ k,w'=w.drewN k)->G w'
abbrev Ia (p:OA) (G:WP) (w:World):Prop:=IsAt p/\G w
abbrev Sa (p:OA) (k n:Nat) (l:List Value) (G:WP) (w:World):Prop:=IsAt p/\zr w (pblk p) (poff p+k) n/\∀ w',w'=World.puts (pblk p) (poff p+k) l w->G w'
abbrev Sb (p:OA) (n:Nat) (l:List Value) (G:WP) (w:World):Prop:=IsAt p/\zr w (pblk p) (poff p) n/\∀ w',w'=World.puts (pblk p) (poff p) l w->G w'
abbrev So (b o n:Nat) (l:List Value) (G:WP) (w:World):Prop:=zr w b o n/\∀ w',w'=World.puts b o l w->G w'
abbrev If (b:Bool) (A B:WP) (w:World):Prop:=(b=true->A w)/\(b=false->B w)
abbrev Ix (i:Int) (n:Nat) (G:WP) (w:World):Prop:=0<=i/\i<((n:Nat):Int)/\G w
abbrev Iy (i n:Int) (G:WP) (w:World):Prop:=0<=i/\i<n/\G w
abbrev Kc (b o:Nat) (v:Value) (G:WP) (w:World):Prop:=w.cell? ⟨b,o,none⟩=some v/\G w
abbrev Kz (b o:Nat) (l:List Value) (G:WP) (w:World):Prop:=zf w b o l/\G w
abbrev Fk (A B:WP) (w:World):Prop:=A w/\B w
abbrev Fa (A:Prop) (G:WP) (w:World):Prop:=A/\G w
abbrev Vy (t:Value) (n:Nat) (G:OA->WP) (H:WP) (w:World):Prop:=(∃ r,t=Value.iface n (Vp r)/\G r w)\/H w
abbrev Vz (t:Value) (n:Nat) (G:OA->WP) (w:World):Prop:=∃ r,t=Value.iface n (Vp r)/\G r w
abbrev Fe (_:World):Prop:=False
abbrev Cv {α:Type} (f:Value) (a:Array Value) (g:α->Value) (G:α->WP) (w:World):Prop:=zw (P:=Tryz.prog) f a w (λe w'=>∃ v,e=Ending.returned (g v)/\G v w')
abbrev U1 {α:Type} (a:α) (B:α->(α->WP)->WP) (w:World):Prop:=∃(I:α->WP) (μ:α->World->Nat),I a w/\∀ a w,I a w->B a (λa' w'=>I a' w'/\μ a' w'<μ a w) w
abbrev U2 {α β:Type} (a:α) (b:β) (B:α->β->(α->β->WP)->WP) (w:World):Prop:=∃(I:α->β->WP) (μ:α->β->World->Nat),I a b w/\∀ a b w,I a b w->B a b (λa' b' w'=>I a' b' w'/\μ a' b' w'<μ a b w) w
abbrev U4 {α β γ δ:Type} (a:α) (b:β) (c:γ) (d:δ) (B:α->β->γ->δ->(α->β->γ->δ->WP)->WP) (w:World):Prop:=∃(I:α->β->γ->δ->WP) (μ:α->β->γ->δ->World->Nat),I a b c d w/\∀ a b c d w,I a b c d w->B a b c d (λa' b' c' d' w'=>I a' b' c' d' w'/\μ a' b' c' d' w'<μ a b c d w) w
abbrev U5 {α β γ δ ε:Type} (a:α) (b:β) (c:γ) (d:δ) (e:ε) (B:α->β->γ->δ->ε->(α->β->γ->δ->ε->WP)->WP) (w:World):Prop:=∃(I:α->β->γ->δ->ε->WP) (μ:α->β->γ->δ->ε->World->Nat),I a b c d e w/\∀ a b c d e w,I a b c d e w->B a b c d e (λa' b' c' d' e' w'=>I a' b' c' d' e' w'/\μ a' b' c' d' e' w'<μ a b c d e w) w
abbrev z9 (x:T_f):List Value:=[Vb x.Kind,Vt x.Key,Vt x.End]
abbrev zY (x:T_g):List Value:=[Vi x.Config.Lanes,Vi x.Config.Shards,Vi x.Config.Window,Vi x.Config.Queue,Vs x.Log,Vi x.Capacity,Vi x.Fed,Vs x.Picks]
abbrev zo (x:T_j):List Value:=[Vi x.Lanes,Vi x.Shards,Vi x.Window,Vi x.Queue]
abbrev zm (x:T_e):List Value:=[Vt x.Key,Vt x.Val]
abbrev zh (x:T_c):List Value:=[Vi x.Number,Vs x.Writes]
abbrev zk (x:T_a):List Value:=[Vi x.Task,Vb x.Kind,Vi x.Number,Vi x.Shard,Vi x.Count,Vi x.Mark]
abbrev ze (x:T_l):List Value:=[Vt x.Key,Vs x.Versions]
abbrev zn (x:T_b):List Value:=[Vi x.Mark,Vs x.Beyond,Vs x.Held]
abbrev zL (x:T_o):List Value:=[Vp x.r]
abbrev zg (x:T_h):List Value:=[Vi x.Number,Vt x.Val,Vo x.Drop]
abbrev zi (x:T_d):List Value:=[Vb x.Kind,Vi x.From,Vi x.Number,Vt x.Write.Key,Vt x.Write.Val,Vo x.Write.Drop,Vt x.Key,Vt x.End,Vs x.Beyond]
abbrev zq (x:T_i):List Value:=[Vt x.Key,Vt x.Val,Vo x.Drop]
abbrev zI (x:T_m):List Value:=[Vi x.Code,Vi x.Mark,Vo x.OK,Vs x.Entries,Vi x.Count]
abbrev zW (x:T_k):List Value:=[Vi x.To,Vo x.OK,Vs x.Entries,Vs x.Held,Vi x.Count]
abbrev Xp (v:OA):Value:=Vp v
abbrev Xi (v:Int):Value:=Vi v
abbrev Xo (v:Bool):Value:=Vo v
abbrev Xt (v:ByteArray):Value:=Vt v
abbrev Xs (v:Slc):Value:=Vs v
abbrev Xb (v:Int):Value:=Vb v
abbrev Xu (v:Int):Value:=Value.int .u64 v
abbrev Xa (v:Int):Value:=Value.int .u32 v
abbrev Xv (v:Value):Value:=v
abbrev Xg {α:Type} (k:α->List Value) (x:α):Value:=Value.agg (k x).toArray
abbrev Ca (n:Nat) (a:Array Value) (w:World) (K:Ending->WP):Prop:=Calls Tryz.prog n a w K
abbrev X0 (R:WP) (e:Ending) (w:World):Prop:=e= .returned (Value.tuple #[])/\R w
abbrev X1 {α:Type} (f0:α->Value) (R:α->WP) (e:Ending) (w:World):Prop:=∃ r0,e= .returned (f0 r0)/\R r0 w
abbrev X2 {α β:Type} (f0:α->Value) (f1:β->Value) (R:α->β->WP) (e:Ending) (w:World):Prop:=∃ r0 r1,e= .returned (Value.tuple #[f0 r0,f1 r1])/\R r0 r1 w
abbrev X3 {α β γ:Type} (f0:α->Value) (f1:β->Value) (f2:γ->Value) (R:α->β->γ->WP) (e:Ending) (w:World):Prop:=∃ r0 r1 r2,e= .returned (Value.tuple #[f0 r0,f1 r1,f2 r2])/\R r0 r1 r2 w
abbrev X5 {α β γ δ ε:Type} (f0:α->Value) (f1:β->Value) (f2:γ->Value) (f3:δ->Value) (f4:ε->Value) (R:α->β->γ->δ->ε->WP) (e:Ending) (w:World):Prop:=∃ r0 r1 r2 r3 r4,e= .returned (Value.tuple #[f0 r0,f1 r1,f2 r2,f3 r3,f4 r4])/\R r0 r1 r2 r3 r4 w
abbrev Y0:List Value:=[Vb 0,Vi 0,Vi 0,Vt Be,Vt Be,Vo false,Vt Be,Vt Be,Ns]
abbrev Y1:List Value:=[Vi 0,Vb 0,Vi 0,Vi 0,Vi 0,Vi 0]
abbrev Y2:List Value:=[Vi 0,Vt Be,Vo false]
abbrev Y3:List Value:=[Vt Be,Vt Be,Vo false]
abbrev Y4:List Value:=[Vi 0,Ns,Ns]
abbrev Y5:List Value:=[Vi 0,Vo false,Ns,Ns,Vi 0]
abbrev Y6:List Value:=[Vi 0,Vi 0,Vo false,Ns,Vi 0]
def C_bb:=λb a c d e=>Ca 4 #[Xg zY b,Xs a,Vb c] d (X1 Xo e)
def C_3:=λa b c=>Ca 5 #[Xg zY a] b (X2 Xp Xp c)
def C_x:=λa b=>Ca 6 #[] a (X1 Xo b)
def C_Y:=λa b c d=>Ca 7 #[Vp a,Vi b] c (X2 (Xg zk) Xi d)
def C_fc:=λa b c d=>Ca 8 #[Xs a,Vi b] c (X1 Xi d)
def C_ub:=λa b c=>Ca 11 #[Vp a] b (X1 Xi c)
def C_nb:=λa b c=>Ca 13 #[Vp a] b (X1 Xs c)
def C_vb:=λa b c d=>Ca 14 #[Vp a,Xg z9 b] c (X2 Xi Xi d)
def C_2b:=λc a b d e=>Ca 15 #[Vi c,Xs a,Xs b] d (X1 Xi e)
def C_Bc:=λa b c d=>Ca 16 #[Xs a,Vi b] c (X1 Xo d)
def C_H:=λa b c=>Ca 17 #[Vp a] b (X1 Xs c)
def C_ud:=λa b c=>Ca 18 #[Vi a] b (X2 Xp Xi c)
def C_8c:=λa b c=>Ca 19 #[Xs a] b (X2 Xp Xi c)
def C_9c:=λa b c d e=>Ca 20 #[Xg zo a,Vp b,Vp c] d (X2 Xp Xi e)
def C_wb:=λa b c d=>Ca 21 #[Vp a,Vi b] c (X1 Xi d)
def C_e:=λa b c=>Ca 22 #[Vp a] b (X1 Xo c)
def C_ob:=λa b c=>Ca 23 #[Vp a] b (X1 Xs c)
def C_Z:=λa b c d=>Ca 24 #[Vp a,Vi b] c (X2 (Xg zk) Xi d)
def C_cb:=λa b c=>Ca 26 #[Vp a] b (X1 Xi c)
def C_Oc:=λa b c=>Ca 27 #[Xg z9 a] b (X1 Xi c)
def C_xb:=λa b c=>Ca 28 #[Vp a] b (X1 Xi c)
def C_vd:=λa b c d e=>Ca 29 #[Vi a,Xg zo b,Xg z9 c] d (X2 Xp Xi e)
def C_gc:=λa b c=>Ca 30 #[Vp a] b (X1 Xs c)
def C_0:=λa b c d=>Ca 31 #[Xs a,b] c (X0 d)
def C_Hb:=λa b c d=>Ca 32 #[Xg ze a,Xg ze b] c (X1 Xi d)
def C_Bb:=λa b c d=>Ca 33 #[Vt a,Vt b] c (X1 Xi d)
def C_Pc:=λa b c=>Ca 34 #[Xs a] b (X1 Xi c)
def C_Qb:=λa b c=>Ca 35 #[Xg zh a] b (X1 (Xg zh) c)
def C_db:=λa b c=>Ca 36 #[Xg zo a] b (X1 Xi c)
def C_Ib:=λa b c=>Ca 37 #[Vp a] b (X5 (Xg zn) Xi Xi Xo Xi c)
def C_fd:=λa b=>Ca 38 #[] a (X1 Xp b)
def C_wd:=λb c a d e f=>Ca 39 #[Vp b,Vi c,Xs a,Vi d] e (X2 Xp Xi f)
def C_xd:=λb a c d=>Ca 40 #[Vi b,Xs a] c (X2 Xp Xi d)
def C_hd:=λa b c d=>Ca 41 #[Xg zo a,Xg zn b] c (X2 Xs Xi d)
def C_yd:=λa b c d=>Ca 42 #[Vi a,Xg zo b] c (X2 Xp Xi d)
def C_pd:=λb c a d e=>Ca 43 #[Vi b,Vi c,Xs a] d (X2 Xp Xi e)
def C_Cc:=λa b c d=>Ca 44 #[Vp a,Vi b] c (X1 Xi d)
def C_M:=λa b c=>Ca 45 #[Vp a] b (X1 Xb c)
def C_Qc:=λa b c d=>Ca 46 #[Vp a,Vi b] c (X2 Xv Xo d)
def C_qc:=λa b c=>Ca 48 #[a] b (X1 Xs c)
def C_s:=λa b c=>Ca 50 #[Vp a] b (X1 Xo c)
def C_hc:=λa b c=>Ca 51 #[Vp a] b (X1 Xs c)
def C_nd:=λa b=>Ca 55 #[] a (X1 Xv b)
def C_A:=λa b c=>Ca 56 #[Xs a] b (X1 Xs c)
def C_Rb:=λa b c d=>Ca 57 #[Vp a,Vi b] c (X2 Xs Xi d)
def C_zc:=λa b c=>Ca 58 #[Xs a] b (X3 (Xg zn) Xu Xo c)
def C_1:=λa b c=>Ca 59 #[Vp a] b (X1 Xi c)
def C_Zb:=λa b c d=>Ca 60 #[Vp a,Vi b] c (X0 d)
def C_Jb:=λa b c=>Ca 61 #[Xg zn a] b (X1 Xi c)
def C_3b:=λa b c d=>Ca 62 #[Xg zo a,Vt b] c (X2 Xi Xi d)
def C_a:=λa b c=>Ca 63 #[Xs a] b (X1 Xs c)
def C_4b:=λa b c=>Ca 64 #[Xs a] b (X2 Xp Xi c)
def C_5b:=λa b c=>Ca 65 #[Vi a] b (X2 Xp Xi c)
def C_Q:=λa b c=>Ca 66 #[Vp a] b (X1 Xo c)
def C_eb:=λa b c=>Ca 67 #[Vp a] b (X2 Xi Xo c)
def C_Sb:=λa b c=>Ca 68 #[Vp a] b (X3 Xi (Xg zi) Xo c)
def C_ib:=λa b c d=>Ca 69 #[Xg zL a,Vi b] c (X1 Xo d)
def C_qb:=λa b c=>Ca 70 #[Vp a] b (X1 Xo c)
def C_rb:=λa b c=>Ca 71 #[Vp a] b (X1 Xi c)
def C_yb:=λa b c d=>Ca 72 #[Vi a,Vi b] c (X1 Xo d)
def C_q:=λa b c=>Ca 77 #[Vp a] b (X1 Xo c)
def C_jb:=λa b c d=>Ca 78 #[Vp a,b] c (X1 Xs d)
def C_Kb:=λa b c d=>Ca 79 #[Vp a,Vt b] c (X1 Xs d)
def C_l:=λa b c d e f=>Ca 80 #[Xs a,Vi b,Vi c,d] e (X0 f)
def C_dd:=λa b c d=>Ca 91 #[Xg zh a,Vp b] c (X1 Xi d)
def C_Lb:=λa b c=>Ca 92 #[Xg zh a] b (X1 Xi c)
def C_fb:=λa b c d=>Ca 93 #[Vp a,Vi b] c (X1 Xi d)
def C_u:=λa b c=>Ca 94 #[Xs a] b (X1 Xs c)
def C_dc (generation:Int) (x:Slc) (w:World) (R:List Int->WP):Prop:=Calls Tryz.prog 95 #[Value.int .u64 generation,Vs x] w (λe w'=>∃(r0:List Int),r0.length=20/\e= .returned (Value.agg (List.map (Value.int .u8) r0).toArray)/\R r0 w')
def C_ad:=λa b c=>Ca 96 #[Xs a] b (X2 (Xg zn) Xi c)
def C_T:=λa b c d=>Ca 97 #[Xs a,Vi b] c (X2 Xi Xo d)
def C_zd:=λa b c=>Ca 98 #[Vt a] b (X1 Xa c)
def C_qd:=λa b=>Ca 99 #[] a (X1 Xp b)
def C_5c:=λa b c=>Ca 100 #[Vt a] b (X1 Xo c)
def C_w:=λa b c=>Ca 101 #[Xs a] b (X1 Xi c)
def C_p:=λa b c=>Ca 102 #[Vp a] b (X1 Xo c)
def C_F:=λa b c=>Ca 103 #[Xs a] b (X1 Xs c)
def C_6b:=λa b c=>Ca 104 #[Vp a] b (X1 Xi c)
def C_C:=λa b c=>Ca 107 #[Vp a] b (X1 Xs c)
def C_id:=λa b c=>Ca 113 #[Xg zq a] b (X1 Xo c)
def C_b:=λa b c d=>Ca 114 #[Xs a,b] c (X1 Xo d)
def C_Xb:=λa b c d=>Ca 115 #[Xs a,Value.int .u64 b] c (X0 d)
def C_jd:=λb a c d=>Ca 116 #[Vp b,Xs a] c (X1 Xa d)
def C_ic:=λa b c=>Ca 117 #[Xs a] b (X1 Xp c)
def C_Rc:=λa b c d e f g=>Ca 118 #[Vo a,Vi b,Vp c,Vp d,Vp e] f (X1 Xo g)
def C_V:=λa b c=>Ca 119 #[Vp a] b (X1 Xi c)
def C_7b:=λa b c=>Ca 120 #[Vp a] b (X1 Xi c)
def C_od:=λa b c d e=>Ca 121 #[Vp a,Vp b,Vp c] d (X1 Xi e)
def C_sb:=λa b c=>Ca 122 #[Vp a] b (X1 Xu c)
def C_Sc:=λa b c d e f=>Ca 123 #[Vp a,Vp b,Vp c,Vp d] e (X1 (Xg zg) f)
def C_Tb:=λa b c d=>Ca 124 #[Vp a,Vi b] c (X1 Xu d)
def C_kb:=λa b c d=>Ca 125 #[Vp a,Vi b] c (X1 Xt d)
def C_4c:=λa b c d=>Ca 126 #[Vi a,Vi b] c (X1 Xo d)
def C_8b:=λa b c=>Ca 127 #[Vi a] b (X1 Xo c)
def C_N:=λa b c=>Ca 128 #[Vp a] b (X1 Xi c)
def C_f:=λa b c=>Ca 138 #[Value.map a] b (X1 Xv c)
def C_W:=λa b c d=>Ca 140 #[Xs a,b] c (X1 Xi d)
def C_gd:=λb a c d=>Ca 141 #[Value.int .u32 b,Xs a] c (X1 Xa d)
def C_Fd:=λa b c=>Ca 142 #[Xs a] b (X1 Xa c)
def C_X:=λa b c d=>Ca 143 #[Vp a,b] c (X1 Xo d)
def C_Tc:=λa b c d=>Ca 144 #[Xs a,Vp b] c (X2 Xi Xi d)
def C_Ac:=λa b c=>Ca 145 #[Xs a] b (X3 Xu Xi Xi c)
def C_rc:=λa b c d e=>Ca 146 #[Xs a,Vp b,Vp c] d (X2 Xi Xi e)
def C_Mc:=λa b c d e=>Ca 147 #[Xs a,Vp b,Vp c] d (X2 Xi Xi e)
def C_Uc:=λa b c=>Ca 148 #[Vi a] b (X1 Xo c)
def C_O:=λa b c=>Ca 149 #[Vp a] b (X1 Xo c)
def C_rd (w:World) (R:List Int->WP):Prop:=Calls Tryz.prog 155 #[] w (λe w'=>∃(r0:List Int),r0.length=256/\e= .returned (Value.agg (List.map (Value.int .u32) r0).toArray)/\R r0 w')
def C_Ub:=λa b c=>Ca 173 #[Vp a] b (X1 Xi c)
def C_Cb:=λa b c=>Ca 176 #[Vp a] b (X1 Xo c)
def C_t:=λa b c d=>Ca 177 #[Vp a,Vb b] c (X1 (Xg zk) d)
def C_zb:=λa b c=>Ca 178 #[Vp a] b (X0 c)
def C_9b:=λa b c=>Ca 179 #[Vp a] b (X1 Xs c)
def C_jc:=λb c d a e f=>Ca 180 #[Vp b,Vi c,Vi d,Xs a] e (X1 Xi f)
def C_o:=λa b c=>Ca 181 #[Xg zL a] b (X1 Xi c)
def C_Ab:=λa b c=>Ca 182 #[Vp a] b (X1 Xi c)
def C_Db:=λa b c d=>Ca 183 #[Vp a,Xg zi b] c (X2 Xo Xi d)
def C_Dc:=λa b c=>Ca 184 #[Vp a] b (X1 Xi c)
def C_ac:=λa b c=>Ca 185 #[Vp a] b (X1 Xi c)
def C_4:=λa b c d=>Ca 186 #[Vp a,Xg zI b] c (X0 d)
def C_tb:=λa b c=>Ca 187 #[Vp a] b (X3 (Xg zI) Xs Xi c)
def C_Mb:=λa b c d=>Ca 188 #[Vp a,Vi b] c (X1 Xo d)
def C_Ad:=λa b c d=>Ca 189 #[Xs a,Vi b] c (X1 Xo d)
def C_6c:=λa b c=>Ca 190 #[Vp a] b (X1 Xv c)
def C_sc:=λa b c=>Ca 191 #[Xg zi a] b (X1 Xo c)
def C_pb:=λa b c d=>Ca 192 #[Vp a,Xg zi b] c (X1 Xo d)
def C_ec:=λa b c=>Ca 193 #[Xs a] b (X1 Xs c)
def C_h:=λa b c d=>Ca 194 #[Xs a,b] c (X0 d)
def C_Vc:=λa b c d=>Ca 195 #[Xg ze a,Xg ze b] c (X1 Xi d)
def C_Wc:=λa b c d=>Ca 196 #[a,Vp b] c (X0 d)
def C_bd:=λa b c d=>Ca 197 #[Xs a,Vi b] c (X1 Xo d)
def C_y:=λa b c=>Ca 198 #[Xs a] b (X1 Xs c)
def C_n:=λa b c d=>Ca 199 #[Xs a,b] c (X0 d)
def C_kd:=λa b c d=>Ca 200 #[Xg zm a,Xg zm b] c (X1 Xi d)
def C_mb:=λa b c d e=>Ca 201 #[Xs a,Vi b,c] d (X0 e)
def C_G:=λa b c d=>Ca 202 #[Xs a,Vi b] c (X1 Xs d)
def C_gb:=λa b c d e=>Ca 203 #[Xs a,Vi b,c] d (X0 e)
def C_d:=λa b c d e f g=>Ca 204 #[Xs a,Vi b,Vi c,Vi d,e] f (X0 g)
def C_j:=λa b c d e f=>Ca 205 #[Xs a,Vi b,Vi c,d] e (X0 f)
def C_c:=λa b c d e f g=>Ca 206 #[Xs a,Vi b,Vi c,Vi d,e] f (X0 g)
def C_L:=λa b c d e f g=>Ca 207 #[Xs a,Vi b,Vi c,Vi d,e] f (X0 g)
def C_I:=λa b c d e f g=>Ca 208 #[Xs a,Vi b,Vi c,Vi d,e] f (X0 g)
def C_i:=λa b c d e f g=>Ca 209 #[Xs a,Vi b,Vi c,Vi d,e] f (X0 g)
def C_g:=λa b c d e f g=>Ca 210 #[Xs a,Vi b,Vi c,Vi d,e] f (X0 g)
def C_kc:=λa b c=>Ca 211 #[Vp a] b (X1 Xi c)
def C_P:=λa b c=>Ca 212 #[Vp a] b (X1 Xb c)
def C_K:=λa b c d=>Ca 213 #[Vp a,Vb b] c (X1 (Xg zk) d)
def C_Xc:=λa b c d=>Ca 214 #[Vp a,Vi b] c (X1 Xb d)
def C_Ec:=λa b c=>Ca 215 #[Vp a] b (X2 Xi Xi c)
def C_Ed:=λa b c=>Ca 216 #[Vp a] b (X2 Xi Xi c)
def C_z:=λa b c d=>Ca 217 #[Vp a,Vi b] c (X2 (Xg zh) Xi d)
def C_Fc:=λa b c d=>Ca 218 #[Vp a,Xg zh b] c (X2 Xi Xi d)
def C_Eb:=λa b c=>Ca 219 #[Vp a] b (X1 Xo c)
def C_Vb:=λa b c d=>Ca 220 #[Vp a,Vi b] c (X1 Xo d)
def C_5:=λa b c d=>Ca 221 #[Vp a,Vi b] c (X2 (Xg zh) Xi d)
def C_R:=λa b c=>Ca 222 #[Vp a] b (X1 Xi c)
def C_6:=λa b c=>Ca 223 #[Vp a] b (X1 Xb c)
def C_J:=λa b c d=>Ca 224 #[Vp a,Vb b] c (X1 (Xg zk) d)
def C_Wb:=λa b c=>Ca 225 #[Vp a] b (X3 Xi (Xg zi) Xo c)
def C_Fb:=λa b c=>Ca 226 #[Vp a] b (X1 Xo c)
def C_r:=λa b c=>Ca 227 #[Vp a] b (X2 Xp Xo c)
def C_Gc:=λa b c d=>Ca 228 #[Vp a,Xg zh b] c (X1 Xi d)
def C_Hc:=λa b c=>Ca 229 #[Vp a] b (X1 Xi c)
def C_Ic:=λa b c=>Ca 230 #[Vp a] b (X2 Xi Xi c)
def C_v:=λa b c=>Ca 231 #[Vp a] b (X1 Xo c)
def C_Yc:=λa b c=>Ca 232 #[Xg zh a] b (X1 Xs c)
def C_ed:=λa b c d=>Ca 233 #[Xg zq a,Vp b] c (X1 Xo d)
def C_7:=λa b c=>Ca 234 #[Vp a] b (X1 Xb c)
def C_2:=λa b c d=>Ca 235 #[Vp a,Vb b] c (X1 (Xg zk) d)
def C_U:=λa b c=>Ca 236 #[Vp a] b (X1 Xi c)
def C_D:=λa b c=>Ca 237 #[Vp a] b (X2 (Xg zW) Xi c)
def C_lc:=λa b c=>Ca 238 #[Vp a] b (X1 Xi c)
def C_Zc:=λa b c d=>Ca 239 #[Vp a,Xg zW b] c (X1 Xi d)
def C_sd:=λa b c d=>Ca 240 #[Vp a,Xg zn b] c (X2 Xp Xi d)
def C_hb:=λa b c=>Ca 241 #[Vp a] b (X2 (Xg zi) Xo c)
def C_0c (o_:OA) (w:World) (R:zmd->WP):Prop:=Calls Tryz.prog 242 #[Vp o_] w (λe w'=>∃(r0:zmd),e= .returned (Value.agg #[r0.e0,r0.e1,r0.e2,r0.e3,r0.e4,r0.e5])/\R r0 w')
def C_B:=λa b c=>Ca 243 #[Xs a] b (X1 Xs c)
def C_cd:=λa b c=>Ca 244 #[Xg zn a] b (X2 Xs Xi c)
def C_mc:=λb c d a e f=>Ca 245 #[Vp b,Vi c,Vi d,Xs a] e (X1 Xi f)
def C_nc:=λa b c d=>Ca 246 #[Vp a,Vi b] c (X1 Xi d)
def C_0b:=λa b c=>Ca 247 #[Vp a] b (X2 (Xg zi) Xo c)
def C_tc:=λa b c d e=>Ca 248 #[Xg zi a,Vp b,Vp c] d (X0 e)
def C_Nb:=λa b c d e=>Ca 249 #[Vp a,Vi b,Xg zq c] d (X2 Xo Xi e)
def C_uc:=λa b c d e=>Ca 250 #[Xg zi a,Vp b,Vp c] d (X0 e)
def C_Gb:=λa b c d e=>Ca 251 #[Vp a,Vt b,Vi c] d (X2 Xt Xo e)
def C_vc:=λa b c d e=>Ca 252 #[Xg zi a,Vp b,Vp c] d (X0 e)
def C_bc:=λa b c d e f=>Ca 253 #[Vp a,Vt b,Vt c,Vi d] e (X1 Xs f)
def C_wc:=λa b c d e=>Ca 254 #[Xg zi a,Vp b,Vp c] d (X0 e)
def C_Ob:=λa b c d=>Ca 255 #[Vp a,Vi b] c (X1 Xi d)
def C_xc:=λa b c d e=>Ca 256 #[Xg zi a,Vp b,Vp c] d (X0 e)
def C_cc:=λb c a d e=>Ca 257 #[Vp b,Vi c,Xs a] d (X1 Xs e)
def C_oc:=λa b=>Ca 258 #[] a (X1 Xp b)
def C_m:=λa b c d=>Ca 259 #[Vp a,Value.int .u64 b] c (X0 d)
def C_lb:=λa b c d=>Ca 260 #[Vp a,Vt b] c (X0 d)
def C_8:=λa b c d e=>Ca 261 #[Vp a,Value.int .u64 b,Vi c] d (X1 Xi e)
def C_Yb:=λa b c=>Ca 262 #[Vp a] b (X1 Xs c)
def C_1b:=λa b c=>Ca 263 #[Vp a] b (X1 Xi c)
def C_td:=λa b c d=>Ca 264 #[Xs a,Xg zg b] c (X3 Xs Xo Xi d)
def C_Bd:=λa b c d=>Ca 265 #[Xs a,Vi b] c (X3 (Xg zg) Xo Xi d)
def C_Dd:=λa b c d e f=>Ca 266 #[a,Vt b,Vt c,Vi d] e (X1 Xs f)
def C_1c:=λa b c d=>Ca 267 #[Xs a,Vi b] c (X3 Xs Xi Xi d)
def C_2c:=λa b c d e f=>Ca 268 #[Vt a,Vp b,Vp c,Vp d] e (X1 Xs f)
def C_ld:=λa c b d e=>Ca 269 #[Xs a,Vi c,Xs b] d (X2 Xs Xi e)
def C_E:=λa b c=>Ca 270 #[Vp a] b (X1 Xo c)
def C_S:=λa b c d=>Ca 271 #[Xs a,Vi b] c (X1 Xi d)
def C_k:=λa c b d e=>Ca 272 #[Xs a,Vi c,Xs b] d (X1 Xs e)
def C_9:=λa b c d=>Ca 273 #[Xs a,Vi b] c (X1 Xo d)
def C_Cd:=λa b c d=>Ca 274 #[Vi a,b] c (X1 Xi d)
def C_7c:=λ(a:T_p) b c d=>Ca 275 #[Value.agg #[Xs a.l,Vi a.at_],Vi b] c (X1 Xo d)
def C_Jc:=λa b c d=>Ca 277 #[Xs a,Vi b] c (X0 d)
def C_yc:=λa b c d=>Ca 278 #[Xs a,Vi b] c (X1 Xi d)
def C_ab:=λa b c=>Ca 281 #[Vp a] b (X1 Xb c)
def C_Pb:=λa b c d=>Ca 282 #[Vp a,Vb b] c (X1 (Xg zk) d)
def C_pc:=λa b c d=>Ca 283 #[Vp a,Vi b] c (X2 Xs Xi d)
def C_Kc:=λa b c d=>Ca 284 #[Vp a,Vi b] c (X2 Xi Xi d)
def C_Nc:=λa b c=>Ca 285 #[Xs a] b (X0 c)
def C_3c:=λa b c d=>Ca 286 #[Vp a,Vi b] c (X1 Xo d)
def C_Lc:=λ(c:T_n) a b=>Ca 302 #[Value.agg #[]] a (X2 (Xg zq) Xo b)
def C_md:=λa b c=>Ca 305 #[Vp a] b (X2 (Xg zq) Xo c)
def F_n:=λ(a:Int) (b:Slc->Slc->Slc->Slc->Int->WP) c d e f=>b c d e f (i64.wrap (a+1))
def F_S:=λ(a:Bool->WP) (b:Int) (c:Slc->Slc->Slc->Slc->Int->WP) (d e f g:Slc) (h:Bool)=>If h (a false) (F_n b c d e f g)
def F_T:=λ(i:Bool->WP) (m:OA) (f:Int) (g:Slc->Slc->Slc->Slc->Int->WP) (b h a c:Slc) (d:Nat)=>Db d 1 λn=>If (n==12) (Di d 0 λj=>Ia c.ptr (Ix (i64.wrap ((-1) - j)) c.len (So (pblk c.ptr) ((poff c.ptr)+(i64.wrap ((-1) - j)).toNat) 1 [Vo false] (Dr (Di d 0 λk=>Ia b.ptr (Ix (i64.wrap ((-1) - k)) b.len (Db (pblk b.ptr) ((poff b.ptr)+(i64.wrap ((-1) - k)).toNat) λo=>If (o==3) (Di d 0 λe=>Ia a.ptr (Ix (i64.wrap ((-1) - e)) a.len (Di (pblk a.ptr) ((poff a.ptr)+(i64.wrap ((-1) - e)).toNat) λl=>Cl (C_H m) λp=>Kc (pblk a.ptr) ((poff a.ptr)+(i64.wrap ((-1) - e)).toNat) (Vi l) (Kc d 0 (Vi e) (Cl (C_Bc p l) λq=>F_S i f g b h a c (!q)))))) (F_S i f g b h a c false)))))))) (F_n f g b h a c)
def F_o:=λ(j:Bool->WP) (m:Nat) (f:OA) (e:Int) (g:Slc->Slc->Slc->Slc->Int->WP) (h b d c:Slc)=>Ds m 7 λn=>Cl (C_fc n e) λo=>Cl (C_Y f o) λp q=>Al Y1 y_d λa=>So a 0 6 (zk p) (If (q != 0) (F_n e g h b d c) (Db a 1 λr=>If (r==9) (Dr (Di a 0 λi=>Di a 5 λs=>Cl (C_2b s b c) λt=>Kc a 0 (Vi i) (Ia d.ptr (Ix (i64.wrap ((-1) - i)) d.len (So (pblk d.ptr) ((poff d.ptr)+(i64.wrap ((-1) - i)).toNat) 1 [Vi t] (Di a 0 λk=>Di a 5 λu=>Ia b.ptr (Ix (i64.wrap ((-1) - k)) b.len (So (pblk b.ptr) ((poff b.ptr)+(i64.wrap ((-1) - k)).toNat) 1 [Vi u] (Di a 0 λl=>Ia c.ptr (Ix (i64.wrap ((-1) - l)) c.len (So (pblk c.ptr) ((poff c.ptr)+(i64.wrap ((-1) - l)).toNat) 1 [Vo true] (F_T j f e g h b d c a)))))))))))) (F_T j f e g h b d c a)))
def F_Bb:=λ(b:Slc) (c:Int) (d:Bool->WP) (f:Nat) (e:OA) (g:Slc->Slc->Slc->Slc->Int->WP) (h i j k:Slc) (a:Int)=>If (decide (a<600)) (Fa ((i64.wrap (1+(i64.wrap (Int.tmod c 9))))≠0) (Fa ((i64.wrap (1+(i64.wrap (Int.tmod c 9))))≠0) (If ((((Int.tmod a (i64.wrap (1+(i64.wrap (Int.tmod c 9)))))==0)&&(decide ((i64.wrap (Int.tdiv a (i64.wrap (1+(i64.wrap (Int.tmod c 9))))))<(b.len:Int))))&&(decide ((i64.wrap (Int.tdiv a (i64.wrap (1+(i64.wrap (Int.tmod c 9))))))<20))) (Ia b.ptr (Ix (i64.wrap (Int.tdiv a (i64.wrap (1+(i64.wrap (Int.tmod c 9)))))) b.len (Lz (pblk b.ptr) ((poff b.ptr)+(i64.wrap (Int.tdiv a (i64.wrap (1+(i64.wrap (Int.tmod c 9)))))).toNat*3) z9 λl=>Cl (C_vb e l) λv m=>If (m==0) (Ia b.ptr (Ix (i64.wrap (Int.tdiv a (i64.wrap (1+(i64.wrap (Int.tmod c 9)))))) b.len (Db (pblk b.ptr) ((poff b.ptr)+(i64.wrap (Int.tdiv a (i64.wrap (1+(i64.wrap (Int.tmod c 9)))))).toNat*3) λn=>Al [Vb n] y_B λo=>Ap (Slc.mk (Z0 o) 1 1) 1 1 y_B [Vb 0] h 1 λp=>Al [Vi 0] y_g λq=>Ap (Slc.mk (Z0 q) 1 1) 1 8 y_g [Vi 0] i 1 λr=>Al [Vi 0] y_g λs=>Ap (Slc.mk (Z0 s) 1 1) 1 8 y_g [Vi 0] j 1 λt=>Al [Vo false] y_8 λu=>Ap (Slc.mk (Z0 u) 1 1) 1 1 y_8 [Vo false] k 1 (F_o d f e a g p r t)))) (F_o d f e a g h i j k)))) (F_o d f e a g h i j k)))) (Cl C_x d)
def F_xd:=λd e (f:Int) a=>Al (zY d) y_s λb=>Lz b 0 zY λg=>Cl (C_3 g) λc n=>If c.isNone (Cl C_x a) (U5 (Slc.mk none 0 0) (Slc.mk none 0 0) (Slc.mk none 0 0) (Slc.mk none 0 0) 0 λh i j k l m=>F_Bb e f a b c m h i j k l)
def F_se:=λ(e:T_g) (b:OA->OA->WP)=>Al (zY e) y_s λa=>Di a 5 λf=>Cl (C_ud f) λc g=>Ds a 4 λh=>Cl (C_8c h) λi j=>If ((g != 0)||(j != 0)) (b none none) (Lz a 0 zo λk=>Cl (C_9c k i c) λd l=>If (l != 0) (b none none) (Di a 6 λm=>Cl (C_wb d m) λn=>b d c))
def F_D:=λ(b:Bool->WP) d (e:Int)=>Cl (C_nb d) λa=>If ((e==14)&&((a.len:Int)==1)) (Ia a.ptr (Ix (0:Int) a.len (Lz (pblk a.ptr) (poff a.ptr) zm λc=>b ((c.Key==(ByteArray.mk #[97]))&&(c.Val==(ByteArray.mk #[50])))))) (b false)
def F_eb:=λ(c:Bool->WP) (b:OA) (d:Int->WP) (a:Int)=>If (decide (a<50)) (Cl (C_Y b 0) λe f=>Al Y1 y_d λg=>So g 0 6 (zk e) (If (f != 0) (F_D c b a) (d (i64.wrap (a+1))))) (F_D c b a)
def F_1c:=λ(a:Bool->WP)=>Al [Vt (ByteArray.mk #[97]),Vt (ByteArray.mk #[49]),Vo false] y_f λg=>Al [Vi 0,Ns] y_a λb=>So b 0 2 [Vi 1,Value.slice (Z0 g) 1 1] (Al [Vt (ByteArray.mk #[97]),Vt (ByteArray.mk #[50]),Vo false] y_f λh=>Al [Vi 0,Ns] y_a λc=>So c 0 2 [Vi 2,Value.slice (Z0 h) 1 1] (Lz b 0 zh λd=>Lz c 0 zh λe=>Al [Vi d.Number,Xs d.Writes,Vi e.Number,Xs e.Writes] y_a λi=>Cl (C_3 (T_g.mk (T_j.mk 2 1 2 1) (Slc.mk (Z0 i) 2 2) 0 2 (Slc.mk none 0 0))) λf l=>If f.isNone (a false) (U1 0 λj k=>F_eb a f k j)))
def F_0:=λd (e:T_a->Int->WP) b (a:Slc) (c:Int)=>Ia a.ptr (Ix c a.len (Di (pblk a.ptr) ((poff a.ptr)+c.toNat) λf=>Cl (C_Z d f) λg h=>So b 0 6 (zk g) (Lz b 0 zk λi=>e i h)))
def F_Ud:=λ(c:OA) (e:Int) (d:T_a->Int->WP)=>Al Y1 y_d λa=>Cl (C_e c) λf=>If (!f) (So a 0 6 Y1 (Lz a 0 zk λg=>d g 2)) (Lo c 17 λh=>If h (So a 0 6 Y1 (Lz a 0 zk λi=>d i 11)) (Cl (C_ob c) λb=>If ((b.len:Int)==0) (So a 0 6 Y1 (Lz a 0 zk λj=>d j 9)) (Fa ((b.len:Int)≠0) (If (decide ((Int.tmod e (b.len:Int))<0)) (F_0 c d a b (i64.wrap ((Int.tmod e (b.len:Int))+(b.len:Int)))) (F_0 c d a b (Int.tmod e (b.len:Int)))))))
def F_mf:=λ(a:Slc) b c=>If (decide (b<(a.len:Int))) (Ia a.ptr (Ix b a.len (Di (pblk a.ptr) ((poff a.ptr)+b.toNat) c))) (c b)
def F_Vd:=λa b=>Cl (C_e a) λc=>If (!c) (b 0) (Lp a 7 λd=>Cl (C_cb d) b)
def F_Wb:=λ(a:Int) (b:Slc->Int->WP) c=>b c (i64.wrap (a+1))
def F_Xb:=λ(a:Int) (b:OA->Int->WP) c=>b c (i64.wrap (a+1))
def F_Yb:=λ(a:Slc) (b:Int) (c:Slc->Int->WP) (d:Nat) (e:OA) (f:Bool)=>If f (Dr (Dt d 0 λg=>Lt e 1 λh=>Al [Vt g,Vt h] y_h λi=>Ap (Slc.mk (Z0 i) 1 1) 2 32 y_h [Vt Be,Vt Be] a 1 (F_Wb b c))) (F_Wb b c a)
def F_9c:=λ(j:Int) (f:Slc) (g:Int) (h:Slc->Int->WP) (c:Nat) (k:Slc) (i:OA->Int->WP) (b:OA) (a:Int)=>If (decide (a<(k.len:Int))) (Ds c 1 λd=>Ia d.ptr (Ix a d.len (Di (pblk d.ptr) ((poff d.ptr)+a.toNat*3) λl=>If (decide (l<=j)) (Ds c 1 λe=>Ia e.ptr (Ix a e.len (F_Xb a i (some ⟨(pblk e.ptr),(poff e.ptr)+a.toNat*3,none⟩)))) (F_Xb a i b)))) (If (!b.isNone) (Lo b 2 λm=>F_Yb f g h c b (!m)) (F_Yb f g h c b false))
def F_ad:=λ(e:Slc->WP) (f:Int) (a:Slc) (g:Slc->Int->WP) (d:Slc) (b:Int)=>If (decide (b<(a.len:Int))) (Ia a.ptr (Ix b a.len (Lz (pblk a.ptr) ((poff a.ptr)+b.toNat*2) ze λh=>Al [Vt Be,Ns] y_c λc=>So c 0 2 (ze h) (Ds c 1 λi=>U2 none 0 λj k l=>F_9c f d b g c i l j k)))) (e d)
def F_Jd:=λa b=>Cl (C_ub a) λc=>Cl (C_H a) λd=>U2 (Slc.mk none 0 0) 0 λe f g=>F_ad b c d g e f
def F_Wd:=λ(a:OA) (g:T_f) (b:Int->Int->WP)=>Al (z9 g) y_D λc=>Cl (C_e a) λh=>If (!h) (b 0 2) (Lo a 17 λi=>If i (b 0 11) (Lo a 16 λj=>If j (b 0 12) (Lz c 0 z9 λk=>Cl (C_Oc k) λl=>If (l != 0) (b 0 1) (Cl (C_xb a) λm=>If (decide (m>=32)) (b 0 8) (Ls a 11 λd=>Dr (Ia a (Lz (pblk a) (poff a) zo λn=>Lz c 0 z9 λo=>Cl (C_vd (i64.wrap ((-1) - (d.len:Int))) n o) λp f=>If (f != 0) (b 0 f) (Dr (Ls a 11 λe=>Db c 0 λq=>Al [Vp a,Vi (i64.wrap ((-1) - (d.len:Int))),Vb q,Vp p,Ns,Vp none,Vi 0,Vo false,Vi 0,Vi 0,Vo false,Ns,Vi 0] y_J λr=>Kc (pblk a) ((poff a)+11) (Xs e) (Al [Vp (Z0 r)] y_q λs=>Kc (pblk a) ((poff a)+11) (Xs e) (Ap (Slc.mk (Z0 s) 1 1) 1 8 y_q [Vp none] e 1 λt=>Sa a 11 1 [Xs t] (b (i64.wrap ((-1) - (d.len:Int))) 0))))))))))))
def F_Jb:=λ(a:Int) (b:Int->Int->WP) (c:Int)=>b c (i64.wrap (a+1))
def F_Kb:=λ(a:Slc) (d b:Int) (c:Int->Int->WP) (e:Bool)=>If e (Ia a.ptr (Ix b a.len (Di (pblk a.ptr) ((poff a.ptr)+b.toNat) (F_Jb b c)))) (F_Jb b c d)
def F_ke:=λ(a c:Slc) (f:Int->WP) (e:Int->Int->WP) (d b:Int)=>If (decide (b<(a.len:Int))) (Ia c.ptr (Ix b c.len (Do (pblk c.ptr) ((poff c.ptr)+b.toNat) λg=>If g (Ia a.ptr (Ix b a.len (Di (pblk a.ptr) ((poff a.ptr)+b.toNat) λh=>F_Kb a d b e (decide (h<d))))) (F_Kb a d b e false)))) (f d)
def F_3e:=λ(a:Int) b c d=>U2 a 0 λe f g=>F_ke b c d g e f
def F_uc:=λ(a:Int) (b:Int->Int->WP) (c:Int)=>b c (i64.wrap (a+1))
def F_Me:=λ(a:Slc) (g:Int) (h:Bool->WP) (b:Int) (i:Int->WP) (f:Int->Int->WP) (e c:Int)=>Ia a.ptr (Ix b a.len (Ds (pblk a.ptr) (((poff a.ptr)+b.toNat*2)+1) λj=>If (decide (c<(j.len:Int))) (Ia a.ptr (Ix b a.len (Ds (pblk a.ptr) (((poff a.ptr)+b.toNat*2)+1) λd=>Ia d.ptr (Ix c d.len (Di (pblk d.ptr) ((poff d.ptr)+c.toNat*3) λk=>If (decide (k<=g)) (F_uc c f (i64.wrap (e+1))) (F_uc c f e)))))) (If (decide (e>1)) (h false) (i (i64.wrap (b+1))))))
def F_Ne:=λ(a:Slc) (d:Int) (b:Bool->WP) (e:Int->WP) (c:Int)=>If (decide (c<(a.len:Int))) (U2 0 0 λf g h=>F_Me a d b c e h f g) (b true)
def F_Cf:=λa (b:Int) c=>U1 0 λd e=>F_Ne a b c e d
def F_db:=λ(b:Slc->WP) (a:Slc)=>Cl (C_0 a (Value.func (.func 32) #[] #[])) (b a)
def F_Qc:=λ(e:Slc->WP) (a:Slc) (f:Slc->Int->WP) (c:Slc) (b:Int)=>If (decide (b<(a.len:Int))) (Ia a.ptr (Ix b a.len (Dp (pblk a.ptr) ((poff a.ptr)+b.toNat) λg=>Cl (C_gc g) λd=>Ap d 2 40 y_c [Vt Be,Ns] c d.len λh=>f h (i64.wrap (b+1))))) (F_db e c)
def F_bd:=λ(a:OA) (b:Slc->WP)=>Cl (C_e a) λc=>If c (Ls a 9 λd=>U2 (Slc.mk none 0 0) 0 λe f g=>F_Qc b d g e f) (F_db b (Slc.mk none 0 0))
def F_Pg:=λ(a:Int) (b:OA->Int->WP)=>If ((decide (a<0))||(decide (a>16777216))) (b none 1) (Al [Vo true,Vi a,Ns,Ns,Vi (-1),Vo false,Vi 0] y_Z λc=>b (Z0 c) 0)
def F_Df:=λ(a:Slc) (f:OA->Int->WP) b (g:Int->WP) (c:Int)=>If (decide (c<(a.len:Int))) (Ia a.ptr (Ix c a.len (Lz (pblk a.ptr) ((poff a.ptr)+c.toNat*2) zh λh=>Al [Vi 0,Ns] y_a λe=>So e 0 2 (zh h) (Dr (Ds b 1 λd=>Lz e 0 zh λi=>Cl (C_Qb i) λj=>Kc b 1 (Xs d) (Al (zh j) y_a λk=>Kc b 1 (Xs d) (Ap (Slc.mk (Z0 k) 1 1) 2 32 y_a [Vi 0,Ns] d 1 λl=>So b 1 1 [Xs l] (g (i64.wrap (c+1)))))))))) (f (Z0 b) 0)
def F_xg:=λa (b:OA->Int->WP)=>Cl (C_Pc a) λc=>If (c != 0) (b none c) (Al [Vo true,Ns,Ns] y_K λd=>U1 0 λe f=>F_Df a b d f e)
def F_be:=λ(d:OA->Int->WP) (g:Nat) (a:OA) (c:Slc) (h:Int) (i:Int->WP) (b:Int)=>If (decide (b<h)) (Dr (Di g 3 λj=>Ia c.ptr (Ix b c.len (Ds (pblk c.ptr) ((poff c.ptr)+b.toNat) λk=>Cl (C_pd b j k) λe f=>If (f != 0) (d none f) (Ls a 9 λl=>Al [Vp e] y_p λm=>Ap (Slc.mk (Z0 m) 1 1) 1 8 y_p [Vp none] l 1 λn=>Sa a 9 1 [Xs n] (Ls a 10 λo=>Al [Vp a,Vp e,Vi b] y_M λp=>Al [Value.iface 141 (Vp (Z0 p))] y_i λq=>Ap (Slc.mk (Z0 q) 1 1) 1 16 y_i [Value.nilIface] o 1 λr=>Sa a 10 1 [Xs r] (i (i64.wrap (b+1))))))))) (Ls a 10 λs=>Al [Vp a] y_N λt=>Al [Value.iface 144 (Vp (Z0 t))] y_i λu=>Ap (Slc.mk (Z0 u) 1 1) 1 16 y_i [Value.nilIface] s 1 λv=>Sa a 10 1 [Xs v] (d a 0))
def F_ce:=λ(d:OA->Int->WP) (b:Nat) (a:OA) (g:Slc) (h:Int) (i:Int->WP) (c:Int)=>If (decide (c<h)) (Lz b 0 zo λj=>Cl (C_yd (i64.wrap (c+1)) j) λe f=>If (f != 0) (d none f) (Ls a 8 λk=>Al [Vp e] y_z λl=>Ap (Slc.mk (Z0 l) 1 1) 1 8 y_z [Vp none] k 1 λm=>Sa a 8 1 [Xs m] (Ls a 10 λn=>Al [Vp a,Vp e] y_L λo=>Al [Value.iface 136 (Vp (Z0 o))] y_i λp=>Ap (Slc.mk (Z0 p) 1 1) 1 16 y_i [Value.nilIface] n 1 λq=>Sa a 10 1 [Xs q] (i (i64.wrap (c+1)))))) (Di b 1 λr=>U1 0 λs t=>F_be d b a g r t s)
def F_kc:=λ(h:OA) (c:OA->Int->WP) (d b:Nat) (a:OA)=>Di b 0 λi=>Ds b 1 λj=>Di d 2 λk=>Cl (C_wd h i j k) λl e=>Sa a 5 1 [Vp l] (If (e != 0) (c none e) (Di b 0 λm=>Ds b 1 λn=>Cl (C_xd m n) λo f=>Sa a 7 1 [Vp o] (If (f != 0) (c none f) (Lz d 0 zo λp=>Lz b 0 zn λq=>Cl (C_hd p q) λr g=>If (g != 0) (c none g) (Ls a 10 λs=>Al [Vp a] y_E λt=>Al [Value.iface 130 (Vp (Z0 t))] y_i λu=>Ap (Slc.mk (Z0 u) 1 1) 1 16 y_i [Value.nilIface] s 1 λv=>Sa a 10 1 [Xs v] (Di d 0 λx=>U1 0 λy z=>F_ce c d a r x z y))))))
def F_lc:=λ(f d:OA) (c:OA->Int->WP) (b:Nat) (h:Bool)=>If h (c none 2) (Lz b 0 zo λi=>Cl (C_db i) λj=>If (j != 0) (c none 7) (Cl (C_Ib d) λk r s t g=>Al Y4 y_j λe=>So e 0 3 (zn k) (If (g != 0) (c none g) (Dr (Lz b 0 zo λa=>Fk (Cl C_fd λl=>Kz b 0 (zo a) (Ao (Obj.map #[] 0) λm=>Kz b 0 (zo a) (Al [Vi a.Lanes,Vi a.Shards,Vi a.Window,Vi a.Queue,Vp d,Vp none,Vp l,Vp none,Ns,Ns,Ns,Ns,Ns,Value.map (some m),Ns,Vo false,Vo false,Vo false] y_m λn=>F_kc f c b e (Z0 n)))) (Ao (Obj.map #[] 0) λo=>Kz b 0 (zo a) (Cl C_fd λp=>Kz b 0 (zo a) (Al [Vi a.Lanes,Vi a.Shards,Vi a.Window,Vi a.Queue,Vp d,Vp none,Vp p,Vp none,Ns,Ns,Ns,Ns,Ns,Value.map (some o),Ns,Vo false,Vo false,Vo false] y_m λq=>F_kc f c b e (Z0 q)))))))))
def F_kf:=λe (a:OA) b (c:OA->Int->WP)=>Al (zo e) y_l λd=>If a.isNone (F_lc a b c d true) (F_lc a b c d b.isNone)
def F_Xd:=λa c b=>Cl (C_e a) λd=>If (!d) (b 2) (Lo a 17 λe=>If e (b 11) (Lp a 5 λf=>Cl (C_Cc f c) b))
def F_Kd:=λa (b:Bool->WP)=>If (!a.isNone) (Lp a 4 λc=>b (!c.isNone)) (b false)
def F_Zb:=λ(a:Int) (b:Slc->Int->WP) c=>b c (i64.wrap (a+1))
def F_g:=λ(b:Slc) (a:Int) (c:Slc->Int->WP) (d:Bool)=>If d (Al [Vi a] y_g λe=>Ap (Slc.mk (Z0 e) 1 1) 1 8 y_g [Vi 0] b 1 (F_Zb a c)) (F_Zb a c b)
def F_0b:=λ(a:Int) (b:Slc->Int->WP) c=>b c (i64.wrap (a+1))
def F_cd:=λ(e:Slc->WP) (b:Slc) (d:Slc->Int->WP) (c:Slc) (a:Int)=>If (decide (a<(b.len:Int))) (Ia b.ptr (Ix a b.len (Dp (pblk b.ptr) ((poff b.ptr)+a.toNat) λf=>Cl (C_M f) λg=>If (g != 0) (Al [Vi (i64.wrap ((-1) - a))] y_g λh=>Ap (Slc.mk (Z0 h) 1 1) 1 8 y_g [Vi 0] c 1 (F_0b a d)) (F_0b a d c)))) (e c)
def F_dd:=λ(f:OA) (g:Slc->WP) (c:Slc) (d:Slc->Int->WP) (b:Slc) (a:Int)=>If (decide (a<(c.len:Int))) (Ia c.ptr (Ix a c.len (Dv (pblk c.ptr) ((poff c.ptr)+a.toNat) λe=>Vy e 97 (λh=>Cl (C_M h) λi=>F_g b a d (i != 0)) (Vy e 130 (λj=>Cl (C_P j) λk=>F_g b a d (k != 0)) (Vy e 136 (λl=>Cl (C_6 l) λm=>F_g b a d (m != 0)) (Vy e 141 (λn=>Cl (C_7 n) λo=>F_g b a d (o != 0)) (Vz e 144 λp=>Cl (C_ab p) λq=>F_g b a d (q != 0)))))))) (Ls f 11 λr=>U2 b 0 λs t u=>F_cd g r u s t)
def F_1b:=λa b c=>If c (b (Slc.mk none 0 0)) (Ls a 10 λd=>U2 (Slc.mk none 0 0) 0 λe f g=>F_dd a b d g e f)
def F_Ld:=λa b=>Cl (C_e a) λc=>If (!c) (F_1b a b true) (Lo a 17 (F_1b a b))
def F_b:=λc (d:Int) (e:T_a->Int->WP) b (f:Int) a=>Lp c 7 λg=>Cl (C_cb g) λh=>Sb a 1 [Vi d] (So (pblk a) ((poff a)+1) 1 [Vb f] (So (pblk a) ((poff a)+5) 1 [Vi h] (Ia a (Lz (pblk a) (poff a) zk λi=>So b 0 6 (zk i) (Lz b 0 zk λj=>e j 0)))))
def F_a:=λ(d:OA) (e:Int) (c:T_a->Int->WP) (b:Nat) (f:Value) (a:Int)=>If (a==0) (So b 0 6 Y1 (Lz b 0 zk λl=>c l 10)) (Vy f 97 (λm=>Cl (C_t m a) λn=>Al Y1 y_d λg=>So g 0 6 (zk n) (F_b d e c b a (Z0 g))) (Vy f 130 (λo=>Cl (C_K o a) λp=>Al Y1 y_d λh=>So h 0 6 (zk p) (F_b d e c b a (Z0 h))) (Vy f 136 (λq=>Cl (C_J q a) λr=>Al Y1 y_d λi=>So i 0 6 (zk r) (F_b d e c b a (Z0 i))) (Vy f 141 (λs=>Cl (C_2 s a) λt=>Al Y1 y_d λj=>So j 0 6 (zk t) (F_b d e c b a (Z0 j))) (Vz f 144 λu=>Cl (C_Pb u a) λv=>Al Y1 y_d λk=>So k 0 6 (zk v) (F_b d e c b a (Z0 k)))))))
def F_zb:=λ(c:OA) (e:Int) (d:T_a->Int->WP)=>Al Y1 y_d λa=>Cl (C_e c) λf=>If (!f) (So a 0 6 Y1 (Lz a 0 zk λg=>d g 2)) (Lo c 17 λh=>If h (So a 0 6 Y1 (Lz a 0 zk λi=>d i 11)) (Cl (C_Qc c e) λb j=>If (!j) (So a 0 6 Y1 (Lz a 0 zk λk=>d k 1)) (Vy b 97 (λl=>Cl (C_M l) (F_a c e d a b)) (Vy b 130 (λm=>Cl (C_P m) (F_a c e d a b)) (Vy b 136 (λn=>Cl (C_6 n) (F_a c e d a b)) (Vy b 141 (λo=>Cl (C_7 o) (F_a c e d a b)) (Vz b 144 λp=>Cl (C_ab p) (F_a c e d a b))))))))
def F_Ef:=λa b=>If a.isNone (b 0) (Li a 1 b)
def F_s:=λ(a:Int->WP) b=>If (!b) (a 1) (a 0)
def F_md:=λ(a:Int->WP) (b:Nat) (c:Bool)=>If c (Dt b 1 λd=>If (d.toList==Be.toList) (Dt b 2 λe=>F_s a (e.toList==Be.toList)) (F_s a false)) (F_s a false)
def F_Hg:=λ(d:T_f) (b:Int->WP)=>Al (z9 d) y_D λa=>Db a 0 λc=>If (c==1) (Dt a 1 λe=>If (!(e.toList==Be.toList)) (Dt a 1 λf=>If (decide ((f.size:Int)<=64)) (Dt a 2 λg=>F_s b (g.toList==Be.toList)) (F_s b false)) (F_s b false)) (If (c==2) (Dt a 1 λh=>If (decide ((h.size:Int)<=64)) (Dt a 2 λi=>F_s b (decide ((i.size:Int)<=64))) (F_s b false)) (If (c==3) (F_md b a (c==3)) (F_md b a (c==4))))
def F_1:=λ(a:Int) (b:Int->Int->WP) (c:Int)=>b c (i64.wrap (a+1))
def F_nd:=λ(e:Int->WP) (a:Slc) (d:Int->Int->WP) (c b:Int)=>If (decide (b<(a.len:Int))) (Ia a.ptr (Ix b a.len (Dp (pblk a.ptr) ((poff a.ptr)+b.toNat) λf=>Lo f 7 λg=>If (!g) (F_1 b d (i64.wrap (c+1))) (F_1 b d c)))) (e c)
def F_Yd:=λa b=>Ls a 11 λc=>U2 0 0 λd e f=>F_nd b c f d e
def F_Qg:=λ(d:Int) (g:T_j) (h:T_f) (a:OA->Int->WP)=>Al (zo g) y_l λe=>Al (z9 h) y_D λf=>If (decide (d>=0)) (a none 1) (Lz e 0 zo λi=>Cl (C_db i) λj=>If (j != 0) (a none 7) (Lz f 0 z9 λk=>Cl (C_Oc k) λl=>If (l != 0) (a none 1) (Lz e 0 zo λb=>Lz f 0 z9 λc=>Al [Vi d,Vi b.Lanes,Vi b.Shards,Vi b.Window,Vi b.Queue,Vb c.Kind,Vt c.Key,Vt c.End,Vo false,Vi 0,Ns,Vi 0,Ns] y_2 λm=>a (Z0 m) 0)))
def F_nf:=λa b=>Cl (C_s a) λc=>If (!c) (b (Slc.mk none 0 0)) (Bp a λd=>Cl (C_hc d) b)
def F_Sc:=λa b c=>Al (ze a) y_c λd=>Al (ze b) y_c λe=>Dt d 0 λf=>Dt e 0 λg=>Cl (C_Bb f g) c
def F_4e:=λ(a:Slc) (d:Int->WP) (f:Value) (g:Int->WP) (b:Int)=>If (decide (b<(a.len:Int))) (Ia a.ptr (Ix b a.len (Lz (pblk a.ptr) ((poff a.ptr)+b.toNat*2) zh λh=>Al [Vi 0,Ns] y_a λe=>So e 0 2 (zh h) (Lz e 0 zh λi=>Cv f #[Xg zh i] (λ(c:Int)=>Vi c) λc=>If (c != 0) (d c) (g (i64.wrap (b+1))))))) (d 0)
def F_Rg:=λa b=>Cl C_nd λc=>U1 0 λd e=>F_4e a b c e d
def F_Ff:=λd e=>Al (zh d) y_a λa=>Al [Vi 0,Ns] y_a λb=>Dr (Di a 0 λc=>Ds a 1 λf=>Cl (C_A f) λg=>Kc a 0 (Vi c) (So b 0 2 [Vi c,Xs g] (Lz b 0 zh e)))
def F_6f:=λ(a:Int->WP) (b:Int) (c:Int->WP) d=>If d (a 7) (c (i64.wrap (b+1)))
def F_7f:=λ(d:Int->WP) (f:Nat) (e:Int->WP) (a:Int)=>If (decide (a<(4:Int))) (Iy a 4 (Lz f (0+a.toNat*2) (λ(b:zfe)=>[Vi b.e0,Vi b.e1]) λb=>Al [Vi 0,Vi 0] y_F λc=>So c 0 2 [Vi b.e0,Vi b.e1] (Iy 0 2 (Di c 0 λg=>If (decide (g<1)) (F_6f d a e true) (Iy 0 2 (Di c 0 λh=>Iy 1 2 (Di c 1 λi=>F_6f d a e (decide (h>i))))))))) (d 0)
def F_Ig:=λb c=>Al (zo b) y_l λa=>Di a 0 λd=>Di a 1 λe=>Di a 2 λf=>Di a 3 λg=>Al [Vi d,Vi 16,Vi e,Vi 16,Vi f,Vi 64,Vi g,Vi 16] y_F λh=>U1 0 λi j=>F_7f c h j i
def F_2b:=λ(a:Int) (b:Int->Int->Bool->Int->WP) (c d:Int) e=>b c d e (i64.wrap (a+1))
def F_Od:=λ(k:OA) (e:T_b->Int->Int->Bool->Int->WP) (a:Nat) (f:Int->Int->Bool->Int->WP) (c g:Int) (d:Bool) (b:Int)=>If (decide (b<2)) (Cl (C_Rb k b) λl h=>If (h != 0) (So a 0 3 Y4 (Lz a 0 zn λm=>e m 0 0 false h)) (Cl (C_zc l) λn i o=>Al Y4 y_j λj=>So j 0 3 (zn n) (If (o&&((!d)||(decide (i>(u64.wrap c))))) (Lz j 0 zn λp=>So a 0 3 (zn p) (F_2b b f (i64.wrap i) b true)) (F_2b b f c g d)))) (Lz a 0 zn λq=>So a 0 3 (zn q) (Lz a 0 zn λr=>e r c g d 0))
def F_0e:=λa b=>Al Y4 y_j λc=>U4 0 0 false 0 λd e f g h=>F_Od a b c h d e f g
def F_Sg:=λ(a:OA->WP)=>Ao (Obj.map #[] 0) λb=>Ao (Obj.map #[] 0) λc=>Ao (Obj.map #[] 0) λd=>Al [Value.map (some b),Value.map (some c),Value.map (some d),Vi 0] y_W λe=>a (Z0 e)
def F_8d:=λ(j:OA) (k:Int) (b:Slc) (n:Int) (f:OA->Int->WP) (l:Nat) (o:Int->Int->WP) (g c:Int)=>λ(a:World)=>(If (decide (c<(b.len:Int))) (λa=>(Ia b.ptr λa=>(Ix c b.len λa=>(Di (pblk b.ptr) ((poff b.ptr)+c.toNat) λd=>λa=>(If ((decide (d<=g))||((c==0)&&(decide ((i64.wrap (d - 1))<=g)))) (f none 1) λa=>∃(h:Nat) (e:Array MapEntry) (i:Nat),(some l)=some h/\a.heap[h]? =some (.map e i)/\((Fa (z6c e) λa=>(Fa (zFb e d=false) λa=>∀ m,m={ a with heap:=a.heap.setIfInBounds h (.map (e.push ⟨.int .i64 d,Value.agg #[],i⟩) (i+1)) }->(o d (i64.wrap (c+1))) m) a) a)) a) a) a) a) (Cl (C_1 j) λp=>If (decide (g>p)) (f none 6) (Al [Vp j,Vi k,Vi k,Vi n,Value.map (some l),Vp none,Vo false] y_3 λq=>f (Z0 q) 0))) a
def F_tg:=λ(d:OA) (a:Int) (e:Slc) (b:Int) (c:OA->Int->WP)=>If d.isNone (c none 2) (If (((decide (a<0))||(decide (b<1)))||(decide (b>64))) (c none 1) (Ao (Obj.map #[] 0) λf=>U2 a 0 λg h i=>F_8d d a e b c f i g h))
def F_lf:=λ(a:OA->Int->WP) b (c:Int) (d:Int->WP) (e:Int) f=>If f (a none 1) (Cl (C_Zb (Z0 b) e) (d (i64.wrap (c+1))))
def F_yg:=λ(g:Int) (a:Slc) (e:OA->Int->WP) (d:Nat) (f:Int->WP) (b:Int)=>If (decide (b<(a.len:Int))) (Ia a.ptr (Ix b a.len (Di (pblk a.ptr) ((poff a.ptr)+b.toNat) λc=>If ((decide (c<(i64.wrap (g+2))))||(decide (c>65536))) (F_lf e d b f c true) (Di d 1027 λh=>F_lf e d b f c (decide (c<=h)))))) (e (Z0 d) 0)
def F_Tg:=λ(a:Int) c (b:OA->Int->WP)=>If ((decide (a<0))||(decide (a>65536))) (b none 1) (Ao (Obj.cells (([Vo true,Vi a]++(List.map (Value.int .u64) (List.replicate 1025 0))++[Vi a])).toArray y_0 (0,0)) λd=>U1 0 λe f=>F_yg a c b d f e)
def F_od:=λ(i:Slc->Int->WP) j k (d:Int) b (l:Slc) (m:Int->WP) (e:Int)=>If (decide (e<(l.len:Int))) (Ds k 2 λf=>Ia f.ptr (Ix e f.len (Lz (pblk f.ptr) ((poff f.ptr)+e.toNat*2) ze λn=>Al [Vt Be,Ns] y_c λc=>So c 0 2 (ze n) (Lz j 0 zo λo=>Dt c 0 λp=>Cl (C_3b o p) λa u=>Dr (Ix a d.toNat (Ds b (0+a.toNat) λg=>Dt c 0 λh=>Ds c 1 λq=>Cl (C_a q) λr=>Kc c 0 (Vt h) (Kc b (0+a.toNat) (Xs g) (Al [Vt h,Xs r] y_c λs=>Kc b (0+a.toNat) (Xs g) (Ap (Slc.mk (Z0 s) 1 1) 2 40 y_c [Vt Be,Ns] g 1 λt=>Ix a d.toNat (So b (0+a.toNat) 1 [Xs t] (m (i64.wrap (e+1))))))))))))) (i (Slc.mk (Z0 b) d.toNat d.toNat) 0)
def F_Gf:=λ(g:T_j) (h:T_b) (b:Slc->Int->WP)=>Al (zo g) y_l λc=>Al (zn h) y_j λd=>Lz c 0 zo λi=>Cl (C_db i) λe=>If (e != 0) (b (Slc.mk none 0 0) e) (Lz d 0 zn λj=>Cl (C_Jb j) λf=>If (f != 0) (b (Slc.mk none 0 0) f) (Di c 1 λa=>Fa (0<=a) (Fa (a<=a) (Fa ((24:Int)*a<=281474976710656) (Ao (Obj.cells (zp a.toNat [Ns]) y_Q (0,0)) λk=>Ds d 2 λl=>U1 0 λm n=>F_od b c d a k l n m)))))
def F_ed:=λ(c:Int) (b:OA->Int->WP) d e=>If e (b none 1) (Lz d 0 zo λa=>Al [Vi c,Vi a.Lanes,Vi a.Shards,Vi a.Window,Vi a.Queue,Value.iface 198 (Value.agg #[])] y_5 λf=>b (Z0 f) 0)
def F_Ug:=λ(a:Int) (d:T_j) (c:OA->Int->WP)=>Al (zo d) y_l λb=>Lz b 0 zo λe=>Cl (C_db e) λf=>If (f != 0) (c none 7) (If (decide (a<1)) (F_ed a c b true) (Di b 0 λg=>F_ed a c b (decide (a>g))))
def F_Mg:=λ(c b:Int) (f:Slc) (a:OA->Int->WP)=>If ((((decide (c<0))||(decide (c>=16)))||(decide (b<1)))||(decide (b>16))) (a none 1) (Cl (C_4b f) λg d=>If (d != 0) (a none d) (Cl (C_5b b) λh e=>If (e != 0) (a none e) (Al [Vp g,Vp h] y_R λi=>a (Z0 i) 0)))
def F_vc:=λb (c:Int) (a:Int->WP) d=>If d (a 1) (Sa b 2 1 [Vi c] (a 0))
def F_Hf:=λ(a:OA) (b:Int) (c:Int->WP)=>Cl (C_Q a) λd=>If (!d) (c 2) (Lo a 6 λe=>If e (c 12) (Li a 2 λf=>If (decide (b<f)) (F_vc a b c true) (Bp a λg=>Cl (C_1 g) λh=>F_vc a b c (decide (b>h)))))
def F_fb:=λ(a:Int->WP) b=>If b (a 0) (a 9)
def F_N:=λ(a:Int->WP) b=>If b (a 11) (a 12)
def F_O:=λ(b:OA) (a:Int->WP) (c:Bool)=>If c (a 10) (Lp b 3 λd=>Cl (C_qb d) λe=>If (!e) (a 0) (Lb b 2 λf=>If (f==4) (Li b 6 λg=>If (g==0) (Lp b 5 λh=>Cl (C_rb h) λi=>F_N a (decide (i>0))) (F_N a false)) (F_N a false)))
def F_te:=λ(a:OA) (b:Int->WP)=>Lo a 7 λc=>If c (b 0) (Lp a 3 λd=>Cl (C_eb d) λn e=>If (!e) (Lb a 2 λf=>If (f==4) (Bp a λg=>Lo g 15 (F_fb b)) (F_fb b false)) (Lp a 3 λh=>Cl (C_Sb h) λi j k=>Al Y0 y_e λl=>So l 0 9 (zi j) (If k (Ia a (Lz (pblk a) (poff a) zL λm=>Cl (C_ib m i) (F_O a b))) (F_O a b false))))
def F_Cc:=λ(d:OA) (b:Int) (c:Value->Bool->WP) (e:Bool)=>If e (Ls d 11 λa=>Ia a.ptr (Ix (i64.wrap ((-1) - b)) a.len (Dp (pblk a.ptr) ((poff a.ptr)+(i64.wrap ((-1) - b)).toNat) λf=>c (Value.iface 97 (Vp f)) true))) (c Value.nilIface false)
def F_gb:=λ(b:OA) (a:Int) (d:Value->Bool->WP) (e:Bool)=>If e (Ls b 10 λc=>Ia c.ptr (Ix a c.len (Dv (pblk c.ptr) ((poff c.ptr)+a.toNat) λf=>d f true))) (If (decide (a<0)) (Ls b 11 λg=>Cl (C_yb (i64.wrap ((-1) - a)) (g.len:Int)) (F_Cc b a d)) (F_Cc b a d false))
def F_2c:=λb (a:Int) c=>If (decide (a>=0)) (Ls b 10 λd=>Cl (C_yb a (d.len:Int)) (F_gb b a c)) (F_gb b a c false)
def F_Oe:=λa (b:Bool->WP)=>If (!a.isNone) (Bp a λc=>b (!c.isNone)) (b false)
def F_of:=λa b=>Cl (C_q a) λc=>If c (b (Slc.mk none 0 0)) (Ia a (Cl (C_jb a (Value.func (.func 79) #[Vp (some ⟨(pblk a),(poff a),none⟩)] #[])) b))
def F_Vg:=λ(b:Value->WP)=>Al [Vi 0] y_g λa=>So a 0 1 [Vi 1] (b (Value.func (.func 91) #[] #[Vp (Z0 a)]))
def F_3b:=λa b=>If a.ptr.isNone (b (Slc.mk none 0 0)) (Al [] y_f λc=>Ap a 3 40 y_f Y3 (Slc.mk (Z0 c) 0 0) a.len b)
def F_de:=λa (b:Int) (c:Slc->Int->WP)=>Cl (C_fb a b) λd=>If (d != 0) (c (Slc.mk none 0 0) d) (Ia a (Iy b 2 (Ds (pblk a) (((poff a)+2)+b.toNat) λe=>Cl (C_u e) λf=>c f 0)))
def F_qb:=λa (d:T_b->Int->Bool->WP) b (f:Int) g=>λ(c:World)=>(If g (So b 0 3 Y4 (Lz b 0 zn λh=>d h 0 false)) λc=>(Fa ((0<=(20:Int)/\(20:Int)<=(a.len:Int)/\(a.len:Int)<=(a.cap:Int)/\(a.cap:Int)<=(a.cap:Int))) λc=>∀ e,e=Slc.cut 1 a 20 (a.len:Int) (a.cap:Int)->(Cl (C_ad e) λi j=>So b 0 3 (zn i) (Lz b 0 zn λk=>So b 0 3 (zn k) (Lz b 0 zn λl=>d l f (j==0)))) c) c) c
def F_3c:=λ(a:Slc) (g:T_b->Int->Bool->WP) (h f:Nat) (k:Int->Int->WP) (b d:Int)=>If (decide (d>=4)) (Iy d 20 (Db f (0+d.toNat) λl=>k (bor .u64 (u64.wrap (b*2 ^ 8)) (u64.wrap l)) (i64.wrap (d - 1)))) (Dr λc=>(If ((decide (b<1))||(decide (b>4611686018427387904))) (F_qb a g h b true) λc=>∃(e:List Int),(e.length=20)/\zf c f 0 (List.map (Value.int .u8) e)/\((Fa ((0<=(20:Int)/\(20:Int)<=(a.len:Int)/\(a.len:Int)<=(a.cap:Int)/\(a.cap:Int)<=(a.cap:Int))) λc=>∀ i,i=Slc.cut 1 a 20 (a.len:Int) (a.cap:Int)->(C_dc b i c (λ(j:List Int) m=>(j.length=20)->(Kz f 0 (List.map (Value.int .u8) e) (F_qb a g h b (!(e==j)))) m))) c)) c)
def F_9d:=λ(b:Slc) (e:T_b->Int->Bool->WP)=>Al Y4 y_j λc=>λa=>(If (decide ((b.len:Int)<20)) (So c 0 3 Y4 (Lz c 0 zn λg=>e g 0 false)) λa=>(Fa (0<=(20:Int)) λa=>(Fa ((20:Int)<=(b.cap:Int)) λa=>(Ia b.ptr λa=>∃(d:List Int),(d.length=20)/\zf a (pblk b.ptr) (poff b.ptr) (List.map (Value.int .u8) d)/\(Ao (Obj.cells ((List.map (Value.int .u8) (List.replicate 20 0))).toArray y_v (0,0)) λf=>So f 0 20 (List.map (Value.int .u8) d) (U2 0 11 λh i j=>F_3c b e c f j h i)) a) a) a) a) a
def F_le:=λa (b:Int->WP)=>If a.isNone (b 0) (Ls a 1 λc=>b (c.len:Int))
def F_8f:=λb a d=>Dr (Ia b (Iy (i64.wrap (Int.tdiv a 64)) (1025:Int) (Du (pblk b) (((poff b)+2)+(i64.wrap (Int.tdiv a 64)).toNat) λe=>Fa (0<=Int.tmod a 64) (Iy (i64.wrap (Int.tdiv a 64)) (1025:Int) (So (pblk b) (((poff b)+2)+(i64.wrap (Int.tdiv a 64)).toNat) 1 [Value.int .u64 (bor .u64 e (u64.wrap (1*2 ^ (min (Int.tmod a 64).toNat 64))))] (Li b 1027 λc=>Sa b 1027 1 [Vi (if a>c then a else c)] d))))))
def F_Fc:=λ(a:Int->WP) (b:Nat) (d:Int) (e:Int->WP) (c:Nat) (f:Bool)=>If f (a 1) (Ds b 1 λg=>Di c 0 λh=>Cl (C_T g h) λl i=>Di c 0 λj=>Di b 0 λk=>If ((decide (j>k))&&(!i)) (a 1) (e (i64.wrap (d+1))))
def F_9f:=λ(e:Int->WP) (d:Nat) (g:Int) (h:Int->WP) (c:Slc) (f:Int->WP) (a:Int)=>If (decide (a<(c.len:Int))) (Ia c.ptr (Ix a c.len (Lz (pblk c.ptr) ((poff c.ptr)+a.toNat*3) zg λi=>Al Y2 y_b λb=>So b 0 3 (zg i) (Di b 0 λj=>Di d 0 λk=>If (decide (j<=k)) (If (decide (a>0)) (F_Fc e d a f b true) (Do b 2 (F_Fc e d a f b))) (F_Fc e d a f b false))))) (h (i64.wrap (g+1)))
def F_ue:=λ(c:Int->WP) e (a:Slc) (f:Int->WP) (b:Int)=>If (decide (b<(a.len:Int))) (Ia a.ptr (Ix b a.len (Lz (pblk a.ptr) ((poff a.ptr)+b.toNat*2) ze λg=>Al [Vt Be,Ns] y_c λd=>So d 0 2 (ze g) (Ds d 1 λh=>U1 0 λi j=>F_9f c e b f h j i)))) (c 0)
def F_ve:=λ(c:Int->WP) (d:Nat) (a:Slc) (f:Int->Int->WP) (g b:Int)=>If (decide (b<(a.len:Int))) (Ia a.ptr (Ix b a.len (Di (pblk a.ptr) ((poff a.ptr)+b.toNat) λe=>If ((decide (e<g))||(decide (e>65536))) (c 1) (f (i64.wrap (e+1)) (i64.wrap (b+1)))))) (Ds d 2 λh=>Cl (C_4b h) λm i=>If (i != 0) (c 1) (Ds d 2 λj=>U1 0 λk l=>F_ue c d j l k))
def F_Gc:=λ(b:Int->WP) a c=>If c (b 1) (Di a 0 λd=>Ds a 1 λe=>U2 (i64.wrap (d+2)) 0 λf g h=>F_ve b a e h f g)
def F_If:=λc (b:Int->WP)=>Al (zn c) y_j λa=>Di a 0 λd=>If (decide (d<0)) (F_Gc b a true) (Di a 0 λe=>F_Gc b a (decide (e>65536)))
def F_Jf:=λ(i:T_j) (b:ByteArray) (c:Int->Int->WP)=>Al (zo i) y_l λe=>Lz e 0 zo λj=>Cl (C_db j) λf=>λa=>(If (f != 0) (c 0 f) λa=>(If ((b.toList==Be.toList)||(decide ((b.size:Int)>64))) (c 0 1) λa=>∃(g:Int),(∀ d,Ext a d->C_zd b d (λ(v20':Int) w''=>v20'=g/\Ext d w''))/\(Di e 1 λh=>Fa ((u32.wrap h)≠0) (Ex (c (i64.wrap (Int.tmod g (u32.wrap h))) 0))) a) a) a
def F_F:=λa b=>If a.ptr.isNone (b (Slc.mk none 0 0)) (Al [] y_b λc=>Ap a 3 32 y_b Y2 (Slc.mk (Z0 c) 0 0) a.len b)
def F_k:=λ(l:OA->Int->WP) c (m:Int) (n:Int->WP) d o=>If o (l none 1) (Dr (Bm c λg=>Dt d 0 λe=>Ds d 1 λp=>Cl (C_a p) λq=>λa=>(Kc d 0 (Vt e) λa=>(Kc (pblk c) (poff c) (Value.map g) λa=>∃(f:Nat) (b:Array MapEntry) (h:Nat),g=some f/\a.heap[f]? =some (.map b h)/\((Fa (zH isKS b) λa=>(Fa ((b.toList.map (·.key)).Nodup) λa=>(Fa (isKS (Vt e)) λa=>∀ i j k,zee b h (Vt e) (Xs q) i j->k={ a with heap:=a.heap.setIfInBounds f (.map i j) }->(n (i64.wrap (m+1))) k) a) a) a)) a) a))
def F_Hc:=λ(c:Slc) (d:OA->Int->WP) (e:OA) (f:Int->WP) (b:Int)=>If (decide (b<(c.len:Int))) (Ia c.ptr (Ix b c.len (Lz (pblk c.ptr) ((poff c.ptr)+b.toNat*2) ze λg=>Al [Vt Be,Ns] y_c λa=>So a 0 2 (ze g) (Dr (Dt a 0 λh=>Cl (C_5c h) λi=>If (!i) (F_k d e b f a true) (If (decide (b>0)) (Ia c.ptr (Ix (i64.wrap (b - 1)) c.len (Dt (pblk c.ptr) ((poff c.ptr)+(i64.wrap (b - 1)).toNat*2) λj=>Dt a 0 λk=>If (!(Op.bytesLess j.toList k.toList)) (F_k d e b f a true) (Ds a 1 λl=>If ((l.len:Int)==0) (F_k d e b f a true) (Ds a 1 λm=>Cl (C_w m) λn=>F_k d e b f a (n != 0)))))) (Ds a 1 λo=>If ((o.len:Int)==0) (F_k d e b f a true) (Ds a 1 λp=>Cl (C_w p) λq=>F_k d e b f a (q != 0))))))))) (d e 0)
def F_we:=λa b=>Cl C_qd λc=>U1 0 λd e=>F_Hc a b c e d
def F_5e:=λ(a:Int) (b:OA->Int->WP)=>If ((decide (a<1))||(decide (a>65536))) (b none 1) (Fa (0<=a) (Fa (a<=a) (Fa ((120:Int)*a<=281474976710656) (Ao (Obj.cells (zp a.toNat Y0) y_e (0,0)) λc=>Al [Value.slice (Z0 c) a.toNat a.toNat,Vi 0,Vi 0,Vo false] y_G λd=>b (Z0 d) 0))))
def F_pf:=λa (b:Bool->WP)=>If (!a.isNone) (Bp a λc=>b (!c.isNone)) (b false)
def F_fd:=λb (a:Int->Bool->WP) c=>If c (a 0 false) (Li b 9 λd=>a d true)
def F_Kf:=λa (b:Int->Bool->WP)=>Cl (C_p a) λc=>If (!c) (F_fd a b true) (Lo a 8 λd=>F_fd a b (!d))
def F_jb:=λe (f:Int->T_d->Bool->WP) a g=>If g (So a 0 9 Y0 (Lz a 0 zi λh=>f 0 h false)) (Ls e 10 λb=>Ia b.ptr (Ix (0:Int) b.len (Lz (pblk b.ptr) ((poff b.ptr)+1) zi λi=>Al Y0 y_e λc=>So c 0 9 (zi i) (Ds c 8 λj=>Cl (C_F j) λk=>So c 8 1 [Xs k] (Dr (Ls e 10 λd=>Ia d.ptr (Ix (0:Int) d.len (Ji d.ptr λl=>Lz c 0 zi λm=>So a 0 9 (zi m) (Lz a 0 zi λn=>f l n true)))))))))
def F_Lf:=λa (b:Int->T_d->Bool->WP)=>Al Y0 y_e λc=>Cl (C_p a) λd=>If (!d) (F_jb a b c true) (Ls a 10 λe=>F_jb a b c ((e.len:Int)==0))
def F_Pe:=λc (b:Int) (d:Bool->WP)=>Al (zL c) y_C λe=>Dp e 0 λf=>Ls f 9 λa=>Ia a.ptr (Ix b a.len (Dp (pblk a.ptr) ((poff a.ptr)+b.toNat) λg=>Cl (C_6b g) λh=>d (decide (h>0))))
def F_ag:=λ(a:OA) (b:Bool->WP)=>Dr (Cl (C_p a) λc=>If c (Lo a 8 λd=>If d (Ls a 10 λe=>If ((e.len:Int)==0) (Ls a 12 λf=>Li a 11 λg=>b ((f.len:Int)==g)) (b false)) (b false)) (b false))
def F_Lb:=λ(a:Int->WP) (b:Int)=>a b
def F_Mb:=λ(b:OA) (a:Int->WP) (d:Bool)=>If d (a 0) (Ls b 3 λc=>Lo b 5 λe=>If (!e) (F_Lb a (i64.wrap ((i64.wrap (Int.tdiv (i64.wrap ((i64.wrap ((c.len:Int)+64)) - 1)) 64))+1))) (F_Lb a (i64.wrap (Int.tdiv (i64.wrap ((i64.wrap ((c.len:Int)+64)) - 1)) 64))))
def F_6e:=λa (b:Int->WP)=>If a.isNone (F_Mb a b true) (Bv a λc=>Fa (FnV c) (F_Mb a b (zLd c)))
def F_Nc:=λ(a b:Int) (c:Bool->WP)=>c ((decide (a>=0))&&(decide (a<b)))
def F_7e:=λa (b:Bool->WP)=>If a.isNone (b true) (Bm a λc=>b c.isNone)
def F_Ab:=λ(a:Int) (b:Slc->Int->WP) c=>b c (i64.wrap (a+1))
def F_Zd:=λ(g:Value) (h:Slc->WP) (a:Slc) (e:Slc->Int->WP) (d:Slc) (b:Int)=>If (decide (b<(a.len:Int))) (Ia a.ptr (Ix b a.len (Dt (pblk a.ptr) ((poff a.ptr)+b.toNat) λf=>Cv g #[Vt f] (λ(c:Slc)=>Xs c) λc=>If (decide ((c.len:Int)>0)) (Al [Vt f,Xs c] y_c λi=>Ap (Slc.mk (Z0 i) 1 1) 2 40 y_c [Vt Be,Ns] d 1 (F_Ab b e)) (F_Ab b e d)))) (h d)
def F_Qe:=λa c b=>Cl (C_q a) λd=>If d (b (Slc.mk none 0 0)) (Ia a (Cl (C_C (some ⟨(pblk a),(poff a),none⟩)) λe=>U2 (Slc.mk none 0 0) 0 λf g h=>F_Zd c b e h f g))
def F_me:=λe c f=>λ(a:World)=>(Bm e λg=>λa=>∃(b:Array MapEntry) (d:Slc) (h:Bool),zhb a g b/\(Fa (zH isKS b) (Fa ((b.toList.map (·.key)).Nodup) (Fa (isKS (Vt c)) (Fa (LkIs b (Vt c) (Ns) (Xs d) h) (Cl (C_a d) f))))) a) a
def F_e:=λ(a:Slc) (c:Int) (d:Int->WP) (b:Int) (e:Int->WP) f=>If f (Dr (Ia a.ptr (Ix (i64.wrap (b - 1)) a.len (Lz (pblk a.ptr) ((poff a.ptr)+(i64.wrap (b - 1)).toNat*2) ze λg=>Ia a.ptr (Ix b a.len (Lz (pblk a.ptr) ((poff a.ptr)+b.toNat*2) ze λh=>Ia a.ptr (Ix b a.len (So (pblk a.ptr) ((poff a.ptr)+b.toNat*2) 2 (ze g) (Ia a.ptr (Ix (i64.wrap (b - 1)) a.len (So (pblk a.ptr) ((poff a.ptr)+(i64.wrap (b - 1)).toNat*2) 2 (ze h) (e (i64.wrap (b - 1)))))))))))))) (d (i64.wrap (c+1)))
def F_5:=λ(a:Slc) (g:Int) h (d:Int) (e f:Int->WP) (b:Int)=>Dr (If (decide (b>g)) (Ia a.ptr (Ix b a.len (Lz (pblk a.ptr) ((poff a.ptr)+b.toNat*2) ze λi=>Ia a.ptr (Ix (i64.wrap (b - 1)) a.len (Lz (pblk a.ptr) ((poff a.ptr)+(i64.wrap (b - 1)).toNat*2) ze λj=>Cv h #[Xg ze i,Xg ze j] (λ(c:Int)=>Vi c) λc=>F_e a d e b f (decide (c<0))))))) (F_e a d e b f false))
def F_6:=λb (c d:Int) e f g (a:Int)=>If (decide (a<d)) (U1 a λh i=>F_5 b c e a g i h) f
def F_kb:=λb (a c:Int) d e=>U1 (i64.wrap (a+1)) λf g=>F_6 b a c d e g f
def F_Pd:=λ(e:T_c) (a:OA) (b:Int->WP)=>Al (zh e) y_a λc=>Lz c 0 zh λf=>Cl (C_Lb f) λd=>If (d != 0) (b d) (Di c 0 λg=>Bi a λh=>If (g != h) (b 6) (Bi a λi=>So (pblk a) (poff a) 1 [Vi (i64.wrap (i+1))] (b 0)))
def F_R:=λ(a:Int->WP) b=>If b (a 1) (a 0)
def F_Xg:=λ(c:T_c) (a:Int->WP)=>Al (zh c) y_a λb=>Di b 0 λd=>If (decide (d<1)) (F_R a true) (Di b 0 λe=>If (decide (e>65536)) (F_R a true) (Ds b 1 λf=>If (decide ((f.len:Int)>32)) (F_R a true) (Ds b 1 λg=>Cl (C_b g (Value.func (.func 113) #[] #[])) (F_R a))))
def F_wc:=λ(b:Int) (a:Int->WP) (c:Bool)=>If c (a 2) (If ((b != 0)&&(b != 1)) (a 1) (a 0))
def F_ee:=λa (b:Int) (c:Int->WP)=>If a.isNone (F_wc b c true) (Bo a λd=>F_wc b c (!d))
def F_yd:=λa b=>If a.ptr.isNone (b (Slc.mk none 0 0)) (Al [] y_k λc=>Ap a 1 1 y_k [Vb 0] (Slc.mk (Z0 c) 0 0) a.len b)
def F_1e:=λ(g:Int) (d:Slc) (h:List Int->WP)=>Ao (Obj.cells ((List.map (Value.int .u8) (List.replicate 20 0))).toArray y_v (0,0)) λa=>Cl (C_Xb (Slc.mk (Z0 a) 4 20) 1464880980) (Cl (C_Xb (Slc.mk (some ⟨a,4,none⟩) 8 16) g) (Cl (C_Xb (Slc.mk (some ⟨a,12,none⟩) 4 8) (u64.wrap (u32.wrap (d.len:Int)))) (Dr (Cl (C_jd (Z0 a) d) λi=>Cl (C_Xb (Slc.mk (some ⟨a,16,none⟩) 4 4) (u64.wrap i)) λe=>∃(b:List Int),(b.length=20)/\zf e a 0 (List.map (Value.int .u8) b)/\(So a 0 20 (List.map (Value.int .u8) b) λf=>∃(c:List Int),(c.length=20)/\zf f a 0 (List.map (Value.int .u8) c)/\(h c) f) e))))
def F_4c:=λ(c:T_b->Int->WP) (b a e:Nat)=>Di a 0 λf=>If (f != 0) (Dr (Di a 0 λd=>So b 0 3 Y4 (Kc a 0 (Vi d) (So a 0 1 [Vi d] (Lz b 0 zn λg=>Lz a 0 (λ(h:Int)=>[Vi h]) (c g)))))) (Dp e 0 λi=>Cl (C_V i) λj=>If (decide (j>0)) (So b 0 3 Y4 (So a 0 1 [Vi 4] (Lz b 0 zn λk=>Lz a 0 (λ(l:Int)=>[Vi l]) (c k)))) (Lz b 0 zn λm=>Cl (C_Jb m) λn=>If (n != 0) (So b 0 3 Y4 (So a 0 1 [Vi 1] (Lz b 0 zn λo=>Lz a 0 (λ(p:Int)=>[Vi p]) (c o)))) (Lz b 0 zn λq=>So b 0 3 (zn q) (So a 0 1 [Vi 0] (Lz b 0 zn λr=>Lz a 0 (λ(s:Int)=>[Vi s]) (c r))))))
def F_mc:=λc d e f g (h:Int) (i:Int->WP) a (j:Int) (k:Int->WP) l=>If l (Dr (Ds a 1 λb=>Cl (C_Sc (Z0 g) (Z0 d) (Z0 e) (Z0 f)) λm=>Kc a 1 (Xs b) (Al (zg m) y_b λn=>Kc a 1 (Xs b) (Ap (Slc.mk (Z0 n) 1 1) 3 32 y_b Y2 b 1 λo=>So a 1 1 [Xs o] (k (i64.wrap (j - 1))))))) (Ds c 2 λp=>Lz a 0 ze λq=>Al (ze q) y_c λr=>Ap (Slc.mk (Z0 r) 1 1) 2 40 y_c [Vt Be,Ns] p 1 λs=>So c 2 1 [Xs s] (i (u64.wrap (h - 1))))
def F_fe:=λc a d e f (g:Int) (h:Int->WP) i (j:Int->WP) (b:Int)=>If (decide (b>0)) (Di a 0 λk=>F_mc c a d e f g h i b j (k==0)) (F_mc c a d e f g h i b j false)
def F_nc:=λ(f:T_b->Int->WP) (b c a g h:Nat) (j:Int) (k:Int->WP) (l:Bool)=>If l (Dp a 0 λm=>Cl (C_kb m 64) λn=>Al [Vt Be,Ns] y_c λi=>So i 0 2 [Vt n,Ns] (Dv g 0 λo=>Cv o #[Vo false,Vi 0] (λ(d:Bool)=>Vo d) λd=>If d (F_4c f b c a) (Dv h 0 λp=>Cv p #[] (λ(e:Int)=>Vi e) λe=>U1 e λq r=>F_fe b c a g h j k i r q))) (F_4c f b c a)
def F_Mf:=λ(c:T_b->Int->WP) d a e f g (h:Int->WP) (b:Int)=>If (decide (b>0)) (Di a 0 λi=>F_nc c d a e f g b h (i==0)) (F_nc c d a e f g b h false)
def F_5c:=λa b c d e f (g:Int)=>U1 g λh i=>F_Mf a b c d e f i h
def F_oc:=λ(h:T_b->Int->WP) (a b c d e:Nat) (k:Int) (l:Int->WP) (m:Bool)=>If m (Dr (Ds a 1 λf=>Dv e 0 λn=>Cv n #[] (λ(g:Int)=>Vi g) λg=>Kc a 1 (Xs f) (Al [Vi g] y_g λo=>Kc a 1 (Xs f) (Ap (Slc.mk (Z0 o) 1 1) 1 8 y_g [Vi 0] f 1 λp=>So a 1 1 [Xs p] (l (i64.wrap (k - 1))))))) (Dp c 0 λq=>Cl (C_sb q) λi=>Di b 0 λr=>If (r==0) (Dv d 0 λs=>Cv s #[Vo false,Vi 0] (λ(j:Bool)=>Vo j) λj=>F_5c h a b c d e i) (F_5c h a b c d e i))
def F_Nf:=λ(c:T_b->Int->WP) d a e f g (h:Int->WP) (b:Int)=>If (decide (b>0)) (Di a 0 λi=>F_oc c d a e f g b h (i==0)) (F_oc c d a e f g b h false)
def F_zg:=λg j=>Al Y4 y_j λh=>Al [Vi 0] y_Y λc=>Cl (C_ic g) λk=>Al [Vp none] y_H λa=>So a 0 1 [Vp k] (Al [Vi 0] y_g λi=>So i 0 1 [Vi (g.len:Int)] (Al [Value.nilFunc] y_u λd=>So d 0 1 [Value.func (.func 118) #[] #[Vp (Z0 c),Vp (Z0 a),Vp (Z0 i)]] (Al [Value.nilFunc] y_7 λb=>So b 0 1 [Value.func (.func 121) #[] #[Vp (Z0 c),Vp (Z0 a),Vp (Z0 d)]] (Dv b 0 λl=>Cv l #[] (λ(e:Int)=>Vi e) λe=>So h 0 1 [Vi e] (Dv b 0 λm=>Cv m #[] (λ(f:Int)=>Vi f) λf=>U1 f λn o=>F_Nf j h c a d b o n)))))
def F_pc:=λ(b:Slc) (e:Int) (d:Int->Bool->WP) (f:Int->Int->WP) (a c:Int)=>If (decide (a<c)) (Ia b.ptr (Ix (i64.wrap (Int.fdiv (u64.wrap (i64.wrap (a+c))) (2 ^ 1))) b.len (Di (pblk b.ptr) ((poff b.ptr)+(i64.wrap (Int.fdiv (u64.wrap (i64.wrap (a+c))) (2 ^ 1))).toNat) λg=>Cl (C_4c g e) λh=>If h (f (i64.wrap ((i64.wrap (Int.fdiv (u64.wrap (i64.wrap (a+c))) (2 ^ 1)))+1)) c) (f a (i64.wrap (Int.fdiv (u64.wrap (i64.wrap (a+c))) (2 ^ 1))))))) (If (decide (a<(b.len:Int))) (Ia b.ptr (Ix a b.len (Di (pblk b.ptr) ((poff b.ptr)+a.toNat) λi=>If (i==e) (d a true) (Ia b.ptr (Ix a b.len (Di (pblk b.ptr) ((poff b.ptr)+a.toNat) λj=>Cl (C_8b j) λk=>If k (Cl (C_8b e) (d a)) (d a false))))))) (d a false))
def F_Rc:=λ(a:Slc) (b:Int) c=>U2 0 (a.len:Int) λd e f=>F_pc a b c f d e
def F_ae:=λ(b:ByteArray) (d:Int->WP) (e:Int->Int->WP) (c a:Int)=>If (decide (a<(b.size:Int))) (Ix a b.size (e (u32.wrap ((bxor .u32 c (u32.wrap (zCe b a)))*16777619)) (i64.wrap (a+1)))) (d c)
def F_ug:=λa b=>U2 2166136261 0 λc d e=>F_ae a b e c d
def F_kg:=λ(a:OA->WP)=>Ao (Obj.map #[] 0) λb=>Al [Value.map (some b)] y_S λc=>a (Z0 c)
def F_lg:=λ(a:ByteArray) (b:Bool->WP)=>b ((!(a.toList==Be.toList))&&(decide ((a.size:Int)<=64)))
def F_f:=λ(a:Int->WP) (b:Int) (c:Int->WP) d=>If d (a 1) (c (i64.wrap (b+1)))
def F_Of:=λ(b:Slc) (c d:Int->WP) (a:Int)=>If (decide (a<(b.len:Int))) (Ia b.ptr (Ix a b.len (Lz (pblk b.ptr) ((poff b.ptr)+a.toNat*3) zg λf=>Al Y2 y_b λe=>So e 0 3 (zg f) (Di e 0 λg=>If (decide (g<1)) (Ex (F_f c a d true)) (Di e 0 λh=>If (decide (h>65536)) (Ex (F_f c a d true)) (Dt e 1 λi=>If (decide ((i.size:Int)>1024)) (Ex (F_f c a d true)) (Do e 2 λj=>If j (Dt e 1 λk=>If (!(k.toList==Be.toList)) (Ex (F_f c a d true)) (If (decide (a>0)) (Ia b.ptr (Ix (i64.wrap (a - 1)) b.len (Di (pblk b.ptr) ((poff b.ptr)+(i64.wrap (a - 1)).toNat*3) λl=>Di e 0 λm=>Ex (F_f c a d (decide (l>=m)))))) (Ex (F_f c a d false)))) (If (decide (a>0)) (Ia b.ptr (Ix (i64.wrap (a - 1)) b.len (Di (pblk b.ptr) ((poff b.ptr)+(i64.wrap (a - 1)).toNat*3) λn=>Di e 0 λo=>Ex (F_f c a d (decide (n>=o)))))) (Ex (F_f c a d false)))))))))) (c 0)
def F_Ag:=λa b=>U1 0 λc d=>F_Of a b d c
def F_qf:=λa (b:Bool->WP)=>If (!a.isNone) (Bi a λc=>b (c != 0)) (b false)
def F_0d:=λa b=>If a.ptr.isNone (b (Slc.mk none 0 0)) (Al [] y_g λc=>Ap a 1 8 y_g [Vi 0] (Slc.mk (Z0 c) 0 0) a.len b)
def F_8e:=λa b=>Cl (C_s a) λc=>If (!c) (b 0) (Lp a 1 λd=>Cl (C_N d) b)
def F_Re:=λa b=>Bm a λc=>Cl (C_f c) λd=>Cl (C_qc d) b
def F_Og:=λ(c:T_i) (a:Bool->WP)=>Al (zq c) y_f λb=>Dt b 0 λd=>If (d.toList==Be.toList) (a true) (Dt b 0 λe=>If (decide ((e.size:Int)>64)) (a true) (Dt b 1 λf=>If (decide ((f.size:Int)>1024)) (a true) (Do b 2 λg=>If g (Dt b 1 λh=>a (!(h.toList==Be.toList))) (a false))))
def F_0c:=λa b (c:Bool->WP)=>Cl (C_W a b) λd=>c (decide (d>=0))
def F_pg:=λ(b:Slc) (c:Int) d (e:Int->WP) (a:Int)=>If (decide (a<(b.len:Int))) (Fa (0<=i64.wrap (8*a)) (Ia b.ptr (Ix a b.len (So (pblk b.ptr) ((poff b.ptr)+a.toNat) 1 [Vb (u8.wrap (Int.fdiv c (2 ^ (min (i64.wrap (8*a)).toNat 64))))] (e (i64.wrap (a+1))))))) d
def F_Ng:=λa (b:Int) c=>U1 0 λd e=>F_pg a b c e d
def F_Pf:=λa b c=>Ia a (Cl (C_Fd (Slc.mk (some ⟨(pblk a),(poff a)+4,none⟩) 12 16)) λd=>Cl (C_gd d b) c)
def F_rf:=λ(a:Slc) (b:OA->WP)=>Cl (C_u a) λc=>Al [Vo true,Xs c,Vi 0] y_O λd=>b (Z0 d)
def F_C:=λa b c (d:Bool->WP)=>Bp b λe=>Cl (C_V e) λf=>Sb c 1 [Vi f] (Bi a λg=>d (g != 0))
def F_xe:=λ(f:Bool) (g:Int) (a c b:OA) (d:Bool->WP)=>Bi a λh=>If (h != 0) (F_C a c b d) (Dr (Bp c λi=>Bi b λe=>Cl (C_V i) λj=>Kc (pblk b) (poff b) (Vi e) (If (j==e) (Bp c λk=>Cl (C_7b k) λl=>Sb a 1 [Vi l] (Bi a λm=>If (m==0) (Sb a 1 [Vi 5] (F_C a c b d)) (F_C a c b d))) (If f (Sb a 1 [Vi g] (F_C a c b d)) (F_C a c b d)))))
def F_Se:=λa (b:Int->WP)=>If a.isNone (b 0) (Ls a 1 λc=>b (c.len:Int))
def F_Nb:=λb a c=>If c (a 4) (Li b 2 a)
def F_Tc:=λa b c=>If c (b 2) (Li a 2 λd=>If (d==0) (Ls a 1 λe=>F_Nb a b (decide ((e.len:Int)>0))) (F_Nb a b false))
def F_9e:=λa b=>If a.isNone (F_Tc a b true) (Bo a λc=>F_Tc a b (!c))
def F_bg:=λ(d e f:OA) (a:Int->WP)=>Bi d λg=>If (g != 0) (a 0) (Bp e λh=>Cl (C_sb h) λc=>Bv f λi=>Cv i #[Vo (decide (c>65536)),Vi 3] (λ(b:Bool)=>Vo b) λb=>If b (a 0) (a (i64.wrap c)))
def F_af:=λb c=>Al [Value.int .u64 0] y_V λa=>Cl (C_X b (Value.func (.func 144) #[] #[Vp (Z0 a)])) λf=>Du a 0 λd=>So a 0 1 [Value.int .u64 d] (Lz a 0 (λ(e:Int)=>[Value.int .u64 e]) c)
def F_zd:=λb a=>Lz a 0 zg λc=>So a 0 3 (zg c) (Lz a 0 zg b)
def F_J:=λd e b a f=>If f (Bp d λg=>Cl (C_kb g 1024) λh=>So a 1 1 [Vt h] (Bv e λi=>Cv i #[Vo false,Vi 0] (λ(c:Bool)=>Vo c) λc=>F_zd b a)) (F_zd b a)
def F_ye:=λh i b c d=>Al Y2 y_b λa=>Bv h λj=>Cv j #[] (λ(e:Int)=>Vi e) λe=>So a 0 1 [Vi e] (Bi i λk=>If (k != 0) (Lz a 0 zg λl=>So a 0 3 (zg l) (Lz a 0 zg d)) (Bp b λm=>Cl (C_Tb m 1) λg=>So a 2 1 [Vo (g==1)] (Bv c λn=>Cv n #[Vo (decide (g>1)),Vi 4] (λ(f:Bool)=>Vo f) λf=>If (!f) (Do a 2 λo=>F_J b c d a (!o)) (F_J b c d a false))))
def F_ze:=λb c d=>Al [Vi c] y_g λe=>Al [Value.int .u64 0] y_V λa=>Cl (C_X b (Value.func (.func 146) #[] #[Vp (Z0 e),Vp (Z0 a)])) λh=>Du a 0 λf=>So a 0 1 [Value.int .u64 f] (Lz a 0 (λ(g:Int)=>[Value.int .u64 g]) d)
def F_Te:=λb c d=>Al [Vi c] y_g λe=>Al [Vt Be] y_9 λa=>Cl (C_X b (Value.func (.func 147) #[] #[Vp (Z0 e),Vp (Z0 a)])) λh=>Dt a 0 λf=>So a 0 1 [Vt f] (Lz a 0 (λ(g:ByteArray)=>[Vt g]) d)
def F_qg:=λ(a b:Int) (c:Bool->WP)=>Cl (C_Uc a) λd=>If d (Cl (C_Uc b) λe=>c ((!e)||(decide (a<b)))) (c (decide (a<b)))
def F_Jg:=λ(a:Int) (b:Bool->WP)=>b (a != a)
def F_Cb:=λa (b:Int->WP) c=>If c (b 0) (Bs a λd=>Li a 2 λe=>Ex (b (i64.wrap ((d.len:Int) - e))))
def F_Ad:=λa (b:Int->WP)=>Cl (C_O a) λc=>If c (F_Cb a b true) (Lo a 3 (F_Cb a b))
def F_Ib:=λ(a:Option Nat) (b:Value->WP)=>Al [Value.map a] y_t λc=>b (Value.func (.func 154) #[] #[Vp (Z0 c)])
def F_7:=λ(a:Slc) (e:Value) (d f:Int->WP) (b:Int)=>If (decide (b<(a.len:Int))) (Ia a.ptr (Ix b a.len (Lz (pblk a.ptr) ((poff a.ptr)+b.toNat*3) zq λg=>Cv e #[Xg zq g] (λ(c:Bool)=>Vo c) λc=>If c (d b) (f (i64.wrap (b+1)))))) (d (-1))
def F_gd:=λa b c=>U1 0 λd e=>F_7 a b c e d
def F_Bg:=λ(a:Slc) (e:Int->WP) f (g:Int->Int->WP) (b c:Int)=>If (decide (c<(a.len:Int))) (Ia a.ptr (Ix c a.len (Db (pblk a.ptr) ((poff a.ptr)+c.toNat) λd=>Iy (bxor .u8 (u8.wrap b) d) (256:Int) (Da f (0+(bxor .u8 (u8.wrap b) d).toNat) λh=>g (bxor .u32 h (Int.fdiv b (2 ^ 8))) (i64.wrap (c+1)))))) (e (bxor .u32 (IntKind.max .u32) b))
def F_vg:=λ(c:Int) d e=>λ(f:World)=>C_rd f (λ(a:List Int) g=>(a.length=256)->(Ao (Obj.cells ((List.map (Value.int .u32) (List.replicate 256 0))).toArray y_x (0,0)) λb=>So b 0 256 (List.map (Value.int .u32) a) (U2 (bxor .u32 (IntKind.max .u32) c) 0 λh i j=>F_Bg d e b j h i)) g)
def F_Yg:=λa b=>Cl (C_gd 0 a) b
def F_x:=λ(a:OA) (p:Value) (g:Bool->WP) (k:Bool) (h:World)=>(k=true->(g false h)) /\
 (k=false->(IsAt a/\(∃(l:Slc),h.cell? ⟨(pblk a),(poff a)+1,none⟩=some (Xs l)/\(zw (P:=Tryz.prog) p #[Xs l] h (λq i=>∃(c:Int) (d:Int),q=Ending.returned (Value.tuple #[Vi c,Vi d])/\(((d != 0)=true->(IsAt a/\(zr i (pblk a) ((poff a)+2) 1/\(∀ m,m=World.puts (pblk a) ((poff a)+2) [Vi d] i->(g false m))))) /\
 ((d != 0)=false->(∀ b,(∃ r,b=i.drewN r)->(IsAt a/\(∃(j:Slc),b.cell? ⟨(pblk a),(poff a)+1,none⟩=some (Xs j)/\(IsAt a/\(∃(e:Slc),b.cell? ⟨(pblk a),(poff a)+1,none⟩=some (Xs e)/\(IsAt a/\(∃(f:Slc),b.cell? ⟨(pblk a),(poff a)+1,none⟩=some (Xs f)/\((0<=c/\c<=(e.len:Int)/\(e.len:Int)<=(f.len:Int)/\(f.len:Int)<=(j.cap:Int))/\(∀ n,n=Slc.cut 1 j c (e.len:Int) (f.len:Int)->(IsAt a/\(zr b (pblk a) ((poff a)+1) 1/\(∀ o,o=World.puts (pblk a) ((poff a)+1) [Xs n] b->(g true o))))))))))))))))))))
def F_hd:=λ(a:OA) (b:Value) (c:Bool->WP)=>If a.isNone (F_x a b c true) (Bo a λd=>If (!d) (F_x a b c true) (Li a 2 λe=>F_x a b c (e != 0)))
def F_wg:=λa b (c:Int->Int->WP)=>Cl (C_Ac a) λd e f=>Sb b 1 [Value.int .u64 d] (c e f)
def F_Qf:=λ(b:Slc) (d:Int->Int->Int->WP) (f:Int->Int->WP) (e a:Int)=>If (decide (a<(b.len:Int))) (Ia b.ptr (Ix a b.len (Db (pblk b.ptr) ((poff b.ptr)+a.toNat) λc=>If (((a==9)&&(decide (c>1)))||((decide (a>0))&&(c==0))) (d 0 0 4) (Fa (0<=i64.wrap (7*a)) (If (decide (c<128)) (d (bor .u64 e (u64.wrap ((u64.wrap (band .u8 c 127))*2 ^ (min (i64.wrap (7*a)).toNat 64)))) (i64.wrap (a+1)) 0) (f (bor .u64 e (u64.wrap ((u64.wrap (band .u8 c 127))*2 ^ (min (i64.wrap (7*a)).toNat 64)))) (i64.wrap (a+1)))))))) (d 0 0 5)
def F_Cg:=λa b=>U2 0 0 λc d e=>F_Qf a b e c d
def F_2:=λ(a:Slc) d c (e:Int->Int->WP) (f:Int->WP) (b:Int)=>If (decide (b>=0)) (Dr (Bu c λg=>Ia a.ptr (Ix b a.len (Db (pblk a.ptr) ((poff a.ptr)+b.toNat) λh=>So (pblk c) (poff c) 1 [Value.int .u64 (bor .u64 (u64.wrap (g*2 ^ 8)) (u64.wrap h))] (f (i64.wrap (b - 1))))))) (Bi d λi=>e i 0)
def F_H:=λ(c:Slc) (a d:OA) (b:Int->Int->WP) (e:Bool)=>If e (b 0 1) (Bi a λf=>If (decide (f>(c.len:Int))) (b 0 5) (Bi a λg=>U1 (i64.wrap (g - 1)) λh i=>F_2 c a d b i h))
def F_Oc:=λb a c (d:Int->Int->WP)=>Bi a λe=>If (decide (e<1)) (F_H b a c d true) (Ji a λf=>F_H b a c d (decide (f>8)))
def F_Uc:=λ(c:Slc) (f j:OA) (e:Int->Int->WP)=>Bi f λk=>If (decide (k<0)) (e 0 1) (Cl (C_Ac c) λd b g=>λa=>(If (g != 0) (e 0 g) λa=>(Bi f λl=>λa=>(If (decide (d>(u64.wrap l))) (e 0 3) λa=>(If (decide (d>(u64.wrap (i64.wrap ((c.len:Int) - b))))) (e 0 5) λa=>(Fa ((0<=b/\b<=i64.wrap (b+(i64.wrap d))/\i64.wrap (b+(i64.wrap d))<=(c.cap:Int)/\(c.cap:Int)<=(c.cap:Int))) λa=>∀ h,h=Slc.cut 1 c b (i64.wrap (b+(i64.wrap d))) (c.cap:Int)->(∃ i:ByteArray,zj a h 1 (z6 i)/\(Sb j 1 [Vt i] (e (i64.wrap (b+(i64.wrap d))) 0)) a)) a) a) a) a) a)
def F_cg:=λ(a:Int) (b:Bool->WP)=>b (a != a)
def F_Bd:=λa (b:Bool->WP)=>If a.isNone (b true) (Bs a λc=>b c.ptr.isNone)
def F_Hd:=λd (a:Int) (e:Int->WP) (f:Int->Int->WP) (b c:Int)=>If (decide (c<8)) (f (bxor .u32 (Int.fdiv b (2 ^ 1)) (band .u32 2197175160 (u32.wrap (0 - (band .u32 b 1))))) (i64.wrap (c+1))) (Iy a 256 (So d (0+a.toNat) 1 [Value.int .u32 b] (e (i64.wrap (a+1)))))
def F_Id:=λ(h:List Int->WP) (e f:Nat) (i:Int->WP) (b:Int)=>λ(a:World)=>(If (decide (b<256)) (U2 (u32.wrap b) 0 λj k l=>F_Hd f b i l j k) λa=>∃(c:List Int),(c.length=256)/\zf a f 0 (List.map (Value.int .u32) c)/\(So e 0 256 (List.map (Value.int .u32) c) λg=>∃(d:List Int),(d.length=256)/\zf g e 0 (List.map (Value.int .u32) d)/\(h d) g) a) a
def F_mg:=λa=>Ao (Obj.cells ((List.map (Value.int .u32) (List.replicate 256 0))).toArray y_x (0,0)) λb=>Ao (Obj.cells ((List.map (Value.int .u32) (List.replicate 256 0))).toArray y_x (0,0)) λc=>U1 0 λd e=>F_Id a b c e d
def F_Ae:=λa b=>If a.isNone (b 0) (Li a 1 b)
def F_sf:=λa (b:Bool->WP)=>If a.isNone (b true) (Bm a λc=>b c.isNone)
def F_c:=λb a c=>Lz c 0 zk λd=>So a 0 6 (zk d) (Lz a 0 zk b)
def F_9:=λb c a d=>So a 4 1 [Vi (i64.wrap (d - 1))] (F_c b c a)
def F_ab:=λa b c d e=>Lz e 0 zI λf=>Cl (C_4 a f) (F_c b c d)
def F_W:=λ(a:OA) (f:Int) (c:T_a->WP)=>Al Y1 y_d λd=>Li a 1 λn=>Al Y1 y_d λb=>So b 0 6 [Vi 0,Vb 0,Vi n,Vi 0,Vi 0,Vi 0] (If (f==9) (Bp a λo=>Lp o 7 λp=>Cl (C_9b p) λq=>Sa a 4 1 [Xs q] (Dr (Lp a 3 λh=>Ia a (Lz (pblk a) (poff a) zL λr=>Ls a 4 λi=>Cl (C_o r) λs=>Kc (pblk a) ((poff a)+4) (Xs i) (Kc (pblk a) ((poff a)+3) (Vp h) (Cl (C_Ab a) λt=>Kc (pblk a) ((poff a)+4) (Xs i) (Kc (pblk a) ((poff a)+3) (Vp h) (Cl (C_jc h s t i) λP=>Dr (Bp a λk=>Bp a λu=>Lo u 15 λv=>If v (Sa k 15 1 [Vo true] (F_c c d b)) (Lb a 2 λx=>Sa k 15 1 [Vo (x==4)] (F_c c d b))))))))))) (If (f==10) (Lp a 3 λy=>Cl (C_Sb y) λj z Q=>Al Y0 y_e λl=>So l 0 9 (zi z) (Dr (Bp a λA=>Ls A 9 λg=>Ia g.ptr (Ix j g.len (Dp (pblk g.ptr) ((poff g.ptr)+j.toNat) λB=>Lz l 0 zi λC=>Cl (C_Db B C) λS T=>Lp a 3 λD=>Cl (C_Dc D) λU=>So b 3 1 [Vi j] (F_c c d b)))))) (If (f==11) (Lp a 5 λE=>Cl (C_rb E) λm=>Lp a 5 λF=>Cl (C_ac F) λG=>If (G != 0) (Lp a 3 λH=>Cl (C_eb H) λI V=>Cl (C_4 a (T_m.mk 11 I false (Slc.mk none 0 0) 0)) (Bp a λJ=>Sa J 17 1 [Vo true] (F_9 c d b m))) (F_9 c d b m)) (If (f==12) (Lp a 3 λK=>Cl (C_tb K) λL W X=>Al Y6 y_o λe=>So e 0 5 (zI L) (Li a 6 λM=>If (M != 0) (Dr (Li a 6 λN=>Di e 1 λO=>So e 0 5 [Vi N,Vi O,Vo false,Ns,Vi 0] (F_ab a c d b e))) (F_ab a c d b e))) (F_c c d b)))))
def F_1d:=λa b=>Lb a 2 λd=>If (d != 4) b (Lp a 3 λe=>Cl (C_tb e) λf g n=>Al Y6 y_o λc=>So c 0 5 (zI f) (Dr (Bp a λh=>Lp h 4 λi=>Di c 1 λj=>Ls a 4 λk=>Cl (C_sd i (T_b.mk j k g)) λl m=>Sa a 5 1 [Vp l] (Sa a 6 1 [Vi m] b))))
def F_Vc:=λ(a:Int) (b:Slc->Int->WP) c=>b c (i64.wrap (a+1))
def F_ne:=λ(c:OA) (e:Slc->WP) (d:Slc->Int->WP) (b:Slc) (a:Int)=>Li c 1027 λf=>If (decide (a<=f)) (Cl (C_Mb c a) λg=>If g (Al [Vi a] y_g λh=>Ap (Slc.mk (Z0 h) 1 1) 1 8 y_g [Vi 0] b 1 (F_Vc a d)) (F_Vc a d b)) (e b)
def F_Wc:=λa b c=>If c (b (Slc.mk none 0 0)) (Li a 1 λd=>U2 (Slc.mk none 0 0) (i64.wrap (d+1)) λe f g=>F_ne a b g e f)
def F_bf:=λa b=>If a.isNone (F_Wc a b true) (Bo a λc=>F_Wc a b (!c))
def F_m:=λ(f j:Nat) (k:Recs) (o:Bool->WP) (p:Int) (q:Nat) (r:World)=>∀ c,(∃ s,c=r.drewN s)->(∃(b:OA),c.cell? ⟨f,0,none⟩=some (Vp b)/\(∃(d:OA),c.cell? ⟨f,0,none⟩=some (Vp d)/\(IsAt d/\(∃(g:Slc),c.cell? ⟨(pblk d),(poff d)+10,none⟩=some (Xs g)/\(∃(a:T_d),zf c q 0 (zi a)/\(∀ l e,l=c.heap.size->e=c.alloc (Obj.cells ([Vi p,Vb a.Kind,Vi a.From,Vi a.Number,Vt a.Write.Key,Vt a.Write.Val,Vo a.Write.Drop,Vt a.Key,Vt a.End,Xs a.Beyond]).toArray y_w (0,0))->(e.cell? ⟨(pblk d),(poff d)+10,none⟩=some (Xs g)/\e.cell? ⟨f,0,none⟩=some (Vp d)/\e.cell? ⟨f,0,none⟩=some (Vp b)/\(∃ m,zj e (Slc.mk (Z0 l) 1 1) 10 m/\zG 10 128 y_w [Vi 0,Vb 0,Vi 0,Vi 0,Vt Be,Vt Be,Vo false,Vt Be,Vt Be,Ns] g m 1 e (λt h=>h.cell? ⟨f,0,none⟩=some (Vp b)/\(IsAt b/\(zr h (pblk b) ((poff b)+10) 1/\(∀ i,i=World.puts (pblk b) ((poff b)+10) [Xs t] h->((i.heap[j+1]? =some (.loop (k .busy none))/\(∀ n,n=i.putObj (j+1) (.loop (k .ready none))->o true n)))))))))))))))
def F_bc:=λ(a m n t:Nat) (d:Recs) (e:Nat) (f:Bool->WP) (g:Int)=>Dr (Dp a 0 λh=>Bi h λo=>Di m 0 λp=>Al Y0 y_e λb=>Kc m 0 (Vi p) (Kc (pblk h) (poff h) (Vi o) (Kc a 0 (Vp h) (So b 0 9 [Vb 0,Vi o,Vi p,Vt Be,Vt Be,Vo false,Vt Be,Vt Be,Ns] (Dp a 0 λu=>Lb u 5 λi=>If (i==1) (Dr (Dp a 0 λj=>Lt j 6 λq=>So b 0 1 [Vb 2] (Kc (pblk j) ((poff j)+6) (Vt q) (Kc a 0 (Vp j) (So b 6 1 [Vt q] (F_m a e d f g b)))))) (If (i==2) (Dr (Dp a 0 λk=>Lt k 6 λr=>Dp a 0 λc=>Lt c 7 λl=>So b 0 1 [Vb 3] (Kc (pblk c) ((poff c)+7) (Vt l) (Kc a 0 (Vp c) (Kc (pblk k) ((poff k)+6) (Vt r) (Kc a 0 (Vp k) (So b 6 1 [Vt r] (Kc (pblk c) ((poff c)+7) (Vt l) (Kc a 0 (Vp c) (So b 7 1 [Vt l] (F_m a e d f g b))))))))))) (If (i==3) (Dr (Di n 0 λs=>So b 0 1 [Vb 4] (Kc n 0 (Vi s) (So b 2 1 [Vi s] (F_m a e d f g b))))) (If (i==4) (Ds t 0 λv=>Cl (C_F v) λx=>So b 0 1 [Vb 5] (So b 8 1 [Xs x] (F_m a e d f g b))) (F_m a e d f g b)))))))))
def F_cc:=λ(d:Int->WP) (a:Nat)=>λ(b:World)=>b.heap[a]? =some (.deferred (some []))/\(∀ c,c=b.putObj a (.deferred none)->(d 0) c)
def F_j:=λ(n:Int->WP) (b h A B:Nat) (o:Bool) (p:World)=>(o=true->(n 1 p)) /\
 (o=false->(∀ d,(∃ C,d=p.drewN C)->(∃(e:OA),d.cell? ⟨b,0,none⟩=some (Vp e)/\(∃(c:OA),d.cell? ⟨b,0,none⟩=some (Vp c)/\(∃(i:Int),d.cell? ⟨h,0,none⟩=some (Vi i)/\(IsAt e/\(zr d (pblk e) ((poff e)+8) 1/\(∀ g,g=World.puts (pblk e) ((poff e)+8) [Vo true] d->(g.cell? ⟨h,0,none⟩=some (Vi i)/\g.cell? ⟨b,0,none⟩=some (Vp c)/\(IsAt c/\(zr g (pblk c) ((poff c)+9) 1/\(∀ j,j=World.puts (pblk c) ((poff c)+9) [Vi i] g->((∃(q:OA),j.cell? ⟨b,0,none⟩=some (Vp q)/\(C_6c q j (λ(D:Value) r=>∀(f:Recs) (a:Nat) s,a=r.heap.size->s=(r.alloc (.deferred (some []))).alloc (.loop (f .ready none))->(∀(t:Int) (k:World) (u:Bool->WP),k.heap[a+1]? =some (.loop (f .ready none))->(∀ v,v=k.putObj (a+1) (.loop (f .busy none))->F_bc b h A B f a u t v)->zWb (P:=Tryz.prog) (zBc (a+1)) #[Vi t] k (λl E=>∃ b,l=Ending.returned (.bool b)/\u b E))->zw (P:=Tryz.prog) D #[zBc (a+1)] s (λl x=>(∃ F,l=Ending.returned F)/\∃ y m,x.heap[a+1]? =some (.loop (f y m))/\y≠ .busy/\∀ z,z=x.putObj (a+1) (.loop (f .exhausted m))->(((m=none)/\(F_cc n a z))))))))))))))))))))
def F_Qd:=λ(f:OA) (g h:Int) (i:Slc) (b:Int->WP)=>Al [Vp f] y_y λc=>Al [Vi g] y_g λa=>Al [Vi h] y_g λd=>Al [Xs i] y_U λe=>Dp c 0 λj=>Cl (C_p j) λk=>If (!k) (b 2) (Dp c 0 λl=>Lo l 8 λm=>If m (b 10) (Di a 0 λn=>If (decide (n<0)) (F_j b c a d e true) (Di a 0 λo=>If (decide (o>65536)) (F_j b c a d e true) (Di d 0 λp=>If (decide (p<0)) (F_j b c a d e true) (Di d 0 λq=>Di a 0 λr=>If (decide (q>r)) (F_j b c a d e true) (Ds e 0 λs=>Di a 0 λt=>Cl (C_Ad s (i64.wrap (t+1))) λu=>F_j b c a d e (!u)))))))
def F_Ue:=λa b=>Al (zL a) y_C λc=>Dp c 0 λd=>Lp d 7 λe=>Cl (C_cb e) b
def F_y:=λ(a:Int) (b:Int->Int->WP) (c:Int)=>b c (i64.wrap (a+1))
def F_h:=λ(a b:Int) (c:Int->Int->WP) (d:Int) (e:Bool)=>If e (F_y b c (if d<a then d else a)) (F_y b c a)
def F_3:=λ(i:OA) (j:Int->WP) (a:Slc) (e:Int->Int->WP) (c b:Int)=>If (decide (b<(a.len:Int))) (Ia a.ptr (Ix b a.len (Dp (pblk a.ptr) ((poff a.ptr)+b.toNat) λd=>Lp d 3 λk=>Cl (C_eb k) λf l=>λg=>∃(h:Bool),PtrB g d i h/\(If ((!h)&&l) (Lo d 7 λm=>F_h c b e f (!m)) (F_h c b e f false)) g))) (j c)
def F_Pc:=λa b=>Ia a (Lz (pblk a) (poff a) zL λc=>Cl (C_o c) λd=>Bp a λe=>Ls e 11 λf=>U2 d 0 λg h i=>F_3 a b f i g h)
def F_tf:=λ(c:OA) (d:T_d) (b:Bool->Int->WP)=>Al (zi d) y_e λa=>Cl (C_s c) λe=>If (!e) (b false 2) (Lz a 0 zi λf=>Cl (C_sc f) λg=>If (!g) (b false 1) (Ds a 8 λh=>Cl (C_F h) λi=>So a 8 1 [Xs i] (Dr (Lp c 1 λj=>Lz a 0 zi λk=>Cl (C_pb j k) λl=>b l 0))))
def F_Rf:=λ(c:OA) (d:Int->WP)=>Cl (C_p c) λf=>λa=>(If (!f) (d 2) λa=>(Ls c 10 λg=>λa=>(If ((g.len:Int)==0) (d 9) λa=>(Ls c 10 λb=>λa=>(Fa ((0<=(1:Int)/\(1:Int)<=(b.len:Int)/\(b.len:Int)<=(b.cap:Int)/\(b.cap:Int)<=(b.cap:Int))) λa=>∀ e,e=Slc.cut 10 b 1 (b.len:Int) (b.cap:Int)->(Sa c 10 1 [Xs e] (Li c 11 λh=>So (pblk c) ((poff c)+11) 1 [Vi (i64.wrap (h+1))] (d 0))) a) a) a) a) a) a
def F_I:=λ(a:OA) (e:Int->WP) (j:Bool)=>If j (e 2) (Lo a 5 λk=>If (!k) (Dr (Lv a 1 λl=>Li a 2 λm=>Cv l #[Vi m] (λ(f:Int)=>Vi f) λf=>Sa a 5 1 [Vo (f==0)] (e f))) (Ls a 3 λn=>If ((n.len:Int)==0) (e 9) (Ls a 3 λh=>Ls a 3 λb=>Fa (0<=(if 64<(b.len:Int) then 64 else(b.len:Int))) (Fa ((if 64<(b.len:Int) then 64 else(b.len:Int))<=(h.cap:Int)) (Ex (Dr (Bv a λo=>Li a 2 λp=>Li a 4 λq=>Cv o #[Vi p,Vi q,Value.slice h.ptr ((if 64<(b.len:Int) then 64 else(b.len:Int)).toNat) h.cap] (λ(g:Int)=>Vi g) λg=>λd=>(If (g != 0) (e g) λd=>(Ls a 3 λc=>λd=>(Fa ((0<=(((if 64<(b.len:Int) then 64 else(b.len:Int)).toNat:Nat):Int)/\(((if 64<(b.len:Int) then 64 else(b.len:Int)).toNat:Nat):Int)<=(c.len:Int)/\(c.len:Int)<=(c.cap:Int)/\(c.cap:Int)<=(c.cap:Int))) λd=>∀ i,i=Slc.cut 1 c (((if 64<(b.len:Int) then 64 else(b.len:Int)).toNat:Nat):Int) (c.len:Int) (c.cap:Int)->(Sa a 3 1 [Xs i] (Li a 4 λr=>So (pblk a) ((poff a)+4) 1 [Vi (i64.wrap (r+(((if 64<(b.len:Int) then 64 else(b.len:Int)).toNat:Nat):Int)))] (e 0))) d) d) d) d)))))))
def F_Cd:=λa (b:Int->WP)=>If a.isNone (F_I a b true) (Bv a λc=>Fa (FnV c) (F_I a b (zLd c)))
def F_Be:=λa e b=>Al (zI e) y_o λc=>Dr (Lz c 0 zI λd=>Sa a 7 1 [Vo true] (Kz c 0 (zI d) (Sa a 8 5 (zI d) (Lb a 2 λf=>If (f==4) (Bp a λg=>Sa g 15 1 [Vo false] b) b))))
def F_l:=λ(a:Int) (b:Slc->Int->WP) c=>b c (i64.wrap (a+1))
def F_Xc:=λ(f:Int) (g:Slc->Int->WP) (a:Slc) (h:Slc->Int->WP) (d:Slc) (b:Int)=>If (decide (b<(a.len:Int))) (Ia a.ptr (Ix b a.len (Lz (pblk a.ptr) ((poff a.ptr)+b.toNat*2) ze λi=>Al [Vt Be,Ns] y_c λc=>So c 0 2 (ze i) (Dr (Dt c 0 λe=>Ds c 1 λj=>Cl (C_a j) λk=>Kc c 0 (Vt e) (Al [Vt e,Xs k] y_c λl=>Ap (Slc.mk (Z0 l) 1 1) 2 40 y_c [Vt Be,Ns] d 1 λm=>h m (i64.wrap (b+1)))))))) (F_l f g d)
def F_Ob:=λ(i:OA) (j:T_m->Slc->Int->WP) (h b:Nat) (f:Slc) (d:Slc->Int->WP) (c:Slc) (a:Int)=>If (decide (a<(f.len:Int))) (Ia f.ptr (Ix a f.len (Lz (pblk f.ptr) ((poff f.ptr)+a.toNat*5) zW λk=>Al Y5 y_n λe=>So e 0 5 (zW k) (Lb i 5 λg=>If (g==1) (Ds e 2 λl=>So b 2 1 [Vo ((l.len:Int)==1)] (Do b 2 λm=>If m (Ds e 2 λn=>Al [Xs n] y_A λo=>Cl (C_ec (Slc.mk (Z0 o) 1 1)) λp=>So b 3 1 [Xs p] (F_l a d c)) (F_l a d c))) (If (g==2) (Ds b 3 λq=>Ds e 2 λr=>Al [Xs q,Xs r] y_A λs=>Cl (C_ec (Slc.mk (Z0 s) 2 2)) λt=>So b 3 1 [Xs t] (F_l a d c)) (If (g==3) (Di b 4 λu=>Di e 4 λv=>So b 4 1 [Vi (i64.wrap (u+v))] (F_l a d c)) (If (g==4) (Ds e 3 λx=>U2 c 0 λy z A=>F_Xc a d x A y z) (F_l a d c)))))))) (Cl (C_h c (Value.func (.func 195) #[] #[])) (Lz b 0 zI λB=>So h 0 5 (zI B) (Lz h 0 zI λC=>j C c 0)))
def F_cf:=λ(a:OA) (c:T_m->Slc->Int->WP)=>Al Y6 y_o λb=>Cl (C_p a) λe=>If (!e) (So b 0 5 Y6 (Lz b 0 zI λf=>c f (Slc.mk none 0 0) 2)) (Cl (C_qb a) λg=>If (!g) (So b 0 5 Y6 (Lz b 0 zI λh=>c h (Slc.mk none 0 0) 6)) (Li a 9 λi=>Al Y6 y_o λd=>So d 0 5 [Vi 0,Vi i,Vo true,Ns,Vi 0] (Ls a 12 λj=>U2 (Slc.mk none 0 0) 0 λk l m=>F_Ob a c b d j m k l)))
def F_rg:=λb (a:Int) (c:Bool->WP)=>If (decide (a<=65536)) (Ia b (Iy (i64.wrap (Int.tdiv a 64)) (1025:Int) (Du (pblk b) (((poff b)+2)+(i64.wrap (Int.tdiv a 64)).toNat) λd=>Fa (0<=Int.tmod a 64) (c ((band .u64 (Int.fdiv d (2 ^ (min (Int.tmod a 64).toNat 64))) 1)==1))))) (c false)
def F_Dg:=λ(a:Slc) (d:Bool->WP) (e:Int->Int->WP) (f b:Int)=>If (decide (b<(a.len:Int))) (Ia a.ptr (Ix b a.len (Di (pblk a.ptr) ((poff a.ptr)+b.toNat) λc=>If ((decide (c<=f))||(decide (c>65536))) (d false) (e c (i64.wrap (b+1)))))) (d true)
def F_Zg:=λa (b:Int) c=>U2 b 0 λd e f=>F_Dg a c f d e
def F_df:=λ(a:OA) (b:Value->WP)=>Al [Vp a] y_y λc=>b (Value.func (.func 196) #[] #[Vp (Z0 c)])
def F_Yc:=λa b g h f e i=>If i (a false) (Lz b 3 zq λj=>Al Y3 y_f λc=>So c 0 3 (zq j) (Db b 0 λd=>If (d==1) (Di b 1 λk=>If ((decide (k>0))&&g) (Di b 2 λl=>If ((decide (l>0))&&f) (Dt c 0 λm=>If (!(m.toList==Be.toList)) (Dt c 0 λn=>If (decide ((n.size:Int)<=64)) (Dt c 1 λo=>If (decide ((o.size:Int)<=1024)) (Do c 2 λp=>If (!p) (a true) (Dt c 1 λq=>a (q.toList==Be.toList))) (a false)) (a false)) (a false)) (a false)) (a false)) (If (d==2) (If (e&&h) (Dt b 7 λr=>a (r.toList==Be.toList)) (a false)) (If (d==3) (If e (Dt b 6 λs=>If (decide ((s.size:Int)<=64)) (Dt b 7 λt=>a (decide ((t.size:Int)<=64))) (a false)) (a false)) (If (d==4) (a (e&&f)) (If (d==5) (If (e&&f) (Ds b 8 λu=>Di b 2 λv=>Cl (C_bd u v) a) (a false)) (a false)))))))
def F_hc:=λb a c d e f=>Db a 0 λg=>If (g != 5) (Ds a 8 λh=>F_Yc b a c d e f (decide ((h.len:Int)>0))) (F_Yc b a c d e f false)
def F_K:=λd a b e f=>Di a 1 λg=>If ((g != 0)&&b) (Lz a 3 zq λc=>F_hc d a b e f (((c.Key==Be)&&(c.Val==Be))&&(c.Drop==false))) (F_hc d a b e f false)
def F_ic:=λb a c=>Dt a 6 λe=>If (!(e.toList==Be.toList)) (Dt a 6 λd=>Dt a 6 λf=>If (f.toList==Be.toList) (Dt a 7 λg=>Ex (F_K b a c (decide ((d.size:Int)<=64)) (g.toList==Be.toList))) (Ex (F_K b a c (decide ((d.size:Int)<=64)) false))) (Dt a 6 λh=>If (h.toList==Be.toList) (Dt a 7 λi=>Ex (F_K b a c false (i.toList==Be.toList))) (Ex (F_K b a c false false)))
def F_2e:=λc b=>Al (zi c) y_e λa=>Di a 2 λd=>If (decide (d>=0)) (Di a 2 λe=>F_ic b a (decide (e<=65536))) (F_ic b a false)
def F_Dc:=λa g (d:Bool->WP)=>Al (zi g) y_e λh=>Cl (C_N a) λi=>If (i==0) (d false) (Dr (Bs a λb=>Li a 1 λe=>Li a 2 λf=>Bs a λc=>Fa ((c.len:Int)≠0) (Lz h 0 zi λj=>Ia b.ptr (Ix (Int.tmod (i64.wrap (e+f)) (c.len:Int)) b.len (So (pblk b.ptr) ((poff b.ptr)+(Int.tmod (i64.wrap (e+f)) (c.len:Int)).toNat*9) 9 (zi j) (Li a 2 λk=>So (pblk a) ((poff a)+2) 1 [Vi (i64.wrap (k+1))] (d true)))))))
def F_sg:=λ(b:Slc) (c:Slc->WP)=>Cl (C_y b) λa=>Cl (C_n a (Value.func (.func 200) #[] #[])) (c a)
def F_8:=λa b c=>Cl (C_mb a (a.len:Int) b) c
def F_Ce:=λa b c=>Al (ze a) y_c λd=>Al (ze b) y_c λe=>Dt d 0 λf=>Dt e 0 λg=>Cl (C_Bb f g) c
def F_hb:=λ(g:Value) (c:WP) (d:Int) (h:Int->WP) (a:Int) (e:World)=>((decide (a<d))=true->(zWb (P:=Tryz.prog) g #[Vi a] e (λi f=>∃(b:Bool),i=Ending.returned (Vo b)/\(((!b)=true->(c f)) /\
 ((!b)=false->(h (i64.wrap (a+1)) f)))))) /\
 ((decide (a<d))=false->(c e))
def F_6c:=λk a l b=>IsAt a/\(∃(d:OA),b.cell? ⟨(pblk a),(poff a),none⟩=some (Vp d)/\(IsAt d/\(∃(h:Int),b.cell? ⟨(pblk d),(poff d)+5,none⟩=some (Vb h)/\(((h==1)=true->(∀ c,(∃ s,c=b.drewN s)->(IsAt a/\(∃(e:OA),c.cell? ⟨(pblk a),(poff a),none⟩=some (Vp e)/\(IsAt e/\(∃(m:T_j),zf c (pblk e) ((poff e)+1) (zo m)/\(∃(f:OA),c.cell? ⟨(pblk a),(poff a),none⟩=some (Vp f)/\(IsAt f/\(∃(n:ByteArray),c.cell? ⟨(pblk f),(poff f)+6,none⟩=some (Vt n)/\(C_3b m n c (λ(t:Int) (z:Int) u=>(zWb (P:=Tryz.prog) k #[Vi t] u (λv x=>∃(y:Bool),v=Ending.returned (Vo y)/\(l x)))))))))))))) /\
 ((h==1)=false->(IsAt a/\(∃(g:OA),b.cell? ⟨(pblk a),(poff a),none⟩=some (Vp g)/\(IsAt g/\(∃(o:Int),b.cell? ⟨(pblk g),(poff g)+2,none⟩=some (Vi o)/\(∃(i:Int->WP) (μ:Int->World->Nat),i 0 b /\
 ∀(j:Int) b,i j b->F_hb k l o (λ(q:Int) r=>i q r/\μ q r<μ j b) j b))))))))))
def F_Sf:=λ(a:Slc) (d:Bool->WP) (e:Int->Int->WP) (f b:Int)=>If (decide (b<(a.len:Int))) (Ia a.ptr (Ix b a.len (Di (pblk a.ptr) ((poff a.ptr)+b.toNat) λc=>If ((decide (c<=f))||(decide (c>65536))) (d false) (e c (i64.wrap (b+1)))))) (d true)
def F_Eg:=λa (b:Int) c=>U2 b 0 λd e f=>F_Sf a c f d e
def F_lb:=λ(a:Slc) (e:Slc->WP) (f:Slc->Int->WP) (c:Slc) (b:Int)=>If (decide (b<(a.len:Int))) (Ia a.ptr (Ix b a.len (Ds (pblk a.ptr) ((poff a.ptr)+b.toNat) λd=>Ap d 2 32 y_h [Vt Be,Vt Be] c d.len λg=>f g (i64.wrap (b+1))))) (e c)
def F_mb:=λ(a:Slc) (e:Slc->WP) (f:Int->Int->WP) (c b:Int)=>If (decide (b<(a.len:Int))) (Ia a.ptr (Ix b a.len (Ds (pblk a.ptr) ((poff a.ptr)+b.toNat) λd=>If (decide ((i64.wrap (c+(d.len:Int)))<0)) Fe (f (i64.wrap (c+(d.len:Int))) (i64.wrap (b+1)))))) (Cl (C_G (Slc.mk none 0 0) c) λg=>U2 g 0 λh i j=>F_lb a e j h i)
def F_Pb:=λa b=>U2 0 0 λc d e=>F_mb a b e c d
def F_V:=λa b c=>Cl (C_gb a (a.len:Int) b) c
def F_Tf:=λa b c=>Al (zm a) y_h λd=>Al (zm b) y_h λe=>Dt d 0 λf=>Dt e 0 λg=>Cl (C_Bb f g) c
def F_A:=λ(a:Int) (b:Int->WP)=>b (i64.wrap (a*2))
def F_4b:=λ(e:Slc) (d:Int) (f:Value) (a:Int) (g:Int->WP) (h:Int->Int->WP) (b c:Int)=>If (decide (c<=d)) (Cl (C_d e b (i64.wrap (b+a)) c f) (h c (i64.wrap (c+(i64.wrap (2*a)))))) (If (decide ((i64.wrap (b+a))<d)) (Cl (C_d e b (i64.wrap (b+a)) d f) (F_A a g)) (F_A a g))
def F_5b:=λc (b:Int) d e f (a:Int)=>If (decide (a<b)) (U2 0 (i64.wrap (2*a)) λg h i=>F_4b c b d a f i g h) e
def F_6b:=λb (c:Int) d f (g:Int->Int->WP) (e a:Int)=>If (decide (a<=c)) (Cl (C_l b e a d) (g a (i64.wrap (a+20)))) (Cl (C_l b e c d) (U1 20 λh i=>F_5b b c d f i h))
def F_Ac:=λa (b:Int) c d=>U2 0 20 λe f g=>F_6b a b c d g e f
def F_t:=λ(a:Slc->WP) (b:Slc)=>a b
def F_fc:=λ(a:Slc) (b:Int) (d:Slc->WP)=>If (decide (b<0)) Fe (If (decide ((i64.wrap (b - (i64.wrap ((a.cap:Int) - (a.len:Int)))))>0)) (Fa (0<=(a.cap:Int)) (Fa ((a.cap:Int)<=(a.cap:Int)) (Fa (0<=i64.wrap (b - (i64.wrap ((a.cap:Int) - (a.len:Int))))) (Fa (i64.wrap (b - (i64.wrap ((a.cap:Int) - (a.len:Int))))*(32:Int)<=281474976710656) (Aw (zG 2 32 y_h [Vt Be,Vt Be] (Slc.mk a.ptr ((a.cap:Int).toNat) a.cap) (zp ((i64.wrap (b - (i64.wrap ((a.cap:Int) - (a.len:Int))))).toNat) [Vt Be,Vt Be]).toList ((i64.wrap (b - (i64.wrap ((a.cap:Int) - (a.len:Int))))).toNat)) λc=>Fa (0<=(a.len:Int)) (Fa ((a.len:Int)<=(c.cap:Int)) (F_t d (Slc.mk c.ptr ((a.len:Int).toNat) c.cap)))))))) (F_t d a))
def F_z:=λ(a:Int) (b:Int->WP)=>b (i64.wrap (a*2))
def F_Qb:=λ(e:Slc) (d:Int) (f:Value) (a:Int) (g:Int->WP) (h:Int->Int->WP) (b c:Int)=>If (decide (c<=d)) (Cl (C_c e b (i64.wrap (b+a)) c f) (h c (i64.wrap (c+(i64.wrap (2*a)))))) (If (decide ((i64.wrap (b+a))<d)) (Cl (C_c e b (i64.wrap (b+a)) d f) (F_z a g)) (F_z a g))
def F_Rb:=λc (b:Int) d e f (a:Int)=>If (decide (a<b)) (U2 0 (i64.wrap (2*a)) λg h i=>F_Qb c b d a f i g h) e
def F_Sb:=λb (c:Int) d f (g:Int->Int->WP) (e a:Int)=>If (decide (a<=c)) (Cl (C_j b e a d) (g a (i64.wrap (a+20)))) (Cl (C_j b e c d) (U1 20 λh i=>F_Rb b c d f i h))
def F_qc:=λa (b:Int) c d=>U2 0 20 λe f g=>F_Sb a b c d g e f
def F_Db:=λ(a:Slc) c (d:Int) (e:Int->WP) (b:Int)=>If (decide (b<(i64.wrap (d - 1)))) (Dr (Ia a.ptr (Ix (i64.wrap (b+1)) a.len (Lz (pblk a.ptr) ((poff a.ptr)+(i64.wrap (b+1)).toNat*2) ze λf=>Ia a.ptr (Ix b a.len (Lz (pblk a.ptr) ((poff a.ptr)+b.toNat*2) ze λg=>Ia a.ptr (Ix b a.len (So (pblk a.ptr) ((poff a.ptr)+b.toNat*2) 2 (ze f) (Ia a.ptr (Ix (i64.wrap (b+1)) a.len (So (pblk a.ptr) ((poff a.ptr)+(i64.wrap (b+1)).toNat*2) 2 (ze g) (e (i64.wrap (b+1)))))))))))))) c
def F_Eb:=λ(a:Slc) (d:Int) (g:Value) (h:WP) (f:Int->Int->WP) (b c:Int)=>If (decide (b<c)) (Dr (Ia a.ptr (Ix (i64.wrap (Int.fdiv (u64.wrap (i64.wrap (b+c))) (2 ^ 1))) a.len (Lz (pblk a.ptr) ((poff a.ptr)+(i64.wrap (Int.fdiv (u64.wrap (i64.wrap (b+c))) (2 ^ 1))).toNat*2) ze λi=>Ia a.ptr (Ix d a.len (Lz (pblk a.ptr) ((poff a.ptr)+d.toNat*2) ze λj=>Cv g #[Xg ze i,Xg ze j] (λ(e:Int)=>Vi e) λe=>If (decide (e<0)) (f (i64.wrap ((i64.wrap (Int.fdiv (u64.wrap (i64.wrap (b+c))) (2 ^ 1)))+1)) c) (f b (i64.wrap (Int.fdiv (u64.wrap (i64.wrap (b+c))) (2 ^ 1)))))))))) (U1 d λk l=>F_Db a h b l k)
def F_Fb:=λ(a:Slc) c (d:Int) (e:Int->WP) (b:Int)=>If (decide (b>d)) (Dr (Ia a.ptr (Ix (i64.wrap (b - 1)) a.len (Lz (pblk a.ptr) ((poff a.ptr)+(i64.wrap (b - 1)).toNat*2) ze λf=>Ia a.ptr (Ix b a.len (Lz (pblk a.ptr) ((poff a.ptr)+b.toNat*2) ze λg=>Ia a.ptr (Ix b a.len (So (pblk a.ptr) ((poff a.ptr)+b.toNat*2) 2 (ze f) (Ia a.ptr (Ix (i64.wrap (b - 1)) a.len (So (pblk a.ptr) ((poff a.ptr)+(i64.wrap (b - 1)).toNat*2) 2 (ze g) (e (i64.wrap (b - 1)))))))))))))) c
def F_Gb:=λ(a:Slc) (d:Int) (g:Value) (h:WP) (f:Int->Int->WP) (b c:Int)=>If (decide (b<c)) (Dr (Ia a.ptr (Ix d a.len (Lz (pblk a.ptr) ((poff a.ptr)+d.toNat*2) ze λi=>Ia a.ptr (Ix (i64.wrap (Int.fdiv (u64.wrap (i64.wrap (b+c))) (2 ^ 1))) a.len (Lz (pblk a.ptr) ((poff a.ptr)+(i64.wrap (Int.fdiv (u64.wrap (i64.wrap (b+c))) (2 ^ 1))).toNat*2) ze λj=>Cv g #[Xg ze i,Xg ze j] (λ(e:Int)=>Vi e) λe=>If (!(decide (e<0))) (f (i64.wrap ((i64.wrap (Int.fdiv (u64.wrap (i64.wrap (b+c))) (2 ^ 1)))+1)) c) (f b (i64.wrap (Int.fdiv (u64.wrap (i64.wrap (b+c))) (2 ^ 1)))))))))) (U1 d λk l=>F_Fb a h b l k)
def F_u:=λf b c a g e d=>If ((decide ((i64.wrap (Int.fdiv (u64.wrap (i64.wrap (b+a))) (2 ^ 1)))<(i64.wrap ((i64.wrap ((i64.wrap (Int.fdiv (u64.wrap (i64.wrap (b+a))) (2 ^ 1)))+c)) - d))))&&(decide ((i64.wrap ((i64.wrap ((i64.wrap (Int.fdiv (u64.wrap (i64.wrap (b+a))) (2 ^ 1)))+c)) - d))<a))) (Cl (C_d f (i64.wrap (Int.fdiv (u64.wrap (i64.wrap (b+a))) (2 ^ 1))) (i64.wrap ((i64.wrap ((i64.wrap (Int.fdiv (u64.wrap (i64.wrap (b+a))) (2 ^ 1)))+c)) - d)) a g) e) e
def F_v:=λd a f c e g b=>If ((decide (a<b))&&(decide (b<(i64.wrap (Int.fdiv (u64.wrap (i64.wrap (a+c))) (2 ^ 1)))))) (Cl (C_d d a b (i64.wrap (Int.fdiv (u64.wrap (i64.wrap (a+c))) (2 ^ 1))) e) (F_u d a f c e g b)) (F_u d a f c e g b)
def F_Hb:=λb (e c f:Int) g i (j:Int->Int->WP) (a d:Int)=>If (decide (a<d)) (Dr (Ia b.ptr (Ix (i64.wrap ((i64.wrap ((i64.wrap ((i64.wrap (Int.fdiv (u64.wrap (i64.wrap (e+f))) (2 ^ 1)))+c)) - 1)) - (i64.wrap (Int.fdiv (u64.wrap (i64.wrap (a+d))) (2 ^ 1))))) b.len (Lz (pblk b.ptr) ((poff b.ptr)+(i64.wrap ((i64.wrap ((i64.wrap ((i64.wrap (Int.fdiv (u64.wrap (i64.wrap (e+f))) (2 ^ 1)))+c)) - 1)) - (i64.wrap (Int.fdiv (u64.wrap (i64.wrap (a+d))) (2 ^ 1))))).toNat*2) ze λk=>Ia b.ptr (Ix (i64.wrap (Int.fdiv (u64.wrap (i64.wrap (a+d))) (2 ^ 1))) b.len (Lz (pblk b.ptr) ((poff b.ptr)+(i64.wrap (Int.fdiv (u64.wrap (i64.wrap (a+d))) (2 ^ 1))).toNat*2) ze λl=>Cv g #[Xg ze k,Xg ze l] (λ(h:Int)=>Vi h) λh=>If (!(decide (h<0))) (j (i64.wrap ((i64.wrap (Int.fdiv (u64.wrap (i64.wrap (a+d))) (2 ^ 1)))+1)) d) (j a (i64.wrap (Int.fdiv (u64.wrap (i64.wrap (a+d))) (2 ^ 1)))))))))) (If ((decide (a<c))&&(decide (c<(i64.wrap ((i64.wrap ((i64.wrap (Int.fdiv (u64.wrap (i64.wrap (e+f))) (2 ^ 1)))+c)) - a))))) (Cl (C_L b a c (i64.wrap ((i64.wrap ((i64.wrap (Int.fdiv (u64.wrap (i64.wrap (e+f))) (2 ^ 1)))+c)) - a)) g) (F_v b e c f g i a)) (F_v b e c f g i a))
def F_w:=λa (b c d:Int) e f (g h:Int)=>U2 g h λi j k=>F_Hb a b c d e f k i j
def F_gc:=λ(d:Slc) (b a c:Int) (e:Value) (f:WP)=>If ((i64.wrap (a - b))==1) (U2 a c λh i g=>F_Eb d b e f g h i) (If ((i64.wrap (c - a))==1) (U2 b a λj k g=>F_Gb d a e f g j k) (If (decide (a>(i64.wrap (Int.fdiv (u64.wrap (i64.wrap (b+c))) (2 ^ 1))))) (F_w d b a c e f (i64.wrap ((i64.wrap ((i64.wrap (Int.fdiv (u64.wrap (i64.wrap (b+c))) (2 ^ 1)))+a)) - c)) (i64.wrap (Int.fdiv (u64.wrap (i64.wrap (b+c))) (2 ^ 1)))) (F_w d b a c e f b a)))
def F_d:=λ(a:Slc) (c:Int) (d:Int->WP) (b:Int) (e:Int->WP) f=>If f (Dr (Ia a.ptr (Ix (i64.wrap (b - 1)) a.len (Lz (pblk a.ptr) ((poff a.ptr)+(i64.wrap (b - 1)).toNat*2) zm λg=>Ia a.ptr (Ix b a.len (Lz (pblk a.ptr) ((poff a.ptr)+b.toNat*2) zm λh=>Ia a.ptr (Ix b a.len (So (pblk a.ptr) ((poff a.ptr)+b.toNat*2) 2 (zm g) (Ia a.ptr (Ix (i64.wrap (b - 1)) a.len (So (pblk a.ptr) ((poff a.ptr)+(i64.wrap (b - 1)).toNat*2) 2 (zm h) (e (i64.wrap (b - 1)))))))))))))) (d (i64.wrap (c+1)))
def F_X:=λ(a:Slc) (g:Int) h (d:Int) (e f:Int->WP) (b:Int)=>Dr (If (decide (b>g)) (Ia a.ptr (Ix b a.len (Lz (pblk a.ptr) ((poff a.ptr)+b.toNat*2) zm λi=>Ia a.ptr (Ix (i64.wrap (b - 1)) a.len (Lz (pblk a.ptr) ((poff a.ptr)+(i64.wrap (b - 1)).toNat*2) zm λj=>Cv h #[Xg zm i,Xg zm j] (λ(c:Int)=>Vi c) λc=>F_d a d e b f (decide (c<0))))))) (F_d a d e b f false))
def F_Y:=λb (c d:Int) e f g (a:Int)=>If (decide (a<d)) (U1 a λh i=>F_X b c e a g i h) f
def F_cb:=λb (a c:Int) d e=>U1 (i64.wrap (a+1)) λf g=>F_Y b a c d e g f
def F_tb:=λ(a:Slc) c (d:Int) (e:Int->WP) (b:Int)=>If (decide (b<(i64.wrap (d - 1)))) (Dr (Ia a.ptr (Ix (i64.wrap (b+1)) a.len (Lz (pblk a.ptr) ((poff a.ptr)+(i64.wrap (b+1)).toNat*2) zm λf=>Ia a.ptr (Ix b a.len (Lz (pblk a.ptr) ((poff a.ptr)+b.toNat*2) zm λg=>Ia a.ptr (Ix b a.len (So (pblk a.ptr) ((poff a.ptr)+b.toNat*2) 2 (zm f) (Ia a.ptr (Ix (i64.wrap (b+1)) a.len (So (pblk a.ptr) ((poff a.ptr)+(i64.wrap (b+1)).toNat*2) 2 (zm g) (e (i64.wrap (b+1)))))))))))))) c
def F_ub:=λ(a:Slc) (d:Int) (g:Value) (h:WP) (f:Int->Int->WP) (b c:Int)=>If (decide (b<c)) (Dr (Ia a.ptr (Ix (i64.wrap (Int.fdiv (u64.wrap (i64.wrap (b+c))) (2 ^ 1))) a.len (Lz (pblk a.ptr) ((poff a.ptr)+(i64.wrap (Int.fdiv (u64.wrap (i64.wrap (b+c))) (2 ^ 1))).toNat*2) zm λi=>Ia a.ptr (Ix d a.len (Lz (pblk a.ptr) ((poff a.ptr)+d.toNat*2) zm λj=>Cv g #[Xg zm i,Xg zm j] (λ(e:Int)=>Vi e) λe=>If (decide (e<0)) (f (i64.wrap ((i64.wrap (Int.fdiv (u64.wrap (i64.wrap (b+c))) (2 ^ 1)))+1)) c) (f b (i64.wrap (Int.fdiv (u64.wrap (i64.wrap (b+c))) (2 ^ 1)))))))))) (U1 d λk l=>F_tb a h b l k)
def F_vb:=λ(a:Slc) c (d:Int) (e:Int->WP) (b:Int)=>If (decide (b>d)) (Dr (Ia a.ptr (Ix (i64.wrap (b - 1)) a.len (Lz (pblk a.ptr) ((poff a.ptr)+(i64.wrap (b - 1)).toNat*2) zm λf=>Ia a.ptr (Ix b a.len (Lz (pblk a.ptr) ((poff a.ptr)+b.toNat*2) zm λg=>Ia a.ptr (Ix b a.len (So (pblk a.ptr) ((poff a.ptr)+b.toNat*2) 2 (zm f) (Ia a.ptr (Ix (i64.wrap (b - 1)) a.len (So (pblk a.ptr) ((poff a.ptr)+(i64.wrap (b - 1)).toNat*2) 2 (zm g) (e (i64.wrap (b - 1)))))))))))))) c
def F_wb:=λ(a:Slc) (d:Int) (g:Value) (h:WP) (f:Int->Int->WP) (b c:Int)=>If (decide (b<c)) (Dr (Ia a.ptr (Ix d a.len (Lz (pblk a.ptr) ((poff a.ptr)+d.toNat*2) zm λi=>Ia a.ptr (Ix (i64.wrap (Int.fdiv (u64.wrap (i64.wrap (b+c))) (2 ^ 1))) a.len (Lz (pblk a.ptr) ((poff a.ptr)+(i64.wrap (Int.fdiv (u64.wrap (i64.wrap (b+c))) (2 ^ 1))).toNat*2) zm λj=>Cv g #[Xg zm i,Xg zm j] (λ(e:Int)=>Vi e) λe=>If (!(decide (e<0))) (f (i64.wrap ((i64.wrap (Int.fdiv (u64.wrap (i64.wrap (b+c))) (2 ^ 1)))+1)) c) (f b (i64.wrap (Int.fdiv (u64.wrap (i64.wrap (b+c))) (2 ^ 1)))))))))) (U1 d λk l=>F_vb a h b l k)
def F_p:=λf b c a g e d=>If ((decide ((i64.wrap (Int.fdiv (u64.wrap (i64.wrap (b+a))) (2 ^ 1)))<(i64.wrap ((i64.wrap ((i64.wrap (Int.fdiv (u64.wrap (i64.wrap (b+a))) (2 ^ 1)))+c)) - d))))&&(decide ((i64.wrap ((i64.wrap ((i64.wrap (Int.fdiv (u64.wrap (i64.wrap (b+a))) (2 ^ 1)))+c)) - d))<a))) (Cl (C_c f (i64.wrap (Int.fdiv (u64.wrap (i64.wrap (b+a))) (2 ^ 1))) (i64.wrap ((i64.wrap ((i64.wrap (Int.fdiv (u64.wrap (i64.wrap (b+a))) (2 ^ 1)))+c)) - d)) a g) e) e
def F_q:=λd a f c e g b=>If ((decide (a<b))&&(decide (b<(i64.wrap (Int.fdiv (u64.wrap (i64.wrap (a+c))) (2 ^ 1)))))) (Cl (C_c d a b (i64.wrap (Int.fdiv (u64.wrap (i64.wrap (a+c))) (2 ^ 1))) e) (F_p d a f c e g b)) (F_p d a f c e g b)
def F_xb:=λb (e c f:Int) g i (j:Int->Int->WP) (a d:Int)=>If (decide (a<d)) (Dr (Ia b.ptr (Ix (i64.wrap ((i64.wrap ((i64.wrap ((i64.wrap (Int.fdiv (u64.wrap (i64.wrap (e+f))) (2 ^ 1)))+c)) - 1)) - (i64.wrap (Int.fdiv (u64.wrap (i64.wrap (a+d))) (2 ^ 1))))) b.len (Lz (pblk b.ptr) ((poff b.ptr)+(i64.wrap ((i64.wrap ((i64.wrap ((i64.wrap (Int.fdiv (u64.wrap (i64.wrap (e+f))) (2 ^ 1)))+c)) - 1)) - (i64.wrap (Int.fdiv (u64.wrap (i64.wrap (a+d))) (2 ^ 1))))).toNat*2) zm λk=>Ia b.ptr (Ix (i64.wrap (Int.fdiv (u64.wrap (i64.wrap (a+d))) (2 ^ 1))) b.len (Lz (pblk b.ptr) ((poff b.ptr)+(i64.wrap (Int.fdiv (u64.wrap (i64.wrap (a+d))) (2 ^ 1))).toNat*2) zm λl=>Cv g #[Xg zm k,Xg zm l] (λ(h:Int)=>Vi h) λh=>If (!(decide (h<0))) (j (i64.wrap ((i64.wrap (Int.fdiv (u64.wrap (i64.wrap (a+d))) (2 ^ 1)))+1)) d) (j a (i64.wrap (Int.fdiv (u64.wrap (i64.wrap (a+d))) (2 ^ 1)))))))))) (If ((decide (a<c))&&(decide (c<(i64.wrap ((i64.wrap ((i64.wrap (Int.fdiv (u64.wrap (i64.wrap (e+f))) (2 ^ 1)))+c)) - a))))) (Cl (C_I b a c (i64.wrap ((i64.wrap ((i64.wrap (Int.fdiv (u64.wrap (i64.wrap (e+f))) (2 ^ 1)))+c)) - a)) g) (F_q b e c f g i a)) (F_q b e c f g i a))
def F_r:=λa (b c d:Int) e f (g h:Int)=>U2 g h λi j k=>F_xb a b c d e f k i j
def F_7b:=λ(d:Slc) (b a c:Int) (e:Value) (f:WP)=>If ((i64.wrap (a - b))==1) (U2 a c λh i g=>F_ub d b e f g h i) (If ((i64.wrap (c - a))==1) (U2 b a λj k g=>F_wb d a e f g j k) (If (decide (a>(i64.wrap (Int.fdiv (u64.wrap (i64.wrap (b+c))) (2 ^ 1))))) (F_r d b a c e f (i64.wrap ((i64.wrap ((i64.wrap (Int.fdiv (u64.wrap (i64.wrap (b+c))) (2 ^ 1)))+a)) - c)) (i64.wrap (Int.fdiv (u64.wrap (i64.wrap (b+c))) (2 ^ 1)))) (F_r d b a c e f b a)))
def F_8b:=λd (c:Int) e g (f:Int->Int->WP) (a b:Int)=>If (a != b) (If (decide (a>b)) (Cl (C_i d (i64.wrap (c - a)) c b e) (f (i64.wrap (a - b)) b)) (Cl (C_i d (i64.wrap (c - a)) (i64.wrap ((i64.wrap (c+b)) - a)) a e) (f a (i64.wrap (b - a))))) (Cl (C_i d (i64.wrap (c - a)) c a e) g)
def F_Bc:=λb (c a d:Int) e f=>U2 (i64.wrap (a - c)) (i64.wrap (d - a)) λg h i=>F_8b b a e f i g h
def F_Tb:=λd (c:Int) e g (f:Int->Int->WP) (a b:Int)=>If (a != b) (If (decide (a>b)) (Cl (C_g d (i64.wrap (c - a)) c b e) (f (i64.wrap (a - b)) b)) (Cl (C_g d (i64.wrap (c - a)) (i64.wrap ((i64.wrap (c+b)) - a)) a e) (f a (i64.wrap (b - a))))) (Cl (C_g d (i64.wrap (c - a)) c a e) g)
def F_rc:=λb (c a d:Int) e f=>U2 (i64.wrap (a - c)) (i64.wrap (d - a)) λg h i=>F_Tb b a e f i g h
def F_yb:=λ(a:Slc) (c d e:Int) f (g:Int->WP) (b:Int)=>If (decide (b<e)) (Dr (Ia a.ptr (Ix (i64.wrap (d+b)) a.len (Lz (pblk a.ptr) ((poff a.ptr)+(i64.wrap (d+b)).toNat*2) ze λh=>Ia a.ptr (Ix (i64.wrap (c+b)) a.len (Lz (pblk a.ptr) ((poff a.ptr)+(i64.wrap (c+b)).toNat*2) ze λi=>Ia a.ptr (Ix (i64.wrap (c+b)) a.len (So (pblk a.ptr) ((poff a.ptr)+(i64.wrap (c+b)).toNat*2) 2 (ze h) (Ia a.ptr (Ix (i64.wrap (d+b)) a.len (So (pblk a.ptr) ((poff a.ptr)+(i64.wrap (d+b)).toNat*2) 2 (ze i) (g (i64.wrap (b+1)))))))))))))) f
def F_9b:=λ(a:Slc) (b c d:Int) (h:Value) (e:WP)=>U1 0 λf g=>F_yb a b c d e g f
def F_nb:=λ(a:Slc) (c d e:Int) f (g:Int->WP) (b:Int)=>If (decide (b<e)) (Dr (Ia a.ptr (Ix (i64.wrap (d+b)) a.len (Lz (pblk a.ptr) ((poff a.ptr)+(i64.wrap (d+b)).toNat*2) zm λh=>Ia a.ptr (Ix (i64.wrap (c+b)) a.len (Lz (pblk a.ptr) ((poff a.ptr)+(i64.wrap (c+b)).toNat*2) zm λi=>Ia a.ptr (Ix (i64.wrap (c+b)) a.len (So (pblk a.ptr) ((poff a.ptr)+(i64.wrap (c+b)).toNat*2) 2 (zm h) (Ia a.ptr (Ix (i64.wrap (d+b)) a.len (So (pblk a.ptr) ((poff a.ptr)+(i64.wrap (d+b)).toNat*2) 2 (zm i) (g (i64.wrap (b+1)))))))))))))) f
def F_Ub:=λ(a:Slc) (b c d:Int) (h:Value) (e:WP)=>U1 0 λf g=>F_nb a b c d e g f
def F_uf:=λa b=>Cl (C_s a) λc=>If (!c) (b 0) (Lp a 1 λd=>Cl (C_U d) b)
def F_Dd:=λa d=>Dr (Bp a λb=>Lp b 5 λc=>Ia a (Lz (pblk a) (poff a) zL λe=>Cl (C_o e) λf=>Kc (pblk b) ((poff b)+5) (Vp c) (Kc (pblk a) (poff a) (Vp b) (Cl (C_Xc c f) d))))
def F_B:=λb a c d=>Bi c λe=>So a 0 6 [Vi 0,Vb 0,Vi e,Vi 0,Vi d,Vi 0] (Lz a 0 zk b)
def F_i:=λc i j b=>Dr (Bp c λq=>Lp q 6 λr=>Ia b (Lz (pblk b) (poff b) zh λs=>Cl (C_Fc r s) λf A=>If (f==0) (Dr (Bp c λg=>Bp c λd=>Ls d 12 λk=>Ia b (Lz (pblk b) (poff b) zh λt=>Al (zh t) y_a λu=>Kc (pblk d) ((poff d)+12) (Xs k) (Kc (pblk c) (poff c) (Vp d) (Kc (pblk c) (poff c) (Vp g) (Ap (Slc.mk (Z0 u) 1 1) 2 32 y_a [Vi 0,Ns] k 1 λv=>Kc (pblk c) (poff c) (Vp g) (Sa g 12 1 [Xs v] (F_B i j b f)))))))) (Dr λa=>(Bp c λx=>λa=>(Lm x 13 λy=>λa=>(Bi b λl=>λa=>(Lz (pblk b) (poff b) zh λz=>λa=>∃(h:Nat) (e:Array MapEntry) (m:Nat),y=some h/\a.heap[h]? =some (.map e m)/\((Fa (zH isKI e) λa=>(Fa ((e.toList.map (·.key)).Nodup) λa=>(Fa (isKI (Vi l)) λa=>∀ n o p,zee e m (Vi l) (Xg zh z) n o->p={ a with heap:=a.heap.setIfInBounds h (.map n o) }->(F_B i j b f) p) a) a) a)) a) a) a) a)))
def F_4:=λ(a:OA) (g:Int) (e:T_a->WP)=>Al Y1 y_d λc=>If (g==1) (Bp a λl=>Lp l 5 λm=>Cl (C_Ec m) λn v=>So c 0 6 [Vi 0,Vb 0,Vi n,Vi 0,Vi 0,Vi 0] (Lz c 0 zk e)) (If (g==2) (Bp a λo=>Lp o 5 λp=>Cl (C_Ed p) λq x=>So c 0 6 [Vi 0,Vb 0,Vi q,Vi 0,Vi 0,Vi 0] (Lz c 0 zk e)) (Dr (Bp a λb=>Lp b 5 λd=>Ia a (Lz (pblk a) (poff a) zL λf=>Fk (Cl (C_o f) λh=>Kc (pblk b) ((poff b)+5) (Vp d) (Kc (pblk a) (poff a) (Vp b) (Fk (Cl (C_z d h) λr y=>Al [Vi 0,Ns] y_a λi=>So i 0 2 (zh r) (F_i a e c (Z0 i))) (Al [Vi 0,Ns] y_a λj=>Kc (pblk b) ((poff b)+5) (Vp d) (Kc (pblk a) (poff a) (Vp b) (Cl (C_z d h) λs z=>So j 0 2 (zh s) (F_i a e c (Z0 j)))))))) (Al [Vi 0,Ns] y_a λk=>Kz (pblk a) (poff a) (zL f) (Kc (pblk b) ((poff b)+5) (Vp d) (Kc (pblk a) (poff a) (Vp b) (Cl (C_o f) λt=>Kc (pblk b) ((poff b)+5) (Vp d) (Kc (pblk a) (poff a) (Vp b) (Cl (C_z d t) λu A=>So k 0 2 (zh u) (F_i a e c (Z0 k))))))))))))
def F_Z:=λ(a:Int->WP) (b:Int)=>a b
def F_Ic:=λ(a:Int->WP)=>a 0
def F_Jc:=λ(b:OA) (a:Int->WP) (c:Bool)=>If c (F_Ic a) (Li b 1 λd=>Li b 2 λe=>Ex (If (decide (d>=e)) (F_Ic a) (F_Z a 1)))
def F_Kc:=λ(a:OA) (b:Int->WP) (d:Bool)=>If d (F_Z b 3) (Lp a 5 λc=>If (!c.isNone) (F_Jc a b (!c.isNone)) (Lo a 6 (F_Jc a b)))
def F_Lc:=λ(a:OA) (c:Int) (b:Int->WP) (d:Bool)=>If d (F_Z b 2) (Lp a 5 λe=>If (!e.isNone) (Cl (C_Vb a c) (F_Kc a b)) (F_Kc a b false))
def F_dg:=λ(a:OA) (c:Int) (b:Int->WP)=>Cl (C_Q a) λd=>If (!d) (b 0) (Lp a 5 λe=>If (!e.isNone) (Cl (C_Eb a) (F_Lc a c b)) (F_Lc a c b false))
def F_ob:=λa (b:Int->Int->WP) c (d:Int)=>If (d != 0) (b 0 d) (Li a 1 λe=>So (pblk a) ((poff a)+1) 1 [Vi (i64.wrap (e+1))] (Sa a 5 1 [Vp c] (Bi c λf=>b f 0)))
def F_ge:=λ(a:OA) (b:Int->Int->WP)=>Cl (C_Q a) λg=>If (!g) (b 0 2) (Lp a 5 λh=>If (!h.isNone) (b 0 10) (Lo a 6 λi=>If i (b 0 12) (Li a 1 λj=>Li a 2 λk=>Ex (If (decide (j>=k)) (b 0 9) (Dr (Bp a λc=>Li a 1 λd=>Fk (Cl (C_5 c (i64.wrap (d+1))) λl m=>Al [Vi 0,Ns] y_a λe=>So e 0 2 (zh l) (F_ob a b (Z0 e) m)) (Al [Vi 0,Ns] y_a λf=>Kc (pblk a) ((poff a)+1) (Vi d) (Kc (pblk a) (poff a) (Vp c) (Cl (C_5 c (i64.wrap (d+1))) λn o=>So f 0 2 (zh n) (F_ob a b (Z0 f) o))))))))))
def F_ib:=λc (d:T_c->Int->WP) a f=>If f (So a 0 2 [Vi 0,Ns] (Lz a 0 zh λg=>d g 6)) (Lp c 5 λb=>Ia b (Lz (pblk b) (poff b) zh λh=>Al [Vi 0,Ns] y_a λe=>So e 0 2 (zh h) (Sa c 5 1 [Vp none] (Lz e 0 zh λi=>So a 0 2 (zh i) (Lz a 0 zh λj=>d j 0)))))
def F_De:=λ(a:OA) (d:Int) (c:T_c->Int->WP)=>Al [Vi 0,Ns] y_a λb=>Cl (C_Q a) λe=>If (!e) (So b 0 2 [Vi 0,Ns] (Lz b 0 zh λf=>c f 2)) (Lp a 5 λg=>If g.isNone (So b 0 2 [Vi 0,Ns] (Lz b 0 zh λh=>c h 9)) (Cl (C_Eb a) λi=>If i (F_ib a c b true) (Cl (C_Vb a d) λj=>F_ib a c b (!j))))
def F_pb:=λ(a:Int) (b:Int->Int->WP) (c:Int)=>b c (i64.wrap (a+1))
def F_xc:=λ(l:OA) (e f:Int) (g:Int->Int->WP) (m:Nat) (n:Bool)=>If n (Dr λa=>(Lm l 2 λo=>λa=>(Lz m 0 (λ(b:zfe)=>[Vi b.e0,Vi b.e1]) λb=>λa=>∃(d:Nat) (c:Array MapEntry) (h:Nat),o=some d/\a.heap[d]? =some (.map c h)/\((Fa (zH isKP c) λa=>(Fa ((c.toList.map (·.key)).Nodup) λa=>(Fa (isKP (Value.agg #[Vi b.e0,Vi b.e1])) λa=>∀ i j k,zee c h (Value.agg #[Vi b.e0,Vi b.e1]) (Vo true) i j->k={ a with heap:=a.heap.setIfInBounds d (.map i j) }->(F_pb f g (i64.wrap (e+1))) k) a) a) a)) a) a) (F_pb f g e)
def F_Ve:=λg (x:Int->Int->WP) h (k:Int) (c:Slc) (y:Int->WP) (d:Int)=>If (decide (d<(c.len:Int))) (Ia c.ptr (Ix d c.len (Lz (pblk c.ptr) ((poff c.ptr)+d.toNat*3) zq λz=>Al Y3 y_f λl=>So l 0 3 (zq z) (Dr λa=>(Bm g λA=>λa=>(Dt l 0 λm=>λa=>(Di h 0 λB=>λa=>∃(i:Nat) (e:Array MapEntry) (n:Nat),A=some i/\a.heap[i]? =some (.map e n)/\((Fa (zH isKS e) λa=>(Fa ((e.toList.map (·.key)).Nodup) λa=>(Fa (isKS (Vt m)) λa=>∀ o p q,zee e n (Vt m) (Vi B) o p->q={ a with heap:=a.heap.setIfInBounds i (.map o p) }->(y (i64.wrap (d+1))) q) a) a) a)) a) a) a)))) (Dr λb=>(Lm g 1 λC=>λb=>(Di h 0 λr=>λb=>∃(j:Nat) (f:Array MapEntry) (s:Nat),C=some j/\b.heap[j]? =some (.map f s)/\((Fa (zH isKI f) λb=>(Fa ((f.toList.map (·.key)).Nodup) λb=>(Fa (isKI (Vi r)) λb=>∀ t u v,zee f s (Vi r) (Vi k) t u->v={ b with heap:=b.heap.setIfInBounds j (.map t u) }->(Di h 0 λD=>Sa g 3 1 [Vi D] (x k 0)) v) b) b) b)) b) b)
def F_We:=λ(a:OA) (y:Int->Int->WP) (k:Nat) (f:Slc) (r:Int->Int->WP) (n g:Int)=>If (decide (g<(f.len:Int))) (Ia f.ptr (Ix g f.len (Lz (pblk f.ptr) ((poff f.ptr)+g.toNat*3) zq λz=>Al Y3 y_f λo=>So o 0 3 (zq z) (Dr λb=>(Di k 0 λs=>λb=>(Bm a λp=>λb=>(Dt o 0 λq=>λb=>∃(h:Array MapEntry) (t:Int) (A:Bool),zhb b p h/\(Fa (zH isKS h) (Fa ((h.toList.map (·.key)).Nodup) (Fa (isKS (Vt q)) (Fa (LkIs h (Vt q) (Vi 0) (Vi t) A) (Al [Vi 0,Vi 0] y_F λi=>λj=>zhb j p h/\j.cell? ⟨o,0,none⟩=some (Vt q)/\j.cell? ⟨(pblk a),(poff a),none⟩=some (Value.map p)/\j.cell? ⟨k,0,none⟩=some (Vi s)/\(So i 0 2 [Vi s,Vi t] λc=>(Lm a 1 λB=>λc=>(Iy 1 2 λc=>(Di i 1 λu=>λc=>∃(l:Array MapEntry) (C:Int) (v:Bool),zhb c B l/\(Fa (zH isKI l) (Fa ((l.toList.map (·.key)).Nodup) (Fa (isKI (Vi u)) (Fa (LkIs l (Vi u) (Vi 0) (Vi C) v) (Ex λd=>(If v (λd=>(Lm a 2 λD=>λd=>(Lz i 0 (λ(e:zfe)=>[Vi e.e0,Vi e.e1]) λe=>λd=>∃(m:Array MapEntry) (x:Bool) (E:Bool),zhb d D m/\(Fa (zH isKP m) (Fa ((m.toList.map (·.key)).Nodup) (Fa (isKP (Value.agg #[Vi e.e0,Vi e.e1])) (Fa (LkIs m (Value.agg #[Vi e.e0,Vi e.e1]) (Vo false) (Vo x) E) (Ex (F_xc a n g r i (!x))))))) d) d) d) (Ex (F_xc a n g r i false))) d))))) c) c) c) c) j))))) b) b) b) b)))) (Ds k 1 λF=>U1 0 λG H=>F_Ve a y k n F H G)
def F_Uf:=λ(c:OA) (d:T_c) (a:Int->Int->WP)=>Al (zh d) y_a λb=>Cl (C_Cb c) λe=>If e (a 0 2) (Lz b 0 zh λf=>Cl (C_Lb f) λg=>If (g != 0) (a 0 1) (Di b 0 λh=>Li c 3 λi=>Ex (If (decide (h<=i)) (a 0 6) (Ds b 1 λj=>U2 0 0 λk l m=>F_We c a b j m k l))))
def F_Rd:=λb (h:Bool->WP)=>Dr λa=>(Lm b 4 λf=>λa=>(Lp b 5 λd=>λa=>(Bi d λg=>λa=>∃(e:Array MapEntry),zhb a f e/\(Fa (z6c e) (Al [] y_ab λi=>λc=>zhb c f e/\c.cell? ⟨(pblk d),(poff d),none⟩=some (Vi g)/\c.cell? ⟨(pblk b),(poff b)+5,none⟩=some (Vp d)/\c.cell? ⟨(pblk b),(poff b)+4,none⟩=some (Value.map f)/\(So i 0 0 [] (h (zFb e g))) c)) a) a) a) a
def F_Vf:=λa (b:Int) (c:Bool->WP)=>Lp a 5 λd=>Bi d λe=>Li a 3 λf=>Ex (c (decide ((i64.wrap (e - f))<=b)))
def F_P:=λc (d:Int) (e:T_c->Int->WP) a f=>If f (So a 0 2 [Vi 0,Ns] (Lz a 0 zh λg=>e g 1)) (Ls c 2 λh=>Al [Vi d] y_g λi=>Ap (Slc.mk (Z0 i) 1 1) 1 8 y_g [Vi 0] h 1 λj=>Sa c 2 1 [Xs j] (Ls c 1 λb=>Ia b.ptr (Ix (i64.wrap (d - 1)) b.len (Lz (pblk b.ptr) ((poff b.ptr)+(i64.wrap (d - 1)).toNat*2) zh λk=>Cl (C_Qb k) λl=>So a 0 2 (zh l) (Lz a 0 zh λm=>e m 0)))))
def F_Ec:=λ(c:OA) (a:Int) (d:T_c->Int->WP) (b:Nat) (e:Bool)=>If e (So b 0 2 [Vi 0,Ns] (Lz b 0 zh λf=>d f 2)) (If (decide (a<1)) (F_P c a d b true) (Ls c 1 λg=>F_P c a d b (decide (a>(g.len:Int)))))
def F_Ee:=λa (b:Int) (c:T_c->Int->WP)=>Al [Vi 0,Ns] y_a λd=>If a.isNone (F_Ec a b c d true) (Bo a λe=>F_Ec a b c d (!e))
def F_vf:=λb a=>Cl (C_r b) λc d=>If d (Bi c a) (a 0)
def F_Q:=λ(b:OA) (a:Int->WP) (c:Bool)=>If c (a 5) (Lp b 1 λd=>Cl (C_Fb d) λe=>If e (a 6) (a 0))
def F_Fe:=λ(a:OA) (b:Int->WP)=>Lp a 1 λc=>Cl (C_R c) λd=>If (d==0) (Bp a λe=>Ls e 12 λf=>If (decide ((f.len:Int)>0)) (b 4) (b 0)) (Lp a 1 λg=>Cl (C_Wb g) λh i j=>Al Y0 y_e λk=>So k 0 9 (zi i) (If j (Ia a (Lz (pblk a) (poff a) zL λl=>Cl (C_ib l h) (F_Q a b))) (F_Q a b false)))
def F_Vb:=λ(a:OA) (l:Int) (h:T_a->WP)=>Al Y1 y_d λd=>If (l==4) (Bp a λq=>Ls q 12 λe=>Ia e.ptr (Ix (0:Int) e.len (Lz (pblk e.ptr) (poff e.ptr) zh λr=>Al [Vi 0,Ns] y_a λi=>So i 0 2 (zh r) (Dr λb=>(Bp a λs=>λb=>(Bp a λt=>λb=>(Ls t 12 λc=>λb=>(Fa ((0<=(1:Int)/\(1:Int)<=(c.len:Int)/\(c.len:Int)<=(c.cap:Int)/\(c.cap:Int)<=(c.cap:Int))) λb=>∀ m,m=Slc.cut 2 c 1 (c.len:Int) (c.cap:Int)->(Sa s 12 1 [Xs m] (Dr (Lp a 1 λu=>Lz i 0 zh λv=>Cl (C_Gc u v) λJ=>Di i 0 λx=>So d 0 6 [Vi 0,Vb 0,Vi x,Vi 0,Vi 0,Vi 0] (Lz d 0 zk h)))) b) b) b) b) b)))) (If (l==5) (Lp a 1 λy=>Cl (C_Wb y) λj z K=>Al Y0 y_e λn=>So n 0 9 (zi z) (Dr (Bp a λA=>Ls A 9 λf=>Ia f.ptr (Ix j f.len (Dp (pblk f.ptr) ((poff f.ptr)+j.toNat) λB=>Lz n 0 zi λC=>Cl (C_Db B C) λL M=>Lp a 1 λD=>Cl (C_Hc D) λN=>Lp a 1 λE=>Cl (C_R E) λF=>So d 0 6 [Vi 0,Vb 0,Vi F,Vi j,Vi 0,Vi 0] (Lz d 0 zk h)))))) (Lp a 1 λG=>Cl (C_Ic G) λo O=>Dr (Bp a λk=>Bp a λg=>Ls g 14 λp=>Al [Vi o] y_g λH=>Kc (pblk g) ((poff g)+14) (Xs p) (Kc (pblk a) (poff a) (Vp g) (Kc (pblk a) (poff a) (Vp k) (Ap (Slc.mk (Z0 H) 1 1) 1 8 y_g [Vi 0] p 1 λI=>Kc (pblk a) (poff a) (Vp k) (Sa k 14 1 [Xs I] (So d 0 6 [Vi 0,Vb 0,Vi o,Vi 0,Vi 0,Vi 0] (Lz d 0 zk h)))))))))
def F_G:=λa (e:Int->T_d->Bool->WP) c b g=>If (!g) (So c 0 9 Y0 (Lz c 0 zi λh=>e 0 h false)) (Dr (Ia a (Lz (pblk a) ((poff a)+1) zo λi=>Bt b λj=>Cl (C_3b i j) λk n=>Dr (Bi a λf=>Ia b (Lz (pblk b) (poff b) zq λd=>Cl (C_R a) λl=>Kz (pblk b) (poff b) (zq d) (Kc (pblk a) (poff a) (Vi f) (So c 0 9 [Vb 1,Vi f,Vi l,Vt d.Key,Vt d.Val,Vo d.Drop,Vt Be,Vt Be,Ns] (Lz c 0 zi λm=>e k m true))))))))
def F_he:=λ(a:OA) (f:Int->T_d->Bool->WP) (k:World)=>∀ b l,b=k.heap.size->l=k.alloc (Obj.cells (Y0).toArray y_e (0,0))->(C_v a l (λ(m:Bool) c=>(m=true->(zr c b 0 9/\(∀ g,g=World.puts b 0 Y0 c->(∃(n:T_d),zf g b 0 (zi n)/\(f 0 n false g))))) /\
 (m=false->(IsAt a/\(∃(h:Value),c.cell? ⟨(pblk a),(poff a)+5,none⟩=some (h)/\((∃(y:T_n),h=Value.iface 198 (Value.agg #[])/\(C_Lc (T_n.mk) c (λ(t:T_i) (u:Bool) o=>∀ d i,d=o.heap.size->i=o.alloc (Obj.cells (Y3).toArray y_f (0,0))->(zr i d 0 3/\(∀ p,p=World.puts d 0 (zq t) i->(F_G a f b (Z0 d) u p)))))) \/
 (∃(q:OA),h=Value.iface 341 (Vp q)/\(C_md q c (λ(v:T_i) (x:Bool) r=>∀ e j,e=r.heap.size->j=r.alloc (Obj.cells (Y3).toArray y_f (0,0))->(zr j e 0 3/\(∀ s,s=World.puts e 0 (zq v) j->(F_G a f b (Z0 e) x s))))))))))))
def F_wf:=λ(c:OA) (a:Bool->WP)=>Cl (C_r c) λb d=>If d (Ls b 1 λe=>If ((e.len:Int)==0) (Li b 2 λf=>a (f==0)) (a false)) (a false)
def F_id:=λ(a:OA->Bool->WP) (b:OA) (c:Bool)=>a b c
def F_7c:=λ(b:OA) (a:OA->Bool->WP)=>Cl (C_v b) λd=>If d (a none false) (Lv b 5 λc=>Vy c 341 (λe=>F_id a e true) (Fa (zsp 341 c) (F_id a none false)))
def F_Wf:=λ(c:OA) (f:T_c) (a:Int->WP)=>Al (zh f) y_a λb=>Cl (C_v c) λg=>If g (a 2) (Cl (C_r c) λm h=>If h (a 10) (Lz b 0 zh λi=>Cl (C_Lb i) λd=>If (d != 0) (a d) (Dr (Di b 0 λe=>Lz b 0 zh λj=>Cl (C_Yc j) λk=>Kc b 0 (Vi e) (Al [Vi e,Xs k,Vi 0] y_6 λl=>Sa c 5 1 [Value.iface 341 (Vp (Z0 l))] (a 0))))))
def F_yc:=λ(d:Int->WP) c f=>λ(b:World)=>(If f (d 9) λb=>(Ls c 1 λa=>λb=>(Fa ((0<=(1:Int)/\(1:Int)<=(a.len:Int)/\(a.len:Int)<=(a.cap:Int)/\(a.cap:Int)<=(a.cap:Int))) λb=>∀ e,e=Slc.cut 3 a 1 (a.len:Int) (a.cap:Int)->(Sa c 1 1 [Xs e] (Li c 2 λg=>So (pblk c) ((poff c)+2) 1 [Vi (i64.wrap (g+1))] (d 0))) b) b) b) b
def F_Xf:=λ(c:OA) (a:Int->WP)=>Cl (C_v c) λd=>If d (a 2) (Cl (C_r c) λb e=>If (!e) (F_yc a b true) (Ls b 1 λf=>F_yc a b ((f.len:Int)==0)))
def F_Yf:=λ(a:OA) (b:Int->Int->WP)=>Cl (C_v a) λc=>If c (b 0 2) (Cl (C_r a) λd e=>If (!e) (b 0 9) (Cl (C_Fb a) λf=>If (!f) (b 0 10) (Sa a 5 1 [Value.iface 198 (Value.agg #[])] (Bi d λg=>b g 0))))
def F_Zf:=λa (b:Bool->WP)=>If a.isNone (b true) (Lv a 5 λc=>Fa (IfV c) (b (zWg c)))
def F_Ed:=λ(a:Int) (b:Slc->Int->WP) c=>b c (i64.wrap (a+1))
def F_ef:=λ(i:Slc->WP) (j:Nat) (c:Slc) (g:Slc->Int->WP) (e:Slc) (a:Int)=>If (decide (a<(c.len:Int))) (Ia c.ptr (Ix a c.len (Lz (pblk c.ptr) ((poff c.ptr)+a.toNat*3) zq λk=>Al Y3 y_f λf=>So f 0 3 (zq k) λd=>(Ds j 1 λb=>λd=>(Fa ((0<=i64.wrap (a+1)/\i64.wrap (a+1)<=(b.len:Int)/\(b.len:Int)<=(b.cap:Int)/\(b.cap:Int)<=(b.cap:Int))) λd=>∀ h,h=Slc.cut 3 b (i64.wrap (a+1)) (b.len:Int) (b.cap:Int)->(Cl (C_b h (Value.func (.func 233) #[] #[Vp (Z0 f)])) λl=>If (!l) (Lz f 0 zq λm=>Al (zq m) y_f λn=>Ap (Slc.mk (Z0 n) 1 1) 3 40 y_f Y3 e 1 (F_Ed a g)) (F_Ed a g e)) d) d) d))) (i e)
def F_eg:=λb c=>Al (zh b) y_a λa=>Ds a 1 λd=>U2 (Slc.mk none 0 0) 0 λe f g=>F_ef c a d g e f
def F_Lg:=λa b (c:Bool->WP)=>Al (zq a) y_f λd=>Dt d 0 λe=>Bt b λf=>c (e.toList==f.toList)
def F_Ge:=λb (a:Int->WP)=>Lp b 1 λc=>Cl (C_kc c) λd=>If (decide (d>0)) (a 7) (a 0)
def F_bb:=λb c a d=>Dr (Di d 0 λe=>Li b 2 λf=>So a 0 6 [Vi 0,Vb 0,Vi e,Vi f,Vi 0,Vi 0] (Lz a 0 zk c))
def F_Zc:=λa (v:Int) f=>Al Y1 y_d λc=>Lp a 1 λl=>Cl (C_D l) λm x=>Al Y5 y_n λb=>So b 0 5 (zW m) (Di b 0 λn=>If (decide (n>0)) (Bp a λo=>Ls o 8 λd=>Di b 0 λh=>Ia d.ptr (Ix (i64.wrap (h - 1)) d.len (Dp (pblk d.ptr) ((poff d.ptr)+(i64.wrap (h - 1)).toNat) λi=>Ex (Cl (C_lc i) λy=>Dr (Li a 2 λj=>Cl (C_R i) λp=>Kc (pblk a) ((poff a)+2) (Vi j) (So c 0 6 [Vi 0,Vb 0,Vi p,Vi j,Vi 0,Vi 0] (Lz c 0 zk f))))))) (Bp a λq=>Ls q 11 λe=>Di b 0 λk=>Ia e.ptr (Ix (i64.wrap ((-1) - k)) e.len (Dp (pblk e.ptr) ((poff e.ptr)+(i64.wrap ((-1) - k)).toNat) λg=>Ex (Dr (Lp g 3 λr=>Lz b 0 zW λs=>Cl (C_Zc r s) λz=>Lp g 3 λt=>Cl (C_qb t) λu=>If u (Cl (C_zb g) (F_bb a f c b)) (F_bb a f c b)))))))
def F_Md:=λa b=>Cl (C_O a) λc=>If c (b 0) (Li a 2 b)
def F_jd:=λ(d:OA) (e:T_k->Int->WP)=>Al Y5 y_n λa=>Cl (C_s d) λi=>If (!i) (So a 0 5 Y5 (Lz a 0 zW λj=>e j 2)) (Lp d 1 λk=>Cl (C_hb k) λl m=>Al Y0 y_e λb=>So b 0 9 (zi l) (If (!m) (So a 0 5 Y5 (Lz a 0 zW λn=>e n 9)) (Di b 1 λo=>Al Y5 y_n λf=>So f 0 5 [Vi o,Vo true,Ns,Ns,Vi 0] (Dr (Db b 0 λg=>Lz b 0 zi λh=>Cl (C_0c d) λc=>Kz b 0 (zi h) (Kc b 0 (Vb g) (Iy g 6 (Cv (([c.e0,c.e1,c.e2,c.e3,c.e4,c.e5]:List Value).getD g.toNat Value.nilFunc) #[Xg zi h,Vp (Z0 f)] (λ(p:Unit)=>Value.tuple #[]) λp=>Lz f 0 zW λq=>So a 0 5 (zW q) (Lz a 0 zW λr=>e r 0)))))))))
def F_dc:=λ(b:Int->WP) a c=>If c (b 9) (Li a 2 λd=>So (pblk a) ((poff a)+2) 1 [Vi (i64.wrap (d - 1))] (b 0))
def F_xf:=λ(c:OA) (a:Int->WP)=>Cl (C_v c) λd=>If d (a 2) (Cl (C_r c) λb e=>If (!e) (F_dc a b true) (Li b 2 λf=>F_dc a b (f==0)))
def F_ff:=λa (k:Int->WP) b (c:Slc) (l:Slc->Int->WP) g (d:Int)=>If (decide (d<(c.len:Int))) (Ia c.ptr (Ix d c.len (Lz (pblk c.ptr) ((poff c.ptr)+d.toNat*2) ze λm=>Al [Vt Be,Ns] y_c λe=>So e 0 2 (ze m) (Dr (Dt e 0 λh=>Ds e 1 λn=>Cl (C_a n) λo=>Kc e 0 (Vt h) (Al [Vt h,Xs o] y_c λp=>Ap (Slc.mk (Z0 p) 1 1) 2 40 y_c [Vt Be,Ns] g 1 λq=>l q (i64.wrap (d+1)))))))) (Dr (Ls a 12 λf=>Do b 1 λi=>Ds b 2 λr=>Di b 4 λj=>Cl (C_B r) λs=>Kc b 4 (Vi j) (Kc b 1 (Vo i) (Kc (pblk a) ((poff a)+12) (Xs f) (Al [Vi 0,Vo i,Xs s,Xs g,Vi j] y_n λt=>Kc (pblk a) ((poff a)+12) (Xs f) (Ap (Slc.mk (Z0 t) 1 1) 5 72 y_n Y5 f 1 λu=>Sa a 12 1 [Xs u] (k 0)))))))
def F_fg:=λ(a:OA) (e:T_k) (b:Int->WP)=>Al (zW e) y_n λc=>Cl (C_p a) λf=>If (!f) (b 2) (Ls a 12 λg=>Li a 11 λh=>Ex (If (decide ((g.len:Int)>=h)) (b 9) (Di c 0 λi=>Bi a λj=>Ex (If (i != j) (b 1) (Ds c 3 λd=>Fa (0<=(0:Int)) (Fa ((0:Int)<=(d.len:Int)) (Fa ((40:Int)*(d.len:Int)<=281474976710656) (Ao (Obj.cells (zp ((d.len:Int).toNat) [Vt Be,Ns]) y_c (0,0)) λk=>Ds c 3 λl=>U2 (Slc.mk (Z0 k) 0 ((d.len:Int).toNat)) 0 λm n o=>F_ff a b c l o m n))))))))
def F_jc:=λ(b:OA) (c:OA->Int->WP) (e:Int) (a:Slc) (h:Int)=>λ(d:World)=>(If (e==4611686018427387904) (c none 3) λd=>C_dc (u64.wrap ((u64.wrap e)+1)) a d (λ(f:List Int) i=>(f.length=20)->(Ao (Obj.cells ((List.map (Value.int .u8) (List.replicate 20 0))).toArray y_v (0,0)) λg=>So g 0 20 (List.map (Value.int .u8) f) (Cl (C_Ub b) λj=>If (decide ((a.len:Int)>(i64.wrap (j - 20)))) (c none 13) (Ap a 1 1 y_k [Vb 0] (Slc.mk (Z0 g) 20 20) a.len λk=>Al [Value.func (.func 245) #[Vp b] #[],Value.func (.func 246) #[Vp b] #[],Vi h,Xs k,Vi 0,Vo false] y_T λl=>c (Z0 l) 0))) i)) d
def F_ng:=λ(b:OA) (h:T_b) (a:OA->Int->WP)=>Al (zn h) y_j λi=>Cl (C_Ib b) λj c d k e=>Al Y4 y_j λl=>So l 0 3 (zn j) (If (e != 0) (a none e) (Lz i 0 zn λm=>Cl (C_cd m) λf g=>If (g != 0) (a none g) (If k (F_jc b a c f (i64.wrap (1 - d))) (F_jc b a c f d))))
def F_U:=λ(b:T_d->Bool->WP) (a:Nat) (c:Bool)=>Lz a 0 zi λd=>So a 0 9 (zi d) (Lz a 0 zi λe=>b e c)
def F_sc:=λ(a:OA) (e:T_d->Bool->WP)=>Al Y0 y_e λc=>Cl (C_0b a) λh d=>So c 0 9 (zi h) (If d (Al Y0 y_e λi=>Dr (Bs a λb=>Li a 1 λf=>Lz i 0 zi λj=>Ia b.ptr (Ix f b.len (So (pblk b.ptr) ((poff b.ptr)+f.toNat*9) 9 (zi j) (Dr (Li a 1 λk=>Bs a λg=>Fa ((g.len:Int)≠0) (Sa a 1 1 [Vi (Int.tmod (i64.wrap (k+1)) (g.len:Int))] (Li a 2 λl=>So (pblk a) ((poff a)+2) 1 [Vi (i64.wrap (l - 1))] (F_U e c d))))))))) (F_U e c d))
def F_He:=λd e=>Al [Vp d] y_p λb=>Al [Value.nilFunc,Value.nilFunc,Value.nilFunc,Value.nilFunc,Value.nilFunc,Value.nilFunc] y_r λc=>So c 0 6 [Value.nilFunc,Value.func (.func 248) #[] #[Vp (Z0 b)],Value.func (.func 250) #[] #[Vp (Z0 b)],Value.func (.func 252) #[] #[Vp (Z0 b)],Value.func (.func 254) #[] #[Vp (Z0 b)],Value.func (.func 256) #[] #[Vp (Z0 b)]] (Lz c 0 (λ(a:zmd)=>[a.e0,a.e1,a.e2,a.e3,a.e4,a.e5]) e)
def F_ac:=λa b=>If a.ptr.isNone (b (Slc.mk none 0 0)) (Al [] y_h λc=>Ap a 2 32 y_h [Vt Be,Vt Be] (Slc.mk (Z0 c) 0 0) a.len b)
def F_8c:=λ(a:Int) (b:Int->WP)=>b (i64.wrap (a+1))
def F_ie:=λ(c:OA) (f:Int) (g:Int->WP) (a:Slc) (e:Int->WP) (b:Int)=>If (decide (b<(a.len:Int))) (Ia a.ptr (Ix b a.len (Lz (pblk a.ptr) ((poff a.ptr)+b.toNat*3) zg λh=>Al Y2 y_b λd=>So d 0 3 (zg h) (Di d 0 λi=>Cl (C_m c (u64.wrap i)) (Do d 2 λj=>If j (Cl (C_8 c 1 1) λl=>F_8c b e) (Cl (C_8 c 0 1) λm=>Dt d 1 λk=>Cl (C_lb c k) (F_8c b e))))))) (g (i64.wrap (f+1)))
def F_je:=λ(e:Slc->Int->WP) b (a:Slc) (f:Int->WP) (c:Int)=>If (decide (c<(a.len:Int))) (Ia a.ptr (Ix c a.len (Lz (pblk a.ptr) ((poff a.ptr)+c.toNat*2) ze λg=>Al [Vt Be,Ns] y_c λd=>So d 0 2 (ze g) (Dt d 0 λh=>Cl (C_lb b h) (Ds d 1 λi=>Cl (C_m b (u64.wrap (i.len:Int))) (Ds d 1 λj=>U1 0 λk l=>F_ie b c f j l k)))))) (Cl (C_Yb b) λm=>e m 0)
def F_0f:=λ(e:Slc->Int->WP) d c (a:Slc) (f:Int->WP) (b:Int)=>If (decide (b<(a.len:Int))) (Ia a.ptr (Ix b a.len (Di (pblk a.ptr) ((poff a.ptr)+b.toNat) λg=>Cl (C_m c (u64.wrap g)) (f (i64.wrap (b+1)))))) (Ds d 2 λh=>Cl (C_m c (u64.wrap (h.len:Int))) (Ds d 2 λi=>U1 0 λj k=>F_je e c i k j))
def F_Fg:=λe (c:Slc->Int->WP)=>Al (zn e) y_j λa=>Lz a 0 zn λf=>Cl (C_Jb f) λd=>If (d != 0) (c (Slc.mk none 0 0) d) (Cl C_oc λb=>Di a 0 λg=>Cl (C_m b (u64.wrap g)) (Ds a 1 λh=>Cl (C_m b (u64.wrap (h.len:Int))) (Ds a 1 λi=>U1 0 λj k=>F_0f c a b i k j)))
def F_L:=λb (c d:Int) g (i:Int->WP) e=>IsAt b/\(0<=c/\c<(2:Int)/\(∃(a:Slc),e.cell? ⟨(pblk b),((poff b)+2)+c.toNat,none⟩=some (Xs a)/\((0<=d/\d<=(a.len:Int)/\(a.len:Int)<=(a.cap:Int)/\(a.cap:Int)<=(a.cap:Int))/\(∀ f,f=Slc.cut 1 a d (a.len:Int) (a.cap:Int)->(∃ h,zsb e g (min g.len f.len) 1 h/\zRc f h e (λj=>i 0 j))))))
def F_Sd:=λ(a:OA) (b c:Int) (d:Slc) (e:Int->WP)=>Cl (C_fb a b) λg=>If (g != 0) (e g) (If ((decide (c<0))||(decide ((d.len:Int)>64))) (e 1) (Ia a (Iy b 2 (Ds (pblk a) (((poff a)+2)+b.toNat) λi=>If (decide (c>(i.len:Int))) (e 6) (Li a 1 λj=>If (decide (c>(i64.wrap (j - (d.len:Int))))) (e 13) (Cl (C_1b a) λh=>If (h != 0) (e h) (Ia a (Iy b 2 (Ds (pblk a) (((poff a)+2)+b.toNat) λk=>If (decide ((i64.wrap (c+(d.len:Int)))>(k.len:Int))) (Dr (Ia a (Iy b 2 (Ds (pblk a) (((poff a)+2)+b.toNat) λl=>Ia a (Iy b 2 (Ds (pblk a) (((poff a)+2)+b.toNat) λf=>Ia a (Fa (0<=i64.wrap ((i64.wrap (c+(d.len:Int))) - (f.len:Int))) (Fa (i64.wrap ((i64.wrap (c+(d.len:Int))) - (f.len:Int))*(1:Int)<=281474976710656) (Aw (zG 1 1 y_k [Vb 0] l (zp ((i64.wrap ((i64.wrap (c+(d.len:Int))) - (f.len:Int))).toNat) [Vb 0]).toList ((i64.wrap ((i64.wrap (c+(d.len:Int))) - (f.len:Int))).toNat)) λm=>Iy b 2 (So (pblk a) (((poff a)+2)+b.toNat) 1 [Xs m] (F_L a b c d e))))))))))) (F_L a b c d e))))))))))
def F_yf:=λ(a:OA) (b:Int) (c:Int->WP)=>Cl (C_fb a b) λd=>If (d != 0) (c d) (Cl (C_1b a) λe=>If (e != 0) (c e) (Ia a (Iy b 2 (So (pblk a) (((poff a)+2)+b.toNat) 1 [Ns] (c 0)))))
def F_pd:=λ(c:OA) (d:T_d->Bool->WP)=>Al Y0 y_e λa=>Cl (C_U c) λf=>If (f==0) (Lz a 0 zi λg=>So a 0 9 (zi g) (Lz a 0 zi λh=>d h false)) (Dr (Bs c λb=>Li c 1 λe=>Ia b.ptr (Ix e b.len (Lz (pblk b.ptr) ((poff b.ptr)+e.toNat*9) zi λi=>So a 0 9 (zi i) (Lz a 0 zi λj=>d j true)))))
def F_2d:=λb c d e=>Al (zi b) y_e λa=>Dr (Bp d λf=>Bp f λg=>Di a 2 λh=>Lz a 3 zq λi=>Cl (C_Nb g h i) λj k=>Sa c 1 1 [Vo j] e)
def F_tc:=λ(a:Bool->Int->WP) b (c:Int)=>a b c
def F_oe:=λ(g:OA) (r:Int) (s:T_i) (d:Bool->Int->WP)=>Al (zq s) y_f λc=>Cl (C_q g) λt=>If t (d false 2) (Dt c 0 λu=>Cl (C_5c u) λv=>If (!v) (d false 1) (Dr λb=>(Bm g λx=>λb=>(Dt c 0 λj=>λb=>∃(e:Array MapEntry) (k:Slc) (y:Bool),zhb b x e/\(Fa (zH isKS e) (Fa ((e.toList.map (·.key)).Nodup) (Fa (isKS (Vt j)) (Fa (LkIs e (Vt j) (Ns) (Xs k) y) (Dt c 1 λz=>Do c 2 λA=>Cl (C_td k (T_h.mk r z A)) λB l h=>If (h==0) (Dr λa=>(Bm g λC=>λa=>(Dt c 0 λm=>λa=>∃(i:Nat) (f:Array MapEntry) (n:Nat),C=some i/\a.heap[i]? =some (.map f n)/\((Fa (zH isKS f) λa=>(Fa ((f.toList.map (·.key)).Nodup) λa=>(Fa (isKS (Vt m)) λa=>∀ o p q,zee f n (Vt m) (Xs B) o p->q={ a with heap:=a.heap.setIfInBounds i (.map o p) }->(F_tc d l h) q) a) a) a)) a) a) (F_tc d l h)))))) b) b) b))
def F_3d:=λe b f c=>Al (zi e) y_e λa=>Dr (Bp f λg=>Bp g λh=>Dt a 6 λi=>Di a 2 λj=>Cl (C_Gb h i j) λk d=>Sa b 1 1 [Vo d] (If d (Dt a 6 λl=>Al [Vt l,Vt k] y_h λm=>Sa b 2 1 [Value.slice (Z0 m) 1 1] c) c))
def F_zf:=λ(e:OA) (f:ByteArray) (i:Int) (c:ByteArray->Bool->WP)=>Cl (C_q e) λj=>λa=>(If j (c Be false) λa=>(Bm e λk=>λa=>∃(b:Array MapEntry) (g:Slc) (l:Bool),zhb a k b/\(Fa (zH isKS b) (Fa ((b.toList.map (·.key)).Nodup) (Fa (isKS (Vt f)) (Fa (LkIs b (Vt f) (Ns) (Xs g) l) (Cl (C_Bd g i) λm n p=>Al Y2 y_b λd=>So d 0 3 (zg m) (Dt d 1 λh=>If n (Do d 2 λo=>Ex (c h (!o))) (Ex (c h false)))))))) a) a) a
def F_4d:=λb c d e=>Al (zi b) y_e λa=>Dr (Bp d λf=>Bp f λg=>Dt a 6 λh=>Dt a 7 λi=>Di a 2 λj=>Cl (C_bc g h i j) λk=>Sa c 2 1 [Xs k] e)
def F_gf:=λa c d e b=>Cl (C_q a) λf=>If f (b (Slc.mk none 0 0)) (Cl (C_Dd (Value.iface 168 (Vp a)) c d e) b)
def F_5d:=λa b c d=>Al (zi a) y_e λe=>Dr (Bp c λf=>Bp f λg=>Di e 2 λh=>Cl (C_Ob g h) λi=>Sa b 4 1 [Vi i] d)
def F_Fd:=λi (p:Int) (q:Int->WP) (c:Slc) (r:Int->Int->WP) (j d:Int)=>λ(a:World)=>(If (decide (d<(c.len:Int))) (λa=>(Ia c.ptr λa=>(Ix d c.len λa=>(Dt (pblk c.ptr) ((poff c.ptr)+d.toNat) λe=>λa=>(Bm i λs=>λa=>∃(f:Array MapEntry) (k:Slc) (t:Bool),zhb a s f/\(Fa (zH isKS f) (Fa ((f.toList.map (·.key)).Nodup) (Fa (isKS (Vt e)) (Fa (LkIs f (Vt e) (Ns) (Xs k) t) (Cl (C_1c k p) λu v y=>λb=>(Bm i λx=>λb=>∃(h:Nat) (g:Array MapEntry) (l:Nat),x=some h/\b.heap[h]? =some (.map g l)/\((Fa (zH isKS g) λb=>(Fa ((g.toList.map (·.key)).Nodup) λb=>(Fa (isKS (Vt e)) λb=>∀ m n o,zee g l (Vt e) (Xs u) m n->o={ b with heap:=b.heap.setIfInBounds h (.map m n) }->(r (i64.wrap (j+v)) (i64.wrap (d+1))) o) b) b) b)) b))))) a) a) a) a) a) (q j)) a
def F_pe:=λa (c:Int) (b:Int->WP)=>Cl (C_q a) λd=>If d (b 0) (Ia a (Cl (C_C (some ⟨(pblk a),(poff a),none⟩)) λe=>U2 0 0 λf g h=>F_Fd a c b e h f g))
def F_6d:=λb c d e=>Al (zi b) y_e λa=>Dr (Bp d λf=>Bp f λg=>Di a 2 λh=>Ds a 8 λi=>Cl (C_cc g h i) λj=>Sa c 3 1 [Xs j] e)
def F_hf:=λb c d e=>Al [Vp b] y_I λa=>Al [Vi c] y_g λf=>Al [Xs d] y_U λg=>Dp a 0 λh=>Cl (C_jb h (Value.func (.func 268) #[] #[Vp (Z0 a),Vp (Z0 f),Vp (Z0 g)])) e
def F_Af:=λ(a:OA->WP)=>Al [Vo true,Ns] y_P λb=>a (Z0 b)
def F_qe:=λa c (d:Int->WP) (b:Int)=>If (decide (b>=128)) (Ls a 1 λe=>Al [Vb (bor .u8 (u8.wrap b) 128)] y_k λf=>Ap (Slc.mk (Z0 f) 1 1) 1 1 y_k [Vb 0] e 1 λg=>Sa a 1 1 [Xs g] (d (Int.fdiv b (2 ^ 7)))) (Ls a 1 λh=>Al [Vb (u8.wrap b)] y_k λi=>Ap (Slc.mk (Z0 i) 1 1) 1 1 y_k [Vb 0] h 1 λj=>Sa a 1 1 [Xs j] c)
def F_if:=λa (c:Int) b=>Cl (C_E a) λd=>If d b (U1 c λe f=>F_qe a b f e)
def F_kd:=λa b c=>Cl (C_E a) λd=>If d c (Cl (C_m a (u64.wrap (b.size:Int))) (Ls a 1 λe=>Aw (zG 1 1 y_k [Vb 0] e (z6 b) b.size) λf=>Sa a 1 1 [Xs f] c))
def F_Nd:=λa (d:Int) (e:Int->WP) (f:Int->Int->WP) (b c:Int)=>If (decide (c<d)) (Ls a 1 λg=>Al [Vb (u8.wrap b)] y_k λh=>Ap (Slc.mk (Z0 h) 1 1) 1 1 y_k [Vb 0] g 1 λi=>Sa a 1 1 [Xs i] (f (Int.fdiv b (2 ^ 8)) (i64.wrap (c+1)))) (e 0)
def F_Ie:=λ(c:OA) (d a:Int) (b:Int->WP)=>Cl (C_E c) λe=>If e (b 2) (If ((decide (a<1))||(decide (a>8))) (b 1) (Fa (0<=i64.wrap (8*a)) (If ((Int.fdiv d (2 ^ (min (i64.wrap (8*a)).toNat 64))) != 0) (b 3) (U2 d 0 λf g h=>F_Nd c a b h f g))))
def F_Xe:=λa b=>Cl (C_E a) λc=>If c (b (Slc.mk none 0 0)) (Ls a 1 λd=>Cl (C_u d) b)
def F_Mc:=λa (b:Int->WP) d=>If d (Sa a 5 1 [Vo true] (b 11)) (Li a 4 λc=>Sa a 4 1 [Vi (if(-1)>(i64.wrap (c - 1)) then(-1) else(i64.wrap (c - 1)))] (Li a 6 λe=>So (pblk a) ((poff a)+6) 1 [Vi (i64.wrap (e+1))] (b 0)))
def F_gg:=λa (b:Int->WP)=>Lo a 5 λc=>If c (F_Mc a b true) (Li a 4 λd=>F_Mc a b (d==0))
def F_rb:=λ(a:Slc) (b:Slc->Bool->Int->WP) (d:Nat) (e:Int) (f:Bool)=>If f (Cl (C_a a) λg=>b g false 0) (Dr (Lz d 0 zg λc=>Fk (Cl (C_a a) λh=>Kz d 0 (zg c) (Al (zg c) y_b λi=>Cl (C_k h e (Slc.mk (Z0 i) 1 1)) λj=>b j true 0)) (Al (zg c) y_b λk=>Cl (C_a a) λl=>Cl (C_k l e (Slc.mk (Z0 k) 1 1)) λm=>b m true 0)))
def F_sb:=λ(a:Slc) (d:Slc->Bool->Int->WP) (c:Nat) (e:Bool)=>If e (d (Slc.mk none 0 0) false 1) (Di c 0 λf=>Cl (C_S a f) λb=>If (decide (b>0)) (Ia a.ptr (Ix (i64.wrap (b - 1)) a.len (Di (pblk a.ptr) ((poff a.ptr)+(i64.wrap (b - 1)).toNat*3) λg=>Di c 0 λh=>Ex (F_rb a d c b (g==h))))) (Ex (F_rb a d c b false)))
def F_og:=λa d (c:Slc->Bool->Int->WP)=>Al (zg d) y_b λb=>Cl (C_w a) λe=>If (e != 0) (F_sb a c b true) (Lz b 0 zg λf=>Al (zg f) y_b λg=>Cl (C_w (Slc.mk (Z0 g) 1 1)) λh=>F_sb a c b (h != 0))
def F_Wg:=λ(a:Slc) (f:Int) (c:T_h->Bool->Int->WP)=>Al Y2 y_b λb=>Cl (C_w a) λe=>If (e != 0) (So b 0 3 Y2 (Lz b 0 zg λg=>c g false e)) (Cl (C_S a f) λd=>If (d==0) (So b 0 3 Y2 (Lz b 0 zg λh=>c h false 0)) (Ia a.ptr (Ix (i64.wrap (d - 1)) a.len (Lz (pblk a.ptr) ((poff a.ptr)+(i64.wrap (d - 1)).toNat*3) zg λi=>So b 0 3 (zg i) (Lz b 0 zg λj=>c j true 0)))))
def F_qd:=λ(a:Int) (b:Slc->Int->WP) c=>b c (i64.wrap (a+1))
def F_hg:=λ(g:Value) (h e:ByteArray) (i:Int) (j:Slc->WP) (b:Slc) (k:Int) (f:Slc->Int->WP) (d:Slc) (a:Int)=>If (decide (a<k)) (Ia b.ptr (Ix a b.len (Dt (pblk b.ptr) ((poff b.ptr)+a.toNat) λc=>Vz g 168 λl=>Cl (C_Gb l c i) λm n=>If ((n&&(!(Op.bytesLess c.toList h.toList)))&&((e.toList==Be.toList)||(Op.bytesLess c.toList e.toList))) (Al [Vt c,Vt m] y_h λo=>Ap (Slc.mk (Z0 o) 1 1) 2 32 y_h [Vt Be,Vt Be] d 1 (F_qd a f)) (F_qd a f d)))) (j d)
def F_rd:=λa b c (d:Int) e f (g:Int)=>U2 (Slc.mk none 0 0) 0 λh i j=>F_hg a b c d e f g j h i
def F_1f:=λa c d (e:Int) f=>Vy a 168 (λb=>Ia b (Cl (C_C (some ⟨pblk b,poff b,none⟩)) λg=>F_rd a c d e f g (g.len:Int))) (Vz a 257 λi=>Cl (C_C i) λh=>F_rd a c d e f h (h.len:Int))
def F_Je:=λc (h:Int) (e:Slc->Int->Int->WP)=>Cl (C_w c) λf=>If (f != 0) (e (Slc.mk none 0 0) 0 f) (Cl (C_S c h) λa=>Cl (C_a c) λb=>λd=>(Fa ((0<=(if(i64.wrap (a - 1))>0 then(i64.wrap (a - 1)) else 0)/\(if(i64.wrap (a - 1))>0 then(i64.wrap (a - 1)) else 0)<=(b.len:Int)/\(b.len:Int)<=(b.len:Int)/\(b.len:Int)<=(b.cap:Int))) λd=>∀ g,g=Slc.cut 3 b (if(i64.wrap (a - 1))>0 then(i64.wrap (a - 1)) else 0) (b.len:Int) (b.len:Int)->(e g (if(i64.wrap (a - 1))>0 then(i64.wrap (a - 1)) else 0) 0) d) d)
def F_Ke:=λ(c:ByteArray) (e f g:OA) (h:Slc->WP)=>Dr λa=>(Bp e λi=>λa=>(Bm i λj=>λa=>∃(b:Array MapEntry) (d:Slc) (k:Bool),zhb a j b/\(Fa (zH isKS b) (Fa ((b.toList.map (·.key)).Nodup) (Fa (isKS (Vt c)) (Fa (LkIs b (Vt c) (Ns) (Xs d) k) (Bi f λl=>Bs g λm=>Cl (C_ld d l m) λn o=>h n))))) a) a) a
def F_sd:=λ(a:Int) (b:Slc->Int->WP) c=>b c (i64.wrap (a+1))
def F_ig:=λ(f:Slc) (g:Slc->Int->WP) (a:Slc) (e:Slc->Int->WP) (c:Slc) (b:Int)=>If (decide (b<(a.len:Int))) (Ia a.ptr (Ix b a.len (Lz (pblk a.ptr) ((poff a.ptr)+b.toNat*3) zg λh=>Al Y2 y_b λd=>So d 0 3 (zg h) (Di d 0 λi=>Cl (C_9 f i) λj=>If j (Lz d 0 zg λk=>Al (zg k) y_b λl=>Ap (Slc.mk (Z0 l) 1 1) 3 32 y_b Y2 c 1 (F_sd b e)) (F_sd b e c))))) (g c 0)
def F_td:=λa e f (b:Int) g=>λ(c:World)=>(Fa ((0<=b/\b<=(a.len:Int)/\(a.len:Int)<=(a.cap:Int)/\(a.cap:Int)<=(a.cap:Int))) λc=>∀ d,d=Slc.cut 3 a b (a.len:Int) (a.cap:Int)->(U2 g 0 λh i j=>F_ig e f d j h i) c) c
def F_ud:=λ(a:Slc) c (d:Slc->Int->WP) (b:Int) e=>If e (Ia a.ptr (Ix (i64.wrap (b - 1)) a.len (Lz (pblk a.ptr) ((poff a.ptr)+(i64.wrap (b - 1)).toNat*3) zg λf=>Al (zg f) y_b λg=>Ap (Slc.mk (Z0 g) 1 1) 3 32 y_b Y2 (Slc.mk none 0 0) 1 (F_td a c d b)))) (F_td a c d b (Slc.mk none 0 0))
def F_Kg:=λ(a:Slc) (f:Int) (d:Slc) (c:Slc->Int->WP)=>Cl (C_w a) λe=>If (e != 0) (c (Slc.mk none 0 0) e) (Cl (C_S a f) λb=>If (decide (b>0)) (Ia a.ptr (Ix (i64.wrap (b - 1)) a.len (Do (pblk a.ptr) (((poff a.ptr)+(i64.wrap (b - 1)).toNat*3)+2) λg=>F_ud a d c b (!g)))) (F_ud a d c b false))
def F_Ye:=λa (b:Bool->WP)=>If a.isNone (b true) (Bo a λc=>b (!c))
def F_Bf:=λa b c=>Cl (C_Cd (a.len:Int) (Value.func (.func 275) #[Value.agg #[Xs a,Vi b]] #[])) c
def F_E:=λ(a:Slc) (c:Int) (b:Slc) (g:Slc->WP) (f:World)=>(0<=c/\c<=(a.len:Int)/\(a.len:Int)<=(a.cap:Int)/\(a.cap:Int)<=(a.cap:Int))/\(∀ v,v=Slc.cut 3 a c (a.len:Int) (a.cap:Int)->((((b.len:Int)==0)=true->(g a f)) /\
 (((b.len:Int)==0)=false->(((c==(a.len:Int))=true->(∃ d,zj f b 3 d/\zG 3 32 y_b Y2 a d b.len f (λx y=>g x y))) /\
 ((c==(a.len:Int))=false->(((decide ((i64.wrap ((a.len:Int)+(b.len:Int)))>(a.cap:Int)))=true->(0<=c/\c<=(a.cap:Int)/\(0<=i64.wrap ((i64.wrap ((a.len:Int)+(b.len:Int))) - c)/\i64.wrap ((i64.wrap ((a.len:Int)+(b.len:Int))) - c)*(32:Int)<=281474976710656/\zG 3 32 y_b Y2 (Slc.mk a.ptr c.toNat a.cap) (zp ((i64.wrap ((i64.wrap ((a.len:Int)+(b.len:Int))) - c)).toNat) Y2).toList ((i64.wrap ((i64.wrap ((a.len:Int)+(b.len:Int))) - c)).toNat) f (λe r=>(0<=c/\c<=(e.len:Int)/\(e.len:Int)<=(e.cap:Int)/\(e.cap:Int)<=(e.cap:Int))/\(∀ h,h=Slc.cut 3 e c (e.len:Int) (e.cap:Int)->(∃ d,zsb r b (min b.len h.len) 3 d/\zRc h d r (λz=>∀ i,(∃ j,i=z.drewN j)->((0<=i64.wrap (c+(b.len:Int))/\i64.wrap (c+(b.len:Int))<=(e.len:Int)/\(e.len:Int)<=(e.cap:Int)/\(e.cap:Int)<=(e.cap:Int))/\(∀ k,k=Slc.cut 3 e (i64.wrap (c+(b.len:Int))) (e.len:Int) (e.cap:Int)->((0<=c/\c<=(a.len:Int)/\(a.len:Int)<=(a.cap:Int)/\(a.cap:Int)<=(a.cap:Int))/\(∀ l,l=Slc.cut 3 a c (a.len:Int) (a.cap:Int)->(∃ d,zsb i l (min l.len k.len) 3 d/\zRc k d i (λA=>g e A))))))))))))) /\
 ((decide ((i64.wrap ((a.len:Int)+(b.len:Int)))>(a.cap:Int)))=false->(0<=i64.wrap ((a.len:Int)+(b.len:Int))/\i64.wrap ((a.len:Int)+(b.len:Int))<=(a.cap:Int)/\((0<=i64.wrap (c+(b.len:Int))/\i64.wrap (c+(b.len:Int))<=(((i64.wrap ((a.len:Int)+(b.len:Int))).toNat:Nat):Int)/\(((i64.wrap ((a.len:Int)+(b.len:Int))).toNat:Nat):Int)<=(a.cap:Int)/\(a.cap:Int)<=(a.cap:Int))/\(∀ s,s=Slc.cut 3 (Slc.mk a.ptr ((i64.wrap ((a.len:Int)+(b.len:Int))).toNat) a.cap) (i64.wrap (c+(b.len:Int))) (((i64.wrap ((a.len:Int)+(b.len:Int))).toNat:Nat):Int) (a.cap:Int)->(zUg f b s/\(((!false)=true->(∀ m,(∃ j,m=f.drewN j)->((0<=i64.wrap (c+(b.len:Int))/\i64.wrap (c+(b.len:Int))<=(((i64.wrap ((a.len:Int)+(b.len:Int))).toNat:Nat):Int)/\(((i64.wrap ((a.len:Int)+(b.len:Int))).toNat:Nat):Int)<=(a.cap:Int)/\(a.cap:Int)<=(a.cap:Int))/\(∀ n,n=Slc.cut 3 (Slc.mk a.ptr ((i64.wrap ((a.len:Int)+(b.len:Int))).toNat) a.cap) (i64.wrap (c+(b.len:Int))) (((i64.wrap ((a.len:Int)+(b.len:Int))).toNat:Nat):Int) (a.cap:Int)->((0<=c/\c<=(((i64.wrap ((a.len:Int)+(b.len:Int))).toNat:Nat):Int)/\(((i64.wrap ((a.len:Int)+(b.len:Int))).toNat:Nat):Int)<=(a.cap:Int)/\(a.cap:Int)<=(a.cap:Int))/\(∀ o,o=Slc.cut 3 (Slc.mk a.ptr ((i64.wrap ((a.len:Int)+(b.len:Int))).toNat) a.cap) c (((i64.wrap ((a.len:Int)+(b.len:Int))).toNat:Nat):Int) (a.cap:Int)->(∃ d,zsb m o (min o.len n.len) 3 d/\zRc n d m (λt=>(0<=c/\c<=(((i64.wrap ((a.len:Int)+(b.len:Int))).toNat:Nat):Int)/\(((i64.wrap ((a.len:Int)+(b.len:Int))).toNat:Nat):Int)<=(a.cap:Int)/\(a.cap:Int)<=(a.cap:Int))/\(∀ p,p=Slc.cut 3 (Slc.mk a.ptr ((i64.wrap ((a.len:Int)+(b.len:Int))).toNat) a.cap) c (((i64.wrap ((a.len:Int)+(b.len:Int))).toNat:Nat):Int) (a.cap:Int)->(∃ d,zsb t b (min b.len p.len) 3 d/\zRc p d t (λB=>g (Slc.mk a.ptr ((i64.wrap ((a.len:Int)+(b.len:Int))).toNat) a.cap) B))))))))))) /\
 ((!false)=false->((0<=(a.len:Int)/\(a.len:Int)<=(((i64.wrap ((a.len:Int)+(b.len:Int))).toNat:Nat):Int)/\(((i64.wrap ((a.len:Int)+(b.len:Int))).toNat:Nat):Int)<=(a.cap:Int)/\(a.cap:Int)<=(a.cap:Int))/\(∀ q,q=Slc.cut 3 (Slc.mk a.ptr ((i64.wrap ((a.len:Int)+(b.len:Int))).toNat) a.cap) (a.len:Int) (((i64.wrap ((a.len:Int)+(b.len:Int))).toNat:Nat):Int) (a.cap:Int)->(∃ d,zsb f b (min b.len q.len) 3 d/\zRc q d f (λC=>(0<=c/\c<=(((i64.wrap ((a.len:Int)+(b.len:Int))).toNat:Nat):Int)/\(((i64.wrap ((a.len:Int)+(b.len:Int))).toNat:Nat):Int)<=(a.cap:Int)/\(a.cap:Int)<=(a.cap:Int))/\(∀ u,u=Slc.cut 3 (Slc.mk a.ptr ((i64.wrap ((a.len:Int)+(b.len:Int))).toNat) a.cap) c (((i64.wrap ((a.len:Int)+(b.len:Int))).toNat:Nat):Int) (a.cap:Int)->(C_Jc u (b.len:Int) C (λD=>g (Slc.mk a.ptr ((i64.wrap ((a.len:Int)+(b.len:Int))).toNat) a.cap) D))))))))))))))))))))
def F_vd:=λa (b:Int) (c:Bool->WP)=>Cl (C_yc a b) λd=>c (decide (d>=0))
def F_2f:=λ(e:Value) (f:Int->WP) (d:Int->Int->WP) (a b:Int)=>If (decide (a<b)) (Cv e #[Vi (i64.wrap (Int.fdiv (u64.wrap (i64.wrap (a+b))) (2 ^ 1)))] (λ(c:Bool)=>Vo c) λc=>If (!c) (d (i64.wrap ((i64.wrap (Int.fdiv (u64.wrap (i64.wrap (a+b))) (2 ^ 1)))+1)) b) (d a (i64.wrap (Int.fdiv (u64.wrap (i64.wrap (a+b))) (2 ^ 1))))) (f a)
def F_Gg:=λ(a:Int) b c=>U2 0 a λd e f=>F_2f b c f d e
def F_jf:=λ(b:T_p) (c:Int) (e:Bool->WP)=>Al [Xs b.l,Vi b.at_] y_X λd=>Ds d 0 λa=>Ia a.ptr (Ix c a.len (Di (pblk a.ptr) ((poff a.ptr)+c.toNat*3) λf=>Di d 1 λg=>Ex (e (decide (f>g)))))
def F_wd:=λ(a:Slc) (d:Int) (c e:Int->WP) (b:Int)=>If (decide (b<(a.len:Int))) (Ia a.ptr (Ix b a.len (Di (pblk a.ptr) ((poff a.ptr)+b.toNat) λf=>If (d==f) (c b) (e (i64.wrap (b+1)))))) (c (-1))
def F_7d:=λa (b:Int) c=>U1 0 λd e=>F_wd a b c e d
def F_Le:=λb (a:Int->WP)=>Bp b λc=>Ls c 14 λd=>If (decide ((d.len:Int)>0)) (a 8) (a 0)
def F_Gd:=λb s l (m:Int) (d:Slc) (t:Int->WP) (e:Int)=>If (decide (e<(d.len:Int))) (Ia d.ptr (Ix e d.len (Di (pblk d.ptr) ((poff d.ptr)+e.toNat) λf=>Dr λa=>(Bp b λi=>λa=>(Bp b λg=>λa=>(Ls g 12 λn=>λa=>(Bp b λu=>λa=>(Lm u 13 λv=>λa=>∃(h:Array MapEntry) (o:T_c) (x:Bool),zhb a v h/\(Fa (zH isKI h) (Fa ((h.toList.map (·.key)).Nodup) (Fa (isKI (Vi f)) (Fa (LkIs h (Vi f) (Value.agg #[Vi 0,Ns]) (Xg zh o) x) (Al (zh o) y_a λy=>Kc (pblk g) ((poff g)+12) (Xs n) (Kc (pblk b) (poff b) (Vp g) (Kc (pblk b) (poff b) (Vp i) (Ap (Slc.mk (Z0 y) 1 1) 2 32 y_a [Vi 0,Ns] n 1 λz=>Kc (pblk b) (poff b) (Vp i) (Sa i 12 1 [Xs z] λc=>(Bp b λA=>λc=>(Lm A 13 λB=>λc=>∃(j:Nat) (k:Array MapEntry) (p:Nat),B=some j/\c.heap[j]? =some (.map k p)/\((Fa (zH isKI k) λc=>(Fa (isKI (Vi f)) λc=>∀ q r,zRh k (Vi f) q->r={ c with heap:=c.heap.setIfInBounds j (.map q p) }->(t (i64.wrap (e+1))) r) c) c)) c) c))))))))) a) a) a) a) a) a))) (Bp b λC=>Lp C 7 λD=>Cl (C_Kc D m) λE F=>So l 0 6 [Vi 0,Vb 0,Vi m,Vi 0,Vi E,Vi 0] (Lz l 0 zk s))
def F_re:=λc (q:Int) g=>Al Y1 y_d λh=>Bp c λi=>Ls i 14 λd=>Ia d.ptr (Ix (0:Int) d.len (Ji d.ptr λe=>Dr λa=>(Bp c λj=>λa=>(Bp c λk=>λa=>(Ls k 14 λb=>λa=>(Fa ((0<=(1:Int)/\(1:Int)<=(b.len:Int)/\(b.len:Int)<=(b.cap:Int)/\(b.cap:Int)<=(b.cap:Int))) λa=>∀ f,f=Slc.cut 1 b 1 (b.len:Int) (b.cap:Int)->(Sa j 14 1 [Xs f] (Bp c λl=>Lp l 6 λm=>Cl (C_pc m e) λn r=>U1 0 λo p=>F_Gd c g h e n p o)) a) a) a) a) a))
def F_M:=λ(n:OA) (G:Int) (H:Slc->Int->WP) (I:Nat) (f:Slc) (o:Slc->WP) (J:Bool)=>λ(g:World)=>(If J (λg=>∃(t K u:Nat) (L:Array Nat) (p:Array MapEntry) (h:MapEntry) (i:zfe) (M:Bool),g.heap[I]? =some (.mapIter (some t) K (L.push h.born) u)/\(g.heap[t]? =some (.map p u)/\(Fa (h∈p.toList) (Fa ((p.toList.map (·.born)).Nodup) (Fa (h.key=Value.agg #[Vi i.e0,Vi i.e1]) (Fa (h.val=Vo M) (Al [Vi 0,Vi 0] y_F λe=>So e 0 2 [Vi i.e0,Vi i.e1] (Iy 1 2 (Di e 1 λN=>If (N != G) (o f) (Dr λb=>(Lm n 2 λO=>λb=>(Lz e 0 (λ(d:zfe)=>[Vi d.e0,Vi d.e1]) λd=>λb=>∃(q:Nat) (r:Array MapEntry) (v:Nat),O=some q/\b.heap[q]? =some (.map r v)/\((Fa (zH isKP r) λb=>(Fa (isKP (Value.agg #[Vi d.e0,Vi d.e1])) λb=>∀ x y,zRh r (Value.agg #[Vi d.e0,Vi d.e1]) x->y={ b with heap:=b.heap.setIfInBounds q (.map x v) }->(Dr λa=>(Lm n 1 λz=>λa=>(Iy 0 2 λa=>(Di e 0 λj=>λa=>∃(k:Array MapEntry) (A:Int) (P:Bool),zhb a z k/\((Fa (zH isKI k) λa=>(Fa ((k.toList.map (·.key)).Nodup) λa=>(Fa (isKI (Vi j)) λa=>(Fa (LkIs k (Vi j) (Vi 0) (Vi A) P) λa=>∃(s:Nat) (l:Array MapEntry) (B:Nat),z=some s/\a.heap[s]? =some (.map l B)/\((Fa (zH isKI l) λa=>(Fa ((l.toList.map (·.key)).Nodup) λa=>(Fa (isKI (Vi j)) λa=>∀ C D c,zee l B (Vi j) (Vi (i64.wrap (A - 1))) C D->c={ a with heap:=a.heap.setIfInBounds s (.map C D) }->((Lm n 1 λQ=>λc=>(Iy 0 2 λc=>(Di e 0 λE=>λc=>∃(m:Array MapEntry) (F:Int) (S:Bool),zhb c Q m/\(Fa (zH isKI m) (Fa ((m.toList.map (·.key)).Nodup) (Fa (isKI (Vi E)) (Fa (LkIs m (Vi E) (Vi 0) (Vi F) S) (Ex (If (F==0) (Iy 0 2 (Di e 0 λT=>Al [Vi T] y_g λU=>Ap (Slc.mk (Z0 U) 1 1) 1 8 y_g [Vi 0] f 1 o)) (o f))))))) c) c) c) c)) a) a) a)) a) a) a) a)) a) a) a) y) b) b)) b) b)))))))) g)) (Cl (C_Nc f) (H f 0))) g
def F_ec:=λ(j:OA) (k:Int) (l:Slc->Int->WP) (b:Nat) (m:Slc->WP) (n:Slc)=>λ(a:World)=>∃(f c o:Nat) (d:Array Nat) (e:Array MapEntry) (p:Nat),a.heap[b]? =some (.mapIter (some f) c d o)/\(a.heap[f]? =some (.map e p)/\((Fa ((∀ g∈e.toList,g.born<c)) λa=>(Fa (c<=o) λa=>(Fk (λa=>(∀ g∈e.toList,d.contains g.born=true)->(F_M j k l b n m false) a) λa=>∀ h i q,h∈e.toList->d.contains h.born=false->(∃ r,i=a.drewN r)->q={ i with heap:=i.heap.setIfInBounds b (.mapIter (some f) c (d.push h.born) p) }->(F_M j k l b n m true) q) a) a) a))
def F_Td:=λ(b:OA) (c:Int) (e:Slc->Int->WP)=>Cl (C_Cb b) λo=>λa=>(If o (e (Slc.mk none 0 0) 2) λa=>(Lm b 1 λp=>λa=>∃(f:Array MapEntry) (k:Int) (l:Bool),zhb a p f/\((Fa (zH isKI f) λa=>(Fa ((f.toList.map (·.key)).Nodup) λa=>(Fa (isKI (Vi c)) λa=>(Fa (LkIs f (Vi c) (Vi 0) (Vi k) l) λa=>(If (!l) (e (Slc.mk none 0 0) 1) λa=>(If (decide (k>0)) (e (Slc.mk none 0 0) 6) λa=>(Lm b 1 λq=>λa=>∃(g:Nat) (h:Array MapEntry) (m:Nat),q=some g/\a.heap[g]? =some (.map h m)/\((Fa (zH isKI h) λa=>(Fa (isKI (Vi c)) λa=>∀ n d,zRh h (Vi c) n->d={ a with heap:=a.heap.setIfInBounds g (.map n m) }->((Lm b 2 λr=>λd=>∃(i:Nat) (s:Array MapEntry) (j:Nat),r=some i/\(d.heap[i]? =some (.map s j)/\(Ao (Obj.mapIter (some i) j #[] j) λt=>U1 (Slc.mk none 0 0) λu v=>F_ec b c e t v u) d)) d)) a) a)) a) a) a) a) a) a) a)) a) a
def F_Ze:=λa (e:Int->Int->WP) (f:Int->WP) (c:Int)=>Li a 1 λg=>Cl (C_Mb a (i64.wrap (g+1))) λh=>If h (Li a 1 λi=>So (pblk a) ((poff a)+1) 1 [Vi (i64.wrap (i+1))] (Dr (Li a 1 λb=>Ia a (Iy (i64.wrap (Int.tdiv b 64)) (1025:Int) (Du (pblk a) (((poff a)+2)+(i64.wrap (Int.tdiv b 64)).toNat) λj=>Li a 1 λd=>Fa (0<=Int.tmod d 64) (Iy (i64.wrap (Int.tdiv b 64)) (1025:Int) (So (pblk a) (((poff a)+2)+(i64.wrap (Int.tdiv b 64)).toNat) 1 [Value.int .u64 (zji .u64 j (u64.wrap (1*2 ^ (min (Int.tmod d 64).toNat 64))))] (f (i64.wrap (c+1)))))))))) (e c 0)
def F_zc:=λa (c:Int) (b:Int->Int->WP) d=>If d (b 0 1) (Cl (C_Zb a c) (U1 0 λe f=>F_Ze a b f e))
def F_ld:=λ(b:OA) (a:Int) (c:Int->Int->WP) (d:Bool)=>If d (c 0 2) (If ((decide (a<1))||(decide (a>65536))) (F_zc b a c true) (Cl (C_3c b a) (F_zc b a c)))
def F_3f:=λa (b:Int) (c:Int->Int->WP)=>If a.isNone (F_ld a b c true) (Bo a λd=>F_ld a b c (!d))
def F_jg:=λa c b=>If (!a.isNone) (Bo a λd=>If (d&&(decide (c>=1))) (Li a 1 λe=>If (decide (c<=e)) (b true) (Cl (C_Mb a c) b)) (b false)) (b false)
def F_4f:=λ(d:T_n) (b:T_i->Bool->WP)=>Al [] y_4 λe=>Al Y3 y_f λa=>So a 0 3 Y3 (Lz a 0 zq λc=>b c false)
def F_5f:=λ(c:OA) (d:T_i->Bool->WP)=>Al Y3 y_f λa=>Ls c 1 λe=>If ((e.len:Int)==0) (So a 0 3 Y3 (Lz a 0 zq λf=>d f false)) (Ls c 1 λb=>Ia b.ptr (Ix (0:Int) b.len (Lz (pblk b.ptr) (poff b.ptr) zq λg=>So a 0 3 (zq g) (Lz a 0 zq λh=>d h true))))
theorem zXl:zKb Tryz.prog 178 isKP:=keyP (et:=3) K_ K_ K_ K_ K_
def O_e (w:World) (x:T_j):Prop:=((-9223372036854775808)<=x.Lanes/\x.Lanes<=9223372036854775807)/\((-9223372036854775808)<=x.Shards/\x.Shards<=9223372036854775807)/\((-9223372036854775808)<=x.Window/\x.Window<=9223372036854775807)/\((-9223372036854775808)<=x.Queue/\x.Queue<=9223372036854775807)
def O_c (w:World) (x:T_i):Prop:=(x.Key.size<=140737488351232)/\(x.Val.size<=140737488351232)/\True
def O_a (w:World) (x:T_c):Prop:=((-9223372036854775808)<=x.Number/\x.Number<=9223372036854775807)/\(OkSl w x.Writes 3 40 (λes=>∃ e_:T_i,es=[Vt e_.Key,Vt e_.Val,Vo e_.Drop]/\(O_c w e_)))
def O_b (w:World) (x:T_g):Prop:=(O_e w x.Config)/\(OkSl w x.Log 2 32 (λes=>∃ e_:T_c,es=[Vi e_.Number,Vs e_.Writes]/\(O_a w e_)))/\((-9223372036854775808)<=x.Capacity/\x.Capacity<=9223372036854775807)/\((-9223372036854775808)<=x.Fed/\x.Fed<=9223372036854775807)/\(OkSl w x.Picks 1 8 (λes=>∃ e_:Int,es=[Vi e_]/\((-9223372036854775808)<=e_/\e_<=9223372036854775807)))
def O_d (w:World) (x:T_f):Prop:=(0<=x.Kind/\x.Kind<=255)/\(x.Key.size<=140737488351232)/\(x.End.size<=140737488351232)
end Go.Proofs.YtofjmclceflgiaaGreat
