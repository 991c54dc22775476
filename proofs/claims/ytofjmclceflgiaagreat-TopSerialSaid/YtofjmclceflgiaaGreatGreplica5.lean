/- WRITTEN BY PROGRAM (dec.py): for each Go function the clean formula F, the call's contract C, and the proof S that F gives C. -/
import Derived.Test.YtofjmclceflgiaaGreatRows
import Derived.Test.YtofjmclceflgiaaGreatGF
namespace Go.Proofs.YtofjmclceflgiaaGreat
open Go
set_option linter.unusedVariables false
set_option maxRecDepth 100000
set_option maxHeartbeats 4000000
noncomputable section

/-! ### (*towpath/replica.warden).step (function 282) -/
def z8l:=cb_ Tryz.f282
def zHn:=cl_ z8l
def zYu:=co_ zHn
def ztj:=cr_ z8l
def zIn:=cl_ ztj
def zZu:=co_ zIn
def zuj:=cr_ ztj
def zJn:=cl_ zuj
def z0u:=co_ zJn
def zvj:=cr_ zuj
def z9l:=cl_ zvj
def zcs:=co_ z9l
def zZg:=cr_ zvj
def zRi:=cl_ zZg
def zam:=cl_ zRi
def zds:=co_ zam
def zSi:=cr_ zRi
def zbm:=cl_ zSi
def zTi:=cl_ zbm
def zcm:=cl_ zTi
def zes:=co_ zcm
def z0g:=cr_ zTi
def zUi:=cl_ z0g
def zfs:=cl_ zUi
def zgs:=cr_ zUi
def z1g:=cr_ z0g
def zdm:=cl_ z1g
def zVi:=cl_ zdm
def zem:=cl_ zVi
def zhs:=co_ zem
def z2g:=cr_ zVi
def zfm:=cl_ z2g
def zis:=co_ zfm
def zWi:=cr_ z2g
def zjs:=co_ zWi
def zXi:=cr_ z1g
def zks:=co_ zXi
def z3g:=cr_ zZg
def zgm:=cl_ z3g
def zls:=co_ zgm
def z4g:=cr_ z3g
def zhm:=cl_ z4g
def zms:=co_ zhm
def zim:=cr_ z4g
def zAc:List Nat:=[0,1,2,3,4,5,6,7,8,9,10,11,12,13,14,15,16,17,18,19,20,21,22,23,24,25,26,27]

theorem S_L {w_:OA} {t1:Int} {w:World} {R:T_a→WP} (h:F_5b w_ t1 R w):C_G w_ t1 w R:=by
 unfold F_5b at h
 unfold C_G
 refine Calls.mono (z4 (args:=[Vp w_,Value.int .u8 t1]) (R:=fun v w'=>∃(r0:T_a),v=Value.agg #[Vi r0.Task,Value.int .u8 r0.Kind,Vi r0.Number,Vi r0.Shard,Vi r0.Count,Vi r0.Mark]∧R r0 w') Tryz.func282 (c:=z8l) K_ 110 K_ K_ [(0,Vp w_),(1,Value.int .u8 t1)] K_ ?_) ?_
 ·refine zf (x:=zHn) (y:=ztj) K_ ?_
  refine ze (id:=0) (ops:=zYu) K_ ?_
  refine zd [] 0 [(0,[],Vp w_)] K_ K_ ?_
  refine zQb (op:=(Op.alloc 35)) (ty:=0) (dst:=some 4) (fun bb=>pv_ bb) (Obj.cells ([Vi 0,Value.int .u8 0,Vi 0,Vi 0,Vi 0,Vi 0]).toArray y_c (0,0)) K_ K_ (fun b_ w1 hb hw=> ?_)
  replace h:=h b_ w1 hb hw
  clear hb hw
  refine zj [(0,Vp w_),(4,pv_ b_)] K_ K_ ?_
  change WpE _ _ ztj _ _ _
  refine zf (x:=zIn) (y:=zuj) K_ ?_
  refine ze (id:=1) (ops:=zZu) K_ ?_
  refine zd [.plain] 1 [(0,[],Vp w_),(4,[],pv_ b_),(12,[],Vp w_)] K_ K_ ?_
  obtain⟨hp_3,h⟩:=h
  refine zH [(0,[],Vp w_),(4,[],pv_ b_),(12,[],Vp (some ⟨(pblk w_),(poff w_),none⟩))] (congrArg (fun pp=>([(0,[],Vp w_),(4,[],pv_ b_),(12,[],Vp pp)]:GEnv)) hp_3) ?_
  refine zd [.plain] 2 [(0,[],Vp w_),(4,[],pv_ b_),(12,[],Vp (some ⟨(pblk w_),(poff w_),none⟩)),(13,[],Vp (some ⟨(pblk w_),(poff w_),none⟩))] K_ K_ ?_
  refine zd [.plain,.plain] 4 [(0,[],Vp w_),(4,[],pv_ b_),(15,[],Vp (some ⟨(pblk w_),(poff w_),none⟩))] K_ K_ ?_
  obtain⟨v16,hc,h⟩:=h
  refine zB (t:=28) (a:=(Operand.tmp 15)) (b:=(pblk w_)) (o:=(poff w_)) (ty:=28) (dst:=some 16) K_ K_ K_ hc ?_
  refine zd [] 5 [(0,[],Vp w_),(4,[],pv_ b_),(16,[],Vp v16)] K_ K_ ?_
  obtain⟨hp_4,h⟩:=h
  refine zH [(0,[],Vp w_),(4,[],pv_ b_),(16,[],Vp (some ⟨(pblk v16),(poff v16),none⟩))] (congrArg (fun pp=>([(0,[],Vp w_),(4,[],pv_ b_),(16,[],Vp pp)]:GEnv)) hp_4) ?_
  refine zd [.plain] 6 [(0,[],Vp w_),(4,[],pv_ b_),(16,[],Vp (some ⟨(pblk v16),(poff v16),none⟩)),(17,[],Vp (some ⟨(pblk v16),(poff v16),none⟩))] K_ K_ ?_
  refine zd [.plain] 7 [(0,[],Vp w_),(4,[],pv_ b_),(18,[],Vp (some ⟨(pblk v16),(poff v16)+14,none⟩))] K_ K_ ?_
  obtain⟨v19,hc,h⟩:=h
  refine zB (t:=25) (a:=(Operand.tmp 18)) (b:=(pblk v16)) (o:=((poff v16)+14)) (ty:=25) (dst:=some 19) K_ K_ K_ hc ?_
  refine zd [] 8 [(0,[],Vp w_),(4,[],pv_ b_),(19,[],sv_ v19)] K_ K_ ?_
  obtain⟨hp_5,h⟩:=h
  refine zH [(0,[],Vp w_),(4,[],pv_ b_),(19,[],Value.slice (some ⟨(pblk v19.ptr),(poff v19.ptr),none⟩) v19.len v19.cap)] (congrArg (fun pp=>([(0,[],Vp w_),(4,[],pv_ b_),(19,[],Value.slice pp v19.len v19.cap)]:GEnv)) hp_5) ?_
  obtain⟨h0,h1,h⟩:=h
  refine zHc (t:=25) (e:=3) (x:=(Operand.tmp 19)) (ix:=(Operand.const (Value.int IntKind.i64 0))) (b:=(pblk v19.ptr)) (o:=(poff v19.ptr)) (l:=v19.len) (c:=v19.cap) (k:= .i64) (j:=0) (ty:=0) (dst:=some 20) K_ K_ K_ K_ K_ h0 h1 ?_
  refine zd [] 9 [(0,[],Vp w_),(4,[],pv_ b_),(20,[],Vp (some ⟨(pblk v19.ptr),(poff v19.ptr),none⟩))] K_ K_ ?_
  obtain⟨n_,hc,h⟩:=h
  refine zB (t:=3) (a:=(Operand.tmp 20)) (b:=(pblk v19.ptr)) (o:=(poff v19.ptr)) (ty:=3) (dst:=some 21) K_ K_ K_ hc ?_
  refine zd [.plain] 11 [(0,[],Vp w_),(4,[],pv_ b_),(5,[],Vi n_)] K_ K_ ?_
  refine zj [(0,Vp w_),(4,pv_ b_),(5,Vi n_)] K_ K_ ?_
  change WpE _ _ zuj _ _ _
  refine zf (x:=zJn) (y:=zvj) K_ ?_
  refine zn (id:=2) (ops:=z0u) K_ 16 K_ K_ (fun w2 hw=> ?_)
  replace h:=h w2 hw
  clear hw
  refine zh [.plain] 1 [(0,[],Vp w_),(4,[],pv_ b_),(5,[],Vi n_),(22,[],Vp w_)] K_ K_ ?_
  obtain⟨hp_10,h⟩:=h
  refine zX [(0,[],Vp w_),(4,[],pv_ b_),(5,[],Vi n_),(22,[],Vp (some ⟨(pblk w_),(poff w_),none⟩))] (congrArg (fun pp=>([(0,[],Vp w_),(4,[],pv_ b_),(5,[],Vi n_),(22,[],Vp pp)]:GEnv)) hp_10) ?_
  refine zh [.plain] 2 [(0,[],Vp w_),(4,[],pv_ b_),(5,[],Vi n_),(22,[],Vp (some ⟨(pblk w_),(poff w_),none⟩)),(23,[],Vp (some ⟨(pblk w_),(poff w_),none⟩))] K_ K_ ?_
  refine zh [.plain,.plain] 4 [(0,[],Vp w_),(4,[],pv_ b_),(5,[],Vi n_),(25,[],Vp (some ⟨(pblk w_),(poff w_),none⟩))] K_ K_ ?_
  obtain⟨v26,hc,h⟩:=h
  refine zx (t:=28) (a:=(Operand.tmp 25)) (b:=(pblk w_)) (o:=(poff w_)) (ty:=28) (dst:=some 26) K_ K_ K_ hc ?_
  refine zh [.plain] 6 [(0,[],Vp w_),(4,[],pv_ b_),(5,[],Vi n_),(26,[],Vp v26),(27,[],Vp w_)] K_ K_ ?_
  obtain⟨hp_11,h⟩:=h
  refine zX [(0,[],Vp w_),(4,[],pv_ b_),(5,[],Vi n_),(26,[],Vp v26),(27,[],Vp (some ⟨(pblk w_),(poff w_),none⟩))] (congrArg (fun pp=>([(0,[],Vp w_),(4,[],pv_ b_),(5,[],Vi n_),(26,[],Vp v26),(27,[],Vp pp)]:GEnv)) hp_11) ?_
  refine zh [.plain] 7 [(0,[],Vp w_),(4,[],pv_ b_),(5,[],Vi n_),(26,[],Vp v26),(27,[],Vp (some ⟨(pblk w_),(poff w_),none⟩)),(28,[],Vp (some ⟨(pblk w_),(poff w_),none⟩))] K_ K_ ?_
  refine zh [.plain,.plain] 9 [(0,[],Vp w_),(4,[],pv_ b_),(5,[],Vi n_),(26,[],Vp v26),(30,[],Vp (some ⟨(pblk w_),(poff w_),none⟩))] K_ K_ ?_
  obtain⟨v31,hc,h⟩:=h
  refine zx (t:=28) (a:=(Operand.tmp 30)) (b:=(pblk w_)) (o:=(poff w_)) (ty:=28) (dst:=some 31) K_ K_ K_ hc ?_
  refine zh [] 10 [(0,[],Vp w_),(4,[],pv_ b_),(5,[],Vi n_),(26,[],Vp v26),(31,[],Vp v31)] K_ K_ ?_
  obtain⟨hp_12,h⟩:=h
  refine zX [(0,[],Vp w_),(4,[],pv_ b_),(5,[],Vi n_),(26,[],Vp v26),(31,[],Vp (some ⟨(pblk v31),(poff v31),none⟩))] (congrArg (fun pp=>([(0,[],Vp w_),(4,[],pv_ b_),(5,[],Vi n_),(26,[],Vp v26),(31,[],Vp pp)]:GEnv)) hp_12) ?_
  refine zh [.plain] 11 [(0,[],Vp w_),(4,[],pv_ b_),(5,[],Vi n_),(26,[],Vp v26),(31,[],Vp (some ⟨(pblk v31),(poff v31),none⟩)),(32,[],Vp (some ⟨(pblk v31),(poff v31),none⟩))] K_ K_ ?_
  refine zh [.plain] 12 [(0,[],Vp w_),(4,[],pv_ b_),(5,[],Vi n_),(26,[],Vp v26),(33,[],Vp (some ⟨(pblk v31),(poff v31)+14,none⟩))] K_ K_ ?_
  obtain⟨v34,hc,h⟩:=h
  refine zx (t:=25) (a:=(Operand.tmp 33)) (b:=(pblk v31)) (o:=((poff v31)+14)) (ty:=25) (dst:=some 34) K_ K_ K_ hc ?_
  refine zh [] 13 [(0,[],Vp w_),(4,[],pv_ b_),(5,[],Vi n_),(26,[],Vp v26),(34,[],sv_ v34)] K_ K_ ?_
  obtain⟨hc,h⟩:=h
  refine zXb (t:=25) (e:=3) (x:=(Operand.tmp 34)) (lo:=(Operand.const (Value.int IntKind.i64 1))) (s:=v34) (sz:=1) (k:= .i64) (a:=1) (ty:=25) (dst:=some 35) K_ K_ K_ K_ K_ hc (fun s hs=> ?_)
  replace h:=h s hs
  clear hs
  refine zh [] 14 [(0,[],Vp w_),(4,[],pv_ b_),(5,[],Vi n_),(26,[],Vp v26),(35,[],sv_ s)] K_ K_ ?_
  obtain⟨hp_13,h⟩:=h
  refine zX [(0,[],Vp w_),(4,[],pv_ b_),(5,[],Vi n_),(26,[],Vp (some ⟨(pblk v26),(poff v26),none⟩)),(35,[],sv_ s)] (congrArg (fun pp=>([(0,[],Vp w_),(4,[],pv_ b_),(5,[],Vi n_),(26,[],Vp pp),(35,[],sv_ s)]:GEnv)) hp_13) ?_
  refine zh [.plain] 15 [(0,[],Vp w_),(4,[],pv_ b_),(5,[],Vi n_),(26,[],Vp (some ⟨(pblk v26),(poff v26),none⟩)),(35,[],sv_ s),(36,[],Vp (some ⟨(pblk v26),(poff v26),none⟩))] K_ K_ ?_
  refine zh [.plain] 16 [(0,[],Vp w_),(4,[],pv_ b_),(5,[],Vi n_),(35,[],sv_ s),(37,[],Vp (some ⟨(pblk v26),(poff v26)+14,none⟩))] K_ K_ ?_
  refine zD K_ ?_
  refine zd [] 16 [(0,[],Vp w_),(4,[],pv_ b_),(5,[],Vi n_),(35,[],sv_ s),(37,[],Vp (some ⟨(pblk v26),(poff v26)+14,none⟩))] K_ K_ ?_
  obtain⟨hc,h⟩:=h
  refine zab (t:=25) (a:=(Operand.tmp 37)) (x:=(Operand.tmp 35)) (b:=(pblk v26)) (o:=((poff v26)+14)) (ty:=0) (dst:=none) [sv_ s] K_ K_ K_ (k:=1) K_ K_ K_ hc (fun w3 hw=> ?_)
  replace h:=h w3 hw
  clear hw
  refine zj [(0,Vp w_),(4,pv_ b_),(5,Vi n_)] K_ K_ ?_
  change WpE _ _ zvj _ _ _
  refine zf (x:=z9l) (y:=zZg) K_ ?_
  refine ze (id:=3) (ops:=zcs) K_ ?_
  refine zd [.plain] 1 [(0,[],Vp w_),(4,[],pv_ b_),(5,[],Vi n_),(39,[],Vp w_)] K_ K_ ?_
  obtain⟨hp_16,h⟩:=h
  refine zH [(0,[],Vp w_),(4,[],pv_ b_),(5,[],Vi n_),(39,[],Vp (some ⟨(pblk w_),(poff w_),none⟩))] (congrArg (fun pp=>([(0,[],Vp w_),(4,[],pv_ b_),(5,[],Vi n_),(39,[],Vp pp)]:GEnv)) hp_16) ?_
  refine zd [.plain] 2 [(0,[],Vp w_),(4,[],pv_ b_),(5,[],Vi n_),(39,[],Vp (some ⟨(pblk w_),(poff w_),none⟩)),(40,[],Vp (some ⟨(pblk w_),(poff w_),none⟩))] K_ K_ ?_
  refine zd [.plain,.plain] 4 [(0,[],Vp w_),(4,[],pv_ b_),(5,[],Vi n_),(42,[],Vp (some ⟨(pblk w_),(poff w_),none⟩))] K_ K_ ?_
  obtain⟨v43,hc,h⟩:=h
  refine zB (t:=28) (a:=(Operand.tmp 42)) (b:=(pblk w_)) (o:=(poff w_)) (ty:=28) (dst:=some 43) K_ K_ K_ hc ?_
  refine zd [] 5 [(0,[],Vp w_),(4,[],pv_ b_),(5,[],Vi n_),(43,[],Vp v43)] K_ K_ ?_
  obtain⟨hp_17,h⟩:=h
  refine zH [(0,[],Vp w_),(4,[],pv_ b_),(5,[],Vi n_),(43,[],Vp (some ⟨(pblk v43),(poff v43),none⟩))] (congrArg (fun pp=>([(0,[],Vp w_),(4,[],pv_ b_),(5,[],Vi n_),(43,[],Vp pp)]:GEnv)) hp_17) ?_
  refine zd [.plain] 6 [(0,[],Vp w_),(4,[],pv_ b_),(5,[],Vi n_),(43,[],Vp (some ⟨(pblk v43),(poff v43),none⟩)),(44,[],Vp (some ⟨(pblk v43),(poff v43),none⟩))] K_ K_ ?_
  refine zd [.plain] 7 [(0,[],Vp w_),(4,[],pv_ b_),(5,[],Vi n_),(45,[],Vp (some ⟨(pblk v43),(poff v43)+6,none⟩))] K_ K_ ?_
  obtain⟨v46,hc,h⟩:=h
  refine zB (t:=76) (a:=(Operand.tmp 45)) (b:=(pblk v43)) (o:=((poff v43)+6)) (ty:=76) (dst:=some 46) K_ K_ K_ hc ?_
  refine zd [.plain] 9 [(0,[],Vp w_),(4,[],pv_ b_),(5,[],Vi n_),(46,[],Vp v46),(47,[],Vi n_)] K_ K_ ?_
  refine zW (op:=(Op.call (Call.mk (Callee.value (Operand.func 283)) #[(Operand.tmp 46),(Operand.tmp 47)] #[76,3]))) (ty:=395) (dst:=some 48) 283 #[Vp v46,Vi n_] K_ (fun ww=>by kernel_rfl) (Calls.mono h ?_)
  rintro _ w4 ⟨free,v48_1,rfl,h⟩
  refine⟨_,rfl,?_⟩
  refine zd [.plain,.plain,.plain,.plain,.plain] 15 [(0,[],Vp w_),(4,[],pv_ b_),(5,[],Vi n_),(6,[],sv_ free)] K_ K_ ?_
  refine zj [(0,Vp w_),(4,pv_ b_),(5,Vi n_),(6,sv_ free)] K_ K_ ?_
  change WpE _ _ zZg _ _ _
  refine zf (x:=zRi) (y:=z3g) K_ ?_
  refine zf (x:=zam) (y:=zSi) K_ ?_
  refine ze (id:=4) (ops:=zds) K_ ?_
  refine zd [.plain,.plain,.plain] 3 [(0,[],Vp w_),(4,[],pv_ b_),(5,[],Vi n_),(51,[],sv_ free),(52,[],Vi ((free.len:Nat):Int)),(53,[],Vi 0)] K_ K_ ?_
  refine zj [(0,Vp w_),(4,pv_ b_),(5,Vi n_),(51,sv_ free),(52,Vi ((free.len:Nat):Int)),(53,Vi 0)] K_ K_ ?_
  change WpE _ _ zSi _ _ _
  refine zQ (id:=0) (x:=zbm) K_ ?_
  obtain⟨I,μ,h0,hr⟩:=h
  refine zDc (x:=zTi) K_ (fun m l w=>∃(t53:Int),l=[(0,Vp w_),(4,pv_ b_),(5,Vi n_),(51,sv_ free),(52,Vi ((free.len:Nat):Int)),(53,Vi t53)]∧I t53 w∧μ t53 w=m) (l':=[(0,Vp w_),(4,pv_ b_),(5,Vi n_),(51,sv_ free),(52,Vi ((free.len:Nat):Int)),(53,Vi 0)]) (Sub.mk K_) ⟨0,rfl,h0,rfl⟩ ?_
  rintro _ _ w5 ⟨t53,rfl,hI,rfl⟩
  obtain⟨again_,again__h,h⟩:∃ again_:Int→WP,(∀ t53' w',again_ t53' w'→I t53' w'∧μ t53' w'<μ t53 w5)∧F_9 w_ R b_ n_ free again_ t53 w5:=⟨_,fun _ _ h=>h,hr t53 w5 hI⟩
  clear h0 hI
  unfold F_9 at h
  refine zf (x:=zcm) (y:=z0g) K_ ?_
  refine ze (id:=5) (ops:=zes) K_ ?_
  refine zd [.plain] 1 [(0,[],Vp w_),(4,[],pv_ b_),(5,[],Vi n_),(51,[],sv_ free),(52,[],Vi ((free.len:Nat):Int)),(53,[],Vi t53),(54,[],Vo (decide (t53<((free.len:Nat):Int))))] K_ K_ ?_
  refine zj [(0,Vp w_),(4,pv_ b_),(5,Vi n_),(51,sv_ free),(52,Vi ((free.len:Nat):Int)),(53,Vi t53),(54,Vo (decide (t53<((free.len:Nat):Int))))] K_ K_ ?_
  change WpE _ _ z0g _ _ _
  refine zf (x:=zUi) (y:=z1g) K_ ?_
  refine zG (o:=(Operand.tmp 54)) (b:=(decide (t53<((free.len:Nat):Int)))) (x:=zfs) (y:=zgs) K_ K_ (fun hb=> ?_) (fun hb=> ?_)
  ·replace h:=h.1 hb
   refine zS K_ ?_
   change WpE _ _ z1g _ _ _
   refine zf (x:=zdm) (y:=zXi) K_ ?_
   refine zQ (id:=1) (x:=zVi) K_ ?_
   refine zf (x:=zem) (y:=z2g) K_ ?_
   refine ze (id:=6) (ops:=zhs) K_ ?_
   refine zd [] 0 [(0,[],Vp w_),(4,[],pv_ b_),(5,[],Vi n_),(51,[],sv_ free),(52,[],Vi ((free.len:Nat):Int)),(53,[],Vi t53)] K_ K_ ?_
   obtain⟨hp_67,h⟩:=h
   refine zH [(0,[],Vp w_),(4,[],pv_ b_),(5,[],Vi n_),(51,[],Value.slice (some ⟨(pblk free.ptr),(poff free.ptr),none⟩) free.len free.cap),(52,[],Vi ((free.len:Nat):Int)),(53,[],Vi t53)] (congrArg (fun pp=>([(0,[],Vp w_),(4,[],pv_ b_),(5,[],Vi n_),(51,[],Value.slice pp free.len free.cap),(52,[],Vi ((free.len:Nat):Int)),(53,[],Vi t53)]:GEnv)) hp_67) ?_
   obtain⟨h0,h1,h⟩:=h
   refine zHc (t:=25) (e:=3) (x:=(Operand.tmp 51)) (ix:=(Operand.tmp 53)) (b:=(pblk free.ptr)) (o:=(poff free.ptr)) (l:=free.len) (c:=free.cap) (k:= .i64) (j:=t53) (ty:=0) (dst:=some 55) K_ K_ K_ K_ K_ h0 h1 ?_
   refine zd [] 1 [(0,[],Vp w_),(4,[],pv_ b_),(5,[],Vi n_),(51,[],Value.slice (some ⟨(pblk free.ptr),(poff free.ptr),none⟩) free.len free.cap),(52,[],Vi ((free.len:Nat):Int)),(53,[],Vi t53),(55,[],Vp (some ⟨(pblk free.ptr),(poff free.ptr)+t53.toNat,none⟩))] K_ K_ ?_
   obtain⟨k_,hc,h⟩:=h
   refine zB (t:=3) (a:=(Operand.tmp 55)) (b:=(pblk free.ptr)) (o:=((poff free.ptr)+t53.toNat)) (ty:=3) (dst:=some 56) K_ K_ K_ hc ?_
   refine zd [.plain] 3 [(0,[],Vp w_),(4,[],pv_ b_),(5,[],Vi n_),(9,[],Vi k_),(51,[],Value.slice (some ⟨(pblk free.ptr),(poff free.ptr),none⟩) free.len free.cap),(52,[],Vi ((free.len:Nat):Int)),(53,[],Vi t53)] K_ K_ ?_
   refine zH [(0,[],Vp w_),(4,[],pv_ b_),(5,[],Vi n_),(9,[],Vi k_),(51,[],sv_ free),(52,[],Vi ((free.len:Nat):Int)),(53,[],Vi t53)] (congrArg (fun pp=>([(0,[],Vp w_),(4,[],pv_ b_),(5,[],Vi n_),(9,[],Vi k_),(51,[],Value.slice pp free.len free.cap),(52,[],Vi ((free.len:Nat):Int)),(53,[],Vi t53)]:GEnv)) hp_67.symm) ?_
   refine zj [(0,Vp w_),(4,pv_ b_),(5,Vi n_),(9,Vi k_),(51,sv_ free),(52,Vi ((free.len:Nat):Int)),(53,Vi t53)] K_ K_ ?_
   change WpE _ _ z2g _ _ _
   refine zf (x:=zfm) (y:=zWi) K_ ?_
   refine zm (id:=7) (ops:=zis) zAc K_ K_ K_ K_ (fun w6 hw=> ?_)
   replace h:=h w6 hw
   clear hw
   refine zp [.plain] 1 [(0,[],Vp w_),(4,[],pv_ b_),(5,[],Vi n_),(9,[],Vi k_),(51,[],sv_ free),(52,[],Vi ((free.len:Nat):Int)),(53,[],Vi t53),(57,[],Vp w_)] K_ K_ ?_
   obtain⟨hp_74,h⟩:=h
   refine zPb [(0,[],Vp w_),(4,[],pv_ b_),(5,[],Vi n_),(9,[],Vi k_),(51,[],sv_ free),(52,[],Vi ((free.len:Nat):Int)),(53,[],Vi t53),(57,[],Vp (some ⟨(pblk w_),(poff w_),none⟩))] (congrArg (fun pp=>([(0,[],Vp w_),(4,[],pv_ b_),(5,[],Vi n_),(9,[],Vi k_),(51,[],sv_ free),(52,[],Vi ((free.len:Nat):Int)),(53,[],Vi t53),(57,[],Vp pp)]:GEnv)) hp_74) ?_
   refine zp [.plain] 2 [(0,[],Vp w_),(4,[],pv_ b_),(5,[],Vi n_),(9,[],Vi k_),(51,[],sv_ free),(52,[],Vi ((free.len:Nat):Int)),(53,[],Vi t53),(57,[],Vp (some ⟨(pblk w_),(poff w_),none⟩)),(58,[],Vp (some ⟨(pblk w_),(poff w_),none⟩))] K_ K_ ?_
   refine zp [.plain,.plain] 4 [(0,[],Vp w_),(4,[],pv_ b_),(5,[],Vi n_),(9,[],Vi k_),(51,[],sv_ free),(52,[],Vi ((free.len:Nat):Int)),(53,[],Vi t53),(60,[],Vp (some ⟨(pblk w_),(poff w_),none⟩))] K_ K_ ?_
   obtain⟨v61,hc,h⟩:=h
   refine zU (i:=4) K_ (t:=28) (a:=(Operand.tmp 60)) (b:=(pblk w_)) (o:=(poff w_)) (ty:=28) (dst:=some 61) K_ K_ K_ hc ?_
   refine zp [.plain] 6 [(0,[],Vp w_),(4,[],pv_ b_),(5,[],Vi n_),(9,[],Vi k_),(51,[],sv_ free),(52,[],Vi ((free.len:Nat):Int)),(53,[],Vi t53),(61,[],Vp v61),(62,[],Vp w_)] K_ K_ ?_
   obtain⟨hp_75,h⟩:=h
   refine zPb [(0,[],Vp w_),(4,[],pv_ b_),(5,[],Vi n_),(9,[],Vi k_),(51,[],sv_ free),(52,[],Vi ((free.len:Nat):Int)),(53,[],Vi t53),(61,[],Vp v61),(62,[],Vp (some ⟨(pblk w_),(poff w_),none⟩))] (congrArg (fun pp=>([(0,[],Vp w_),(4,[],pv_ b_),(5,[],Vi n_),(9,[],Vi k_),(51,[],sv_ free),(52,[],Vi ((free.len:Nat):Int)),(53,[],Vi t53),(61,[],Vp v61),(62,[],Vp pp)]:GEnv)) hp_75) ?_
   refine zp [.plain] 7 [(0,[],Vp w_),(4,[],pv_ b_),(5,[],Vi n_),(9,[],Vi k_),(51,[],sv_ free),(52,[],Vi ((free.len:Nat):Int)),(53,[],Vi t53),(61,[],Vp v61),(62,[],Vp (some ⟨(pblk w_),(poff w_),none⟩)),(63,[],Vp (some ⟨(pblk w_),(poff w_),none⟩))] K_ K_ ?_
   refine zp [.plain,.plain] 9 [(0,[],Vp w_),(4,[],pv_ b_),(5,[],Vi n_),(9,[],Vi k_),(51,[],sv_ free),(52,[],Vi ((free.len:Nat):Int)),(53,[],Vi t53),(61,[],Vp v61),(65,[],Vp (some ⟨(pblk w_),(poff w_),none⟩))] K_ K_ ?_
   obtain⟨v66,hc,h⟩:=h
   refine zU (i:=9) K_ (t:=28) (a:=(Operand.tmp 65)) (b:=(pblk w_)) (o:=(poff w_)) (ty:=28) (dst:=some 66) K_ K_ K_ hc ?_
   refine zp [] 10 [(0,[],Vp w_),(4,[],pv_ b_),(5,[],Vi n_),(9,[],Vi k_),(51,[],sv_ free),(52,[],Vi ((free.len:Nat):Int)),(53,[],Vi t53),(61,[],Vp v61),(66,[],Vp v66)] K_ K_ ?_
   obtain⟨hp_76,h⟩:=h
   refine zPb [(0,[],Vp w_),(4,[],pv_ b_),(5,[],Vi n_),(9,[],Vi k_),(51,[],sv_ free),(52,[],Vi ((free.len:Nat):Int)),(53,[],Vi t53),(61,[],Vp v61),(66,[],Vp (some ⟨(pblk v66),(poff v66),none⟩))] (congrArg (fun pp=>([(0,[],Vp w_),(4,[],pv_ b_),(5,[],Vi n_),(9,[],Vi k_),(51,[],sv_ free),(52,[],Vi ((free.len:Nat):Int)),(53,[],Vi t53),(61,[],Vp v61),(66,[],Vp pp)]:GEnv)) hp_76) ?_
   refine zp [.plain] 11 [(0,[],Vp w_),(4,[],pv_ b_),(5,[],Vi n_),(9,[],Vi k_),(51,[],sv_ free),(52,[],Vi ((free.len:Nat):Int)),(53,[],Vi t53),(61,[],Vp v61),(66,[],Vp (some ⟨(pblk v66),(poff v66),none⟩)),(67,[],Vp (some ⟨(pblk v66),(poff v66),none⟩))] K_ K_ ?_
   refine zp [.plain] 12 [(0,[],Vp w_),(4,[],pv_ b_),(5,[],Vi n_),(9,[],Vi k_),(51,[],sv_ free),(52,[],Vi ((free.len:Nat):Int)),(53,[],Vi t53),(61,[],Vp v61),(68,[],Vp (some ⟨(pblk v66),(poff v66)+12,none⟩))] K_ K_ ?_
   obtain⟨v69,hc,h⟩:=h
   refine zU (i:=12) K_ (t:=24) (a:=(Operand.tmp 68)) (b:=(pblk v66)) (o:=((poff v66)+12)) (ty:=24) (dst:=some 69) K_ K_ K_ hc ?_
   refine zp [.plain] 14 [(0,[],Vp w_),(4,[],pv_ b_),(5,[],Vi n_),(9,[],Vi k_),(51,[],sv_ free),(52,[],Vi ((free.len:Nat):Int)),(53,[],Vi t53),(61,[],Vp v61),(69,[],sv_ v69),(70,[],Vp w_)] K_ K_ ?_
   obtain⟨hp_77,h⟩:=h
   refine zPb [(0,[],Vp w_),(4,[],pv_ b_),(5,[],Vi n_),(9,[],Vi k_),(51,[],sv_ free),(52,[],Vi ((free.len:Nat):Int)),(53,[],Vi t53),(61,[],Vp v61),(69,[],sv_ v69),(70,[],Vp (some ⟨(pblk w_),(poff w_),none⟩))] (congrArg (fun pp=>([(0,[],Vp w_),(4,[],pv_ b_),(5,[],Vi n_),(9,[],Vi k_),(51,[],sv_ free),(52,[],Vi ((free.len:Nat):Int)),(53,[],Vi t53),(61,[],Vp v61),(69,[],sv_ v69),(70,[],Vp pp)]:GEnv)) hp_77) ?_
   refine zp [.plain] 15 [(0,[],Vp w_),(4,[],pv_ b_),(5,[],Vi n_),(9,[],Vi k_),(51,[],sv_ free),(52,[],Vi ((free.len:Nat):Int)),(53,[],Vi t53),(61,[],Vp v61),(69,[],sv_ v69),(70,[],Vp (some ⟨(pblk w_),(poff w_),none⟩)),(71,[],Vp (some ⟨(pblk w_),(poff w_),none⟩))] K_ K_ ?_
   refine zp [.plain,.plain] 17 [(0,[],Vp w_),(4,[],pv_ b_),(5,[],Vi n_),(9,[],Vi k_),(51,[],sv_ free),(52,[],Vi ((free.len:Nat):Int)),(53,[],Vi t53),(61,[],Vp v61),(69,[],sv_ v69),(73,[],Vp (some ⟨(pblk w_),(poff w_),none⟩))] K_ K_ ?_
   obtain⟨v74,hc,h⟩:=h
   refine zU (i:=17) K_ (t:=28) (a:=(Operand.tmp 73)) (b:=(pblk w_)) (o:=(poff w_)) (ty:=28) (dst:=some 74) K_ K_ K_ hc ?_
   refine zp [] 18 [(0,[],Vp w_),(4,[],pv_ b_),(5,[],Vi n_),(9,[],Vi k_),(51,[],sv_ free),(52,[],Vi ((free.len:Nat):Int)),(53,[],Vi t53),(61,[],Vp v61),(69,[],sv_ v69),(74,[],Vp v74)] K_ K_ ?_
   obtain⟨hp_78,h⟩:=h
   refine zPb [(0,[],Vp w_),(4,[],pv_ b_),(5,[],Vi n_),(9,[],Vi k_),(51,[],sv_ free),(52,[],Vi ((free.len:Nat):Int)),(53,[],Vi t53),(61,[],Vp v61),(69,[],sv_ v69),(74,[],Vp (some ⟨(pblk v74),(poff v74),none⟩))] (congrArg (fun pp=>([(0,[],Vp w_),(4,[],pv_ b_),(5,[],Vi n_),(9,[],Vi k_),(51,[],sv_ free),(52,[],Vi ((free.len:Nat):Int)),(53,[],Vi t53),(61,[],Vp v61),(69,[],sv_ v69),(74,[],Vp pp)]:GEnv)) hp_78) ?_
   refine zp [.plain] 19 [(0,[],Vp w_),(4,[],pv_ b_),(5,[],Vi n_),(9,[],Vi k_),(51,[],sv_ free),(52,[],Vi ((free.len:Nat):Int)),(53,[],Vi t53),(61,[],Vp v61),(69,[],sv_ v69),(74,[],Vp (some ⟨(pblk v74),(poff v74),none⟩)),(75,[],Vp (some ⟨(pblk v74),(poff v74),none⟩))] K_ K_ ?_
   refine zp [.plain] 20 [(0,[],Vp w_),(4,[],pv_ b_),(5,[],Vi n_),(9,[],Vi k_),(51,[],sv_ free),(52,[],Vi ((free.len:Nat):Int)),(53,[],Vi t53),(61,[],Vp v61),(69,[],sv_ v69),(76,[],Vp (some ⟨(pblk v74),(poff v74)+13,none⟩))] K_ K_ ?_
   obtain⟨v77,hc,h⟩:=h
   refine zU (i:=20) K_ (t:=82) (a:=(Operand.tmp 76)) (b:=(pblk v74)) (o:=((poff v74)+13)) (ty:=82) (dst:=some 77) K_ K_ K_ hc ?_
   refine zp [.plain] 22 [(0,[],Vp w_),(4,[],pv_ b_),(5,[],Vi n_),(9,[],Vi k_),(51,[],sv_ free),(52,[],Vi ((free.len:Nat):Int)),(53,[],Vi t53),(61,[],Vp v61),(69,[],sv_ v69),(77,[],Value.map v77),(78,[],Vi k_)] K_ K_ ?_
   obtain⟨es,v79,ok,hm_,hi_,hn_,hk_,hl_,h⟩:=h
   refine zMc (i:=22) K_ (t:=82) (kt:=3) (et:=72) (x:=(Operand.tmp 77)) (k:=(Operand.tmp 78)) (m:=v77) (es:=es) (kv:=(Vi k_)) (z:=(Value.agg #[Vi 0,Value.slice none 0 0])) (u:=(Value.agg #[Vi v79.Number,sv_ v79.Writes])) (b:=ok) (ty:=72) (dst:=some 79) (keyI K_) K_ K_ K_ K_ (fun w_=>by kernel_rfl) hm_ hi_ hn_ hk_ hl_ ?_
   refine zp [] 23 [(0,[],Vp w_),(4,[],pv_ b_),(5,[],Vi n_),(9,[],Vi k_),(51,[],sv_ free),(52,[],Vi ((free.len:Nat):Int)),(53,[],Vi t53),(61,[],Vp v61),(69,[],sv_ v69),(79,[],Value.agg #[Vi v79.Number,sv_ v79.Writes])] K_ K_ ?_
   refine z7 (op:=(Op.buildSlice 24 1 #[(0,(Operand.tmp 79))])) (ty:=24) (dst:=some 80) 23 [22,20,21,19,18,17,16,15,14,13] [(12,fun w'=>w'.cell? ⟨(pblk v66),(poff v66)+12,none⟩=some (sv_ v69)),(9,fun w'=>w'.cell? ⟨(pblk w_),(poff w_),none⟩=some (Vp v66)),(4,fun w'=>w'.cell? ⟨(pblk w_),(poff w_),none⟩=some (Vp v61))] (fun bb=>Value.slice (some ⟨bb,0,none⟩) 1 1) (Obj.cells ([Vi v79.Number,sv_ v79.Writes]).toArray y_a (0,0)) K_ K_ K_ K_ K_ K_ (fun b_1 w7 hb hw=> ?_)
   replace h:=h b_1 w7 hb hw
   clear hb hw
   obtain⟨hk0,hk1,hk2,h⟩:=h
   refine⟨⟨hk0,hk1,hk2,trivial⟩,?_⟩
   refine zp [] 24 [(0,[],Vp w_),(4,[],pv_ b_),(5,[],Vi n_),(9,[],Vi k_),(51,[],sv_ free),(52,[],Vi ((free.len:Nat):Int)),(53,[],Vi t53),(61,[],Vp v61),(69,[],sv_ v69),(80,[],Value.slice (some ⟨b_1,0,none⟩) 1 1)] K_ K_ ?_
   obtain⟨src,hs,h⟩:=h
   refine zGb (t:=24) (tx:=24) (e:=72) (a:=(Operand.tmp 69)) (xo:=(Operand.tmp 80)) (s:=v69) (x:=(Slc.mk (some ⟨b_1,0,none⟩) 1 1)) (sz:=2) (by_:=32) (zs:=[Vi 0,Value.slice none 0 0]) (ty:=24) (dst:=some 81) 24 [12,23,11,22,10,20,21,9,19,8,18,7,17,6,16,5,15,14,13] [(4,fun w'=>w'.cell? ⟨(pblk w_),(poff w_),none⟩=some (Vp v61))] src K_ K_ K_ K_ K_ K_ K_ K_ K_ K_ K_ K_ K_ hs (zo.mono h (fun v81 w8 h=> ?_))
   obtain⟨hk0,h⟩:=h
   refine⟨⟨hk0,trivial⟩,?_⟩
   refine zp [] 25 [(0,[],Vp w_),(4,[],pv_ b_),(5,[],Vi n_),(9,[],Vi k_),(51,[],sv_ free),(52,[],Vi ((free.len:Nat):Int)),(53,[],Vi t53),(61,[],Vp v61),(81,[],sv_ v81)] K_ K_ ?_
   obtain⟨hp_79,h⟩:=h
   refine zPb [(0,[],Vp w_),(4,[],pv_ b_),(5,[],Vi n_),(9,[],Vi k_),(51,[],sv_ free),(52,[],Vi ((free.len:Nat):Int)),(53,[],Vi t53),(61,[],Vp (some ⟨(pblk v61),(poff v61),none⟩)),(81,[],sv_ v81)] (congrArg (fun pp=>([(0,[],Vp w_),(4,[],pv_ b_),(5,[],Vi n_),(9,[],Vi k_),(51,[],sv_ free),(52,[],Vi ((free.len:Nat):Int)),(53,[],Vi t53),(61,[],Vp pp),(81,[],sv_ v81)]:GEnv)) hp_79) ?_
   refine zp [.plain] 26 [(0,[],Vp w_),(4,[],pv_ b_),(5,[],Vi n_),(9,[],Vi k_),(51,[],sv_ free),(52,[],Vi ((free.len:Nat):Int)),(53,[],Vi t53),(61,[],Vp (some ⟨(pblk v61),(poff v61),none⟩)),(81,[],sv_ v81),(82,[],Vp (some ⟨(pblk v61),(poff v61),none⟩))] K_ K_ ?_
   refine zp [.plain] 27 [(0,[],Vp w_),(4,[],pv_ b_),(5,[],Vi n_),(9,[],Vi k_),(51,[],sv_ free),(52,[],Vi ((free.len:Nat):Int)),(53,[],Vi t53),(81,[],sv_ v81),(83,[],Vp (some ⟨(pblk v61),(poff v61)+12,none⟩))] K_ K_ ?_
   obtain⟨hc,h⟩:=h
   refine z8d (t:=24) (a:=(Operand.tmp 83)) (x:=(Operand.tmp 81)) (b:=(pblk v61)) (o:=((poff v61)+12)) (k:=1) (ty:=0) (dst:=none) 27 [0,1,2,3,4,5,6,7,8,9,10,11,12,13,14,15,16,17,18,19,20,21,22,23,24,26,25] [] [sv_ v81] K_ K_ K_ K_ K_ K_ K_ K_ K_ K_ hc (fun w9 hw=> ?_)
   replace h:=h w9 hw
   clear hw
   refine⟨trivial,?_⟩
   refine zdd [(0,Vp w_),(4,pv_ b_),(5,Vi n_),(9,Vi k_),(51,sv_ free),(52,Vi ((free.len:Nat):Int)),(53,Vi t53)] K_ K_ K_ ?_
   change WpE _ _ zWi _ _ _
   refine ze (id:=8) (ops:=zjs) K_ ?_
   refine zd [.plain] 1 [(0,[],Vp w_),(4,[],pv_ b_),(5,[],Vi n_),(9,[],Vi k_),(51,[],sv_ free),(52,[],Vi ((free.len:Nat):Int)),(53,[],Vi t53),(84,[],Vp w_)] K_ K_ ?_
   obtain⟨hp_80,h⟩:=h
   refine zH [(0,[],Vp w_),(4,[],pv_ b_),(5,[],Vi n_),(9,[],Vi k_),(51,[],sv_ free),(52,[],Vi ((free.len:Nat):Int)),(53,[],Vi t53),(84,[],Vp (some ⟨(pblk w_),(poff w_),none⟩))] (congrArg (fun pp=>([(0,[],Vp w_),(4,[],pv_ b_),(5,[],Vi n_),(9,[],Vi k_),(51,[],sv_ free),(52,[],Vi ((free.len:Nat):Int)),(53,[],Vi t53),(84,[],Vp pp)]:GEnv)) hp_80) ?_
   refine zd [.plain] 2 [(0,[],Vp w_),(4,[],pv_ b_),(5,[],Vi n_),(9,[],Vi k_),(51,[],sv_ free),(52,[],Vi ((free.len:Nat):Int)),(53,[],Vi t53),(84,[],Vp (some ⟨(pblk w_),(poff w_),none⟩)),(85,[],Vp (some ⟨(pblk w_),(poff w_),none⟩))] K_ K_ ?_
   refine zd [.plain,.plain] 4 [(0,[],Vp w_),(4,[],pv_ b_),(5,[],Vi n_),(9,[],Vi k_),(51,[],sv_ free),(52,[],Vi ((free.len:Nat):Int)),(53,[],Vi t53),(87,[],Vp (some ⟨(pblk w_),(poff w_),none⟩))] K_ K_ ?_
   obtain⟨v88,hc,h⟩:=h
   refine zB (t:=28) (a:=(Operand.tmp 87)) (b:=(pblk w_)) (o:=(poff w_)) (ty:=28) (dst:=some 88) K_ K_ K_ hc ?_
   refine zd [] 5 [(0,[],Vp w_),(4,[],pv_ b_),(5,[],Vi n_),(9,[],Vi k_),(51,[],sv_ free),(52,[],Vi ((free.len:Nat):Int)),(53,[],Vi t53),(88,[],Vp v88)] K_ K_ ?_
   obtain⟨hp_81,h⟩:=h
   refine zH [(0,[],Vp w_),(4,[],pv_ b_),(5,[],Vi n_),(9,[],Vi k_),(51,[],sv_ free),(52,[],Vi ((free.len:Nat):Int)),(53,[],Vi t53),(88,[],Vp (some ⟨(pblk v88),(poff v88),none⟩))] (congrArg (fun pp=>([(0,[],Vp w_),(4,[],pv_ b_),(5,[],Vi n_),(9,[],Vi k_),(51,[],sv_ free),(52,[],Vi ((free.len:Nat):Int)),(53,[],Vi t53),(88,[],Vp pp)]:GEnv)) hp_81) ?_
   refine zd [.plain] 6 [(0,[],Vp w_),(4,[],pv_ b_),(5,[],Vi n_),(9,[],Vi k_),(51,[],sv_ free),(52,[],Vi ((free.len:Nat):Int)),(53,[],Vi t53),(88,[],Vp (some ⟨(pblk v88),(poff v88),none⟩)),(89,[],Vp (some ⟨(pblk v88),(poff v88),none⟩))] K_ K_ ?_
   refine zd [.plain] 7 [(0,[],Vp w_),(4,[],pv_ b_),(5,[],Vi n_),(9,[],Vi k_),(51,[],sv_ free),(52,[],Vi ((free.len:Nat):Int)),(53,[],Vi t53),(90,[],Vp (some ⟨(pblk v88),(poff v88)+13,none⟩))] K_ K_ ?_
   obtain⟨v91,hc,h⟩:=h
   refine zB (t:=82) (a:=(Operand.tmp 90)) (b:=(pblk v88)) (o:=((poff v88)+13)) (ty:=82) (dst:=some 91) K_ K_ K_ hc ?_
   refine zd [.plain] 9 [(0,[],Vp w_),(4,[],pv_ b_),(5,[],Vi n_),(51,[],sv_ free),(52,[],Vi ((free.len:Nat):Int)),(53,[],Vi t53),(91,[],Value.map v91),(92,[],Vi k_)] K_ K_ ?_
   obtain⟨r,es1,c,hr_,hm_,hi_,hk_,h⟩:=h
   refine zNc (t:=82) (tk:=3) (kt:=3) (et:=72) (x:=(Operand.tmp 91)) (k:=(Operand.tmp 92)) (m:=v91) (es:=es1) (kv:=(Vi k_)) (ty:=0) (dst:=none) r c (keyI K_) K_ K_ hr_ K_ K_ hm_ hi_ hk_ (fun es2 w10 hs_ hw=> ?_)
   replace h:=h es2 w10 hs_ hw
   clear hw hs_
   refine zj [(0,Vp w_),(4,pv_ b_),(5,Vi n_),(51,sv_ free),(52,Vi ((free.len:Nat):Int)),(53,Vi t53)] K_ K_ ?_
   change WpE _ _ zXi _ _ _
   refine ze (id:=9) (ops:=zks) K_ ?_
   refine zd [.plain,.plain] 2 [(0,[],Vp w_),(4,[],pv_ b_),(5,[],Vi n_),(51,[],sv_ free),(52,[],Vi ((free.len:Nat):Int)),(53,[],Vi (IntKind.i64.wrap (t53+1)))] K_ K_ ?_
   refine zj [(0,Vp w_),(4,pv_ b_),(5,Vi n_),(51,sv_ free),(52,Vi ((free.len:Nat):Int)),(53,Vi (IntKind.i64.wrap (t53+1)))] K_ K_ ?_
   have hb_:=again__h _ _ h
   exact⟨_,hb_.2,[(0,Vp w_),(4,pv_ b_),(5,Vi n_),(51,sv_ free),(52,Vi ((free.len:Nat):Int)),(53,Vi (IntKind.i64.wrap (t53+1)))],Sub.mk K_,(IntKind.i64.wrap (t53+1)),rfl,hb_.1,rfl⟩
  ·replace h:=h.2 hb
   refine z7b (id:=0) K_ ?_
   change WpE _ _ z3g _ _ _
   refine zf (x:=zgm) (y:=z4g) K_ ?_
   refine ze (id:=10) (ops:=zls) K_ ?_
   refine zd [.plain] 1 [(4,[],pv_ b_),(5,[],Vi n_),(95,[],Vp w_)] K_ K_ ?_
   obtain⟨hp_84,h⟩:=h
   refine zH [(4,[],pv_ b_),(5,[],Vi n_),(95,[],Vp (some ⟨(pblk w_),(poff w_),none⟩))] (congrArg (fun pp=>([(4,[],pv_ b_),(5,[],Vi n_),(95,[],Vp pp)]:GEnv)) hp_84) ?_
   refine zd [.plain] 2 [(4,[],pv_ b_),(5,[],Vi n_),(95,[],Vp (some ⟨(pblk w_),(poff w_),none⟩)),(96,[],Vp (some ⟨(pblk w_),(poff w_),none⟩))] K_ K_ ?_
   refine zd [.plain,.plain] 4 [(4,[],pv_ b_),(5,[],Vi n_),(98,[],Vp (some ⟨(pblk w_),(poff w_),none⟩))] K_ K_ ?_
   obtain⟨v99,hc,h⟩:=h
   refine zB (t:=28) (a:=(Operand.tmp 98)) (b:=(pblk w_)) (o:=(poff w_)) (ty:=28) (dst:=some 99) K_ K_ K_ hc ?_
   refine zd [] 5 [(4,[],pv_ b_),(5,[],Vi n_),(99,[],Vp v99)] K_ K_ ?_
   obtain⟨hp_85,h⟩:=h
   refine zH [(4,[],pv_ b_),(5,[],Vi n_),(99,[],Vp (some ⟨(pblk v99),(poff v99),none⟩))] (congrArg (fun pp=>([(4,[],pv_ b_),(5,[],Vi n_),(99,[],Vp pp)]:GEnv)) hp_85) ?_
   refine zd [.plain] 6 [(4,[],pv_ b_),(5,[],Vi n_),(99,[],Vp (some ⟨(pblk v99),(poff v99),none⟩)),(100,[],Vp (some ⟨(pblk v99),(poff v99),none⟩))] K_ K_ ?_
   refine zd [.plain] 7 [(4,[],pv_ b_),(5,[],Vi n_),(101,[],Vp (some ⟨(pblk v99),(poff v99)+7,none⟩))] K_ K_ ?_
   obtain⟨v102,hc,h⟩:=h
   refine zB (t:=77) (a:=(Operand.tmp 101)) (b:=(pblk v99)) (o:=((poff v99)+7)) (ty:=77) (dst:=some 102) K_ K_ K_ hc ?_
   refine zd [.plain] 9 [(4,[],pv_ b_),(5,[],Vi n_),(102,[],Vp v102),(103,[],Vi n_)] K_ K_ ?_
   refine zW (op:=(Op.call (Call.mk (Callee.value (Operand.func 284)) #[(Operand.tmp 102),(Operand.tmp 103)] #[77,3]))) (ty:=50) (dst:=some 104) 284 #[Vp v102,Vi n_] K_ (fun ww=>by kernel_rfl) (Calls.mono h ?_)
   rintro _ w11 ⟨up,v104_1,rfl,h⟩
   refine⟨_,rfl,?_⟩
   refine zd [.plain,.plain,.plain,.plain,.plain] 15 [(4,[],pv_ b_),(5,[],Vi n_),(10,[],Vi up)] K_ K_ ?_
   refine zj [(4,pv_ b_),(5,Vi n_),(10,Vi up)] K_ K_ ?_
   change WpE _ _ z4g _ _ _
   refine zf (x:=zhm) (y:=zim) K_ ?_
   refine ze (id:=11) (ops:=zms) K_ ?_
   refine zd [.plain,.plain,.plain] 3 [(4,[],pv_ b_),(109,[],Value.agg #[Vi 0,Value.int .u8 0,Vi n_,Vi 0,Vi up,Vi 0])] K_ K_ ?_
   obtain⟨hc,h⟩:=h
   refine zab (t:=35) (a:=(Operand.tmp 4)) (x:=(Operand.tmp 109)) (b:=b_) (o:=0) (ty:=0) (dst:=none) [Vi 0,Value.int .u8 0,Vi n_,Vi 0,Vi up,Vi 0] K_ K_ K_ (k:=6) K_ K_ K_ hc (fun w12 hw=> ?_)
   replace h:=h w12 hw
   clear hw
   refine zj [(4,pv_ b_)] K_ K_ ?_
   change WpE _ _ zim _ _ _
   refine z2 K_ ?_
   obtain⟨res,hc_res,h⟩:=h
   repeat (first | refine zM ?_ | refine zA ?_ | refine zF ?_ | refine zN ?_)
   exact retS (rs:=[(ResultVar.cell 4 35)]) (v:=Value.agg #[Vi res.Task,Value.int .u8 res.Kind,Vi res.Number,Vi res.Shard,Vi res.Count,Vi res.Mark]) K_ (⟨b_,0,[Vi res.Task,Value.int .u8 res.Kind,Vi res.Number,Vi res.Shard,Vi res.Count,Vi res.Mark],K_,hc_res,(zq (k:=6) K_ K_),.inl ⟨K_,rfl⟩,trivial⟩) ⟨res,rfl,h⟩
 ·rintro e w' ⟨v,rfl,r0,rfl,h⟩; exact⟨r0,rfl,h⟩
end
end Go.Proofs.YtofjmclceflgiaaGreat
