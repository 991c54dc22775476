/- WRITTEN BY PROGRAM (dec.py): for each Go function the clean formula F, the call's contract C, and the proof S that F gives C. -/
import Derived.Test.YtofjmclceflgiaaGreatRows
import Derived.Test.YtofjmclceflgiaaGreatGF
namespace Go.Proofs.YtofjmclceflgiaaGreat
open Go
set_option linter.unusedVariables false
set_option maxRecDepth 100000
set_option maxHeartbeats 4000000
noncomputable section

/-! ### towpath/fold.Store (function 9) -/

theorem S_Vb {l_:Slc} {first:Int} {w:World} {R:Slc→Int→WP} (h:F_sd l_ first R w):C_Wb l_ first w R:=by
 unfold F_sd at h
 refine Yh Tryz.func9 ?_
 ·refine Yp P2 [0,1] (Yt (Yn P2 ?_))
  refine Ym2 h fun v8 v8_1 w1 h=> ?_
  refine Yf P4 [4,5] ?_
  exact YT2 ⟨v8,v8_1,rfl,h⟩

/-! ### towpath/fold.Scan (function 25) -/
def zqs:=cb_ Tryz.f25
def zwv:=cl_ zqs
def ztw:=co_ zwv
def zfn:=cr_ zqs
def zxv:=cl_ zfn
def zuw:=co_ zxv
def zgn:=cr_ zfn
def zrs:=cl_ zgn
def zyv:=cl_ zrs
def zvw:=co_ zyv
def zDj:=cr_ zrs
def zrm:=cl_ zDj
def zXn:=cl_ zrm
def zzv:=co_ zXn
def zYn:=cr_ zrm
def zAv:=cr_ zDj
def zEj:=cr_ zgn
def zZn:=cl_ zEj
def zBv:=co_ zZn
def zFj:=cr_ zEj
def zsm:=cl_ zFj
def z0n:=cl_ zsm
def zCv:=co_ z0n
def ztm:=cr_ zsm
def z1n:=cl_ ztm
def zum:=cl_ z1n
def z2n:=cl_ zum
def zDv:=co_ z2n
def zGj:=cr_ zum
def zvm:=cl_ zGj
def zEv:=cl_ zvm
def zFv:=cr_ zvm
def zHj:=cr_ zGj
def z3n:=cl_ zHj
def zwm:=cl_ z3n
def z4n:=cl_ zwm
def zGv:=co_ z4n
def zIj:=cr_ zwm
def z5n:=cl_ zIj
def zHv:=co_ z5n
def zJj:=cr_ zIj
def z6n:=cl_ zJj
def zIv:=co_ z6n
def zJv:=cr_ zJj
def z7n:=cr_ zHj
def zKv:=co_ z7n
def zKj:=cr_ zFj
def z8n:=cl_ zKj
def zLv:=co_ z8n
def z9n:=cr_ zKj

theorem S_2b {l_:Slc} {first:Int} {key:ByteArray} {end_:ByteArray} {w:World} {R:Slc→Int→WP} (h:F_Cd l_ first key end_ R w):C_4b l_ first key end_ w R:=by
 unfold F_Cd at h
 unfold C_4b
 refine Calls.mono (z4 (args:=[sv_ l_,Vi first,Value.string key,Value.string end_]) (R:=fun v w'=>∃(r0:Slc) (r1:Int),v=Value.tuple #[sv_ r0,Vi r1]∧R r0 r1 w') Tryz.func25 (c:=zqs) K_ 54 K_ K_ [(0,sv_ l_),(1,Vi first),(2,Value.string key),(3,Value.string end_)] K_ ?_) ?_
 ·refine zf (x:=zwv) (y:=zfn) K_ ?_
  refine ze (id:=0) (ops:=ztw) K_ ?_
  refine zd [.plain,.plain] 2 [(0,[],sv_ l_),(1,[],Vi first),(2,[],Value.string key),(3,[],Value.string end_)] K_ K_ ?_
  refine zj [(0,sv_ l_),(1,Vi first),(2,Value.string key),(3,Value.string end_)] K_ K_ ?_
  change WpE _ _ zfn _ _ _
  refine zf (x:=zxv) (y:=zgn) K_ ?_
  refine ze (id:=1) (ops:=zuw) K_ ?_
  refine zd [.plain,.plain] 2 [(2,[],Value.string key),(3,[],Value.string end_),(16,[],sv_ l_),(17,[],Vi first)] K_ K_ ?_
  refine zW (op:=(Op.call (Call.mk (Callee.value (Operand.func 47)) #[(Operand.tmp 16),(Operand.tmp 17)] #[24,3]))) (ty:=153) (dst:=some 18) 47 #[sv_ l_,Vi first] K_ (fun ww=>by kernel_rfl) (Calls.mono h ?_)
  rintro _ w1 ⟨m_,e,rfl,h⟩
  refine⟨_,rfl,?_⟩
  refine zd [.plain,.plain,.plain,.plain,.plain] 8 [(2,[],Value.string key),(3,[],Value.string end_),(10,[],Value.map m_),(11,[],Vi e)] K_ K_ ?_
  refine zj [(2,Value.string key),(3,Value.string end_),(10,Value.map m_),(11,Vi e)] K_ K_ ?_
  change WpE _ _ zgn _ _ _
  refine zf (x:=zrs) (y:=zEj) K_ ?_
  refine zf (x:=zyv) (y:=zDj) K_ ?_
  refine ze (id:=2) (ops:=zvw) K_ ?_
  refine zd [.plain,.plain] 2 [(2,[],Value.string key),(3,[],Value.string end_),(10,[],Value.map m_),(11,[],Vi e),(22,[],Vo (e != 0))] K_ K_ ?_
  refine zj [(2,Value.string key),(3,Value.string end_),(10,Value.map m_),(11,Vi e),(22,Vo (e != 0))] K_ K_ ?_
  change WpE _ _ zDj _ _ _
  refine zG (o:=(Operand.tmp 22)) (b:=(e != 0)) (x:=zrm) (y:=zAv) K_ K_ (fun hb=> ?_) (fun hb=> ?_)
  ·replace h:=h.1 hb
   refine zf (x:=zXn) (y:=zYn) K_ ?_
   refine ze (id:=3) (ops:=zzv) K_ ?_
   refine zd [.plain,.plain,.plain] 3 [(8,[],Value.slice none 0 0),(9,[],Vi e)] K_ K_ ?_
   refine zj [(8,Value.slice none 0 0),(9,Vi e)] K_ K_ ?_
   change WpE _ _ zYn _ _ _
   refine z2 K_ ?_
   repeat (first | refine zM ?_ | refine zA ?_ | refine zF ?_ | refine zN ?_)
   exact retT (rs:=[(ResultVar.tmp 8),(ResultVar.tmp 9)]) (vs:=[Value.slice none 0 0,Vi e]) K_ (⟨K_,⟨K_,trivial⟩⟩) K_ ⟨(Slc.mk none 0 0),e,rfl,h⟩
  ·replace h:=h.2 hb
   refine zS K_ ?_
   change WpE _ _ zEj _ _ _
   refine zf (x:=zZn) (y:=zFj) K_ ?_
   refine ze (id:=4) (ops:=zBv) K_ ?_
   refine zd [.plain] 1 [(2,[],Value.string key),(3,[],Value.string end_),(10,[],Value.map m_),(12,[],Value.slice none 0 0)] K_ K_ ?_
   refine zj [(2,Value.string key),(3,Value.string end_),(10,Value.map m_),(12,Value.slice none 0 0)] K_ K_ ?_
   change WpE _ _ zFj _ _ _
   refine zf (x:=zsm) (y:=zKj) K_ ?_
   refine zf (x:=z0n) (y:=ztm) K_ ?_
   refine ze (id:=5) (ops:=zCv) K_ ?_
   refine zd [.plain] 1 [(2,[],Value.string key),(3,[],Value.string end_),(10,[],Value.map m_),(12,[],Value.slice none 0 0),(24,[],Value.map m_)] K_ K_ ?_
   refine zW (op:=(Op.call (Call.mk (Callee.value (Operand.func 49)) #[(Operand.tmp 24)] #[152]))) (ty:=158) (dst:=some 25) 49 #[Value.map m_] K_ (fun ww=>by kernel_rfl) (Calls.mono h ?_)
   rintro _ w2 ⟨v25,rfl,h⟩
   refine⟨_,rfl,?_⟩
   refine zd [] 2 [(2,[],Value.string key),(3,[],Value.string end_),(10,[],Value.map m_),(12,[],Value.slice none 0 0),(25,[],v25)] K_ K_ ?_
   refine zW (op:=(Op.call (Call.mk (Callee.value (Operand.func 48)) #[(Operand.tmp 25)] #[158]))) (ty:=155) (dst:=some 26) 48 #[v25] K_ (fun ww=>by kernel_rfl) (Calls.mono h ?_)
   rintro _ w3 ⟨v26,rfl,h⟩
   refine⟨_,rfl,?_⟩
   refine zd [.plain,.plain] 5 [(2,[],Value.string key),(3,[],Value.string end_),(10,[],Value.map m_),(12,[],Value.slice none 0 0),(26,[],sv_ v26),(27,[],Vi ((v26.len:Nat):Int)),(28,[],Vi 0)] K_ K_ ?_
   refine zj [(2,Value.string key),(3,Value.string end_),(10,Value.map m_),(12,Value.slice none 0 0),(26,sv_ v26),(27,Vi ((v26.len:Nat):Int)),(28,Vi 0)] K_ K_ ?_
   change WpE _ _ ztm _ _ _
   refine zQ (id:=0) (x:=z1n) K_ ?_
   obtain⟨I,μ,h0,hr⟩:=h
   refine zDc (x:=zum) K_ (fun m l w=>∃(out:Slc) (t28:Int),l=[(2,Value.string key),(3,Value.string end_),(10,Value.map m_),(12,sv_ out),(26,sv_ v26),(27,Vi ((v26.len:Nat):Int)),(28,Vi t28)]∧I out t28 w∧μ out t28 w=m) (l':=[(2,Value.string key),(3,Value.string end_),(10,Value.map m_),(12,Value.slice none 0 0),(26,sv_ v26),(27,Vi ((v26.len:Nat):Int)),(28,Vi 0)]) (Sub.mk K_) ⟨(Slc.mk none 0 0),0,rfl,h0,rfl⟩ ?_
   rintro _ _ w4 ⟨out,t28,rfl,hI,rfl⟩
   obtain⟨again_,again__h,h⟩:∃ again_:Slc→Int→WP,(∀ out' t28' w',again_ out' t28' w'→I out' t28' w'∧μ out' t28' w'<μ out t28 w4)∧F_Fc key end_ R m_ v26 again_ out t28 w4:=⟨_,fun _ _ _ h=>h,hr out t28 w4 hI⟩
   clear h0 hI
   unfold F_Fc at h
   refine zf (x:=z2n) (y:=zGj) K_ ?_
   refine ze (id:=6) (ops:=zDv) K_ ?_
   refine zd [.plain] 1 [(2,[],Value.string key),(3,[],Value.string end_),(10,[],Value.map m_),(12,[],sv_ out),(26,[],sv_ v26),(27,[],Vi ((v26.len:Nat):Int)),(28,[],Vi t28),(29,[],Vo (decide (t28<((v26.len:Nat):Int))))] K_ K_ ?_
   refine zj [(2,Value.string key),(3,Value.string end_),(10,Value.map m_),(12,sv_ out),(26,sv_ v26),(27,Vi ((v26.len:Nat):Int)),(28,Vi t28),(29,Vo (decide (t28<((v26.len:Nat):Int))))] K_ K_ ?_
   change WpE _ _ zGj _ _ _
   refine zf (x:=zvm) (y:=zHj) K_ ?_
   refine zG (o:=(Operand.tmp 29)) (b:=(decide (t28<((v26.len:Nat):Int)))) (x:=zEv) (y:=zFv) K_ K_ (fun hb=> ?_) (fun hb=> ?_)
   ·replace h:=h.1 hb
    refine zS K_ ?_
    change WpE _ _ zHj _ _ _
    refine zmb (x:=z3n) (y:=z7n) K_ (fun l w=>∃(out1:Slc),l=[(2,Value.string key),(3,Value.string end_),(10,Value.map m_),(12,sv_ out1),(26,sv_ v26),(27,Vi ((v26.len:Nat):Int)),(28,Vi t28)]∧F_Yb t28 again_ out1 w) ?_ ?_
    ·refine zQ (id:=1) (x:=zwm) K_ ?_
     refine zf (x:=z4n) (y:=zIj) K_ ?_
     refine ze (id:=7) (ops:=zGv) K_ ?_
     refine zd [] 0 [(2,[],Value.string key),(3,[],Value.string end_),(10,[],Value.map m_),(12,[],sv_ out),(26,[],sv_ v26),(27,[],Vi ((v26.len:Nat):Int)),(28,[],Vi t28)] K_ K_ ?_
     obtain⟨hp_7,h⟩:=h
     refine zH [(2,[],Value.string key),(3,[],Value.string end_),(10,[],Value.map m_),(12,[],sv_ out),(26,[],Value.slice (some ⟨(pblk v26.ptr),(poff v26.ptr),none⟩) v26.len v26.cap),(27,[],Vi ((v26.len:Nat):Int)),(28,[],Vi t28)] (congrArg (fun pp=>([(2,[],Value.string key),(3,[],Value.string end_),(10,[],Value.map m_),(12,[],sv_ out),(26,[],Value.slice pp v26.len v26.cap),(27,[],Vi ((v26.len:Nat):Int)),(28,[],Vi t28)]:GEnv)) hp_7) ?_
     obtain⟨h0,h1,h⟩:=h
     refine zHc (t:=155) (e:=9) (x:=(Operand.tmp 26)) (ix:=(Operand.tmp 28)) (b:=(pblk v26.ptr)) (o:=(poff v26.ptr)) (l:=v26.len) (c:=v26.cap) (k:= .i64) (j:=t28) (ty:=0) (dst:=some 30) K_ K_ K_ K_ K_ h0 h1 ?_
     refine zd [] 1 [(2,[],Value.string key),(3,[],Value.string end_),(10,[],Value.map m_),(12,[],sv_ out),(26,[],Value.slice (some ⟨(pblk v26.ptr),(poff v26.ptr),none⟩) v26.len v26.cap),(27,[],Vi ((v26.len:Nat):Int)),(28,[],Vi t28),(30,[],Vp (some ⟨(pblk v26.ptr),(poff v26.ptr)+t28.toNat,none⟩))] K_ K_ ?_
     obtain⟨k_,hc,h⟩:=h
     refine zB (t:=9) (a:=(Operand.tmp 30)) (b:=(pblk v26.ptr)) (o:=((poff v26.ptr)+t28.toNat)) (ty:=9) (dst:=some 31) K_ K_ K_ hc ?_
     refine zd [.plain] 3 [(2,[],Value.string key),(3,[],Value.string end_),(10,[],Value.map m_),(12,[],sv_ out),(14,[],Value.string k_),(26,[],Value.slice (some ⟨(pblk v26.ptr),(poff v26.ptr),none⟩) v26.len v26.cap),(27,[],Vi ((v26.len:Nat):Int)),(28,[],Vi t28)] K_ K_ ?_
     refine zH [(2,[],Value.string key),(3,[],Value.string end_),(10,[],Value.map m_),(12,[],sv_ out),(14,[],Value.string k_),(26,[],sv_ v26),(27,[],Vi ((v26.len:Nat):Int)),(28,[],Vi t28)] (congrArg (fun pp=>([(2,[],Value.string key),(3,[],Value.string end_),(10,[],Value.map m_),(12,[],sv_ out),(14,[],Value.string k_),(26,[],Value.slice pp v26.len v26.cap),(27,[],Vi ((v26.len:Nat):Int)),(28,[],Vi t28)]:GEnv)) hp_7.symm) ?_
     refine zj [(2,Value.string key),(3,Value.string end_),(10,Value.map m_),(12,sv_ out),(14,Value.string k_),(26,sv_ v26),(27,Vi ((v26.len:Nat):Int)),(28,Vi t28)] K_ K_ ?_
     change WpE _ _ zIj _ _ _
     refine zf (x:=z5n) (y:=zJj) K_ ?_
     refine ze (id:=8) (ops:=zHv) K_ ?_
     refine zd [.plain,.plain,.plain,.plain,.plain,.plain,.plain,.plain,.plain,.plain,.pick,.pick] 12 [(2,[],Value.string key),(3,[],Value.string end_),(10,[],Value.map m_),(12,[],sv_ out),(14,[],Value.string k_),(26,[],sv_ v26),(27,[],Vi ((v26.len:Nat):Int)),(28,[],Vi t28),(43,[],Vo ((!(Op.bytesLess k_.toList key.toList))&&((end_.toList==ByteArray.empty.toList)||(Op.bytesLess k_.toList end_.toList))))] K_ K_ ?_
     refine zj [(2,Value.string key),(3,Value.string end_),(10,Value.map m_),(12,sv_ out),(14,Value.string k_),(26,sv_ v26),(27,Vi ((v26.len:Nat):Int)),(28,Vi t28),(43,Vo ((!(Op.bytesLess k_.toList key.toList))&&((end_.toList==ByteArray.empty.toList)||(Op.bytesLess k_.toList end_.toList))))] K_ K_ ?_
     change WpE _ _ zJj _ _ _
     refine zG (o:=(Operand.tmp 43)) (b:=((!(Op.bytesLess k_.toList key.toList))&&((end_.toList==ByteArray.empty.toList)||(Op.bytesLess k_.toList end_.toList)))) (x:=z6n) (y:=zJv) K_ K_ (fun hb=> ?_) (fun hb=> ?_)
     ·replace h:=h.1 hb
      refine ze (id:=9) (ops:=zIv) K_ ?_
      refine zd [.plain,.plain,.plain,.plain] 4 [(2,[],Value.string key),(3,[],Value.string end_),(10,[],Value.map m_),(12,[],sv_ out),(26,[],sv_ v26),(27,[],Vi ((v26.len:Nat):Int)),(28,[],Vi t28),(44,[],sv_ out),(45,[],Value.string k_),(46,[],Value.map m_),(47,[],Value.string k_)] K_ K_ ?_
      obtain⟨es,v48,ok,hm_,hi_,hn_,hk_,hl_,h⟩:=h
      refine zne (t:=152) (kt:=9) (et:=9) (x:=(Operand.tmp 46)) (k:=(Operand.tmp 47)) (m:=m_) (es:=es) (kv:=(Value.string k_)) (z:=(Value.string ByteArray.empty)) (u:=(Value.string v48)) (b:=ok) (ty:=9) (dst:=some 48) (keyS K_) K_ K_ K_ K_ (fun w_=>by kernel_rfl) hm_ hi_ hn_ hk_ hl_ ?_
      refine zd [.plain] 6 [(2,[],Value.string key),(3,[],Value.string end_),(10,[],Value.map m_),(12,[],sv_ out),(26,[],sv_ v26),(27,[],Vi ((v26.len:Nat):Int)),(28,[],Vi t28),(44,[],sv_ out),(49,[],Value.agg #[Value.string k_,Value.string v48])] K_ K_ ?_
      refine zQb (op:=(Op.buildSlice 40 1 #[(0,(Operand.tmp 49))])) (ty:=40) (dst:=some 50) (fun bb=>Value.slice (some ⟨bb,0,none⟩) 1 1) (Obj.cells ([Value.string k_,Value.string v48]).toArray y_k (0,0)) K_ K_ (fun b_ w6 hb hw=> ?_)
      replace h:=h b_ w6 hb hw
      clear hb hw
      refine zd [] 7 [(2,[],Value.string key),(3,[],Value.string end_),(10,[],Value.map m_),(12,[],sv_ out),(26,[],sv_ v26),(27,[],Vi ((v26.len:Nat):Int)),(28,[],Vi t28),(44,[],sv_ out),(50,[],Value.slice (some ⟨b_,0,none⟩) 1 1)] K_ K_ ?_
      obtain⟨src,hs,h⟩:=h
      refine zC (t:=40) (tx:=40) (e:=74) (a:=(Operand.tmp 44)) (xo:=(Operand.tmp 50)) (s:=out) (x:=(Slc.mk (some ⟨b_,0,none⟩) 1 1)) (sz:=2) (by_:=32) (zs:=[Value.string ByteArray.empty,Value.string ByteArray.empty]) (ty:=40) (dst:=some 51)  src K_ K_ K_ K_ K_ K_ K_ K_ K_ hs (zo.mono h (fun out2 w7 h=> ?_))
      refine zd [.plain] 9 [(2,[],Value.string key),(3,[],Value.string end_),(10,[],Value.map m_),(12,[],sv_ out2),(26,[],sv_ v26),(27,[],Vi ((v26.len:Nat):Int)),(28,[],Vi t28)] K_ K_ ?_
      refine zj [(2,Value.string key),(3,Value.string end_),(10,Value.map m_),(12,sv_ out2),(26,sv_ v26),(27,Vi ((v26.len:Nat):Int)),(28,Vi t28)] K_ K_ ?_
      exact⟨[(2,Value.string key),(3,Value.string end_),(10,Value.map m_),(12,sv_ out2),(26,sv_ v26),(27,Vi ((v26.len:Nat):Int)),(28,Vi t28)],Sub.mk K_,out2,rfl,h⟩
     ·replace h:=h.2 hb
      refine zS K_ ?_
      exact⟨[(2,Value.string key),(3,Value.string end_),(10,Value.map m_),(12,sv_ out),(26,sv_ v26),(27,Vi ((v26.len:Nat):Int)),(28,Vi t28)],Sub.mk K_,out,rfl,h⟩
    ·rintro _ w5 ⟨out1,rfl,h⟩
     unfold F_Yb at h
     refine ze (id:=10) (ops:=zKv) K_ ?_
     refine zd [.plain,.plain] 2 [(2,[],Value.string key),(3,[],Value.string end_),(10,[],Value.map m_),(12,[],sv_ out1),(26,[],sv_ v26),(27,[],Vi ((v26.len:Nat):Int)),(28,[],Vi (IntKind.i64.wrap (t28+1)))] K_ K_ ?_
     refine zj [(2,Value.string key),(3,Value.string end_),(10,Value.map m_),(12,sv_ out1),(26,sv_ v26),(27,Vi ((v26.len:Nat):Int)),(28,Vi (IntKind.i64.wrap (t28+1)))] K_ K_ ?_
     have hb_:=again__h _ _ _ h
     exact⟨_,hb_.2,[(2,Value.string key),(3,Value.string end_),(10,Value.map m_),(12,sv_ out1),(26,sv_ v26),(27,Vi ((v26.len:Nat):Int)),(28,Vi (IntKind.i64.wrap (t28+1)))],Sub.mk K_,out1,(IntKind.i64.wrap (t28+1)),rfl,hb_.1,rfl⟩
   ·replace h:=h.2 hb
    refine z7b (id:=0) K_ ?_
    change WpE _ _ zKj _ _ _
    refine zf (x:=z8n) (y:=z9n) K_ ?_
    refine ze (id:=11) (ops:=zLv) K_ ?_
    refine zd [.plain,.plain,.plain] 3 [(8,[],sv_ out),(9,[],Vi 0)] K_ K_ ?_
    refine zj [(8,sv_ out),(9,Vi 0)] K_ K_ ?_
    change WpE _ _ z9n _ _ _
    refine z2 K_ ?_
    repeat (first | refine zM ?_ | refine zA ?_ | refine zF ?_ | refine zN ?_)
    exact retT (rs:=[(ResultVar.tmp 8),(ResultVar.tmp 9)]) (vs:=[sv_ out,Vi 0]) K_ (⟨K_,⟨K_,trivial⟩⟩) K_ ⟨out,0,rfl,h⟩
 ·rintro e w' ⟨v,rfl,r0,r1,rfl,h⟩; exact⟨r0,r1,rfl,h⟩

/-! ### towpath/fold.values (function 47) -/

theorem S_Pb {l_:Slc} {first:Int} {w:World} {R:Option Nat→Int→WP} (h:F_nd l_ first R w):C_Sb l_ first w R:=by
 unfold F_nd at h
 refine Yh Tryz.func47 ?_
 ·refine Yp P2 [0,1] (Ys (Yt (Yn P1 ?_)))
  refine Ym1 h fun v13 w1 h=> ?_
  refine Yf P1 [0,1,6] (Yp P2 [0,1,6,15] ?_)
  refine Yc h (fun h=> ?_) fun h=> ?_
  ·refine Yp P3 [4,5] ?_
   exact YT2 ⟨none,v13,rfl,h⟩
  ·refine zk (Ys (Yp [.plain,.plain,.plain,.plain,.plain,.plain,.plain,.pick] [0,1,24] ?_))
   refine Yc h (fun h=> ?_) fun h=> ?_
   ·refine Yp P2 [4,5] ?_
    exact YT2 ⟨none,1,rfl,h⟩
   ·refine zk (Yt ?_)
    refine Yw (fun bb=>Value.map (some bb)) h fun b_ w2 h=> ?_
    refine Yf P1 [0,1,7] (Ys (Yt (Yn P2 ?_)))
    obtain⟨h0,h1,h⟩:=h
    refine zIc (t:=24) (e:=72) (x:=(Operand.tmp 26)) (hi:=(Operand.tmp 27)) (p:=l_.ptr) (l:=l_.len) (c:=l_.cap) (sz:=2) (k:= .i64) (j:=first) (ty:=24) (dst:=some 28) K_ K_ K_ K_ K_ h0 h1 ?_
    refine Yf P2 [7,28,29,30] (Yd 0 ?_)
    obtain⟨I,μ,h0,hr⟩:=h
    refine znb (fun m l w=>∃(t30:Int),l=[(7,Value.map (some b_)),(28,Value.slice l_.ptr first.toNat l_.cap),(29,Vi ((first.toNat:Nat):Int)),(30,Vi t30)]∧I t30 w∧μ t30 w=m) ⟨0,rfl,h0,rfl⟩ ?_
    rintro _ _ w3 ⟨t30,rfl,hI,rfl⟩
    obtain⟨again_,again__h,h⟩:∃ again_:Int→WP,(∀ t30' w',again_ t30' w'→I t30' w'∧μ t30' w'<μ t30 w3)∧F_bc l_ first R b_ again_ t30 w3:=⟨_,fun _ _ h=>h,hr t30 w3 hI⟩
    clear h0 hI
    unfold F_bc at h
    refine Yp P1 [7,28,29,30,31] (Ys ?_)
    refine Yc h (fun h=> ?_) fun h=> ?_
    ·refine zk (Ys (Yd 1 (Yt ?_)))
     obtain⟨hp_19,h⟩:=h
     refine Yu 28 (fun pp=> .slice pp first.toNat l_.cap) hp_19 ?_
     refine Yi h fun h=> ?_
     refine YL h fun v33 h=> ?_
     refine Yw pv_ h fun b_1 w4 h=> ?_
     refine Yo h fun w5 h=> ?_
     refine Yu 28 (fun pp=> .slice pp first.toNat l_.cap) hp_19.symm ?_
     refine Yf [] [7,9,28,29,30] (Yt (Yn P1 ?_))
     refine Yl h fun v35 h=> ?_
     refine Yf P2 [7,28,29,30,35,36,37] (Yd 2 ?_)
     obtain⟨I,μ,h0,hr⟩:=h
     refine znb (fun m l w=>∃(t37:Int),l=[(7,Value.map (some b_)),(28,Value.slice l_.ptr first.toNat l_.cap),(29,Vi ((first.toNat:Nat):Int)),(30,Vi t30),(35,sv_ v35),(36,Vi ((v35.len:Nat):Int)),(37,Vi t37)]∧I t37 w∧μ t37 w=m) ⟨0,rfl,h0,rfl⟩ ?_
     rintro _ _ w6 ⟨t37,rfl,hI,rfl⟩
     obtain⟨again_1,again_1_h,h⟩:∃ again_1:Int→WP,(∀ t37' w',again_1 t37' w'→I t37' w'∧μ t37' w'<μ t37 w6)∧F_ac b_ t30 again_ v35 again_1 t37 w6:=⟨_,fun _ _ h=>h,hr t37 w6 hI⟩
     clear h0 hI
     unfold F_ac at h
     refine Yp P1 [7,28,29,30,35,36,37,38] (Ys ?_)
     refine Yc h (fun h=> ?_) fun h=> ?_
     ·refine zk ?_
      refine Ycut (fun l w=>l=[(7,Value.map (some b_)),(28,Value.slice l_.ptr first.toNat l_.cap),(29,Vi ((first.toNat:Nat):Int)),(30,Vi t30),(35,sv_ v35),(36,Vi ((v35.len:Nat):Int)),(37,Vi t37)]∧F_wb t37 again_1 w) ?_ ?_
      ·refine Yd 3 (Yt ?_)
       obtain⟨hp_23,h⟩:=h
       refine Yu 35 (fun pp=> .slice pp v35.len v35.cap) hp_23 ?_
       refine Yi h fun h=> ?_
       refine YL h fun v40 h=> ?_
       refine Yw pv_ h fun b_2 w8 h=> ?_
       refine Yo h fun w9 h=> ?_
       refine Yu 35 (fun pp=> .slice pp v35.len v35.cap) hp_23.symm ?_
       refine Yf [] [7,11,28,29,30,35,36,37] (Yt (Yn P1 ?_))
       refine Yl h fun v42 h=> ?_
       refine Yf [] [7,11,28,29,30,35,36,37,42] ?_
       refine Yc h (fun h=> ?_) fun h=> ?_
       ·refine Yr (Yn P2 ?_)
        refine Yl h fun v45 h=> ?_
        obtain⟨r,es,c,hr_,hm_,hi_,hk_,h⟩:=h
        refine zNc (t:=152) (tk:=9) (kt:=9) (et:=9) (x:=(Operand.tmp 43)) (k:=(Operand.tmp 45)) (m:=(some b_)) (es:=es) (kv:=(Value.string v45)) (ty:=0) (dst:=none) r c (keyS K_) K_ K_ hr_ K_ K_ hm_ hi_ hk_ (fun es1 w10 hs_ hw=> ?_)
        replace h:=h es1 w10 hs_ hw
        clear hw hs_
        refine Yf [] [7,28,29,30,35,36,37] ?_
        exact⟨_,Sub.mk K_,rfl,h⟩
       ·refine Yr (Yn P2 ?_)
        refine Yl h fun v48 h=> ?_
        refine Yn P1 ?_
        refine Yl h fun v50 h=> ?_
        obtain⟨r1,es2,c1,hr_,hm_,hi_,hn_,hk_,h⟩:=h
        refine zZ (t:=152) (kt:=9) (et:=9) (x:=(Operand.tmp 46)) (k:=(Operand.tmp 48)) (v:=(Operand.tmp 50)) (m:=(some b_)) (es:=es2) (kv:=(Value.string v48)) (vv:=(Value.string v50)) (ty:=0) (dst:=none) r1 c1 (keyS K_) K_ K_ hr_ K_ K_ K_ hm_ hi_ hn_ hk_ (fun es3 c2 w11 hs_ hw=> ?_)
        replace h:=h es3 c2 w11 hs_ hw
        clear hw hs_
        refine Yf [] [7,28,29,30,35,36,37] ?_
        exact⟨_,Sub.mk K_,rfl,h⟩
      ·rintro _ w7 ⟨rfl,h⟩
       unfold F_wb at h
       refine Yr (Yf P2 [7,28,29,30,35,36,37] ?_)
       have hb_:=again_1_h _ _ h
       exact⟨_,hb_.2,_,Sub.mk K_,(IntKind.i64.wrap (t37+1)),rfl,hb_.1,rfl⟩
     ·refine z3 2 (Yr (Yf P2 [7,28,29,30] ?_))
      have hb_:=again__h _ _ h
      exact⟨_,hb_.2,_,Sub.mk K_,(IntKind.i64.wrap (t30+1)),rfl,hb_.1,rfl⟩
    ·refine z3 0 (Yp P3 [4,5] ?_)
     exact YT2 ⟨(some b_),0,rfl,h⟩

/-! ### towpath/fold.check (function 73) -/

theorem S_Wb {l_:Slc} {w:World} {R:Int→WP} (h:F_yd l_ R w):C_Zb l_ w R:=by
 unfold F_yd at h
 refine Yh Tryz.func73 ?_
 ·refine Yp P1 [0] (Ys (Yp P3 [6,7,8] (Yd 0 ?_)))
  obtain⟨I,μ,h0,hr⟩:=h
  refine znb (fun m l w=>∃(t8:Int),l=[(6,sv_ l_),(7,Vi ((l_.len:Nat):Int)),(8,Vi t8)]∧I t8 w∧μ t8 w=m) ⟨0,rfl,h0,rfl⟩ ?_
  rintro _ _ w1 ⟨t8,rfl,hI,rfl⟩
  obtain⟨again_,again__h,h⟩:∃ again_:Int→WP,(∀ t8' w',again_ t8' w'→I t8' w'∧μ t8' w'<μ t8 w1)∧F_zc l_ R again_ t8 w1:=⟨_,fun _ _ h=>h,hr t8 w1 hI⟩
  clear h0 hI
  unfold F_zc at h
  refine Yp P1 [6,7,8,9] (Ys ?_)
  refine Yc h (fun h=> ?_) fun h=> ?_
  ·refine zk (Ys (Yd 1 (Yt (Yn P1 ?_))))
   obtain⟨hp_7,h⟩:=h
   refine Yu 6 (fun pp=> .slice pp l_.len l_.cap) hp_7 ?_
   refine Yi h fun h=> ?_
   refine YL h fun v12 h=> ?_
   refine Yw pv_ h fun b_ w2 h=> ?_
   refine Yn P1 ?_
   refine Yo h fun w3 h=> ?_
   refine Yu 6 (fun pp=> .slice pp l_.len l_.cap) hp_7.symm ?_
   refine Yf [] [3,4,6,7,8] (Ys (Yt ?_))
   refine YL h fun v13 h=> ?_
   refine Ym1 h fun v14 w4 h=> ?_
   refine Yf P1 [3,4,5,6,7,8] (Yp P2 [3,4,5,6,7,8,16] ?_)
   refine Yc h (fun h=> ?_) fun h=> ?_
   ·refine Yp P2 [2] ?_
    exact YS ⟨v14,rfl,h⟩
   ·refine zk (Yt (Yn P1 ?_))
    refine Yl h fun v19 h=> ?_
    refine Yf P3 [6,7,8,22] ?_
    refine Yc h (fun h=> ?_) fun h=> ?_
    ·refine Yp P1 [2] ?_
     exact YS ⟨6,rfl,h⟩
    ·refine zk (Yr (Yf P2 [6,7,8] ?_))
     have hb_:=again__h _ _ h
     exact⟨_,hb_.2,_,Sub.mk K_,(IntKind.i64.wrap (t8+1)),rfl,hb_.1,rfl⟩
  ·refine z3 0 (Yp P1 [2] ?_)
   exact YS ⟨0,rfl,h⟩
end
end Go.Proofs.YtofjmclceflgiaaGreat
