/- WRITTEN BY PROGRAM (dec.py): for each Go function the clean formula F, the call's contract C, and the proof S that F gives C. -/
import Derived.Test.YtofjmclceflgiaaGreatRows
import Derived.Test.YtofjmclceflgiaaGreatGF
namespace Go.Proofs.YtofjmclceflgiaaGreat
open Go
set_option linter.unusedVariables false
set_option maxRecDepth 100000
set_option maxHeartbeats 4000000
noncomputable section

/-! ### (*towpath/shard.Shard).All (function 51) -/

theorem S_fb {s:OA} {w:World} {R:Slc→WP} (h:F_Ic s R w):C_kb s w R:=by
 unfold F_Ic at h
 refine Yh Tryz.func51 ?_
 ·refine Yp P1 [0] (Ys (Yt (Yn P1 ?_)))
  refine Ym1 h fun v4 w1 h=> ?_
  refine Yf [] [0,4] ?_
  refine Yc h (fun h=> ?_) fun h=> ?_
  ·refine Yp P1 [2] ?_
   exact YS ⟨(Slc.mk none 0 0),rfl,h⟩
  ·refine zk (Yt (Yn P2 ?_))
   refine Yv 6 h fun hp_0 h=> ?_
   refine Yn P1 (Yn P2 ?_)
   refine Ym1 h fun v10 w2 h=> ?_
   refine Yf P1 [2] ?_
   exact YS ⟨v10,rfl,h⟩

/-! ### towpath/shard.Load (function 64) -/
def zcw:=cb_ Tryz.f64
def zdw:=cr_ zcw
def zew:=cr_ zdw
def zfw:=cl_ zew
def zJt:=cr_ zfw
def zKt:=cl_ zJt
def zLt:=cl_ zKt
def zMt:=cr_ zLt
def zNt:=cr_ zMt
def zOt:=cl_ zNt
def zPt:=cl_ zOt
def zAn:=cr_ zPt
def zQt:=cl_ zAn
def zRt:=cl_ zQt
def zSt:=co_ zRt
def zTt:=cr_ zAn
def zUt:=co_ zTt
def zjf:List Nat:=[0,1,2,3,4,5,6,7,8,9,10,11,12,13,14,15,16,17,18,19,20,21,22,23,24,25,26,27,28,29,30]
def zkf:List Nat:=[0,1,2,3,4,5,6,7,8,9,10]

theorem S_Sb {l_:Slc} {w:World} {R:OA→Int→WP} (h:F_xd l_ R w):C_Fb l_ w R:=by
 unfold F_xd at h
 refine Yh Tryz.func64 ?_
 ·refine Yp P2 [0] (Yt ?_)
  refine Ym1 h fun v7 w1 h=> ?_
  refine Yf P1 [0,4] (Ys (Yp P3 [0,4,8,9,10] (Yd 0 ?_)))
  obtain⟨I,μ,h0,hr⟩:=h
  refine znb (fun m l w=>∃(t10:Int),l=[(0,sv_ l_),(4,Vp v7),(8,sv_ l_),(9,Vi ((l_.len:Nat):Int)),(10,Vi t10)]∧I t10 w∧μ t10 w=m) ⟨0,rfl,h0,rfl⟩ ?_
  rintro _ _ w2 ⟨t10,rfl,hI,rfl⟩
  obtain⟨again_,again__h,h⟩:∃ again_:Int→WP,(∀ t10' w',again_ t10' w'→I t10' w'∧μ t10' w'<μ t10 w2)∧F_yc l_ R v7 again_ t10 w2:=⟨_,fun _ _ h=>h,hr t10 w2 hI⟩
  clear h0 hI
  unfold F_yc at h
  refine Yp P1 [0,4,8,9,10,11] (Ys ?_)
  refine Yc h (fun h=> ?_) fun h=> ?_
  ·refine zk (Ys (Yd 1 (Yt (Yn P1 ?_))))
   obtain⟨hp_22,h⟩:=h
   refine Yu 8 (fun pp=> .slice pp l_.len l_.cap) hp_22 ?_
   refine Yi h fun h=> ?_
   refine YL h fun v14 h=> ?_
   refine Yw pv_ h fun b_ w3 h=> ?_
   refine Yn P1 ?_
   refine Yo h fun w4 h=> ?_
   refine Yu 8 (fun pp=> .slice pp l_.len l_.cap) hp_22.symm ?_
   refine Yf [] [0,4,5,6,8,9,10] (Ys ?_)
   refine Ycut (fun l w=>∃(t45:Bool),l=[(0,sv_ l_),(4,Vp v7),(6,pv_ b_),(8,sv_ l_),(9,Vi ((l_.len:Nat):Int)),(10,Vi t10),(45,Vo t45)]∧F_N R v7 t10 again_ b_ t45 w) ?_ ?_
   ·refine zm (id:=5) (ops:=zSt) zjf K_ K_ K_ K_ (fun w9 hw=> ?_)
    replace h:=h w9 hw
    clear hw
    refine Mn P1 ?_
    refine Ml 1 h fun v16 hc h=> ?_
    refine zt (op:=(Op.call (Call.mk (Callee.value (Operand.func 100)) #[(Operand.tmp 16)] #[9]))) (ty:=4) (dst:=some 17) 2 [1,0] [] 100 #[Value.string v16] K_ K_ K_ K_ K_ (fun ww=>by kernel_rfl) (Calls.mono h ?_)
    rintro _ w10 ⟨v17,rfl,h⟩
    refine⟨_,rfl,trivial,?_⟩
    refine Mn (Pl 8) ?_
    refine Mspl 19 h (fun h=> ?_) fun h=> ?_
    ·refine Mf [.skip,.skip,.skip,.skip,.skip,.skip,.skip,.plain,.plain,.skip,.skip,.skip,.skip,.plain,.plain,.skip,.skip,.skip,.skip,.plain] [0,4,6,8,9,10,45] ?_
     exact⟨_,Sub.mk K_,true,rfl,h⟩
    ·refine Mspl 22 h (fun h=> ?_) fun h=> ?_
     ·obtain⟨hp_27,h⟩:=h
      refine Mu 23 (fun pp=> .slice pp l_.len l_.cap) hp_27 ?_
      refine Mi 11 h fun h=> ?_
      refine Mn [.sure] ?_
      refine Ml 13 h fun v28 hc h=> ?_
      refine Mn [.sure] ?_
      refine Ml 15 h fun v30 hc h=> ?_
      refine Mn [.sure,.sure,.plain,.plain,.plain] ?_
      refine Mspl 34 h (fun h=> ?_) fun h=> ?_
      ·refine Mf [.skip,.skip,.skip,.plain,.plain,.skip,.skip,.skip,.skip,.plain] [0,4,6,8,9,10,45] ?_
       exact⟨_,Sub.mk K_,true,rfl,h⟩
      ·refine Ml 21 h fun v36 hc h=> ?_
       refine Mn [.sure,.sure,.plain,.plain,.plain] ?_
       refine Mspl 40 h (fun h=> ?_) fun h=> ?_
       ·refine Mf [.skip,.skip,.skip,.plain] [0,4,6,8,9,10,45] ?_
        exact⟨_,Sub.mk K_,true,rfl,h⟩
       ·refine Ml 27 h fun v42 hc h=> ?_
        refine zt (op:=(Op.call (Call.mk (Callee.value (Operand.func 101)) #[(Operand.tmp 42)] #[87]))) (ty:=36) (dst:=some 43) 28 [25,27,19,24,26,7,18,23,4,6,17,22,2,3,5,16,21,1,13,15,20,0,12,14,11,8,10,9] [] 101 #[sv_ v42] K_ K_ K_ K_ K_ (fun ww=>by kernel_rfl) (Calls.mono h ?_)
        rintro _ w11 ⟨v43,rfl,h⟩
        refine⟨_,rfl,trivial,?_⟩
        refine Mf [.sure,.plain] [0,4,6,8,9,10,45] ?_
        exact⟨_,Sub.mk K_,(v43 != 0),rfl,h⟩
     ·refine Mn [.skip,.skip,.skip,.skip,.skip,.skip,.sure,.plain,.plain,.sure] ?_
      refine Ml 21 h fun v361 hc h=> ?_
      refine Mn [.sure,.sure,.plain,.plain,.plain] ?_
      refine Mspl 40 h (fun h=> ?_) fun h=> ?_
      ·refine Mf [.skip,.skip,.skip,.plain] [0,4,6,8,9,10,45] ?_
       exact⟨_,Sub.mk K_,true,rfl,h⟩
      ·refine Ml 27 h fun v421 hc h=> ?_
       refine zt (op:=(Op.call (Call.mk (Callee.value (Operand.func 101)) #[(Operand.tmp 42)] #[87]))) (ty:=36) (dst:=some 43) 28 [25,27,19,24,26,7,18,23,4,6,17,22,2,3,5,16,21,1,13,15,20,0,12,14,11,8,10,9] [] 101 #[sv_ v421] K_ K_ K_ K_ K_ (fun ww=>by kernel_rfl) (Calls.mono h ?_)
       rintro _ w12 ⟨v431,rfl,h⟩
       refine⟨_,rfl,trivial,?_⟩
       refine Mf [.sure,.plain] [0,4,6,8,9,10,45] ?_
       exact⟨_,Sub.mk K_,(v431 != 0),rfl,h⟩
   ·rintro _ w5 ⟨t45,rfl,h⟩
    unfold F_N at h
    refine Yc h (fun h=> ?_) fun h=> ?_
    ·refine Yp P2 [2,3] ?_
     exact YT2 ⟨none,1,rfl,h⟩
    ·refine zk ?_
     refine zm (id:=7) (ops:=zUt) zkf K_ K_ K_ K_ (fun w6 hw=> ?_)
     replace h:=h w6 hw
     clear hw
     refine Mn P1 ?_
     refine Mv 46 h fun hp_26 h=> ?_
     refine Mn P1 ?_
     refine Mn P2 ?_
     refine Ml 4 h fun v50 hc h=> ?_
     refine Mn P1 ?_
     refine Ml 6 h fun v52 hc h=> ?_
     refine Mn P1 ?_
     refine Ml 8 h fun v54 hc h=> ?_
     refine zt (op:=(Op.call (Call.mk (Callee.value (Operand.func 63)) #[(Operand.tmp 54)] #[87]))) (ty:=87) (dst:=some 55) 9 [8,7] [(6,fun w'=>w'.cell? ⟨b_,0,none⟩=some (Value.string v52)),(4,fun w'=>w'.cell? ⟨(pblk v7),(poff v7),none⟩=some (Value.map v50))] 63 #[sv_ v54] K_ K_ K_ K_ K_ (fun ww=>by kernel_rfl) (Calls.mono h ?_)
     rintro _ w7 ⟨v55,rfl,h⟩
     obtain⟨hk0,hk1,h⟩:=h
     refine⟨_,rfl,⟨hk0,hk1,trivial⟩,?_⟩
     obtain⟨r,es,c,hr_,hm_,hi_,hn_,hk_,h⟩:=h
     refine zif (t:=220) (kt:=9) (et:=87) (x:=(Operand.tmp 50)) (k:=(Operand.tmp 52)) (v:=(Operand.tmp 55)) (m:=v50) (es:=es) (kv:=(Value.string v52)) (vv:=(sv_ v55)) (ty:=0) (dst:=none) 10 [0,1,2,3,4,5,6,7,8,9] [] r c (keyS K_) K_ K_ K_ K_ K_ K_ hr_ K_ K_ K_ hm_ hi_ hn_ hk_ (fun es1 c1 w8 hs_ hw=> ?_)
     replace h:=h es1 c1 w8 hs_ hw
     clear hw hs_
     refine⟨trivial,?_⟩
     refine Mf [] [0,4,8,9,10] ?_
     refine Yr (Yf P2 [0,4,8,9,10] ?_)
     have hb_:=again__h _ _ h
     exact⟨_,hb_.2,_,Sub.mk K_,(IntKind.i64.wrap (t10+1)),rfl,hb_.1,rfl⟩
  ·refine z3 0 (Yp P3 [2,3] ?_)
   exact YT2 ⟨v7,0,rfl,h⟩

/-! ### (*towpath/shard.Shard).gone (function 77) -/

theorem S_2 {s:OA} {w:World} {R:Bool→WP} (h:F_Bc s R w):C_B s w R:=by
 unfold F_Bc at h
 refine Yh Tryz.func77 ?_
 ·refine Yp P1 [0] (Yt (Yn P1 ?_))
  refine zw (op:=(Op.binOp BinOp.eql 168 (Operand.tmp 3) (Operand.const (Vp none)) 168)) (ty:=4) (dst:=some 4) (Vo s.isNone) K_ (fun ww=>zy (p:=s) K_ K_ K_ ww) ?_
  refine Yn P2 ?_
  refine Yspl 5 h (fun h=> ?_) fun h=> ?_
  ·refine Yf [.skip,.skip,.skip,.skip,.skip,.plain,.plain] [2] ?_
   exact YS ⟨true,rfl,h⟩
  ·refine Yv 6 h fun hp_0 h=> ?_
   refine Yn [.sure] (Yn [.sure,.sure] ?_)
   refine Yl h fun v10 h=> ?_
   refine zw (op:=(Op.binOp BinOp.eql 220 (Operand.tmp 10) (Operand.const (Value.map none)) 220)) (ty:=4) (dst:=some 11) (Vo v10.isNone) K_ (fun ww=>zSd (p:=v10) K_ K_ K_ ww) ?_
   refine Yf P2 [2] ?_
   exact YS ⟨v10.isNone,rfl,h⟩

/-! ### (*towpath/shard.Shard).helds (function 78) -/

theorem S_V {s:OA} {pick:Value} {w:World} {R:Slc→WP} (h:F_pc s pick R w):C_Lb s pick w R:=by
 unfold F_pc at h
 refine Yh Tryz.func78 ?_
 ·refine Yp P1 [0,1] (Ys (Yt (Yn P1 ?_)))
  refine Ym1 h fun v10 w1 h=> ?_
  refine Yf [] [0,1,10] ?_
  refine Yc h (fun h=> ?_) fun h=> ?_
  ·refine Yp P1 [4] ?_
   exact YS ⟨(Slc.mk none 0 0),rfl,h⟩
  ·refine zk (Yp P1 [0,1,5] (Ys (Yt (Yn P1 ?_))))
   refine Yv 11 h fun hp_7 h=> ?_
   refine Yn P1 (Yn P1 ?_)
   refine Ym1 h fun v14 w2 h=> ?_
   refine Yf P2 [1,5,14,15,16] (Yd 0 ?_)
   obtain⟨I,μ,h0,hr⟩:=h
   refine znb (fun m l w=>∃(out:Slc) (t16:Int),l=[(1,pick),(5,sv_ out),(14,sv_ v14),(15,Vi ((v14.len:Nat):Int)),(16,Vi t16)]∧I out t16 w∧μ out t16 w=m) ⟨(Slc.mk none 0 0),0,rfl,h0,rfl⟩ ?_
   rintro _ _ w3 ⟨out,t16,rfl,hI,rfl⟩
   obtain⟨again_,again__h,h⟩:∃ again_:Slc→Int→WP,(∀ out' t16' w',again_ out' t16' w'→I out' t16' w'∧μ out' t16' w'<μ out t16 w3)∧F_kb pick R v14 again_ out t16 w3:=⟨_,fun _ _ _ h=>h,hr out t16 w3 hI⟩
   clear h0 hI
   unfold F_kb at h
   refine Yp P1 [1,5,14,15,16,17] (Ys ?_)
   refine Yc h (fun h=> ?_) fun h=> ?_
   ·refine zk ?_
    refine Ycut (fun l w=>∃(out1:Slc),l=[(1,pick),(5,sv_ out1),(14,sv_ v14),(15,Vi ((v14.len:Nat):Int)),(16,Vi t16)]∧F_T t16 again_ out1 w) ?_ ?_
    ·refine Yd 1 (Yt ?_)
     obtain⟨hp_11,h⟩:=h
     refine Yu 14 (fun pp=> .slice pp v14.len v14.cap) hp_11 ?_
     refine Yi1 h fun h=> ?_
     refine Yl h fun k_ h=> ?_
     refine Yn P1 (Yu 14 (fun pp=> .slice pp v14.len v14.cap) hp_11.symm ?_)
     refine Yf [] [1,5,7,14,15,16] (Yt (Yn P2 ?_))
     refine zed (fo:=(Operand.tmp 20)) (aa:=#[(Operand.tmp 21)]) (ts:=#[9]) (fv:=pick) (ty:=87) (dst:=some 22) #[Value.string k_] K_ K_ K_ (zbb.mono h ?_)
     rintro _ w5 ⟨v22,rfl,h⟩
     refine⟨_,rfl,?_⟩
     refine Yf P1 [1,5,7,8,14,15,16] (Yp P3 [1,5,7,8,14,15,16,25] ?_)
     refine Yc h (fun h=> ?_) fun h=> ?_
     ·refine Yr (Yn P4 ?_)
      refine Yw (sl_ 1 1) h fun b_ w6 h=> ?_
      obtain⟨src,hs,h⟩:=h
      refine zC (t:=57) (tx:=57) (e:=89) (a:=(Operand.tmp 26)) (xo:=(Operand.tmp 30)) (s:=out) (x:=(Slc.mk (some ⟨b_,0,none⟩) 1 1)) (sz:=2) (by_:=40) (zs:=[Value.string ByteArray.empty,Value.slice none 0 0]) (ty:=57) (dst:=some 31)  src K_ K_ K_ K_ K_ K_ K_ K_ K_ hs (zo.mono h (fun out2 w7 h=> ?_))
      refine Yf P1 [1,5,14,15,16] ?_
      exact⟨_,Sub.mk K_,out2,rfl,h⟩
     ·refine zk ?_
      exact⟨_,Sub.mk K_,out,rfl,h⟩
    ·rintro _ w4 ⟨out1,rfl,h⟩
     unfold F_T at h
     refine Yr (Yf P2 [1,5,14,15,16] ?_)
     have hb_:=again__h _ _ _ h
     exact⟨_,hb_.2,_,Sub.mk K_,out1,(IntKind.i64.wrap (t16+1)),rfl,hb_.1,rfl⟩
   ·refine z3 0 (Yp P2 [4] ?_)
    exact YS ⟨out,rfl,h⟩

/-! ### (*towpath/shard.keys).versions (function 79) -/
def zKq:=cb_ Tryz.f79
def zVt:=cl_ zKq
def zgw:=co_ zVt
def zcn:=cr_ zKq
def zWt:=cl_ zcn
def zhw:=co_ zWt
def zXt:=cr_ zcn

theorem S_I {k_:OA} {key:ByteArray} {w:World} {R:Slc→WP} (h:F_0b k_ key R w):C_E k_ key w R:=by
 unfold F_0b at h
 unfold C_E
 refine Calls.mono (z4 (args:=[Vp k_,Value.string key]) (R:=fun v w'=>∃(r0:Slc),v=sv_ r0∧R r0 w') Tryz.func79 (c:=zKq) K_ 12 K_ K_ [(0,Vp k_),(1,Value.string key)] K_ ?_) ?_
 ·refine zf (x:=zVt) (y:=zcn) K_ ?_
  refine ze (id:=0) (ops:=zgw) K_ ?_
  refine zd [.plain] 1 [(0,[],Vp k_),(1,[],Value.string key)] K_ K_ ?_
  refine zj [(0,Vp k_),(1,Value.string key)] K_ K_ ?_
  change WpE _ _ zcn _ _ _
  refine zf (x:=zWt) (y:=zXt) K_ ?_
  refine ze (id:=1) (ops:=zhw) K_ ?_
  refine zd [.plain] 1 [(1,[],Value.string key),(5,[],Vp k_)] K_ K_ ?_
  obtain⟨hp_0,h⟩:=h
  refine zH [(1,[],Value.string key),(5,[],Vp (some ⟨(pblk k_),(poff k_),none⟩))] (congrArg (fun pp=>([(1,[],Value.string key),(5,[],Vp pp)]:GEnv)) hp_0) ?_
  refine zd [.plain] 2 [(1,[],Value.string key),(5,[],Vp (some ⟨(pblk k_),(poff k_),none⟩)),(6,[],Vp (some ⟨(pblk k_),(poff k_),none⟩))] K_ K_ ?_
  refine zd [.plain] 3 [(1,[],Value.string key),(7,[],Vp (some ⟨(pblk k_),(poff k_),none⟩))] K_ K_ ?_
  obtain⟨v8,hc,h⟩:=h
  refine zB (t:=220) (a:=(Operand.tmp 7)) (b:=(pblk k_)) (o:=(poff k_)) (ty:=220) (dst:=some 8) K_ K_ K_ hc ?_
  refine zd [.plain] 5 [(8,[],Value.map v8),(9,[],Value.string key)] K_ K_ ?_
  obtain⟨es,v10,ok,hm_,hi_,hn_,hk_,hl_,h⟩:=h
  refine zne (t:=220) (kt:=9) (et:=87) (x:=(Operand.tmp 8)) (k:=(Operand.tmp 9)) (m:=v8) (es:=es) (kv:=(Value.string key)) (z:=(Value.slice none 0 0)) (u:=(sv_ v10)) (b:=ok) (ty:=87) (dst:=some 10) (keyS K_) K_ K_ K_ K_ (fun w_=>by kernel_rfl) hm_ hi_ hn_ hk_ hl_ ?_
  refine zd [] 6 [(10,[],sv_ v10)] K_ K_ ?_
  refine zW (op:=(Op.call (Call.mk (Callee.value (Operand.func 63)) #[(Operand.tmp 10)] #[87]))) (ty:=87) (dst:=some 11) 63 #[sv_ v10] K_ (fun ww=>by kernel_rfl) (Calls.mono h ?_)
  rintro _ w1 ⟨v11,rfl,h⟩
  refine⟨_,rfl,?_⟩
  refine zd [.plain] 8 [(4,[],sv_ v11)] K_ K_ ?_
  refine zj [(4,sv_ v11)] K_ K_ ?_
  change WpE _ _ zXt _ _ _
  refine z2 K_ ?_
  repeat (first | refine zM ?_ | refine zA ?_ | refine zF ?_ | refine zN ?_)
  exact retS (rs:=[(ResultVar.tmp 4)]) (v:=sv_ v11) K_ (⟨K_,trivial⟩) ⟨v11,rfl,h⟩
 ·rintro e w' ⟨v,rfl,r0,rfl,h⟩; exact⟨r0,rfl,h⟩

/-! ### towpath/shard.New (function 99) -/

theorem S_Yb {w:World} {R:OA→WP} (h:F_Ed R w):C_6b w R:=by
 unfold F_Ed at h
 refine Yh Tryz.func99 ?_
 ·refine Yp P1 [] (Yt ?_)
  refine Yw (fun bb=>Value.map (some bb)) h fun b_ w1 h=> ?_
  refine Yn P2 ?_
  refine Yw pv_ h fun b_1 w2 h=> ?_
  refine Yf P1 [0] ?_
  exact YS ⟨(some ⟨b_1,0,none⟩),rfl,h⟩

/-! ### towpath/shard.may (function 100) -/

theorem S_Zb {key:ByteArray} {w:World} {R:Bool→WP} (h:F_Fd key R w):C_Ob key w R:=by
 unfold F_Fd at h
 refine Yh Tryz.func100 ?_
 ·refine Yp P1 [0] (Yp [.plain,.plain,.plain,.plain,.plain,.plain,.pick,.plain] [2] ?_)
  exact YS ⟨((!(key.toList==ByteArray.empty.toList))&&(decide (((key.size:Nat):Int)≤64))),rfl,h⟩

/-! ### (*towpath/shard.keys).rising (function 107) -/

theorem S_W {k_:OA} {w:World} {R:Slc→WP} (h:F_qc k_ R w):C_Mb k_ w R:=by
 unfold F_qc at h
 refine Yh Tryz.func107 ?_
 ·refine Yp P1 [0] (Yt (Yn P1 ?_))
  refine Yv 3 h fun hp_0 h=> ?_
  refine Yn P1 (Yn P1 ?_)
  refine Yl h fun v6 h=> ?_
  refine Ym1 h fun v7 w1 h=> ?_
  refine Ym1 h fun v8 w2 h=> ?_
  refine Yf P1 [2] ?_
  exact YS ⟨v8,rfl,h⟩

/-! ### (*towpath/shard.Shard).Install (function 249) -/
def zMl:=cb_ Tryz.f249
def zBn:=cl_ zMl
def zYt:=co_ zBn
def zrj:=cr_ zMl
def zCn:=cl_ zrj
def zNl:=cl_ zCn
def zDn:=cl_ zNl
def zZt:=co_ zDn
def zsj:=cr_ zNl
def zOl:=cl_ zsj
def zPl:=cl_ zOl
def zLq:=co_ zPl
def zQl:=cr_ zOl
def zNi:=cr_ zsj
def zRl:=cl_ zNi
def zMq:=co_ zRl
def zVg:=cr_ zNi
def zOi:=cl_ zVg
def zSl:=cl_ zOi
def zNq:=co_ zSl
def zTl:=cr_ zOi
def zOq:=cr_ zVg
def zWg:=cr_ zrj
def zUl:=cl_ zWg
def zPq:=co_ zUl
def zXg:=cr_ zWg
def zPi:=cl_ zXg
def zVl:=cl_ zPi
def zQq:=co_ zVl
def zYg:=cr_ zPi
def zWl:=cl_ zYg
def zRq:=co_ zWl
def zSq:=cr_ zYg
def zQi:=cr_ zXg
def zXl:=cl_ zQi
def zTq:=co_ zXl
def zYl:=cr_ zQi
def zwc:List Nat:=[0,1,2,3,4,5,6,7,8,9,10,11,12,13,14,15,16,17,18,19,20,21]

theorem S_J {s:OA} {number:Int} {w_:T_d} {w:World} {R:Bool→Int→WP} (h:F_4b s number w_ R w):C_F s number w_ w R:=by
 unfold F_4b at h
 unfold C_F
 refine Calls.mono (z4 (args:=[Vp s,Vi number,Value.agg #[Value.string w_.Key,Value.string w_.Val,Vo w_.Drop]]) (R:=fun v w'=>∃(r0:Bool) (r1:Int),v=Value.tuple #[Vo r0,Vi r1]∧R r0 r1 w') Tryz.func249 (c:=zMl) K_ 50 K_ K_ [(0,Vp s),(1,Vi number),(2,Value.agg #[Value.string w_.Key,Value.string w_.Val,Vo w_.Drop])] K_ ?_) ?_
 ·refine zf (x:=zBn) (y:=zrj) K_ ?_
  refine ze (id:=0) (ops:=zYt) K_ ?_
  refine zd [] 0 [(0,[],Vp s),(1,[],Vi number),(2,[],Value.agg #[Value.string w_.Key,Value.string w_.Val,Vo w_.Drop])] K_ K_ ?_
  refine zQb (op:=(Op.box 69 (Operand.tmp 2))) (ty:=0) (dst:=some 5) (fun bb=>pv_ bb) (Obj.cells ([Value.string w_.Key,Value.string w_.Val,Vo w_.Drop]).toArray y_b (0,0)) K_ K_ (fun b_ w1 hb hw=> ?_)
  replace h:=h b_ w1 hb hw
  clear hb hw
  refine zd [.plain,.plain] 3 [(0,[],Vp s),(1,[],Vi number),(5,[],pv_ b_)] K_ K_ ?_
  refine zj [(0,Vp s),(1,Vi number),(5,pv_ b_)] K_ K_ ?_
  change WpE _ _ zrj _ _ _
  refine zf (x:=zCn) (y:=zWg) K_ ?_
  refine zQ (id:=0) (x:=zNl) K_ ?_
  refine zf (x:=zDn) (y:=zsj) K_ ?_
  refine ze (id:=1) (ops:=zZt) K_ ?_
  refine zd [.plain] 1 [(0,[],Vp s),(1,[],Vi number),(5,[],pv_ b_),(12,[],Vp s)] K_ K_ ?_
  refine zW (op:=(Op.call (Call.mk (Callee.value (Operand.func 77)) #[(Operand.tmp 12)] #[168]))) (ty:=4) (dst:=some 13) 77 #[Vp s] K_ (fun ww=>by kernel_rfl) (Calls.mono h ?_)
  rintro _ w2 ⟨v13,rfl,h⟩
  refine⟨_,rfl,?_⟩
  refine zd [.plain] 3 [(0,[],Vp s),(1,[],Vi number),(5,[],pv_ b_),(11,[],Vo v13)] K_ K_ ?_
  refine zj [(0,Vp s),(1,Vi number),(5,pv_ b_),(11,Vo v13)] K_ K_ ?_
  change WpE _ _ zsj _ _ _
  refine zG (o:=(Operand.tmp 11)) (b:=v13) (x:=zOl) (y:=zNi) K_ K_ (fun hb=> ?_) (fun hb=> ?_)
  ·replace h:=h.1 hb
   refine zf (x:=zPl) (y:=zQl) K_ ?_
   refine ze (id:=2) (ops:=zLq) K_ ?_
   refine zd [.plain,.plain] 2 [(6,[],Vo false),(7,[],Vi 2)] K_ K_ ?_
   refine zj [(6,Vo false),(7,Vi 2)] K_ K_ ?_
   change WpE _ _ zQl _ _ _
   refine z2 K_ ?_
   repeat (first | refine zM ?_ | refine zA ?_ | refine zF ?_ | refine zN ?_)
   exact retT (rs:=[(ResultVar.tmp 6),(ResultVar.tmp 7)]) (vs:=[Vo false,Vi 2]) K_ (⟨K_,⟨K_,trivial⟩⟩) K_ ⟨false,2,rfl,h⟩
  ·replace h:=h.2 hb
   refine zf (x:=zRl) (y:=zVg) K_ ?_
   refine ze (id:=3) (ops:=zMq) K_ ?_
   refine zd [.plain] 1 [(0,[],Vp s),(1,[],Vi number),(5,[],pv_ b_),(15,[],pv_ b_)] K_ K_ ?_
   obtain⟨v16,hc,h⟩:=h
   refine zB (t:=9) (a:=(Operand.tmp 15)) (b:=b_) (o:=0) (ty:=9) (dst:=some 16) K_ K_ K_ hc ?_
   refine zd [] 2 [(0,[],Vp s),(1,[],Vi number),(5,[],pv_ b_),(16,[],Value.string v16)] K_ K_ ?_
   refine zW (op:=(Op.call (Call.mk (Callee.value (Operand.func 100)) #[(Operand.tmp 16)] #[9]))) (ty:=4) (dst:=some 17) 100 #[Value.string v16] K_ (fun ww=>by kernel_rfl) (Calls.mono h ?_)
   rintro _ w3 ⟨v17,rfl,h⟩
   refine⟨_,rfl,?_⟩
   refine zd [.plain,.plain] 5 [(0,[],Vp s),(1,[],Vi number),(5,[],pv_ b_),(14,[],Vo (!v17))] K_ K_ ?_
   refine zj [(0,Vp s),(1,Vi number),(5,pv_ b_),(14,Vo (!v17))] K_ K_ ?_
   change WpE _ _ zVg _ _ _
   refine zG (o:=(Operand.tmp 14)) (b:=(!v17)) (x:=zOi) (y:=zOq) K_ K_ (fun hb=> ?_) (fun hb=> ?_)
   ·replace h:=h.1 hb
    refine zf (x:=zSl) (y:=zTl) K_ ?_
    refine ze (id:=4) (ops:=zNq) K_ ?_
    refine zd [.plain,.plain] 2 [(6,[],Vo false),(7,[],Vi 1)] K_ K_ ?_
    refine zj [(6,Vo false),(7,Vi 1)] K_ K_ ?_
    change WpE _ _ zTl _ _ _
    refine z2 K_ ?_
    repeat (first | refine zM ?_ | refine zA ?_ | refine zF ?_ | refine zN ?_)
    exact retT (rs:=[(ResultVar.tmp 6),(ResultVar.tmp 7)]) (vs:=[Vo false,Vi 1]) K_ (⟨K_,⟨K_,trivial⟩⟩) K_ ⟨false,1,rfl,h⟩
   ·replace h:=h.2 hb
    refine zS K_ ?_
    change WpE _ _ zWg _ _ _
    refine zf (x:=zUl) (y:=zXg) K_ ?_
    refine zm (id:=5) (ops:=zPq) zwc K_ K_ K_ K_ (fun w4 hw=> ?_)
    replace h:=h w4 hw
    clear hw
    refine zp [.plain] 1 [(0,[],Vp s),(1,[],Vi number),(5,[],pv_ b_),(20,[],Vp s)] K_ K_ ?_
    obtain⟨hp_1,h⟩:=h
    refine zPb [(0,[],Vp s),(1,[],Vi number),(5,[],pv_ b_),(20,[],Vp (some ⟨(pblk s),(poff s),none⟩))] (congrArg (fun pp=>([(0,[],Vp s),(1,[],Vi number),(5,[],pv_ b_),(20,[],Vp pp)]:GEnv)) hp_1) ?_
    refine zp [.plain] 2 [(0,[],Vp s),(1,[],Vi number),(5,[],pv_ b_),(20,[],Vp (some ⟨(pblk s),(poff s),none⟩)),(21,[],Vp (some ⟨(pblk s),(poff s),none⟩))] K_ K_ ?_
    refine zp [.plain,.plain] 4 [(0,[],Vp s),(1,[],Vi number),(5,[],pv_ b_),(23,[],Vp (some ⟨(pblk s),(poff s),none⟩))] K_ K_ ?_
    obtain⟨v24,hc,h⟩:=h
    refine zU (i:=4) K_ (t:=220) (a:=(Operand.tmp 23)) (b:=(pblk s)) (o:=(poff s)) (ty:=220) (dst:=some 24) K_ K_ K_ hc ?_
    refine zp [.plain] 6 [(0,[],Vp s),(1,[],Vi number),(5,[],pv_ b_),(24,[],Value.map v24),(25,[],pv_ b_)] K_ K_ ?_
    obtain⟨v26,hc,h⟩:=h
    refine zU (i:=6) K_ (t:=9) (a:=(Operand.tmp 25)) (b:=b_) (o:=0) (ty:=9) (dst:=some 26) K_ K_ K_ hc ?_
    refine zp [] 7 [(0,[],Vp s),(1,[],Vi number),(5,[],pv_ b_),(24,[],Value.map v24),(26,[],Value.string v26)] K_ K_ ?_
    obtain⟨es,v27,ok,hm_,hi_,hn_,hk_,hl_,h⟩:=h
    refine zMc (i:=7) K_ (t:=220) (kt:=9) (et:=87) (x:=(Operand.tmp 24)) (k:=(Operand.tmp 26)) (m:=v24) (es:=es) (kv:=(Value.string v26)) (z:=(Value.slice none 0 0)) (u:=(sv_ v27)) (b:=ok) (ty:=87) (dst:=some 27) (keyS K_) K_ K_ K_ K_ (fun w_=>by kernel_rfl) hm_ hi_ hn_ hk_ hl_ ?_
    refine zp [.plain,.plain] 10 [(0,[],Vp s),(5,[],pv_ b_),(27,[],sv_ v27),(28,[],Vi number),(29,[],Vp (some ⟨b_,1,none⟩))] K_ K_ ?_
    obtain⟨v30,hc,h⟩:=h
    refine zU (i:=10) K_ (t:=9) (a:=(Operand.tmp 29)) (b:=b_) (o:=1) (ty:=9) (dst:=some 30) K_ K_ K_ hc ?_
    refine zp [.plain] 12 [(0,[],Vp s),(5,[],pv_ b_),(27,[],sv_ v27),(28,[],Vi number),(30,[],Value.string v30),(31,[],Vp (some ⟨b_,2,none⟩))] K_ K_ ?_
    obtain⟨v32,hc,h⟩:=h
    refine zU (i:=12) K_ (t:=4) (a:=(Operand.tmp 31)) (b:=b_) (o:=2) (ty:=4) (dst:=some 32) K_ K_ K_ hc ?_
    refine zp [.plain] 14 [(0,[],Vp s),(5,[],pv_ b_),(27,[],sv_ v27),(33,[],Value.agg #[Vi number,Value.string v30,Vo v32])] K_ K_ ?_
    refine zt (op:=(Op.call (Call.mk (Callee.value (Operand.func 264)) #[(Operand.tmp 27),(Operand.tmp 33)] #[87,92]))) (ty:=374) (dst:=some 34) 14 [7,13,4,6,8,10,12,3,5,9,11,2,1,0] [] 264 #[sv_ v27,Value.agg #[Vi number,Value.string v30,Vo v32]] K_ K_ K_ K_ K_ (fun ww=>by kernel_rfl) (Calls.mono h ?_)
    rintro _ w5 ⟨l_,ok1,e,rfl,h⟩
    refine⟨_,rfl,trivial,?_⟩
    refine zp [.plain,.plain,.plain,.plain,.plain,.plain,.plain] 22 [(0,[],Vp s),(5,[],pv_ b_),(8,[],sv_ l_),(9,[],Vo ok1),(10,[],Vi e)] K_ K_ ?_
    refine zdd [(0,Vp s),(5,pv_ b_),(8,sv_ l_),(9,Vo ok1),(10,Vi e)] K_ K_ K_ ?_
    change WpE _ _ zXg _ _ _
    refine zmb (x:=zPi) (y:=zQi) K_ (fun l w=>l=[(9,Vo ok1),(10,Vi e)]∧F_H R ok1 e w) ?_ ?_
    ·refine zf (x:=zVl) (y:=zYg) K_ ?_
     refine ze (id:=6) (ops:=zQq) K_ ?_
     refine zd [.plain,.plain] 2 [(0,[],Vp s),(5,[],pv_ b_),(8,[],sv_ l_),(9,[],Vo ok1),(10,[],Vi e),(39,[],Vo (e==0))] K_ K_ ?_
     refine zj [(0,Vp s),(5,pv_ b_),(8,sv_ l_),(9,Vo ok1),(10,Vi e),(39,Vo (e==0))] K_ K_ ?_
     change WpE _ _ zYg _ _ _
     refine zG (o:=(Operand.tmp 39)) (b:=(e==0)) (x:=zWl) (y:=zSq) K_ K_ (fun hb=> ?_) (fun hb=> ?_)
     ·replace h:=h.1 hb
      refine zn (id:=7) (ops:=zRq) K_ 8 K_ K_ (fun w7 hw=> ?_)
      replace h:=h w7 hw
      clear hw
      refine zh [.plain] 1 [(5,[],pv_ b_),(8,[],sv_ l_),(9,[],Vo ok1),(10,[],Vi e),(40,[],Vp s)] K_ K_ ?_
      obtain⟨hp_3,h⟩:=h
      refine zX [(5,[],pv_ b_),(8,[],sv_ l_),(9,[],Vo ok1),(10,[],Vi e),(40,[],Vp (some ⟨(pblk s),(poff s),none⟩))] (congrArg (fun pp=>([(5,[],pv_ b_),(8,[],sv_ l_),(9,[],Vo ok1),(10,[],Vi e),(40,[],Vp pp)]:GEnv)) hp_3) ?_
      refine zh [.plain] 2 [(5,[],pv_ b_),(8,[],sv_ l_),(9,[],Vo ok1),(10,[],Vi e),(40,[],Vp (some ⟨(pblk s),(poff s),none⟩)),(41,[],Vp (some ⟨(pblk s),(poff s),none⟩))] K_ K_ ?_
      refine zh [.plain,.plain] 4 [(5,[],pv_ b_),(8,[],sv_ l_),(9,[],Vo ok1),(10,[],Vi e),(43,[],Vp (some ⟨(pblk s),(poff s),none⟩))] K_ K_ ?_
      obtain⟨v44,hc,h⟩:=h
      refine zx (t:=220) (a:=(Operand.tmp 43)) (b:=(pblk s)) (o:=(poff s)) (ty:=220) (dst:=some 44) K_ K_ K_ hc ?_
      refine zh [.plain] 6 [(8,[],sv_ l_),(9,[],Vo ok1),(10,[],Vi e),(44,[],Value.map v44),(45,[],pv_ b_)] K_ K_ ?_
      obtain⟨v46,hc,h⟩:=h
      refine zx (t:=9) (a:=(Operand.tmp 45)) (b:=b_) (o:=0) (ty:=9) (dst:=some 46) K_ K_ K_ hc ?_
      refine zh [.plain] 8 [(9,[],Vo ok1),(10,[],Vi e),(44,[],Value.map v44),(46,[],Value.string v46),(47,[],sv_ l_)] K_ K_ ?_
      refine zD K_ ?_
      refine zd [] 8 [(9,[],Vo ok1),(10,[],Vi e),(44,[],Value.map v44),(46,[],Value.string v46),(47,[],sv_ l_)] K_ K_ ?_
      obtain⟨r,es1,c,hr_,hm_,hi_,hn_,hk_,h⟩:=h
      refine zZ (t:=220) (kt:=9) (et:=87) (x:=(Operand.tmp 44)) (k:=(Operand.tmp 46)) (v:=(Operand.tmp 47)) (m:=v44) (es:=es1) (kv:=(Value.string v46)) (vv:=(sv_ l_)) (ty:=0) (dst:=none) r c (keyS K_) K_ K_ hr_ K_ K_ K_ hm_ hi_ hn_ hk_ (fun es2 c1 w8 hs_ hw=> ?_)
      replace h:=h es2 c1 w8 hs_ hw
      clear hw hs_
      refine zj [(9,Vo ok1),(10,Vi e)] K_ K_ ?_
      exact⟨[(9,Vo ok1),(10,Vi e)],Sub.mk K_,rfl,h⟩
     ·replace h:=h.2 hb
      refine zS K_ ?_
      exact⟨[(9,Vo ok1),(10,Vi e)],Sub.mk K_,rfl,h⟩
    ·rintro _ w6 ⟨rfl,h⟩
     unfold F_H at h
     refine zf (x:=zXl) (y:=zYl) K_ ?_
     refine ze (id:=8) (ops:=zTq) K_ ?_
     refine zd [.plain,.plain,.plain,.plain] 4 [(6,[],Vo ok1),(7,[],Vi e)] K_ K_ ?_
     refine zj [(6,Vo ok1),(7,Vi e)] K_ K_ ?_
     change WpE _ _ zYl _ _ _
     refine z2 K_ ?_
     repeat (first | refine zM ?_ | refine zA ?_ | refine zF ?_ | refine zN ?_)
     exact retT (rs:=[(ResultVar.tmp 6),(ResultVar.tmp 7)]) (vs:=[Vo ok1,Vi e]) K_ (⟨K_,⟨K_,trivial⟩⟩) K_ ⟨ok1,e,rfl,h⟩
 ·rintro e w' ⟨v,rfl,r0,r1,rfl,h⟩; exact⟨r0,r1,rfl,h⟩
end
end Go.Proofs.YtofjmclceflgiaaGreat
