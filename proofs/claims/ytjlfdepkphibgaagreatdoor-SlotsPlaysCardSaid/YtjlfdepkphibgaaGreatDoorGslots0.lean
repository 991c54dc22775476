/- WRITTEN BY PROGRAM (dec.py): for each Go function the clean formula F, the call's contract C, and the proof S that F gives C. -/
import Derived.Test.YtjlfdepkphibgaaGreatDoorRows
import Derived.Test.YtjlfdepkphibgaaGreatDoorGF
namespace Go.Proofs.YtjlfdepkphibgaaGreatDoor
open Go
set_option linter.unusedVariables false
set_option maxRecDepth 100000
set_option maxHeartbeats 4000000
noncomputable section

/-! ### (*towpath/slots.Saver).Step (function 11) -/
def zKu:=cb_ Tryz.f11
def z2r:=cr_ zKu
def zLu:=cl_ z2r
def zMu:=cl_ zLu
def zNu:=cr_ zMu
def z3r:=cr_ zNu
def z4r:=cr_ z3r
def z5r:=cl_ z4r
def z6r:=cl_ z5r
def z7r:=co_ z6r
def zhl:=cr_ z2r
def z8r:=cl_ zhl
def z9r:=co_ z8r
def zas:=cr_ zhl
def zbs:=cl_ zas
def zcs:=cl_ zbs
def zds:=co_ zcs

theorem S_j {s:OA} {w:World} {R:Int→WP} (h:F_Rc s R w):C_r s w R:=by
 unfold F_Rc at h
 refine Yh Tryz.func11 ?_
 ·refine Yp P1 [0] (Ys (Yd 0 ?_))
  refine Ycut (fun l w=>∃(t6:Bool),l=[(0,Vp s),(6,Vo t6)]∧F_J s R t6 w) ?_ ?_
  ·refine Yr (Yn P1 ?_)
   refine zP (op:=(Op.binOp BinOp.eql 32 (Operand.tmp 7) (Operand.const (Vp none)) 32)) (ty:=4) (dst:=some 8) (Vo s.isNone) K_ (fun ww=>zz (p:=s) K_ K_ K_ ww) ?_
   refine Yn P2 ?_
   refine Yspl 9 h (fun h=> ?_) fun h=> ?_
   ·refine Yf [.skip,.skip,.skip,.skip,.plain,.plain] [0,6] ?_
    exact⟨_,Sub.mk K_,true,rfl,h⟩
   ·refine Yv 10 h fun hp_45 h=> ?_
    refine Yn [.sure] (Yn [.sure] ?_)
    refine Yl h fun v13 h=> ?_
    obtain⟨hi_,h⟩:=h
    refine zP (op:=(Op.binOp BinOp.eql 36 (Operand.tmp 13) (Operand.const Value.nilFunc) 36)) (ty:=4) (dst:=some 14) (Vo (zqd v13)) K_ (fun ww=>zEe (p:=v13) K_ hi_ K_ ww) ?_
    refine Yf P2 [0,6] ?_
    exact⟨_,Sub.mk K_,(zqd v13),rfl,h⟩
  ·rintro _ w1 ⟨t6,rfl,h⟩
   unfold F_J at h
   refine Yc h (fun h=> ?_) fun h=> ?_
   ·refine Yp P1 [2] ?_
    exact YS ⟨2,rfl,h⟩
   ·refine Yt (Yn P1 ?_)
    refine Yv 17 h fun hp_14 h=> ?_
    refine Yn P1 (Yn P1 ?_)
    refine Yl h fun v20 h=> ?_
    refine Yf P2 [0,16] ?_
    refine Yc h (fun h=> ?_) fun h=> ?_
    ·refine Ys ?_
     refine zsb (id:=4) (ops:=z7r) K_ 8 K_ K_ (fun w2 hw=> ?_)
     replace h:=h w2 hw
     clear hw
     refine Qn P1 ?_
     refine Qv 22 h fun hp_17 h=> ?_
     refine Qn P1 ?_
     refine Qn P1 ?_
     refine Ql h fun v25 h=> ?_
     refine Qn P1 ?_
     refine Qv 26 h fun hp_18 h=> ?_
     refine Qn P1 ?_
     refine Qn P1 ?_
     refine Ql h fun v29 h=> ?_
     refine zRc K_ ?_
     refine zgb (fo:=(Operand.tmp 25)) (aa:=#[(Operand.tmp 29)]) (ts:=#[3]) (fv:=v25) (ty:=25) (dst:=some 30) #[Vi v29] K_ K_ K_ (zU.mono h ?_)
     rintro _ w3 ⟨v30,rfl,h⟩
     refine⟨_,rfl,?_⟩
     refine Yf P1 [0,3] (Yt (Yn P3 ?_))
     refine Yv 31 h fun hp_20 h=> ?_
     refine Yn P1 (Yn P1 ?_)
     refine Yo h fun w4 h=> ?_
     refine Yf [] [3] (Yp P2 [2] ?_)
     exact YS ⟨v30,rfl,h⟩
    ·refine Yt (Yn P1 ?_)
     refine Yv 38 h fun hp_22 h=> ?_
     refine Yn P1 (Yn P1 ?_)
     refine Yl h fun v41 h=> ?_
     refine Yf P3 [0,37] ?_
     refine Yc h (fun h=> ?_) fun h=> ?_
     ·refine Yp P1 [2] ?_
      exact YS ⟨9,rfl,h⟩
     ·refine zg (Ys ?_)
      refine zO (id:=9) (ops:=z9r) K_ K_ K_ ?_
      refine Qn P1 ?_
      refine Qv 44 h fun hp_25 h=> ?_
      refine Qn P1 ?_
      refine Qn P1 ?_
      refine Ql h fun v47 h=> ?_
      refine Qn P1 ?_
      refine Qv 48 h fun hp_26 h=> ?_
      refine Qn P1 ?_
      refine Qn P1 ?_
      refine Ql h fun v51 h=> ?_
      refine Qn P2 ?_
      obtain⟨h0,h1,h⟩:=h
      refine z2g (t:=38) (e:=5) (x:=(Operand.tmp 47)) (hi:=(Operand.tmp 53)) (p:=v47.ptr) (l:=v47.len) (c:=v47.cap) (sz:=1) (k:= .i64) (j:=(if 64<((v51.len:Nat):Int) then 64 else((v51.len:Nat):Int))) (ty:=38) (dst:=some 54) K_ K_ K_ K_ K_ h0 h1 ?_
      refine Qf P1 [0,4] h fun w5 h=> ?_
      refine Ys (Ys ?_)
      refine zsb (id:=10) (ops:=zds) K_ 13 K_ K_ (fun w6 hw=> ?_)
      replace h:=h w6 hw
      clear hw
      refine Qn P1 ?_
      refine Qv 55 h fun hp_36 h=> ?_
      refine Qn P1 ?_
      refine Qn P1 ?_
      refine Ql h fun v58 h=> ?_
      refine Qn P1 ?_
      refine Qv 59 h fun hp_37 h=> ?_
      refine Qn P1 ?_
      refine Qn P1 ?_
      refine Ql h fun v62 h=> ?_
      refine Qn P1 ?_
      refine Qv 63 h fun hp_38 h=> ?_
      refine Qn P1 ?_
      refine Qn P1 ?_
      refine Ql h fun v66 h=> ?_
      refine Qn P1 ?_
      refine zRc K_ ?_
      refine zgb (fo:=(Operand.tmp 58)) (aa:=#[(Operand.tmp 62),(Operand.tmp 66),(Operand.tmp 67)]) (ts:=#[3,3,38]) (fv:=v58) (ty:=25) (dst:=some 68) #[Vi v62,Vi v66,Value.slice v47.ptr ((if 64<((v51.len:Nat):Int) then 64 else((v51.len:Nat):Int)).toNat) v47.cap] K_ K_ K_ (zU.mono h ?_)
      rintro _ w7 ⟨v68,rfl,h⟩
      refine⟨_,rfl,?_⟩
      refine Yf P1 [0,4,5] (Yp P2 [0,4,5,70] ?_)
      refine Yc h (fun h=> ?_) fun h=> ?_
      ·refine Yp P2 [2] ?_
       exact YS ⟨v68,rfl,h⟩
      ·refine zg (Yt (Yn P2 ?_))
       refine Yv 73 h fun hp_41 h=> ?_
       refine Yn P1 (Yn P1 ?_)
       refine Yl h fun v76 h=> ?_
       refine Yn P2 ?_
       obtain⟨hc,h⟩:=h
       refine zld (t:=38) (e:=5) (x:=(Operand.tmp 76)) (lo:=(Operand.tmp 78)) (s:=v76) (sz:=1) (k:= .i64) (a:=(((if 64<((v51.len:Nat):Int) then 64 else((v51.len:Nat):Int)).toNat:Nat):Int)) (ty:=38) (dst:=some 79) K_ K_ K_ K_ K_ hc (fun s1 hs=> ?_)
       replace h:=h s1 hs
       clear hs
       refine Yv 72 h fun hp_42 h=> ?_
       refine Yn P1 (Yn P1 ?_)
       refine Yo h fun w8 h=> ?_
       refine Yf [] [0,4] (Yt (Yn P1 ?_))
       refine Yv 82 h fun hp_44 h=> ?_
       refine Yn P1 (Yn P1 ?_)
       refine Yl h fun v85 h=> ?_
       refine Yn (Pl 5) ?_
       refine Yo h fun w9 h=> ?_
       refine Yf [] [] (Yp P1 [2] ?_)
       exact YS ⟨0,rfl,h⟩

/-! ### (*towpath/slots.Saver).Left (function 12) -/

theorem S_k {s:OA} {w:World} {R:Int→WP} (h:F_Sc s R w):C_s s w R:=by
 unfold F_Sc at h
 refine Yh Tryz.func12 ?_
 ·refine Yp P1 [0] (Ys ?_)
  refine Ycut (fun l w=>∃(t12:Bool),l=[(0,Vp s),(12,Vo t12)]∧F_K s R t12 w) ?_ ?_
  ·refine Yr (Yn P1 ?_)
   refine zP (op:=(Op.binOp BinOp.eql 32 (Operand.tmp 4) (Operand.const (Vp none)) 32)) (ty:=4) (dst:=some 5) (Vo s.isNone) K_ (fun ww=>zz (p:=s) K_ K_ K_ ww) ?_
   refine Yn P2 ?_
   refine Yspl 6 h (fun h=> ?_) fun h=> ?_
   ·refine Yf [.skip,.skip,.skip,.skip,.plain] [0,12] ?_
    exact⟨_,Sub.mk K_,true,rfl,h⟩
   ·refine Yv 7 h fun hp_9 h=> ?_
    refine Yn [.sure] (Yn [.sure] ?_)
    refine Yl h fun v10 h=> ?_
    obtain⟨hi_,h⟩:=h
    refine zP (op:=(Op.binOp BinOp.eql 36 (Operand.tmp 10) (Operand.const Value.nilFunc) 36)) (ty:=4) (dst:=some 11) (Vo (zqd v10)) K_ (fun ww=>zEe (p:=v10) K_ hi_ K_ ww) ?_
    refine Yf P1 [0,12] ?_
    exact⟨_,Sub.mk K_,(zqd v10),rfl,h⟩
  ·rintro _ w1 ⟨t12,rfl,h⟩
   unfold F_K at h
   refine Yc h (fun h=> ?_) fun h=> ?_
   ·refine Yp P1 [2] ?_
    exact YS ⟨0,rfl,h⟩
   ·refine zg (Yt (Yn P1 ?_))
    refine Yv 13 h fun hp_4 h=> ?_
    refine Yn P1 (Yn P1 ?_)
    refine Yl h fun v16 h=> ?_
    refine Yf (Pl 5) [0,3] ?_
    refine Ycut (fun l w=>∃(n_:Int),l=[(3,Vi n_)]∧F_4b R n_ w) ?_ ?_
    ·refine Yt (Yn P1 ?_)
     refine Yv 21 h fun hp_8 h=> ?_
     refine Yn P1 (Yn P1 ?_)
     refine Yl h fun v24 h=> ?_
     refine Yf P1 [3,25] ?_
     refine Yc h (fun h=> ?_) fun h=> ?_
     ·refine Yr (Yf P3 [3] ?_)
      exact⟨_,Sub.mk K_,(IntKind.i64.wrap ((IntKind.i64.wrap (Int.tdiv (IntKind.i64.wrap ((IntKind.i64.wrap (((v16.len:Nat):Int)+64)) - 1)) 64))+1)),rfl,h⟩
     ·refine zg ?_
      exact⟨_,Sub.mk K_,(IntKind.i64.wrap (Int.tdiv (IntKind.i64.wrap ((IntKind.i64.wrap (((v16.len:Nat):Int)+64)) - 1)) 64)),rfl,h⟩
    ·rintro _ w2 ⟨n_,rfl,h⟩
     unfold F_4b at h
     refine Yp P2 [2] ?_
     exact YS ⟨n_,rfl,h⟩

/-! ### towpath/slots.New (function 15) -/
def z9m:=cb_ Tryz.f15
def zes:=cl_ z9m
def zOu:=co_ zes
def zRk:=cr_ z9m
def zfs:=cl_ zRk
def zPu:=co_ zfs
def zSk:=cr_ zRk
def zan:=cl_ zSk
def zgs:=cl_ zan
def zQu:=co_ zgs
def zli:=cr_ zan
def zYj:=cl_ zli
def zil:=cl_ zYj
def zhs:=co_ zil
def zjl:=cr_ zYj
def zis:=cr_ zli
def zmi:=cr_ zSk
def zkl:=cl_ zmi
def zjs:=co_ zkl
def zni:=cr_ zmi
def zZj:=cl_ zni
def zll:=cl_ zZj
def zks:=co_ zll
def zoi:=cr_ zZj
def z0j:=cl_ zoi
def zml:=cl_ z0j
def zls:=co_ zml
def znl:=cr_ z0j
def zms:=cr_ zoi
def zpi:=cr_ zni
def z1j:=cl_ zpi
def zol:=cl_ z1j
def zns:=co_ zol
def zqi:=cr_ z1j
def zpl:=cl_ zqi
def zos:=co_ zpl
def zps:=cr_ zqi
def z2j:=cr_ zpi
def z3j:=cl_ z2j
def zql:=cl_ z3j
def zqs:=co_ zql
def zri:=cr_ z3j
def z4j:=cl_ zri
def zrl:=cl_ z4j
def zrs:=co_ zrl
def zsl:=cr_ z4j
def zss:=cr_ zri
def zsi:=cr_ z2j
def ztl:=cl_ zsi
def zts:=co_ ztl
def zti:=cr_ zsi
def z5j:=cl_ zti
def zul:=cl_ z5j
def zus:=co_ zul
def zui:=cr_ z5j
def z6j:=cl_ zui
def zvl:=cl_ z6j
def zvs:=co_ zvl
def zwl:=cr_ z6j
def zws:=cr_ zui
def zvi:=cr_ zti
def zxl:=cl_ zvi
def zxs:=co_ zxl
def zyl:=cr_ zvi

theorem S_wc {d:OA} {s:T_b} {w:World} {R:OA→Int→WP} (h:F_Ze d s R w):C_kc d s w R:=by
 unfold F_Ze at h
 unfold C_kc
 refine Calls.mono (zKb (args:=[Vp d,Value.agg #[Vi s.Mark,sv_ s.Beyond,sv_ s.Held]]) (R:=fun v w'=>∃(r0:OA) (r1:Int),v=Value.tuple #[Vp r0,Vi r1]∧R r0 r1 w') Tryz.func15 (c:=z9m) K_ 58 K_ K_ [(0,Vp d),(1,Value.agg #[Vi s.Mark,sv_ s.Beyond,sv_ s.Held])] K_ ?_) ?_
 ·refine zt (x:=zes) (y:=zRk) K_ ?_
  refine zi (id:=0) (ops:=zOu) K_ ?_
  refine zk [] 0 [(0,[],Vp d),(1,[],Value.agg #[Vi s.Mark,sv_ s.Beyond,sv_ s.Held])] K_ K_ ?_
  refine zlc (op:=(Op.box 59 (Operand.tmp 1))) (ty:=0) (dst:=some 3) (fun bb=>pv_ bb) (Obj.cells ([Vi s.Mark,sv_ s.Beyond,sv_ s.Held]).toArray y_a (0,0)) K_ K_ (fun b_ w1 hb hw=> ?_)
  replace h:=h b_ w1 hb hw
  clear hb hw
  refine zk [.plain,.plain] 3 [(0,[],Vp d),(3,[],pv_ b_)] K_ K_ ?_
  refine zF [(0,Vp d),(3,pv_ b_)] K_ K_ ?_
  change WpE _ _ zRk _ _ _
  refine zt (x:=zfs) (y:=zSk) K_ ?_
  refine zi (id:=1) (ops:=zPu) K_ ?_
  refine zk [.plain] 1 [(0,[],Vp d),(3,[],pv_ b_),(14,[],Vp d)] K_ K_ ?_
  refine zkb (op:=(Op.call (Call.mk (Callee.value (Operand.func 28)) #[(Operand.tmp 14)] #[24]))) (ty:=81) (dst:=some 15) 28 #[Vp d] K_ (fun ww=>by kernel_rfl) (Calls.mono h ?_)
  rintro _ w2 ⟨v15,generation,slot,ok,e,rfl,h⟩
  refine⟨_,rfl,?_⟩
  refine zk [.plain,.plain,.plain,.plain,.plain,.plain] 8 [(0,[],Vp d),(3,[],pv_ b_),(16,[],Value.agg #[Vi v15.Mark,sv_ v15.Beyond,sv_ v15.Held]),(17,[],Vi generation),(18,[],Vi slot),(19,[],Vo ok),(20,[],Vi e)] K_ K_ ?_
  refine zlc (op:=(Op.alloc 59)) (ty:=0) (dst:=some 6) (fun bb=>pv_ bb) (Obj.cells ([Vi 0,Value.slice none 0 0,Value.slice none 0 0]).toArray y_a (0,0)) K_ K_ (fun b_1 w3 hb hw=> ?_)
  replace h:=h b_1 w3 hb hw
  clear hb hw
  refine zk [] 9 [(0,[],Vp d),(3,[],pv_ b_),(6,[],pv_ b_1),(16,[],Value.agg #[Vi v15.Mark,sv_ v15.Beyond,sv_ v15.Held]),(17,[],Vi generation),(18,[],Vi slot),(19,[],Vo ok),(20,[],Vi e)] K_ K_ ?_
  obtain⟨hc,h⟩:=h
  refine zqb (t:=59) (a:=(Operand.tmp 6)) (x:=(Operand.tmp 16)) (b:=b_1) (o:=0) (ty:=0) (dst:=none) [Vi v15.Mark,sv_ v15.Beyond,sv_ v15.Held] K_ K_ K_ (k:=3) K_ K_ K_ hc (fun w4 hw=> ?_)
  replace h:=h w4 hw
  clear hw
  refine zk [.plain,.plain,.plain,.plain] 14 [(0,[],Vp d),(3,[],pv_ b_),(7,[],Vi generation),(8,[],Vi slot),(9,[],Vo ok),(10,[],Vi e)] K_ K_ ?_
  refine zF [(0,Vp d),(3,pv_ b_),(7,Vi generation),(8,Vi slot),(9,Vo ok),(10,Vi e)] K_ K_ ?_
  change WpE _ _ zSk _ _ _
  refine zt (x:=zan) (y:=zmi) K_ ?_
  refine zt (x:=zgs) (y:=zli) K_ ?_
  refine zi (id:=2) (ops:=zQu) K_ ?_
  refine zk [.plain,.plain] 2 [(0,[],Vp d),(3,[],pv_ b_),(7,[],Vi generation),(8,[],Vi slot),(9,[],Vo ok),(10,[],Vi e),(22,[],Vo (e != 0))] K_ K_ ?_
  refine zF [(0,Vp d),(3,pv_ b_),(7,Vi generation),(8,Vi slot),(9,Vo ok),(10,Vi e),(22,Vo (e != 0))] K_ K_ ?_
  change WpE _ _ zli _ _ _
  refine zEb (o:=(Operand.tmp 22)) (b:=(e != 0)) (x:=zYj) (y:=zis) K_ K_ (fun hb=> ?_) (fun hb=> ?_)
  ·replace h:=h.1 hb
   refine zt (x:=zil) (y:=zjl) K_ ?_
   refine zi (id:=3) (ops:=zhs) K_ ?_
   refine zk [.plain,.plain,.plain] 3 [(4,[],Vp none),(5,[],Vi e)] K_ K_ ?_
   refine zF [(4,Vp none),(5,Vi e)] K_ K_ ?_
   change WpE _ _ zjl _ _ _
   refine zYb K_ ?_
   repeat (first | refine zC ?_ | refine zp ?_ | refine zu ?_ | refine zE ?_)
   exact retT (rs:=[(ResultVar.tmp 4),(ResultVar.tmp 5)]) (vs:=[Vp none,Vi e]) K_ (⟨K_,⟨K_,trivial⟩⟩) K_ ⟨none,e,rfl,h⟩
  ·replace h:=h.2 hb
   refine zDb K_ ?_
   change WpE _ _ zmi _ _ _
   refine zt (x:=zkl) (y:=zni) K_ ?_
   refine zi (id:=4) (ops:=zjs) K_ ?_
   refine zk [] 0 [(0,[],Vp d),(3,[],pv_ b_),(7,[],Vi generation),(8,[],Vi slot),(9,[],Vo ok),(10,[],Vi e)] K_ K_ ?_
   obtain⟨v25,hc,h⟩:=h
   refine zQc (t:=59) (a:=(Operand.tmp 3)) (b:=b_) (o:=0) (ty:=59) (dst:=some 25) [Vi v25.Mark,sv_ v25.Beyond,sv_ v25.Held] K_ K_ K_ (k:=3) K_ K_ hc ?_
   refine zk [] 1 [(0,[],Vp d),(7,[],Vi generation),(8,[],Vi slot),(9,[],Vo ok),(10,[],Vi e),(25,[],Value.agg #[Vi v25.Mark,sv_ v25.Beyond,sv_ v25.Held])] K_ K_ ?_
   refine zkb (op:=(Op.call (Call.mk (Callee.value (Operand.func 75)) #[(Operand.tmp 25)] #[59]))) (ty:=84) (dst:=some 26) 75 #[Value.agg #[Vi v25.Mark,sv_ v25.Beyond,sv_ v25.Held]] K_ (fun ww=>by kernel_rfl) (Calls.mono h ?_)
   rintro _ w5 ⟨x,e1,rfl,h⟩
   refine⟨_,rfl,?_⟩
   refine zk [.plain,.plain,.plain,.plain,.plain] 7 [(0,[],Vp d),(7,[],Vi generation),(8,[],Vi slot),(9,[],Vo ok),(10,[],Vi e1),(11,[],sv_ x)] K_ K_ ?_
   refine zF [(0,Vp d),(7,Vi generation),(8,Vi slot),(9,Vo ok),(10,Vi e1),(11,sv_ x)] K_ K_ ?_
   change WpE _ _ zni _ _ _
   refine zt (x:=zZj) (y:=zpi) K_ ?_
   refine zt (x:=zll) (y:=zoi) K_ ?_
   refine zi (id:=5) (ops:=zks) K_ ?_
   refine zk [.plain,.plain] 2 [(0,[],Vp d),(7,[],Vi generation),(8,[],Vi slot),(9,[],Vo ok),(10,[],Vi e1),(11,[],sv_ x),(30,[],Vo (e1 != 0))] K_ K_ ?_
   refine zF [(0,Vp d),(7,Vi generation),(8,Vi slot),(9,Vo ok),(10,Vi e1),(11,sv_ x),(30,Vo (e1 != 0))] K_ K_ ?_
   change WpE _ _ zoi _ _ _
   refine zEb (o:=(Operand.tmp 30)) (b:=(e1 != 0)) (x:=z0j) (y:=zms) K_ K_ (fun hb=> ?_) (fun hb=> ?_)
   ·replace h:=h.1 hb
    refine zt (x:=zml) (y:=znl) K_ ?_
    refine zi (id:=6) (ops:=zls) K_ ?_
    refine zk [.plain,.plain,.plain] 3 [(4,[],Vp none),(5,[],Vi e1)] K_ K_ ?_
    refine zF [(4,Vp none),(5,Vi e1)] K_ K_ ?_
    change WpE _ _ znl _ _ _
    refine zYb K_ ?_
    repeat (first | refine zC ?_ | refine zp ?_ | refine zu ?_ | refine zE ?_)
    exact retT (rs:=[(ResultVar.tmp 4),(ResultVar.tmp 5)]) (vs:=[Vp none,Vi e1]) K_ (⟨K_,⟨K_,trivial⟩⟩) K_ ⟨none,e1,rfl,h⟩
   ·replace h:=h.2 hb
    refine zDb K_ ?_
    change WpE _ _ zpi _ _ _
    refine zNd (x:=z1j) (y:=z2j) K_ (fun l w=>∃(slot1:Int),l=[(0,Vp d),(7,Vi generation),(8,Vi slot1),(11,sv_ x)]∧F_qd d R generation x slot1 w) ?_ ?_
    ·refine zt (x:=zol) (y:=zqi) K_ ?_
     refine zi (id:=7) (ops:=zns) K_ ?_
     refine zk [.plain] 1 [(0,[],Vp d),(7,[],Vi generation),(8,[],Vi slot),(11,[],sv_ x),(32,[],Vo ok)] K_ K_ ?_
     refine zF [(0,Vp d),(7,Vi generation),(8,Vi slot),(11,sv_ x),(32,Vo ok)] K_ K_ ?_
     change WpE _ _ zqi _ _ _
     refine zEb (o:=(Operand.tmp 32)) (b:=ok) (x:=zpl) (y:=zps) K_ K_ (fun hb=> ?_) (fun hb=> ?_)
     ·replace h:=h.1 hb
      refine zi (id:=8) (ops:=zos) K_ ?_
      refine zk [.plain,.plain,.plain] 3 [(0,[],Vp d),(7,[],Vi generation),(8,[],Vi (IntKind.i64.wrap (1 - slot))),(11,[],sv_ x)] K_ K_ ?_
      refine zF [(0,Vp d),(7,Vi generation),(8,Vi (IntKind.i64.wrap (1 - slot))),(11,sv_ x)] K_ K_ ?_
      exact⟨[(0,Vp d),(7,Vi generation),(8,Vi (IntKind.i64.wrap (1 - slot))),(11,sv_ x)],Sub.mk K_,(IntKind.i64.wrap (1 - slot)),rfl,h⟩
     ·replace h:=h.2 hb
      refine zDb K_ ?_
      exact⟨[(0,Vp d),(7,Vi generation),(8,Vi slot),(11,sv_ x)],Sub.mk K_,slot,rfl,h⟩
    ·rintro _ w6 ⟨slot1,rfl,h⟩
     unfold F_qd at h
     refine zt (x:=z3j) (y:=zsi) K_ ?_
     refine zt (x:=zql) (y:=zri) K_ ?_
     refine zi (id:=9) (ops:=zqs) K_ ?_
     refine zk [.plain,.plain] 2 [(0,[],Vp d),(7,[],Vi generation),(8,[],Vi slot1),(11,[],sv_ x),(36,[],Vo (generation==4611686018427387904))] K_ K_ ?_
     refine zF [(0,Vp d),(7,Vi generation),(8,Vi slot1),(11,sv_ x),(36,Vo (generation==4611686018427387904))] K_ K_ ?_
     change WpE _ _ zri _ _ _
     refine zEb (o:=(Operand.tmp 36)) (b:=(generation==4611686018427387904)) (x:=z4j) (y:=zss) K_ K_ (fun hb=> ?_) (fun hb=> ?_)
     ·replace h:=h.1 hb
      refine zt (x:=zrl) (y:=zsl) K_ ?_
      refine zi (id:=10) (ops:=zrs) K_ ?_
      refine zk [.plain,.plain] 2 [(4,[],Vp none),(5,[],Vi 3)] K_ K_ ?_
      refine zF [(4,Vp none),(5,Vi 3)] K_ K_ ?_
      change WpE _ _ zsl _ _ _
      refine zYb K_ ?_
      repeat (first | refine zC ?_ | refine zp ?_ | refine zu ?_ | refine zE ?_)
      exact retT (rs:=[(ResultVar.tmp 4),(ResultVar.tmp 5)]) (vs:=[Vp none,Vi 3]) K_ (⟨K_,⟨K_,trivial⟩⟩) K_ ⟨none,3,rfl,h⟩
     ·replace h:=h.2 hb
      refine zDb K_ ?_
      change WpE _ _ zsi _ _ _
      refine zt (x:=ztl) (y:=zti) K_ ?_
      refine zi (id:=11) (ops:=zts) K_ ?_
      refine zk [.plain,.plain,.plain,.plain] 4 [(0,[],Vp d),(8,[],Vi slot1),(11,[],sv_ x),(39,[],Value.int .u64 (IntKind.u64.wrap ((IntKind.u64.wrap generation)+1))),(40,[],sv_ x)] K_ K_ ?_
      refine zkb (op:=(Op.call (Call.mk (Callee.value (Operand.func 76)) #[(Operand.tmp 39),(Operand.tmp 40)] #[93,38]))) (ty:=91) (dst:=some 41) 76 #[Value.int .u64 (IntKind.u64.wrap ((IntKind.u64.wrap generation)+1)),sv_ x] K_ (fun ww=>by kernel_rfl) (Calls.mono h ?_)
      rintro _ w7 ⟨v41,hl_v41_0,rfl,h⟩
      refine⟨_,rfl,?_⟩
      replace h:=h hl_v41_0
      refine zk [] 5 [(0,[],Vp d),(8,[],Vi slot1),(11,[],sv_ x),(41,[],Value.agg (List.map (Value.int .u8) v41).toArray)] K_ K_ ?_
      refine zlc (op:=(Op.alloc 91)) (ty:=0) (dst:=some 12) (fun bb=>pv_ bb) (Obj.cells ((List.map (Value.int .u8) (List.replicate 20 0))).toArray y_j (0,0)) K_ K_ (fun b_2 w8 hb hw=> ?_)
      replace h:=h b_2 w8 hb hw
      clear hb hw
      refine zk [] 6 [(0,[],Vp d),(8,[],Vi slot1),(11,[],sv_ x),(12,[],pv_ b_2),(41,[],Value.agg (List.map (Value.int .u8) v41).toArray)] K_ K_ ?_
      obtain⟨hc,h⟩:=h
      refine zqb (t:=91) (a:=(Operand.tmp 12)) (x:=(Operand.tmp 41)) (b:=b_2) (o:=0) (ty:=0) (dst:=none) (List.map (Value.int .u8) v41) K_ K_ K_ (k:=20) K_ (by simp [*]) (by simp [zQ,oneCell,List.all_eq_true]) hc (fun w9 hw=> ?_)
      replace h:=h w9 hw
      clear hw
      refine zF [(0,Vp d),(8,Vi slot1),(11,sv_ x),(12,pv_ b_2)] K_ K_ ?_
      change WpE _ _ zti _ _ _
      refine zt (x:=z5j) (y:=zvi) K_ ?_
      refine zt (x:=zul) (y:=zui) K_ ?_
      refine zi (id:=12) (ops:=zus) K_ ?_
      refine zk [.plain,.plain,.plain] 3 [(0,[],Vp d),(8,[],Vi slot1),(11,[],sv_ x),(12,[],pv_ b_2),(43,[],Vi ((x.len:Nat):Int)),(44,[],Vp d)] K_ K_ ?_
      refine zkb (op:=(Op.call (Call.mk (Callee.value (Operand.func 77)) #[(Operand.tmp 44)] #[24]))) (ty:=3) (dst:=some 45) 77 #[Vp d] K_ (fun ww=>by kernel_rfl) (Calls.mono h ?_)
      rintro _ w10 ⟨v45,rfl,h⟩
      refine⟨_,rfl,?_⟩
      refine zk [.plain,.plain] 6 [(0,[],Vp d),(8,[],Vi slot1),(11,[],sv_ x),(12,[],pv_ b_2),(47,[],Vo (decide (((x.len:Nat):Int)>(IntKind.i64.wrap (v45 - 20)))))] K_ K_ ?_
      refine zF [(0,Vp d),(8,Vi slot1),(11,sv_ x),(12,pv_ b_2),(47,Vo (decide (((x.len:Nat):Int)>(IntKind.i64.wrap (v45 - 20)))))] K_ K_ ?_
      change WpE _ _ zui _ _ _
      refine zEb (o:=(Operand.tmp 47)) (b:=(decide (((x.len:Nat):Int)>(IntKind.i64.wrap (v45 - 20))))) (x:=z6j) (y:=zws) K_ K_ (fun hb=> ?_) (fun hb=> ?_)
      ·replace h:=h.1 hb
       refine zt (x:=zvl) (y:=zwl) K_ ?_
       refine zi (id:=13) (ops:=zvs) K_ ?_
       refine zk [.plain,.plain] 2 [(4,[],Vp none),(5,[],Vi 13)] K_ K_ ?_
       refine zF [(4,Vp none),(5,Vi 13)] K_ K_ ?_
       change WpE _ _ zwl _ _ _
       refine zYb K_ ?_
       repeat (first | refine zC ?_ | refine zp ?_ | refine zu ?_ | refine zE ?_)
       exact retT (rs:=[(ResultVar.tmp 4),(ResultVar.tmp 5)]) (vs:=[Vp none,Vi 13]) K_ (⟨K_,⟨K_,trivial⟩⟩) K_ ⟨none,13,rfl,h⟩
      ·replace h:=h.2 hb
       refine zDb K_ ?_
       change WpE _ _ zvi _ _ _
       refine zt (x:=zxl) (y:=zyl) K_ ?_
       refine zi (id:=14) (ops:=zxs) K_ ?_
       refine zk [.plain,.plain,.plain,.plain,.plain] 5 [(11,[],sv_ x),(12,[],pv_ b_2),(49,[],Value.func (.func 19) #[Vp d] #[]),(51,[],Value.func (.func 21) #[Vp d] #[]),(52,[],Vi slot1)] K_ K_ ?_
       refine zP (op:=(Op.slice 91 (Operand.tmp 12) none none none)) (ty:=38) (dst:=some 53) (Value.slice (some ⟨b_2,0,none⟩) 20 20) K_ (fun ww=>by kernel_rfl) ?_
       refine zk [.plain] 7 [(49,[],Value.func (.func 19) #[Vp d] #[]),(51,[],Value.func (.func 21) #[Vp d] #[]),(52,[],Vi slot1),(53,[],Value.slice (some ⟨b_2,0,none⟩) 20 20),(54,[],sv_ x)] K_ K_ ?_
       obtain⟨src,hs,h⟩:=h
       refine zH (t:=38) (tx:=38) (e:=5) (a:=(Operand.tmp 53)) (xo:=(Operand.tmp 54)) (s:=(Slc.mk (some ⟨b_2,0,none⟩) 20 20)) (x:=x) (sz:=1) (by_:=1) (zs:=[Value.int .u8 0]) (ty:=38) (dst:=some 55)  src K_ K_ K_ K_ K_ K_ K_ K_ K_ hs (zj.mono h (fun v55 w11 h=> ?_))
       refine zk [.plain] 9 [(56,[],Value.agg #[Value.func (.func 19) #[Vp d] #[],Value.func (.func 21) #[Vp d] #[],Vi slot1,sv_ v55,Vi 0,Vo false])] K_ K_ ?_
       refine zlc (op:=(Op.box 40 (Operand.tmp 56))) (ty:=32) (dst:=some 57) (fun bb=>pv_ bb) (Obj.cells ([Value.func (.func 19) #[Vp d] #[],Value.func (.func 21) #[Vp d] #[],Vi slot1,sv_ v55,Vi 0,Vo false]).toArray y_m (0,0)) K_ K_ (fun b_3 w12 hb hw=> ?_)
       replace h:=h b_3 w12 hb hw
       clear hb hw
       refine zk [.plain,.plain] 12 [(4,[],pv_ b_3),(5,[],Vi 0)] K_ K_ ?_
       refine zF [(4,pv_ b_3),(5,Vi 0)] K_ K_ ?_
       change WpE _ _ zyl _ _ _
       refine zYb K_ ?_
       repeat (first | refine zC ?_ | refine zp ?_ | refine zu ?_ | refine zE ?_)
       exact retT (rs:=[(ResultVar.tmp 4),(ResultVar.tmp 5)]) (vs:=[pv_ b_3,Vi 0]) K_ (⟨K_,⟨K_,trivial⟩⟩) K_ ⟨(some ⟨b_3,0,none⟩),0,rfl,h⟩
 ·rintro e w' ⟨v,rfl,r0,r1,rfl,h⟩; exact⟨r0,r1,rfl,h⟩

/-! ### towpath/slots.Newest (function 28) -/

theorem S_Ub {d:OA} {w:World} {R:T_b→Int→Int→Bool→Int→WP} (h:F_ye d R w):C_Kb d w R:=by
 unfold F_ye at h
 refine Yh Tryz.func28 ?_
 ·refine Yt ?_
  refine Yw pv_ h fun b_ w1 h=> ?_
  refine Yf P4 [0,2,3,4,5] (Ys (Yp P1 [0,2,3,4,5,13] (Yd 0 ?_)))
  obtain⟨I,μ,h0,hr⟩:=h
  refine zN (fun m l w=>∃(generation:Int) (slot:Int) (ok:Bool) (t13:Int),l=[(0,Vp d),(2,pv_ b_),(3,Vi generation),(4,Vi slot),(5,Vo ok),(13,Vi t13)]∧I generation slot ok t13 w∧μ generation slot ok t13 w=m) ⟨0,0,false,0,rfl,h0,rfl⟩ ?_
  rintro _ _ w2 ⟨generation,slot,ok,t13,rfl,hI,rfl⟩
  obtain⟨again_,again__h,h⟩:∃ again_:Int→Int→Bool→Int→WP,(∀ generation' slot' ok' t13' w',again_ generation' slot' ok' t13' w'→I generation' slot' ok' t13' w'∧μ generation' slot' ok' t13' w'<μ generation slot ok t13 w2)∧F_ed d R b_ again_ generation slot ok t13 w2:=⟨_,fun _ _ _ _ _ h=>h,hr generation slot ok t13 w2 hI⟩
  clear h0 hI
  unfold F_ed at h
  refine Yp P1 [0,2,3,4,5,13,14] (Ys ?_)
  refine Yc h (fun h=> ?_) fun h=> ?_
  ·refine zg ?_
   refine Ycut (fun l w=>∃(generation1:Int) (slot1:Int) (ok1:Bool),l=[(0,Vp d),(2,pv_ b_),(3,Vi generation1),(4,Vi slot1),(5,Vo ok1),(13,Vi t13)]∧F_kc t13 again_ generation1 slot1 ok1 w) ?_ ?_
   ·refine Yd 1 (Yp P2 [0,2,3,4,5,7,13] (Yt (Yn P2 ?_)))
    refine Ym2 h fun b_1 f w4 h=> ?_
    refine Yf (Pl 5) [0,2,3,4,5,7,8,9,13] (Ys (Yp P2 [0,2,3,4,5,7,8,9,13,23] ?_))
    refine Yc h (fun h=> ?_) fun h=> ?_
    ·refine Yt (Yn P2 ?_)
     refine Yo h fun w5 h=> ?_
     refine Yf P4 [2,3,4,5,6] ?_
     obtain⟨res,hc_res,h⟩:=h
     exact YTg (rs:=[(ResultVar.cell 2 59),(ResultVar.tmp 3),(ResultVar.tmp 4),(ResultVar.tmp 5),(ResultVar.tmp 6)]) (vs:=[Value.agg #[Vi res.Mark,sv_ res.Beyond,sv_ res.Held],Vi 0,Vi 0,Vo false,Vi f]) (⟨b_,0,[Vi res.Mark,sv_ res.Beyond,sv_ res.Held],K_,hc_res,(zx (k:=3) K_ K_),.inl ⟨K_,rfl⟩,⟨K_,⟨K_,⟨K_,⟨K_,trivial⟩⟩⟩⟩⟩) ⟨res,0,0,false,f,rfl,h⟩
    ·refine zg (Yt (Yn P1 ?_))
     refine Ym3 h fun v28 n_ is w6 h=> ?_
     refine Yn P4 ?_
     refine Yw pv_ h fun b_2 w7 h=> ?_
     refine Yo h fun w8 h=> ?_
     refine Yf P2 [0,2,3,4,5,7,10,11,12,13] (Yp [.plain,.plain,.plain,.plain,.plain,.plain,.plain,.plain,.plain,.pick,.pick] [0,2,3,4,5,7,10,11,13,42] ?_)
     refine Yc h (fun h=> ?_) fun h=> ?_
     ·refine Yr ?_
      refine YL h fun v43 h=> ?_
      refine Yn P3 ?_
      refine Yo h fun w9 h=> ?_
      refine Yf P3 [0,2,3,4,5,13] ?_
      exact⟨_,Sub.mk K_,(IntKind.i64.wrap n_),t13,true,rfl,h⟩
     ·refine zg ?_
      exact⟨_,Sub.mk K_,generation,slot,ok,rfl,h⟩
   ·rintro _ w3 ⟨generation1,slot1,ok1,rfl,h⟩
    unfold F_kc at h
    refine Yr (Yf P2 [0,2,3,4,5,13] ?_)
    have hb_:=again__h _ _ _ _ _ h
    exact⟨_,hb_.2,_,Sub.mk K_,generation1,slot1,ok1,(IntKind.i64.wrap (t13+1)),rfl,hb_.1,rfl⟩
  ·refine zM 0 (Yt ?_)
   refine YL h fun v48 h=> ?_
   refine Yn P3 ?_
   refine Yo h fun w10 h=> ?_
   refine Yf P4 [2,3,4,5,6] ?_
   obtain⟨res1,hc_res1,h⟩:=h
   exact YTg (rs:=[(ResultVar.cell 2 59),(ResultVar.tmp 3),(ResultVar.tmp 4),(ResultVar.tmp 5),(ResultVar.tmp 6)]) (vs:=[Value.agg #[Vi res1.Mark,sv_ res1.Beyond,sv_ res1.Held],Vi generation,Vi slot,Vo ok,Vi 0]) (⟨b_,0,[Vi res1.Mark,sv_ res1.Beyond,sv_ res1.Held],K_,hc_res1,(zx (k:=3) K_ K_),.inl ⟨K_,rfl⟩,⟨K_,⟨K_,⟨K_,⟨K_,trivial⟩⟩⟩⟩⟩) ⟨res1,generation,slot,ok,0,rfl,h⟩

/-! ### towpath/slots.headOf (function 76) -/
def zbn:=cb_ Tryz.f76
def zys:=cl_ zbn
def zRu:=co_ zys
def zTk:=cr_ zbn
def zzs:=cl_ zTk
def zSu:=co_ zzs
def zUk:=cr_ zTk
def zAs:=cl_ zUk
def zTu:=co_ zAs
def zVk:=cr_ zUk
def zzl:=cl_ zVk
def zBs:=co_ zzl
def zwi:=cr_ zVk
def zAl:=cl_ zwi
def zCs:=co_ zAl
def zxi:=cr_ zwi
def zBl:=cl_ zxi
def zDs:=co_ zBl
def zCl:=cr_ zxi
def zwe:List Nat:=[0,1,2,3,4]

theorem S_Dc {generation:Int} {x:Slc} {w:World} {R:List Int→WP} (h:F_Xe generation x R w):C_bc generation x w R:=by
 unfold F_Xe at h
 unfold C_bc
 refine Calls.mono (zKb (args:=[Value.int .u64 generation,sv_ x]) (R:=fun v w'=>∃(r0:List Int),r0.length=20∧v=Value.agg (List.map (Value.int .u8) r0).toArray∧R r0 w') Tryz.func76 (c:=zbn) K_ 22 K_ K_ [(0,Value.int .u64 generation),(1,sv_ x)] K_ ?_) ?_
 ·refine zt (x:=zys) (y:=zTk) K_ ?_
  refine zi (id:=0) (ops:=zRu) K_ ?_
  refine zk [] 0 [(0,[],Value.int .u64 generation),(1,[],sv_ x)] K_ K_ ?_
  refine zlc (op:=(Op.alloc 91)) (ty:=0) (dst:=some 4) (fun bb=>pv_ bb) (Obj.cells ((List.map (Value.int .u8) (List.replicate 20 0))).toArray y_j (0,0)) K_ K_ (fun b_ w1 hb hw=> ?_)
  replace h:=h b_ w1 hb hw
  clear hb hw
  refine zF [(0,Value.int .u64 generation),(1,sv_ x),(4,pv_ b_)] K_ K_ ?_
  change WpE _ _ zTk _ _ _
  refine zt (x:=zzs) (y:=zUk) K_ ?_
  refine zi (id:=1) (ops:=zSu) K_ ?_
  refine zk [] 0 [(0,[],Value.int .u64 generation),(1,[],sv_ x),(4,[],pv_ b_)] K_ K_ ?_
  refine zP (op:=(Op.slice 91 (Operand.tmp 4) (some (Operand.const (Value.int IntKind.i64 0))) (some (Operand.const (Value.int IntKind.i64 4))) none)) (ty:=38) (dst:=some 5) (Value.slice (some ⟨b_,0,none⟩) 4 20) K_ (fun ww=>by kernel_rfl) ?_
  refine zk [] 1 [(0,[],Value.int .u64 generation),(1,[],sv_ x),(4,[],pv_ b_),(5,[],Value.slice (some ⟨b_,0,none⟩) 4 20)] K_ K_ ?_
  refine zkb (op:=(Op.call (Call.mk (Callee.value (Operand.func 124)) #[(Operand.tmp 5),(Operand.const (Value.int IntKind.u64 1464880980))] #[38,93]))) (ty:=0) (dst:=some 6) 124 #[Value.slice (some ⟨b_,0,none⟩) 4 20,Value.int .u64 1464880980] K_ (fun ww=>by kernel_rfl) (Calls.mono h ?_)
  rintro _ w2 ⟨rfl,h⟩
  refine⟨_,rfl,?_⟩
  refine zF [(0,Value.int .u64 generation),(1,sv_ x),(4,pv_ b_)] K_ K_ ?_
  change WpE _ _ zUk _ _ _
  refine zt (x:=zAs) (y:=zVk) K_ ?_
  refine zi (id:=2) (ops:=zTu) K_ ?_
  refine zk [] 0 [(0,[],Value.int .u64 generation),(1,[],sv_ x),(4,[],pv_ b_)] K_ K_ ?_
  refine zP (op:=(Op.slice 91 (Operand.tmp 4) (some (Operand.const (Value.int IntKind.i64 4))) (some (Operand.const (Value.int IntKind.i64 12))) none)) (ty:=38) (dst:=some 7) (Value.slice (some ⟨b_,4,none⟩) 8 16) K_ (fun ww=>by kernel_rfl) ?_
  refine zk [.plain] 2 [(1,[],sv_ x),(4,[],pv_ b_),(7,[],Value.slice (some ⟨b_,4,none⟩) 8 16),(8,[],Value.int .u64 generation)] K_ K_ ?_
  refine zkb (op:=(Op.call (Call.mk (Callee.value (Operand.func 124)) #[(Operand.tmp 7),(Operand.tmp 8)] #[38,93]))) (ty:=0) (dst:=some 9) 124 #[Value.slice (some ⟨b_,4,none⟩) 8 16,Value.int .u64 generation] K_ (fun ww=>by kernel_rfl) (Calls.mono h ?_)
  rintro _ w3 ⟨rfl,h⟩
  refine⟨_,rfl,?_⟩
  refine zF [(1,sv_ x),(4,pv_ b_)] K_ K_ ?_
  change WpE _ _ zVk _ _ _
  refine zt (x:=zzl) (y:=zwi) K_ ?_
  refine zi (id:=3) (ops:=zBs) K_ ?_
  refine zk [] 0 [(1,[],sv_ x),(4,[],pv_ b_)] K_ K_ ?_
  refine zP (op:=(Op.slice 91 (Operand.tmp 4) (some (Operand.const (Value.int IntKind.i64 12))) (some (Operand.const (Value.int IntKind.i64 16))) none)) (ty:=38) (dst:=some 10) (Value.slice (some ⟨b_,12,none⟩) 4 8) K_ (fun ww=>by kernel_rfl) ?_
  refine zk [.plain,.plain,.plain,.plain] 5 [(1,[],sv_ x),(4,[],pv_ b_),(10,[],Value.slice (some ⟨b_,12,none⟩) 4 8),(14,[],Value.int .u64 (IntKind.u64.wrap (IntKind.u32.wrap ((x.len:Nat):Int))))] K_ K_ ?_
  refine zkb (op:=(Op.call (Call.mk (Callee.value (Operand.func 124)) #[(Operand.tmp 10),(Operand.tmp 14)] #[38,93]))) (ty:=0) (dst:=some 15) 124 #[Value.slice (some ⟨b_,12,none⟩) 4 8,Value.int .u64 (IntKind.u64.wrap (IntKind.u32.wrap ((x.len:Nat):Int)))] K_ (fun ww=>by kernel_rfl) (Calls.mono h ?_)
  rintro _ w4 ⟨rfl,h⟩
  refine⟨_,rfl,?_⟩
  refine zF [(1,sv_ x),(4,pv_ b_)] K_ K_ ?_
  change WpE _ _ zwi _ _ _
  refine zt (x:=zAl) (y:=zxi) K_ ?_
  refine zm (id:=4) (ops:=zCs) zwe K_ K_ K_ K_ (fun w5 hw=> ?_)
  replace h:=h w5 hw
  clear hw
  refine zFb [] 0 [(1,[],sv_ x),(4,[],pv_ b_)] K_ K_ ?_
  refine zci (i:=0) K_ (op:=(Op.slice 91 (Operand.tmp 4) (some (Operand.const (Value.int IntKind.i64 16))) (some (Operand.const (Value.int IntKind.i64 20))) none)) (ty:=38) (dst:=some 16) (Value.slice (some ⟨b_,16,none⟩) 4 4) K_ (fun ww=>by kernel_rfl) ?_
  refine zFb [.plain] 2 [(4,[],pv_ b_),(16,[],Value.slice (some ⟨b_,16,none⟩) 4 4),(17,[],sv_ x)] K_ K_ ?_
  refine zo (op:=(Op.call (Call.mk (Callee.value (Operand.func 125)) #[(Operand.tmp 4),(Operand.tmp 17)] #[91,38]))) (ty:=181) (dst:=some 18) 2 [1] [] 125 #[pv_ b_,sv_ x] K_ K_ K_ K_ K_ (fun ww=>by kernel_rfl) (Calls.mono h ?_)
  rintro _ w6 ⟨v18,rfl,h⟩
  refine⟨_,rfl,trivial,?_⟩
  refine zFb [.plain] 4 [(4,[],pv_ b_),(16,[],Value.slice (some ⟨b_,16,none⟩) 4 4),(19,[],Value.int .u64 (IntKind.u64.wrap v18))] K_ K_ ?_
  refine zo (op:=(Op.call (Call.mk (Callee.value (Operand.func 124)) #[(Operand.tmp 16),(Operand.tmp 19)] #[38,93]))) (ty:=0) (dst:=some 20) 4 [0,2,3,1] [] 124 #[Value.slice (some ⟨b_,16,none⟩) 4 4,Value.int .u64 (IntKind.u64.wrap v18)] K_ K_ K_ K_ K_ (fun ww=>by kernel_rfl) (Calls.mono h ?_)
  rintro _ w7 ⟨rfl,h⟩
  refine⟨_,rfl,trivial,?_⟩
  refine zRe [(4,pv_ b_)] K_ K_ K_ ?_
  change WpE _ _ zxi _ _ _
  refine zt (x:=zBl) (y:=zCl) K_ ?_
  refine zi (id:=5) (ops:=zDs) K_ ?_
  refine zk [] 0 [(4,[],pv_ b_)] K_ K_ ?_
  obtain⟨v21,hl_v21_0,hc,h⟩:=h
  refine zQc (t:=91) (a:=(Operand.tmp 4)) (b:=b_) (o:=0) (ty:=91) (dst:=some 21) (List.map (Value.int .u8) v21) K_ K_ K_ (k:=20) K_ (by simp [hl_v21_0]) hc ?_
  refine zk [] 1 [(4,[],pv_ b_),(21,[],Value.agg (List.map (Value.int .u8) v21).toArray)] K_ K_ ?_
  obtain⟨hc,h⟩:=h
  refine zqb (t:=91) (a:=(Operand.tmp 4)) (x:=(Operand.tmp 21)) (b:=b_) (o:=0) (ty:=0) (dst:=none) (List.map (Value.int .u8) v21) K_ K_ K_ (k:=20) K_ (by simp [*]) (by simp [zQ,oneCell,List.all_eq_true]) hc (fun w8 hw=> ?_)
  replace h:=h w8 hw
  clear hw
  refine zF [(4,pv_ b_)] K_ K_ ?_
  change WpE _ _ zCl _ _ _
  refine zYb K_ ?_
  obtain⟨res,hl_res_0,hc_res,h⟩:=h
  repeat (first | refine zC ?_ | refine zp ?_ | refine zu ?_ | refine zE ?_)
  exact retS (rs:=[(ResultVar.cell 4 91)]) (v:=Value.agg (List.map (Value.int .u8) res).toArray) K_ (⟨b_,0,(List.map (Value.int .u8) res),K_,hc_res,(zx (k:=20) K_ (by simp [hl_res_0])),.inl ⟨K_,rfl⟩,trivial⟩) ⟨res,(by simp [*]),rfl,h⟩
 ·rintro e w' ⟨v,rfl,r0,hl0,rfl,h⟩; exact⟨r0,hl0,rfl,h⟩
end
end Go.Proofs.YtjlfdepkphibgaaGreatDoor
