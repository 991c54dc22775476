/- WRITTEN BY PROGRAM (dec.py): for each Go function the clean formula F, the call's contract C, and the proof S that F gives C. -/
import Derived.Test.YtjlfdepkphibgaaGreatDoorRows
import Derived.Test.YtjlfdepkphibgaaGreatDoorGF
namespace Go.Proofs.YtjlfdepkphibgaaGreatDoor
open Go
set_option linter.unusedVariables false
set_option maxRecDepth 100000
set_option maxHeartbeats 4000000
noncomputable section

/-! ### (*towpath/towpathlaw01.Book).keepVersion (function 153) -/
def zFr:=cb_ Tryz.f153
def zGr:=cr_ zFr
def zHr:=co_ zGr
def zTb:List Nat:=[0,1,2,3,4,5,6,7,8,9,10,11,12,13,14,15]

theorem S_v {b_:OA} {l_:Slc} {w:World} {R:WP} (h:F_ac b_ l_ R w):C_M b_ l_ w R:=by
 unfold F_ac at h
 refine Yh Tryz.func153 ?_
 ·refine Yt (Yn P1 ?_)
  refine Yv 4 h fun hp_1 h=> ?_
  refine Yn P1 (Yn P1 ?_)
  refine Yl h fun v7 h=> ?_
  refine Yn P3 ?_
  refine Yo h fun w1 h=> ?_
  refine Yf [] [0,1] ?_
  refine zm (id:=1) (ops:=zHr) zTb K_ K_ K_ K_ (fun w2 hw=> ?_)
  replace h:=h w2 hw
  clear hw
  refine Mn P2 ?_
  refine Mv 12 h fun hp_2 h=> ?_
  refine Mn P1 ?_
  refine Mn P1 ?_
  refine Ml 4 h fun v15 hc h=> ?_
  refine Mn P2 ?_
  refine Mv 17 h fun hp_3 h=> ?_
  refine Mn P1 ?_
  refine Mn P1 ?_
  refine Ml 9 h fun v20 hc h=> ?_
  refine Mn P1 ?_
  refine zzd (op:=(Op.buildSlice 47 1 #[(0,(Operand.tmp 21))])) (ty:=47) (dst:=some 22) 11 [10,5,9,8,7,6] [(4,fun w'=>w'.cell? ⟨(pblk b_),(poff b_)+6,none⟩=some (sv_ v15))] (fun bb=>Value.slice (some ⟨bb,0,none⟩) 1 1) (Obj.cells ([sv_ l_,Value.slice none 0 0,Vi v20]).toArray y_f (0,0)) K_ K_ K_ K_ K_ K_ (fun b_1 w3 hb hw=> ?_)
  replace h:=h b_1 w3 hb hw
  clear hb hw
  obtain⟨hk0,h⟩:=h
  refine⟨⟨hk0,trivial⟩,?_⟩
  obtain⟨src,hs,h⟩:=h
  refine z1b (t:=47) (tx:=47) (e:=128) (a:=(Operand.tmp 15)) (xo:=(Operand.tmp 22)) (s:=v15) (x:=(Slc.mk (some ⟨b_1,0,none⟩) 1 1)) (sz:=3) (by_:=56) (zs:=[Value.slice none 0 0,Value.slice none 0 0,Vi 0]) (ty:=47) (dst:=some 23) 12 [4,11,3,10,2,5,9,1,8,7,6] [] src K_ K_ K_ K_ K_ K_ K_ K_ K_ K_ K_ K_ K_ hs (zj.mono h (fun v23 w4 h=> ?_))
  refine⟨trivial,?_⟩
  refine Mv 11 h fun hp_4 h=> ?_
  refine Mn P1 ?_
  refine Mn P1 ?_
  refine zoc 15 [0,1,2,3,4,5,6,7,8,9,10,11,12,14,13] [] h fun w5 h=> ?_
  refine⟨trivial,?_⟩
  refine Mf [] [] ?_
  repeat (first | refine zK ?_ | refine zA ?_ | refine zL ?_ | refine zB ?_ | refine zv K_ ?_)
  refine zw ?_
  repeat (first | refine zC ?_ | refine zp ?_ | refine zu ?_ | refine zE ?_)
  exact retT (rs:=[]) (vs:=[]) K_ (trivial) K_ ⟨rfl,h⟩

/-! ### towpath/towpathlaw01.SameVersions (function 170) -/
def zIr:=cb_ Tryz.f170
def zJr:=cr_ zIr
def zpm:=cr_ zJr
def zqm:=cl_ zpm
def zrm:=cr_ zqm
def zsm:=cl_ zrm
def ztm:=cl_ zsm
def zum:=cr_ ztm
def zvm:=cl_ zum
def zwm:=cl_ zvm
def zxm:=cl_ zwm
def zym:=co_ zxm

theorem S_5 {a_:Slc} {b_:Slc} {w:World} {R:Bool→WP} (h:F_3c a_ b_ R w):C_Ab a_ b_ w R:=by
 unfold F_3c at h
 refine Yh Tryz.func170 ?_
 ·refine Yp P1 [0,1] (Ys (Yp (Pl 5) [0,1,10] ?_))
  refine Yc h (fun h=> ?_) fun h=> ?_
  ·refine Yp P1 [4] ?_
   exact YS ⟨false,rfl,h⟩
  ·refine zg (Ys (Yp P1 [0,1,5] (Yd 0 ?_)))
   obtain⟨I,μ,h0,hr⟩:=h
   refine zN (fun m l w=>∃(i:Int),l=[(0,sv_ a_),(1,sv_ b_),(5,Vi i)]∧I i w∧μ i w=m) ⟨0,rfl,h0,rfl⟩ ?_
   rintro _ _ w1 ⟨i,rfl,hI,rfl⟩
   obtain⟨again_,again__h,h⟩:∃ again_:Int→WP,(∀ i' w',again_ i' w'→I i' w'∧μ i' w'<μ i w1)∧F_zb a_ b_ R again_ i w1:=⟨_,fun _ _ h=>h,hr i w1 hI⟩
   clear h0 hI
   unfold F_zb at h
   refine Ys (Yp P4 [0,1,5,14] ?_)
   refine Yc h (fun h=> ?_) fun h=> ?_
   ·refine zg (Ys (Yd 1 (Ys ?_)))
    refine zO (id:=6) (ops:=zym) K_ K_ K_ ?_
    refine Qn P2 ?_
    obtain⟨hp_14,h⟩:=h
    refine Qu 17 (fun pp=> .slice pp a_.len a_.cap) hp_14 ?_
    refine Qi h fun h=> ?_
    refine QL h fun v20 h=> ?_
    refine Qn P2 ?_
    obtain⟨hp_15,h⟩:=h
    refine Qu 21 (fun pp=> .slice pp b_.len b_.cap) hp_15 ?_
    refine Qi h fun h=> ?_
    refine QL h fun v24 h=> ?_
    refine zai (op:=(Op.binOp BinOp.neq 130 (Operand.tmp 20) (Operand.tmp 24) 130)) (ty:=4) (dst:=some 25) (Vo (!(((v20.Number==v24.Number)&&(v20.Val==v24.Val))&&(v20.Drop==v24.Drop)))) K_ (fun ww=>zHd (xs:=[Vi v20.Number,Value.string v20.Val,Vo v20.Drop]) (ys:=[Vi v24.Number,Value.string v24.Val,Vo v24.Drop]) K_ K_ K_ K_ K_ ww) ?_
    refine Qf [] [0,1,5,25] h fun w2 h=> ?_
    refine Yc h (fun h=> ?_) fun h=> ?_
    ·refine Yp P1 [4] ?_
     exact YS ⟨false,rfl,h⟩
    ·refine zg (Yr (Yf P3 [0,1,5] ?_))
     have hb_:=again__h _ _ h
     exact⟨_,hb_.2,_,Sub.mk K_,(IntKind.i64.wrap (i+1)),rfl,hb_.1,rfl⟩
   ·refine zM 0 (Yp P1 [4] ?_)
    exact YS ⟨true,rfl,h⟩
end
end Go.Proofs.YtjlfdepkphibgaaGreatDoor
