/- WRITTEN BY PROGRAM (dec.py): for each Go function the clean formula F, the call's contract C, and the proof S that F gives C. -/
import Derived.Test.YtofjmclceflgiaaGreatRows
import Derived.Test.YtofjmclceflgiaaGreatGF
namespace Go.Proofs.YtofjmclceflgiaaGreat
open Go
set_option linter.unusedVariables false
set_option maxRecDepth 100000
set_option maxHeartbeats 4000000
noncomputable section

/-! ### (*towpath/owner.Owner).All (function 30) -/

theorem S_gb {o_:OA} {w:World} {R:Slc→WP} (h:F_Hc o_ R w):C_jb o_ w R:=by
 unfold F_Hc at h
 refine Yh Tryz.func30 ?_
 ·refine Yp P1 [0] (Ys (Yt (Yn P1 ?_)))
  refine Ym1 h fun v4 w1 h=> ?_
  refine Yf P1 [0,5] ?_
  refine Yc h (fun h=> ?_) fun h=> ?_
  ·refine Yp P1 [2] ?_
   exact YS ⟨(Slc.mk none 0 0),rfl,h⟩
  ·refine zk (Yt (Yn P1 ?_))
   refine Yv 6 h fun hp_0 h=> ?_
   refine Yn P1 (Yn P1 ?_)
   refine Yl h fun v9 h=> ?_
   refine Ym1 h fun v10 w2 h=> ?_
   refine Yf P1 [2] ?_
   exact YS ⟨v10,rfl,h⟩

/-! ### towpath/owner.New (function 43) -/

theorem S_0b {number:Int} {queue:Int} {l_:Slc} {w:World} {R:OA→Int→WP} (h:F_Dd number queue l_ R w):C_5b number queue l_ w R:=by
 unfold F_Dd at h
 refine Yh Tryz.func43 ?_
 ·refine Yp P2 [0,1,2] (Ys (Yp [.plain,.plain,.plain,.plain,.plain,.pick,.plain,.plain,.plain,.pick,.plain,.plain,.plain,.pick] [1,2,24] ?_))
  refine Yc h (fun h=> ?_) fun h=> ?_
  ·refine Yp P2 [6,7] ?_
   exact YT2 ⟨none,1,rfl,h⟩
  ·refine zk (Yt (Yn P1 ?_))
   refine Ym2 h fun s e w1 h=> ?_
   refine Yf (Pl 5) [1,8,9] (Ys (Yp P2 [1,8,9,31] ?_))
   refine Yc h (fun h=> ?_) fun h=> ?_
   ·refine Yp P3 [6,7] ?_
    exact YT2 ⟨none,e,rfl,h⟩
   ·refine zk (Yt (Yn P1 ?_))
    refine Ym2 h fun w_ e1 w2 h=> ?_
    refine Yf (Pl 5) [8,9,10] (Ys (Yp P2 [8,9,10,39] ?_))
    refine Yc h (fun h=> ?_) fun h=> ?_
    ·refine Yp P3 [6,7] ?_
     exact YT2 ⟨none,e1,rfl,h⟩
    ·refine zk (Yt (Yn P3 ?_))
     refine Yw pv_ h fun b_ w3 h=> ?_
     refine Yf P2 [6,7] ?_
     exact YT2 ⟨(some ⟨b_,0,none⟩),0,rfl,h⟩

/-! ### (*towpath/owner.Owner).there (function 50) -/

theorem S_X {o_:OA} {w:World} {R:Bool→WP} (h:F_nc o_ R w):C_i o_ w R:=by
 unfold F_nc at h
 refine Yh Tryz.func50 ?_
 ·refine Yp P1 [0] (Yt (Yn P1 ?_))
  refine zw (op:=(Op.binOp BinOp.neq 105 (Operand.tmp 3) (Operand.const (Vp none)) 105)) (ty:=4) (dst:=some 4) (Vo (!o_.isNone)) K_ (fun ww=>zE (p:=o_) K_ K_ K_ ww) ?_
  refine Yn P2 ?_
  refine Yspl 5 h (fun h=> ?_) fun h=> ?_
  ·refine Yv 6 h fun hp_0 h=> ?_
   refine Yn [.sure] (Yn [.sure] ?_)
   refine Yl h fun v9 h=> ?_
   refine zw (op:=(Op.binOp BinOp.neq 168 (Operand.tmp 9) (Operand.const (Vp none)) 168)) (ty:=4) (dst:=some 10) (Vo (!v9.isNone)) K_ (fun ww=>zE (p:=v9) K_ K_ K_ ww) ?_
   refine Yf P2 [2] ?_
   exact YS ⟨(!v9.isNone),rfl,h⟩
  ·refine Yf [.skip,.skip,.skip,.skip,.plain,.plain] [2] ?_
   exact YS ⟨false,rfl,h⟩

/-! ### (*towpath/owner.Owner).Room (function 104) -/

theorem S_4 {o_:OA} {w:World} {R:Int→WP} (h:F_Dc o_ R w):C_gb o_ w R:=by
 unfold F_Dc at h
 refine Yh Tryz.func104 ?_
 ·refine Yp P1 [0] (Ys (Yt (Yn P1 ?_)))
  refine Ym1 h fun v4 w1 h=> ?_
  refine Yf P1 [0,5] ?_
  refine Yc h (fun h=> ?_) fun h=> ?_
  ·refine Yp P1 [2] ?_
   exact YS ⟨0,rfl,h⟩
  ·refine zk (Yt (Yn P1 ?_))
   refine Yv 6 h fun hp_0 h=> ?_
   refine Yn P1 (Yn P1 ?_)
   refine Yl h fun v9 h=> ?_
   refine Ym1 h fun v10 w2 h=> ?_
   refine Yf P1 [2] ?_
   exact YS ⟨v10,rfl,h⟩

/-! ### (*towpath/owner.Owner).Ask (function 183) -/
def zau:=cb_ Tryz.f183
def zbu:=cr_ zau
def zar:=cr_ zbu
def zbr:=cr_ zar
def zcr:=cr_ zbr
def zdr:=cl_ zcr
def zer:=co_ zdr

theorem S_hb {o_:OA} {r:T_c} {w:World} {R:Bool→Int→WP} (h:F_Mc o_ r R w):C_lb o_ r w R:=by
 unfold F_Mc at h
 refine Yh Tryz.func183 ?_
 ·refine Yt ?_
  refine Yw pv_ h fun b_ w1 h=> ?_
  refine Yf P2 [0,3] (Ys (Yt (Yn P1 ?_)))
  refine Ym1 h fun v7 w2 h=> ?_
  refine Yf P1 [0,3,8] ?_
  refine Yc h (fun h=> ?_) fun h=> ?_
  ·refine Yp P2 [4,5] ?_
   exact YT2 ⟨false,2,rfl,h⟩
  ·refine zk (Ys (Yt ?_))
   refine YL h fun v9 h=> ?_
   refine Ym1 h fun v10 w3 h=> ?_
   refine Yf P1 [0,3,11] ?_
   refine Yc h (fun h=> ?_) fun h=> ?_
   ·refine Yp P2 [4,5] ?_
    exact YT2 ⟨false,1,rfl,h⟩
   ·refine zk (Yt (Yn P1 ?_))
    refine Yl h fun v13 h=> ?_
    refine Ym1 h fun v14 w4 h=> ?_
    refine Yn P1 ?_
    refine Yo h fun w5 h=> ?_
    refine Yf [] [0,3] (Ys ?_)
    refine zn (id:=6) (ops:=zer) K_ 5 K_ K_ (fun w6 hw=> ?_)
    replace h:=h w6 hw
    clear hw
    refine Qn P1 ?_
    refine Qv 16 h fun hp_0 h=> ?_
    refine Qn P1 ?_
    refine Qn P1 ?_
    refine Ql h fun v19 h=> ?_
    refine QL h fun v20 h=> ?_
    refine zD K_ ?_
    refine Ym1 h fun v21 w7 h=> ?_
    refine Yf P2 [4,5] ?_
    exact YT2 ⟨v21,0,rfl,h⟩

/-! ### towpath/owner.may (function 191) -/
def zcu:=cb_ Tryz.f191
def zdu:=cr_ zcu
def zeu:=cr_ zdu
def zfu:=cl_ zeu
def zgu:=co_ zfu

theorem S_1b {r:T_c} {w:World} {R:Bool→WP} (h:F_Gd r R w):C_8b r w R:=by
 unfold F_Gd at h
 refine Yh Tryz.func191 ?_
 ·refine Yt ?_
  refine Yw pv_ h fun b_ w1 h=> ?_
  refine Yf P1 [1] ?_
  refine Ycut (fun l w=>∃(mark:Bool),l=[(1,pv_ b_),(3,Vo mark)]∧F_2b R b_ mark w) ?_ ?_
  ·refine Yr (Yn P1 ?_)
   refine Yl h fun v9 h=> ?_
   refine Yn P3 ?_
   refine Yspl 11 h (fun h=> ?_) fun h=> ?_
   ·refine Yl h fun v13 h=> ?_
    refine Yf [.sure,.plain,.plain] [1,3] ?_
    exact⟨_,Sub.mk K_,(decide (v13≤65536)),rfl,h⟩
   ·refine Yf [.skip,.skip,.plain,.plain] [1,3] ?_
    exact⟨_,Sub.mk K_,false,rfl,h⟩
  ·rintro _ w2 ⟨mark,rfl,h⟩
   unfold F_2b at h
   refine Ycut (fun l w=>∃(key:Bool) (bare:Bool),l=[(1,pv_ b_),(3,Vo mark),(4,Vo key),(5,Vo bare)]∧F_hb R b_ mark key bare w) ?_ ?_
   ·refine zv (id:=2) (ops:=zgu) K_ K_ K_ ?_
    refine Qn P1 ?_
    refine Ql h fun v17 h=> ?_
    refine Qn P3 ?_
    refine Qspl 19 h (fun h=> ?_) fun h=> ?_
    ·refine Ql h fun v21 h=> ?_
     refine Qn [.sure,.sure,.plain,.plain] ?_
     refine Ql h fun v26 h=> ?_
     refine Qn P3 ?_
     refine Qspl 28 h (fun h=> ?_) fun h=> ?_
     ·refine Ql h fun v30 h=> ?_
      refine Qf [.sure,.plain,.plain,.plain] [1,3,4,5] h fun w9 h=> ?_
      exact⟨_,Sub.mk K_,(decide (((v21.size:Nat):Int)≤64)),(v30.toList==ByteArray.empty.toList),rfl,h⟩
     ·refine Qf [.skip,.skip,.plain,.plain,.plain] [1,3,4,5] h fun w10 h=> ?_
      exact⟨_,Sub.mk K_,(decide (((v21.size:Nat):Int)≤64)),false,rfl,h⟩
    ·refine Qn [.skip,.skip,.skip,.plain,.plain] ?_
     refine Ql h fun v261 h=> ?_
     refine Qn P3 ?_
     refine Qspl 28 h (fun h=> ?_) fun h=> ?_
     ·refine Ql h fun v301 h=> ?_
      refine Qf [.sure,.plain,.plain,.plain] [1,3,4,5] h fun w11 h=> ?_
      exact⟨_,Sub.mk K_,false,(v301.toList==ByteArray.empty.toList),rfl,h⟩
     ·refine Qf [.skip,.skip,.plain,.plain,.plain] [1,3,4,5] h fun w12 h=> ?_
      exact⟨_,Sub.mk K_,false,false,rfl,h⟩
   ·rintro _ w3 ⟨key,bare,rfl,h⟩
    unfold F_hb at h
    refine Ycut (fun l w=>∃(read:Bool),l=[(1,pv_ b_),(3,Vo mark),(4,Vo key),(5,Vo bare),(6,Vo read)]∧F_sb R b_ mark key bare read w) ?_ ?_
    ·refine Yr (Yn P1 ?_)
     refine Yl h fun v34 h=> ?_
     refine Yn [.plain,.plain,.plain,.pick,.plain,.plain] ?_
     refine Yspl 39 h (fun h=> ?_) fun h=> ?_
     ·refine YL h fun v41 h=> ?_
      refine Yn [.sure] ?_
      refine zw (op:=(Op.binOp BinOp.eql 69 (Operand.tmp 41) (Operand.tmp 42) 69)) (ty:=4) (dst:=some 43) (Vo (((v41.Key==ByteArray.empty)&&(v41.Val==ByteArray.empty))&&(v41.Drop==false))) K_ (fun ww=>zod (xs:=[Value.string v41.Key,Value.string v41.Val,Vo v41.Drop]) (ys:=[Value.string ByteArray.empty,Value.string ByteArray.empty,Vo false]) K_ K_ K_ K_ K_ ww) ?_
      refine Yf P2 [1,3,4,5,6] ?_
      exact⟨_,Sub.mk K_,(((v41.Key==ByteArray.empty)&&(v41.Val==ByteArray.empty))&&(v41.Drop==false)),rfl,h⟩
     ·refine Yf [.skip,.skip,.skip,.plain,.plain] [1,3,4,5,6] ?_
      exact⟨_,Sub.mk K_,false,rfl,h⟩
    ·rintro _ w4 ⟨read,rfl,h⟩
     unfold F_sb at h
     refine Ys ?_
     refine Ycut (fun l w=>∃(t53:Bool),l=[(1,pv_ b_),(3,Vo mark),(4,Vo key),(5,Vo bare),(6,Vo read),(53,Vo t53)]∧F_1b R b_ mark key bare read t53 w) ?_ ?_
     ·refine Yr (Yn P1 ?_)
      refine Yl h fun v46 h=> ?_
      refine Yn P3 ?_
      refine Yspl 48 h (fun h=> ?_) fun h=> ?_
      ·refine Yl h fun v50 h=> ?_
       refine Yf [.sure,.sure,.plain] [1,3,4,5,6,53] ?_
       exact⟨_,Sub.mk K_,(decide (((v50.len:Nat):Int)>0)),rfl,h⟩
      ·refine Yf [.skip,.skip,.skip,.plain] [1,3,4,5,6,53] ?_
       exact⟨_,Sub.mk K_,false,rfl,h⟩
     ·rintro _ w5 ⟨t53,rfl,h⟩
      unfold F_1b at h
      refine Yc h (fun h=> ?_) fun h=> ?_
      ·refine Yp P1 [2] ?_
       exact YS ⟨false,rfl,h⟩
      ·refine zk (Ys (Yt (Yn P1 ?_)))
       refine YL h fun v55 h=> ?_
       refine Yw pv_ h fun b_1 w6 h=> ?_
       refine Yo h fun w7 h=> ?_
       refine Yf [] [1,3,4,5,6,7] (Yt (Yn P1 ?_))
       refine Yl h fun v57 h=> ?_
       refine Yf [] [1,3,4,5,6,7,57] (Yd 0 (Yp P2 [1,3,4,5,6,7,57,58] ?_))
       refine Yc h (fun h=> ?_) fun h=> ?_
       ·refine Yt (Yn P1 ?_)
        refine Yl h fun v61 h=> ?_
        refine Yn [.plain,.plain,.plain,.pick,.plain,.plain] ?_
        refine Yspl 66 h (fun h=> ?_) fun h=> ?_
        ·refine Yl h fun v68 h=> ?_
         refine Yn [.sure,.plain,.plain,.plain,.pick,.plain,.plain] ?_
         refine Yspl 74 h (fun h=> ?_) fun h=> ?_
         ·refine Yl h fun v76 h=> ?_
          refine Yn [.sure,.plain,.plain,.plain] ?_
          refine Yspl 79 h (fun h=> ?_) fun h=> ?_
          ·refine Yl h fun v81 h=> ?_
           refine Yn [.sure,.sure,.plain,.plain,.plain] ?_
           refine Yspl 85 h (fun h=> ?_) fun h=> ?_
           ·refine Yl h fun v87 h=> ?_
            refine Yn [.sure,.sure,.plain,.plain,.plain] ?_
            refine Yspl 91 h (fun h=> ?_) fun h=> ?_
            ·refine Yl h fun v93 h=> ?_
             refine Yn [.sure,.sure,.plain] ?_
             refine Yspl 95 h (fun h=> ?_) fun h=> ?_
             ·refine Yf [.skip,.skip,.sure,.plain,.plain] [2] ?_
              exact YS ⟨true,rfl,h⟩
             ·refine Yl h fun v97 h=> ?_
              refine Yf [.sure,.sure,.plain,.plain] [2] ?_
              exact YS ⟨(v97.toList==ByteArray.empty.toList),rfl,h⟩
            ·refine Yf [.skip,.skip,.skip,.skip,.skip,.skip,.skip,.plain,.plain] [2] ?_
             exact YS ⟨false,rfl,h⟩
           ·refine Yf [.skip,.skip,.skip,.plain,.plain,.skip,.skip,.skip,.skip,.skip,.skip,.skip,.skip,.plain,.plain] [2] ?_
            exact YS ⟨false,rfl,h⟩
          ·refine Yf [.skip,.skip,.skip,.plain,.plain,.skip,.skip,.skip,.skip,.plain,.plain,.skip,.skip,.skip,.skip,.skip,.skip,.skip,.skip,.plain,.plain] [2] ?_
           exact YS ⟨false,rfl,h⟩
         ·refine Yf [.skip,.skip,.plain,.plain,.skip,.skip,.skip,.skip,.plain,.plain,.skip,.skip,.skip,.skip,.plain,.plain,.skip,.skip,.skip,.skip,.skip,.skip,.skip,.skip,.plain,.plain] [2] ?_
          exact YS ⟨false,rfl,h⟩
        ·refine Yf [.skip,.skip,.plain,.plain,.skip,.plain,.plain,.skip,.skip,.skip,.plain,.plain,.skip,.skip,.skip,.skip,.plain,.plain,.skip,.skip,.skip,.skip,.plain,.plain,.skip,.skip,.skip,.skip,.skip,.skip,.skip,.skip,.plain,.plain] [2] ?_
         exact YS ⟨false,rfl,h⟩
       ·refine Yp P2 [1,4,5,6,57,101] ?_
        refine Yc h (fun h=> ?_) fun h=> ?_
        ·refine Yt (Yn [.plain,.plain,.plain,.pick,.plain,.plain] ?_)
         refine Yspl 107 h (fun h=> ?_) fun h=> ?_
         ·refine Yl h fun v109 h=> ?_
          refine Yf [.sure,.plain,.plain] [2] ?_
          exact YS ⟨(v109.toList==ByteArray.empty.toList),rfl,h⟩
         ·refine Yf [.skip,.skip,.plain,.plain] [2] ?_
          exact YS ⟨false,rfl,h⟩
        ·refine Yp P2 [1,5,6,57,112] ?_
         refine Yc h (fun h=> ?_) fun h=> ?_
         ·refine Yt (Yn P3 ?_)
          refine Yspl 115 h (fun h=> ?_) fun h=> ?_
          ·refine Yl h fun v117 h=> ?_
           refine Yn [.sure,.sure,.plain,.plain,.plain] ?_
           refine Yspl 121 h (fun h=> ?_) fun h=> ?_
           ·refine Yl h fun v123 h=> ?_
            refine Yf [.sure,.sure,.plain,.plain] [2] ?_
            exact YS ⟨(decide (((v123.size:Nat):Int)≤64)),rfl,h⟩
           ·refine Yf [.skip,.skip,.skip,.plain,.plain] [2] ?_
            exact YS ⟨false,rfl,h⟩
          ·refine Yf [.skip,.skip,.skip,.plain,.plain,.skip,.skip,.skip,.skip,.plain,.plain] [2] ?_
           exact YS ⟨false,rfl,h⟩
         ·refine Yp P2 [1,5,6,57,127] ?_
          refine Yc h (fun h=> ?_) fun h=> ?_
          ·refine Yp [.plain,.plain,.plain,.pick,.plain] [2] ?_
           exact YS ⟨(read&&bare),rfl,h⟩
          ·refine Yp P2 [1,5,6,133] ?_
           refine Yc h (fun h=> ?_) fun h=> ?_
           ·refine Yt (Yn [.plain,.plain,.plain,.pick,.plain,.plain] ?_)
            refine Yspl 139 h (fun h=> ?_) fun h=> ?_
            ·refine Yl h fun v141 h=> ?_
             refine Yn [.sure] ?_
             refine Yl h fun v143 h=> ?_
             refine Ym1 h fun v144 w8 h=> ?_
             refine Yf P2 [2] ?_
             exact YS ⟨v144,rfl,h⟩
            ·refine Yf [.skip,.skip,.skip,.skip,.plain,.plain] [2] ?_
             exact YS ⟨false,rfl,h⟩
           ·refine zk (Yp P1 [2] ?_)
            exact YS ⟨false,rfl,h⟩

/-! ### (*towpath/owner.Owner).Len (function 211) -/

theorem S_ib {o_:OA} {w:World} {R:Int→WP} (h:F_Nc o_ R w):C_mb o_ w R:=by
 unfold F_Nc at h
 refine Yh Tryz.func211 ?_
 ·refine Yp P1 [0] (Ys (Yt (Yn P1 ?_)))
  refine Ym1 h fun v4 w1 h=> ?_
  refine Yf P1 [0,5] ?_
  refine Yc h (fun h=> ?_) fun h=> ?_
  ·refine Yp P1 [2] ?_
   exact YS ⟨0,rfl,h⟩
  ·refine zk (Yt (Yn P1 ?_))
   refine Yv 6 h fun hp_0 h=> ?_
   refine Yn P1 (Yn P1 ?_)
   refine Yl h fun v9 h=> ?_
   refine Ym1 h fun v10 w2 h=> ?_
   refine Yf P1 [2] ?_
   exact YS ⟨v10,rfl,h⟩
end
end Go.Proofs.YtofjmclceflgiaaGreat
