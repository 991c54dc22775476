/- WRITTEN BY PROGRAM (dec.py): for each Go function the clean formula F, the call's contract C, and the proof S that F gives C. -/
import Derived.Test.YtofjmclceflgiaaGreatRows
import Derived.Test.YtofjmclceflgiaaGreatGF
namespace Go.Proofs.YtofjmclceflgiaaGreat
open Go
set_option linter.unusedVariables false
set_option maxRecDepth 100000
set_option maxHeartbeats 4000000
noncomputable section

/-! ### towpath/feed.New (function 39) -/

theorem S_3b {s:OA} {mark:Int} {beyond:Slc} {window:Int} {w:World} {R:OA→Int→WP} (h:F_Ld s mark beyond window R w):C_cc s mark beyond window w R:=by
 unfold F_Ld at h
 refine Yh Tryz.func39 ?_
 ·refine Yp P2 [0,1,2,3] (Ys (Yt (Yn P1 ?_)))
  refine zw (op:=(Op.binOp BinOp.eql 62 (Operand.tmp 14) (Operand.const (Vp none)) 62)) (ty:=4) (dst:=some 15) (Vo s.isNone) K_ (fun ww=>zy (p:=s) K_ K_ K_ ww) ?_
  refine Yf [] [0,1,2,3,15] ?_
  refine Yc h (fun h=> ?_) fun h=> ?_
  ·refine Yp P2 [8,9] ?_
   exact YT2 ⟨none,2,rfl,h⟩
  ·refine zk (Ys (Yp [.plain,.plain,.plain,.plain,.plain,.pick,.plain,.plain,.plain,.pick] [0,1,2,3,25] ?_))
   refine Yc h (fun h=> ?_) fun h=> ?_
   ·refine Yp P2 [8,9] ?_
    exact YT2 ⟨none,1,rfl,h⟩
   ·refine zk (Yt (Yn P2 ?_))
    refine Yw (fun bb=>Value.map (some bb)) h fun b_ w1 h=> ?_
    refine Yf P1 [0,1,2,3,10] (Yp P2 [0,1,2,3,10,11] (Ys (Yp P3 [0,1,3,10,11,30,31,32] (Yd 0 ?_))))
    obtain⟨I,μ,h0,hr⟩:=h
    refine znb (fun m l w=>∃(last:Int) (t32:Int),l=[(0,Vp s),(1,Vi mark),(3,Vi window),(10,Value.map (some b_)),(11,Vi last),(30,sv_ beyond),(31,Vi ((beyond.len:Nat):Int)),(32,Vi t32)]∧I last t32 w∧μ last t32 w=m) ⟨mark,0,rfl,h0,rfl⟩ ?_
    rintro _ _ w2 ⟨last,t32,rfl,hI,rfl⟩
    obtain⟨again_,again__h,h⟩:∃ again_:Int→Int→WP,(∀ last' t32' w',again_ last' t32' w'→I last' t32' w'∧μ last' t32' w'<μ last t32 w2)∧F_Uc s mark beyond window R b_ again_ last t32 w2:=⟨_,fun _ _ _ h=>h,hr last t32 w2 hI⟩
    clear h0 hI
    unfold F_Uc at h
    refine Yp P1 [0,1,3,10,11,30,31,32,33] (Ys ?_)
    refine Yc h (fun h=> ?_) fun h=> ?_
    ·refine zk (Ys (Yd 1 (Yt (Yn P1 ?_))))
     obtain⟨hp_7,h⟩:=h
     refine Yu 30 (fun pp=> .slice pp beyond.len beyond.cap) hp_7 ?_
     refine Yi1 h fun h=> ?_
     refine Yl h fun n_ h=> ?_
     refine Yn P2 (Yu 30 (fun pp=> .slice pp beyond.len beyond.cap) hp_7.symm ?_)
     refine Yf [] [0,1,3,10,11,12,13,30,31,32] (Ys (Yp [.plain,.plain,.plain,.plain,.plain,.plain,.plain,.plain,.plain,.plain,.plain,.pick,.pick] [0,1,3,10,13,30,31,32,49] ?_))
     refine Yc h (fun h=> ?_) fun h=> ?_
     ·refine Yp P2 [8,9] ?_
      exact YT2 ⟨none,1,rfl,h⟩
     ·refine zk (Yp P2 [0,1,3,10,11,13,30,31,32] (Yr (Yn P3 ?_)))
      obtain⟨r,es,c,hr_,hm_,hi_,hn_,h⟩:=h
      refine zrf (t:=189) (kt:=3) (et:=190) (x:=(Operand.tmp 51)) (k:=(Operand.tmp 52)) (v:=(Operand.tmp 53)) (m:=(some b_)) (es:=es) (j:=n_) (vv:=(Value.agg #[])) (ty:=0) (dst:=none) r c K_ K_ hr_ K_ K_ K_ K_ (fun w_=>by kernel_rfl) hm_ hi_ hn_ (fun w3 hw=> ?_)
      replace h:=h w3 hw
      clear hw
      refine Yf [] [0,1,3,10,11,30,31,32] (Yr (Yf P2 [0,1,3,10,11,30,31,32] ?_))
      have hb_:=again__h _ _ _ h
      exact⟨_,hb_.2,_,Sub.mk K_,n_,(IntKind.i64.wrap (t32+1)),rfl,hb_.1,rfl⟩
    ·refine z3 0 (Ys (Yt (Yn P2 ?_)))
     refine Ym1 h fun v57 w4 h=> ?_
     refine Yf P1 [0,1,3,10,58] ?_
     refine Yc h (fun h=> ?_) fun h=> ?_
     ·refine Yp P2 [8,9] ?_
      exact YT2 ⟨none,6,rfl,h⟩
     ·refine zk (Yt (Yn (Pl 6) ?_))
      refine Yw pv_ h fun b_1 w5 h=> ?_
      refine Yf P2 [8,9] ?_
      exact YT2 ⟨(some ⟨b_1,0,none⟩),0,rfl,h⟩

/-! ### (*towpath/feed.Feed).More (function 44) -/

theorem S_mb {f:OA} {last:Int} {w:World} {R:Int→WP} (h:F_Zc f last R w):C_sb f last w R:=by
 unfold F_Zc at h
 refine Yh Tryz.func44 ?_
 ·refine Yp P1 [0,1] (Ys (Yd 0 (Yt (Yn P1 ?_))))
  refine Ym1 h fun v7 w1 h=> ?_
  refine Yf P2 [0,1,5] ?_
  refine Yc h (fun h=> ?_) fun h=> ?_
  ·refine Yp P1 [4] ?_
   exact YS ⟨2,rfl,h⟩
  ·refine Yt (Yn P1 ?_)
   refine Yv 10 h fun hp_7 h=> ?_
   refine Yn P1 (Yn P1 ?_)
   refine Yl h fun v13 h=> ?_
   refine Yf P1 [0,1,9] ?_
   refine Yc h (fun h=> ?_) fun h=> ?_
   ·refine Yp P1 [4] ?_
    exact YS ⟨12,rfl,h⟩
   ·refine Ycut (fun l w=>∃(t14:Bool),l=[(0,Vp f),(1,Vi last),(14,Vo t14)]∧F_O f last R t14 w) ?_ ?_
    ·refine Yr (Yn P2 ?_)
     refine Yv 16 h fun hp_12 h=> ?_
     refine Yn P1 (Yn P1 ?_)
     refine Yl h fun v19 h=> ?_
     refine Yn P4 ?_
     refine Yspl 21 h (fun h=> ?_) fun h=> ?_
     ·refine Yf [.skip,.skip,.skip,.skip,.skip,.plain,.plain] [0,1,14] ?_
      exact⟨_,Sub.mk K_,true,rfl,h⟩
     ·refine Yv 23 h fun hp_13 h=> ?_
      refine Yn [.sure] (Yn [.sure] ?_)
      refine Yl h fun v26 h=> ?_
      refine Ym1 h fun v27 w4 h=> ?_
      refine Yf [.sure,.plain,.plain] [0,1,14] ?_
      exact⟨_,Sub.mk K_,(decide (last>v27)),rfl,h⟩
    ·rintro _ w2 ⟨t14,rfl,h⟩
     unfold F_O at h
     refine Yc h (fun h=> ?_) fun h=> ?_
     ·refine Yp P1 [4] ?_
      exact YS ⟨1,rfl,h⟩
     ·refine zk (Yt (Yn P2 ?_))
      refine Yv 30 h fun hp_11 h=> ?_
      refine Yn P1 (Yn P1 ?_)
      refine Yo h fun w3 h=> ?_
      refine Yf [] [] (Yp P1 [4] ?_)
      exact YS ⟨0,rfl,h⟩

/-! ### (*towpath/feed.Feed).there (function 66) -/

theorem S_6 {f:OA} {w:World} {R:Bool→WP} (h:F_Jc f R w):C_s f w R:=by
 unfold F_Jc at h
 refine Yh Tryz.func66 ?_
 ·refine Yp P1 [0] (Yt (Yn P1 ?_))
  refine zw (op:=(Op.binOp BinOp.neq 75 (Operand.tmp 3) (Operand.const (Vp none)) 75)) (ty:=4) (dst:=some 4) (Vo (!f.isNone)) K_ (fun ww=>zE (p:=f) K_ K_ K_ ww) ?_
  refine Yn P2 ?_
  refine Yspl 5 h (fun h=> ?_) fun h=> ?_
  ·refine Yv 6 h fun hp_0 h=> ?_
   refine Yn [.sure] (Yn [.sure] ?_)
   refine Yl h fun v9 h=> ?_
   refine zw (op:=(Op.binOp BinOp.neq 62 (Operand.tmp 9) (Operand.const (Vp none)) 62)) (ty:=4) (dst:=some 10) (Vo (!v9.isNone)) K_ (fun ww=>zE (p:=v9) K_ K_ K_ ww) ?_
   refine Yf P2 [2] ?_
   exact YS ⟨(!v9.isNone),rfl,h⟩
  ·refine Yf [.skip,.skip,.skip,.skip,.plain,.plain] [2] ?_
   exact YS ⟨false,rfl,h⟩

/-! ### (*towpath/feed.Feed).Can (function 214) -/
def z4s:=cb_ Tryz.f214
def z5s:=cr_ z4s
def zOo:=cr_ z5s
def zPo:=cr_ zOo
def zQo:=cl_ zPo
def zRo:=cl_ zQo
def zSo:=cl_ zRo
def zTo:=cl_ zSo
def zUo:=cl_ zTo
def zVo:=cl_ zUo
def zWo:=cl_ zVo
def zXo:=cl_ zWo
def zYo:=cl_ zXo
def zZo:=cl_ zYo
def z0o:=cl_ zZo
def z1o:=cl_ z0o
def z2o:=cr_ z1o
def z3o:=cr_ z2o
def z4o:=cr_ z3o
def z5o:=cl_ z4o
def z6o:=co_ z5o

theorem S_Db {f:OA} {mark:Int} {w:World} {R:Int→WP} (h:F_gd f mark R w):C_Gb f mark w R:=by
 unfold F_gd at h
 refine Yh Tryz.func214 ?_
 ·refine Yp P1 [0,1] (Ys (Yt (Yn P1 ?_)))
  refine Ym1 h fun v7 w1 h=> ?_
  refine Yf P1 [0,1,8] ?_
  refine Yc h (fun h=> ?_) fun h=> ?_
  ·refine Yp P1 [4] ?_
   exact YS ⟨0,rfl,h⟩
  ·refine zk (Yp P1 [0,1] ?_)
   refine Ycut (fun l w=>∃(k_:Int),l=[(5,Value.int .u8 k_)]∧F_r R k_ w) ?_ ?_
   ·refine Yd 0 (Ys (Yd 5 ?_))
    refine Ycut (fun l w=>l=[]∧F_0 R w) ?_ ?_
    ·refine Yd 4 (Yd 3 (Ys (Yd 2 (Ys (Yd 1 (Ys (Ys ?_)))))))
     refine Ycut (fun l w=>∃(t9:Bool),l=[(0,Vp f),(1,Vi mark),(9,Vo t9)]∧F_3 f mark R t9 w) ?_ ?_
     ·refine Yr (Yn P1 ?_)
      refine Yv 10 h fun hp_1535 h=> ?_
      refine Yn P1 (Yn P1 ?_)
      refine Yl h fun v13 h=> ?_
      refine zw (op:=(Op.binOp BinOp.neq 191 (Operand.tmp 13) (Operand.const (Vp none)) 191)) (ty:=4) (dst:=some 14) (Vo (!v13.isNone)) K_ (fun ww=>zE (p:=v13) K_ K_ K_ ww) ?_
      refine Yn P2 ?_
      refine Yspl 15 h (fun h=> ?_) fun h=> ?_
      ·refine Ym1 h fun v17 w9 h=> ?_
       refine Yf P2 [0,1,9] ?_
       exact⟨_,Sub.mk K_,v17,rfl,h⟩
      ·refine Yf [.skip,.plain,.plain] [0,1,9] ?_
       exact⟨_,Sub.mk K_,false,rfl,h⟩
     ·rintro _ w4 ⟨t9,rfl,h⟩
      unfold F_3 at h
      refine Yc h (fun h=> ?_) fun h=> ?_
      ·refine z3 1 (Yp P1 [5] (z3 0 ?_))
       exact⟨_,Sub.mk K_,2,rfl,h⟩
      ·refine zk (Ys ?_)
       refine Ycut (fun l w=>∃(t19:Bool),l=[(0,Vp f),(19,Vo t19)]∧F_2 f R t19 w) ?_ ?_
       ·refine Yr (Yn P1 ?_)
        refine Yv 20 h fun hp_1534 h=> ?_
        refine Yn P1 (Yn P1 ?_)
        refine Yl h fun v23 h=> ?_
        refine zw (op:=(Op.binOp BinOp.neq 191 (Operand.tmp 23) (Operand.const (Vp none)) 191)) (ty:=4) (dst:=some 24) (Vo (!v23.isNone)) K_ (fun ww=>zE (p:=v23) K_ K_ K_ ww) ?_
        refine Yn P3 ?_
        refine Yspl 25 h (fun h=> ?_) fun h=> ?_
        ·refine Ym1 h fun v28 w8 h=> ?_
         refine Yf P2 [0,19] ?_
         exact⟨_,Sub.mk K_,v28,rfl,h⟩
        ·refine Yf [.skip,.plain,.plain] [0,19] ?_
         exact⟨_,Sub.mk K_,false,rfl,h⟩
       ·rintro _ w5 ⟨t19,rfl,h⟩
        unfold F_2 at h
        refine Yc h (fun h=> ?_) fun h=> ?_
        ·refine z3 2 (Yp P1 [5] (z3 0 ?_))
         exact⟨_,Sub.mk K_,3,rfl,h⟩
        ·refine zk (Ys ?_)
         refine Ycut (fun l w=>∃(t30:Bool),l=[(0,Vp f),(30,Vo t30)]∧F_1 f R t30 w) ?_ ?_
         ·refine Yt (Yn P1 ?_)
          refine Yv 31 h fun hp_1532 h=> ?_
          refine Yn P1 (Yn P1 ?_)
          refine Yl h fun v34 h=> ?_
          refine zw (op:=(Op.binOp BinOp.neq 191 (Operand.tmp 34) (Operand.const (Vp none)) 191)) (ty:=4) (dst:=some 35) (Vo (!v34.isNone)) K_ (fun ww=>zE (p:=v34) K_ K_ K_ ww) ?_
          refine Yf P1 [0,30] ?_
          refine Yc h (fun h=> ?_) fun h=> ?_
          ·refine zk ?_
           exact⟨_,Sub.mk K_,(!v34.isNone),rfl,h⟩
          ·refine Yr (Yn P1 ?_)
           refine Yv 36 h fun hp_1533 h=> ?_
           refine Yn P1 (Yn P1 ?_)
           refine Yl h fun v39 h=> ?_
           refine Yf P1 [0,30] ?_
           exact⟨_,Sub.mk K_,v39,rfl,h⟩
         ·rintro _ w6 ⟨t30,rfl,h⟩
          unfold F_1 at h
          refine Yc h (fun h=> ?_) fun h=> ?_
          ·refine z3 3 ?_
           exact⟨_,Sub.mk K_,rfl,h⟩
          ·refine zk (Ys ?_)
           refine zv (id:=8) (ops:=z6o) K_ K_ K_ ?_
           refine Qn P1 ?_
           refine Qv 41 h fun hp_1529 h=> ?_
           refine Qn P1 ?_
           refine Qn P1 ?_
           refine Ql h fun v44 h=> ?_
           refine Qn P1 ?_
           refine Qv 45 h fun hp_1530 h=> ?_
           refine Qn P1 ?_
           refine Qn P1 ?_
           refine Ql h fun v48 h=> ?_
           refine Qf P2 [40] h fun w7 h=> ?_
           refine Yc h (fun h=> ?_) fun h=> ?_
           ·refine z3 4 ?_
            exact⟨_,Sub.mk K_,rfl,h⟩
           ·refine zk (z3 5 (Yp P1 [5] (z3 0 ?_)))
            exact⟨_,Sub.mk K_,1,rfl,h⟩
    ·rintro _ w3 ⟨rfl,h⟩
     unfold F_0 at h
     refine Ys (Yp P1 [4] ?_)
     exact YS ⟨0,rfl,h⟩
   ·rintro _ w2 ⟨k_,rfl,h⟩
    unfold F_r at h
    refine Yp P2 [4] ?_
    exact YS ⟨k_,rfl,h⟩

/-! ### (*towpath/feed.Feed).Read (function 215) -/
def z6s:=cb_ Tryz.f215
def ztn:=cr_ z6s
def z7s:=cl_ ztn
def z8s:=cl_ z7s
def z9s:=cr_ z8s
def z7o:=cr_ z9s
def z8o:=cr_ z7o
def z9o:=cr_ z8o
def zap:=cr_ z9o
def zbp:=cr_ zap
def zcp:=cl_ zbp
def zdp:=co_ zcp
def zep:=cr_ ztn
def zfp:=cl_ zep
def zgp:=co_ zfp
def zyd:List Nat:=[0,1,2,3,4,5,6,7,8,9,10,11,12,13,14,15]
def z2c:List Nat:=[0,1,2,3,4,5,6,7,8,9,10,11,12,13,14,15]
def z3c:List Nat:=[0,1,2,3,4,5,6,7,8,13,9,10,11,12,14,15]

theorem S_nb {f:OA} {w:World} {R:Int→Int→WP} (h:F_3c f R w):C_ub f w R:=by
 unfold F_3c at h
 refine Yh Tryz.func215 ?_
 ·refine Yp P2 [0] (Ys (Yd 0 (Yt (Yn P1 ?_))))
  refine Ym1 h fun v8 w1 h=> ?_
  refine Yf P2 [0,6] ?_
  refine Yc h (fun h=> ?_) fun h=> ?_
  ·refine Yp P2 [2,3] ?_
   exact YT2 ⟨0,2,rfl,h⟩
  ·refine Yt (Yn P1 ?_)
   refine Yv 11 h fun hp_9 h=> ?_
   refine Yn P1 (Yn P1 ?_)
   refine Yl h fun v14 h=> ?_
   refine zw (op:=(Op.binOp BinOp.neq 191 (Operand.tmp 14) (Operand.const (Vp none)) 191)) (ty:=4) (dst:=some 15) (Vo (!v14.isNone)) K_ (fun ww=>zE (p:=v14) K_ K_ K_ ww) ?_
   refine Yf P1 [0,10] ?_
   refine Yc h (fun h=> ?_) fun h=> ?_
   ·refine Yp P2 [2,3] ?_
    exact YT2 ⟨0,10,rfl,h⟩
   ·refine Yt (Yn P1 ?_)
    refine Yv 17 h fun hp_11 h=> ?_
    refine Yn P1 (Yn P1 ?_)
    refine Yl h fun v20 h=> ?_
    refine Yf P1 [0,16] ?_
    refine Yc h (fun h=> ?_) fun h=> ?_
    ·refine Yp P2 [2,3] ?_
     exact YT2 ⟨0,12,rfl,h⟩
    ·refine Ys ?_
     refine zv (id:=7) (ops:=zdp) K_ K_ K_ ?_
     refine Qn P1 ?_
     refine Qv 22 h fun hp_14 h=> ?_
     refine Qn P1 ?_
     refine Qn P1 ?_
     refine Ql h fun v25 h=> ?_
     refine Qn P1 ?_
     refine Qv 26 h fun hp_15 h=> ?_
     refine Qn P1 ?_
     refine Qn P1 ?_
     refine Ql h fun v29 h=> ?_
     refine Qf P2 [0,21] h fun w2 h=> ?_
     refine Yc h (fun h=> ?_) fun h=> ?_
     ·refine Yp P2 [2,3] ?_
      exact YT2 ⟨0,9,rfl,h⟩
     ·refine zk ?_
      refine Ycut (fun l w=>∃(t_:OA) (e:Int),l=[(0,Vp f),(4,Vp t_),(5,Vi e)]∧F_P f R t_ e w) ?_ ?_
      ·refine zm (id:=9) (ops:=zgp) zyd K_ K_ K_ K_ (fun w6 hw=> ?_)
       replace h:=h w6 hw
       clear hw
       refine Mn P1 ?_
       refine Mv 32 h fun hp_23 h=> ?_
       refine Mn P1 ?_
       refine Mn P1 ?_
       refine Ml 3 h fun v35 hc h=> ?_
       refine Mn P1 ?_
       refine Mv 36 h fun hp_24 h=> ?_
       refine Mn P1 ?_
       refine Mn P1 ?_
       refine Ml 7 h fun v39 hc h=> ?_
       refine Mn P1 ?_
       refine ztc 9 [9,13] K_ K_ (zWd ?_ ?_)
       ·replace h:=h.1
        refine z0c (π:=z2c) (k:=9) (op:=(Op.call (Call.mk (Callee.value (Operand.func 221)) #[(Operand.tmp 35),(Operand.tmp 40)] #[62,3]))) (ty:=337) (dst:=some 41) 9 [3,8,2,7,1,6,0,5,4] [] 221 #[Vp v35,Vi (IntKind.i64.wrap (v39+1))] K_ K_ K_ K_ K_ K_ (fun ww=>by kernel_rfl) (Calls.mono h ?_)
        rintro _ w7 ⟨v41,e1,rfl,h⟩
        refine⟨_,rfl,trivial,?_⟩
        refine Mn P3 ?_
        refine z7 (op:=(Op.alloc 72)) (ty:=0) (dst:=some 4) 13 [] [] (fun bb=>pv_ bb) (Obj.cells ([Vi 0,Value.slice none 0 0]).toArray y_a (0,0)) K_ K_ K_ K_ K_ K_ (fun b_ w8 hb hw=> ?_)
        replace h:=h b_ w8 hb hw
        clear hb hw
        refine⟨trivial,?_⟩
        refine z3b 14 [0,1,2,3,4,5,6,7,8,9,10,11,13] [] h fun w9 h=> ?_
        refine⟨trivial,?_⟩
        refine Mf P1 [0,4,5] ?_
        exact⟨_,Sub.mk K_,(some ⟨b_,0,none⟩),e1,rfl,h⟩
       ·replace h:=h.2
        refine zgf (π:=z3c) (k:=9) (op:=(Op.alloc 72)) (ty:=0) (dst:=some 4) 13 [] [(7,fun w'=>w'.cell? ⟨(pblk f),(poff f)+1,none⟩=some (Vi v39)),(3,fun w'=>w'.cell? ⟨(pblk f),(poff f),none⟩=some (Vp v35))] (fun bb=>pv_ bb) (Obj.cells ([Vi 0,Value.slice none 0 0]).toArray y_a (0,0)) K_ K_ K_ K_ K_ K_ K_ (fun b_1 w10 hb hw=> ?_)
        replace h:=h b_1 w10 hb hw
        clear hb hw
        obtain⟨hk0,hk1,h⟩:=h
        refine⟨⟨hk0,hk1,trivial⟩,?_⟩
        refine zt (op:=(Op.call (Call.mk (Callee.value (Operand.func 221)) #[(Operand.tmp 35),(Operand.tmp 40)] #[62,3]))) (ty:=337) (dst:=some 41) 9 [3,8,2,7,1,6,0,5,4] [] 221 #[Vp v35,Vi (IntKind.i64.wrap (v39+1))] K_ K_ K_ K_ K_ (fun ww=>by kernel_rfl) (Calls.mono h ?_)
        rintro _ w11 ⟨v411,e2,rfl,h⟩
        refine⟨_,rfl,trivial,?_⟩
        refine Mn P3 ?_
        refine z3b 14 [0,1,2,3,4,5,6,7,8,9,10,11,13] [] h fun w12 h=> ?_
        refine⟨trivial,?_⟩
        refine Mf P1 [0,4,5] ?_
        exact⟨_,Sub.mk K_,(some ⟨b_1,0,none⟩),e2,rfl,h⟩
      ·rintro _ w3 ⟨t_,e,rfl,h⟩
       unfold F_P at h
       refine Ys (Yp P2 [0,4,5,45] ?_)
       refine Yc h (fun h=> ?_) fun h=> ?_
       ·refine Yp P3 [2,3] ?_
        exact YT2 ⟨0,e,rfl,h⟩
       ·refine zk (Yt (Yn P1 ?_))
        refine Yv 47 h fun hp_19 h=> ?_
        refine Yn P1 (Yn P1 ?_)
        refine Yl h fun v50 h=> ?_
        refine Yn P3 ?_
        refine Yo h fun w4 h=> ?_
        refine Yf [] [0,4] (Yt (Yn P1 ?_))
        refine Yv 54 h fun hp_21 h=> ?_
        refine Yn P1 (Yn P1 ?_)
        refine Yo h fun w5 h=> ?_
        refine Yf [] [4] (Yt ?_)
        refine Yv 4 h fun hp_22 h=> ?_
        refine Yn P1 ?_
        refine Yl h fun v58 h=> ?_
        refine Yf P2 [2,3] ?_
        exact YT2 ⟨v58,0,rfl,h⟩

end
end Go.Proofs.YtofjmclceflgiaaGreat
