/- WRITTEN BY PROGRAM (dec.py): for each Go function the clean formula F, the call's contract C, and the proof S that F gives C. -/
import Derived.Test.YtofjmclceflgiaaGreatRows
import Derived.Test.YtofjmclceflgiaaGreatGF
namespace Go.Proofs.YtofjmclceflgiaaGreat
open Go
set_option linter.unusedVariables false
set_option maxRecDepth 100000
set_option maxHeartbeats 4000000
noncomputable section

/-! ### towpath/replica.New (function 20) -/
def zmw:=cb_ Tryz.f20
def znw:=cr_ zmw
def zAu:=cr_ znw
def zBu:=cr_ zAu
def zCu:=cr_ zBu
def zEn:=cr_ zCu
def zDu:=cl_ zEn
def zEu:=co_ zDu
def zFu:=cr_ zEn
def zGu:=cr_ zFu
def zHu:=cr_ zGu
def zIu:=cr_ zHu
def zJu:=cr_ zIu
def zKu:=cr_ zJu
def zlr:=cr_ zKu
def zmr:=cl_ zlr
def znr:=cr_ zmr
def zor:=cl_ znr
def zpr:=cl_ zor
def zqr:=cr_ zpr
def zrr:=cr_ zqr
def zsr:=cl_ zrr
def ztr:=cl_ zsr
def zur:=cr_ ztr
def zvr:=cl_ zur
def zwr:=co_ zvr
def zue:List Nat:=[0,1,2,3,4,5,6]
def zce:List Nat:=[0,1,2,3,4,5,6,7,8,9,10,11,12]
def zEd:List Nat:=[0,1,2,3,4,5,6]
def zFd:List Nat:=[0,1,3,2,4,5,6]

theorem S_Nb {c:T_f} {s:OA} {d:OA} {w:World} {R:OA→Int→WP} (h:F_md c s d R w):C_Rb c s d w R:=by
 unfold F_md at h
 refine Yh Tryz.func20 ?_
 ·refine Yt ?_
  refine Yw pv_ h fun b_ w1 h=> ?_
  refine Yf P2 [1,2,3] (Ys ?_)
  refine Ycut (fun l w=>∃(t26:Bool),l=[(1,Vp s),(2,Vp d),(3,pv_ b_),(26,Vo t26)]∧F_vb s d R b_ t26 w) ?_ ?_
  ·refine Yr (Yn P1 ?_)
   refine zw (op:=(Op.binOp BinOp.eql 62 (Operand.tmp 21) (Operand.const (Vp none)) 62)) (ty:=4) (dst:=some 22) (Vo s.isNone) K_ (fun ww=>zy (p:=s) K_ K_ K_ ww) ?_
   refine Yn P2 ?_
   refine Yspl 23 h (fun h=> ?_) fun h=> ?_
   ·refine Yf [.skip,.plain] [1,2,3,26] ?_
    exact⟨_,Sub.mk K_,true,rfl,h⟩
   ·refine zw (op:=(Op.binOp BinOp.eql 29 (Operand.tmp 24) (Operand.const (Vp none)) 29)) (ty:=4) (dst:=some 25) (Vo d.isNone) K_ (fun ww=>zy (p:=d) K_ K_ K_ ww) ?_
    refine Yf P1 [1,2,3,26] ?_
    exact⟨_,Sub.mk K_,d.isNone,rfl,h⟩
  ·rintro _ w2 ⟨t26,rfl,h⟩
   unfold F_vb at h
   refine Yc h (fun h=> ?_) fun h=> ?_
   ·refine Yp P2 [6,7] ?_
    exact YT2 ⟨none,2,rfl,h⟩
   ·refine zk (Ys (Yt ?_))
    refine YL h fun v27 h=> ?_
    refine Ym1 h fun v28 w3 h=> ?_
    refine Yf P1 [1,2,3,29] ?_
    refine Yc h (fun h=> ?_) fun h=> ?_
    ·refine Yp P2 [6,7] ?_
     exact YT2 ⟨none,7,rfl,h⟩
    ·refine zk (Yt (Yn P1 ?_))
     refine zW (op:=(Op.call (Call.mk (Callee.value (Operand.func 37)) #[(Operand.tmp 31)] #[29]))) (ty:=120) (dst:=some 32) 37 #[Vp d] K_ (fun ww=>by kernel_rfl) (Calls.mono h ?_)
     rintro _ w4 ⟨v32,v32_1,v32_2,v32_3,e,rfl,h⟩
     refine⟨_,rfl,?_⟩
     refine Yn (Pl 6) ?_
     refine Yw pv_ h fun b_1 w5 h=> ?_
     refine Yo h fun w6 h=> ?_
     refine Yf P4 [1,2,3,8,12] (Ys (Yp P2 [1,2,3,8,12,39] ?_))
     refine Yc h (fun h=> ?_) fun h=> ?_
     ·refine Yp P3 [6,7] ?_
      exact YT2 ⟨none,e,rfl,h⟩
     ·refine zk ?_
      refine Ycut (fun l w=>∃(r:OA),l=[(1,Vp s),(3,pv_ b_),(8,pv_ b_1),(13,Vp r)]∧F_fb s R b_ b_1 r w) ?_ ?_
      ·refine zm (id:=8) (ops:=zEu) zue K_ K_ K_ K_ (fun w40 hw=> ?_)
       replace h:=h w40 hw
       clear hw
       refine ML 0 h fun v41 hc h=> ?_
       refine Mn P1 ?_
       refine ztc 2 [2,3] K_ K_ (zWd ?_ ?_)
       ·replace h:=h.1
        refine z0c (π:=zEd) (k:=2) (op:=(Op.call (Call.mk (Callee.value (Operand.func 38)) #[] #[]))) (ty:=76) (dst:=some 43) 2 [] [(0,fun w'=>zc w' b_ 0 [Vi v41.Lanes,Vi v41.Shards,Vi v41.Window,Vi v41.Queue])] 38 #[] K_ K_ K_ K_ K_ K_ (fun ww=>by kernel_rfl) (Calls.mono h ?_)
        rintro _ w41 ⟨v43,rfl,h⟩
        obtain⟨hk0,h⟩:=h
        refine⟨_,rfl,⟨hk0,trivial⟩,?_⟩
        refine z7 (op:=(Op.makeMap 82 none)) (ty:=82) (dst:=some 44) 3 [] [(0,fun w'=>zc w' b_ 0 [Vi v41.Lanes,Vi v41.Shards,Vi v41.Window,Vi v41.Queue])] (fun bb=>Value.map (some bb)) (Obj.map #[] 0) K_ K_ K_ K_ K_ K_ (fun b_12 w42 hb hw=> ?_)
        replace h:=h b_12 w42 hb hw
        clear hb hw
        obtain⟨hk0,h⟩:=h
        refine⟨⟨hk0,trivial⟩,?_⟩
        refine Mn P1 ?_
        refine z7 (op:=(Op.box 84 (Operand.tmp 45))) (ty:=28) (dst:=some 46) 5 [4,0,1,2,3] [] (fun bb=>pv_ bb) (Obj.cells ([Vi v41.Lanes,Vi v41.Shards,Vi v41.Window,Vi v41.Queue,Vp d,Vp none,Vp v43,Vp none,Value.slice none 0 0,Value.slice none 0 0,Value.slice none 0 0,Value.slice none 0 0,Value.slice none 0 0,Value.map (some b_12),Value.slice none 0 0,Vo false,Vo false,Vo false]).toArray y_j (0,0)) K_ K_ K_ K_ K_ K_ (fun b_13 w43 hb hw=> ?_)
        replace h:=h b_13 w43 hb hw
        clear hb hw
        refine⟨trivial,?_⟩
        refine Mf P1 [1,3,8,13] ?_
        exact⟨_,Sub.mk K_,(some ⟨b_13,0,none⟩),rfl,h⟩
       ·replace h:=h.2
        refine zgf (π:=zFd) (k:=2) (op:=(Op.makeMap 82 none)) (ty:=82) (dst:=some 44) 3 [] [(0,fun w'=>zc w' b_ 0 [Vi v41.Lanes,Vi v41.Shards,Vi v41.Window,Vi v41.Queue])] (fun bb=>Value.map (some bb)) (Obj.map #[] 0) K_ K_ K_ K_ K_ K_ K_ (fun b_14 w44 hb hw=> ?_)
        replace h:=h b_14 w44 hb hw
        clear hb hw
        obtain⟨hk0,h⟩:=h
        refine⟨⟨hk0,trivial⟩,?_⟩
        refine zt (op:=(Op.call (Call.mk (Callee.value (Operand.func 38)) #[] #[]))) (ty:=76) (dst:=some 43) 2 [] [(0,fun w'=>zc w' b_ 0 [Vi v41.Lanes,Vi v41.Shards,Vi v41.Window,Vi v41.Queue])] 38 #[] K_ K_ K_ K_ K_ (fun ww=>by kernel_rfl) (Calls.mono h ?_)
        rintro _ w45 ⟨v431,rfl,h⟩
        obtain⟨hk0,h⟩:=h
        refine⟨_,rfl,⟨hk0,trivial⟩,?_⟩
        refine Mn P1 ?_
        refine z7 (op:=(Op.box 84 (Operand.tmp 45))) (ty:=28) (dst:=some 46) 5 [4,0,1,2,3] [] (fun bb=>pv_ bb) (Obj.cells ([Vi v41.Lanes,Vi v41.Shards,Vi v41.Window,Vi v41.Queue,Vp d,Vp none,Vp v431,Vp none,Value.slice none 0 0,Value.slice none 0 0,Value.slice none 0 0,Value.slice none 0 0,Value.slice none 0 0,Value.map (some b_14),Value.slice none 0 0,Vo false,Vo false,Vo false]).toArray y_j (0,0)) K_ K_ K_ K_ K_ K_ (fun b_15 w46 hb hw=> ?_)
        replace h:=h b_15 w46 hb hw
        clear hb hw
        refine⟨trivial,?_⟩
        refine Mf P1 [1,3,8,13] ?_
        exact⟨_,Sub.mk K_,(some ⟨b_15,0,none⟩),rfl,h⟩
      ·rintro _ w7 ⟨r,rfl,h⟩
       unfold F_fb at h
       refine Ys (Yt (Yn P3 ?_))
       refine Yl h fun v51 h=> ?_
       refine Yn P1 ?_
       refine Yl h fun v53 h=> ?_
       refine Yn P1 ?_
       refine Yl h fun v55 h=> ?_
       refine Ym2 h fun v56 e1 w8 h=> ?_
       refine Yn P3 ?_
       refine Yv 48 h fun hp_3 h=> ?_
       refine Yn P1 (Yn P1 ?_)
       refine Yo h fun w9 h=> ?_
       refine Yf P1 [3,8,12,13] (Yp P2 [3,8,12,13,62] ?_)
       refine Yc h (fun h=> ?_) fun h=> ?_
       ·refine Yp P3 [6,7] ?_
        exact YT2 ⟨none,e1,rfl,h⟩
       ·refine zk (Ys (Yt (Yn P2 ?_)))
        refine Yl h fun v67 h=> ?_
        refine Yn P1 ?_
        refine Yl h fun v69 h=> ?_
        refine Ym2 h fun v70 e2 w10 h=> ?_
        refine Yn P3 ?_
        refine Yv 65 h fun hp_7 h=> ?_
        refine Yn P1 (Yn P1 ?_)
        refine Yo h fun w11 h=> ?_
        refine Yf P1 [3,8,12,13] (Yp P2 [3,8,12,13,76] ?_)
        refine Yc h (fun h=> ?_) fun h=> ?_
        ·refine Yp P3 [6,7] ?_
         exact YT2 ⟨none,e2,rfl,h⟩
        ·refine zk (Yt ?_)
         refine YL h fun v79 h=> ?_
         refine YL h fun v80 h=> ?_
         refine Ym2 h fun parts e3 w12 h=> ?_
         refine Yf (Pl 5) [3,12,13,14] (Ys (Yp P2 [3,12,13,14,85] ?_))
         refine Yc h (fun h=> ?_) fun h=> ?_
         ·refine Yp P3 [6,7] ?_
          exact YT2 ⟨none,e3,rfl,h⟩
         ·refine zk (Yt (Yn P2 ?_))
          refine Yv 88 h fun hp_10 h=> ?_
          refine Yn P1 (Yn P1 ?_)
          refine Yl h fun v91 h=> ?_
          refine Yn P3 ?_
          refine Yw pv_ h fun b_2 w13 h=> ?_
          refine Yn P1 ?_
          refine Yw (sl_ 1 1) h fun b_3 w14 h=> ?_
          obtain⟨src,hs,h⟩:=h
          refine zC (t:=80) (tx:=80) (e:=147) (a:=(Operand.tmp 91)) (xo:=(Operand.tmp 97)) (s:=v91) (x:=(Slc.mk (some ⟨b_3,0,none⟩) 1 1)) (sz:=1) (by_:=16) (zs:=[Value.nilIface]) (ty:=80) (dst:=some 98)  src K_ K_ K_ K_ K_ K_ K_ K_ K_ hs (zo.mono h (fun v98 w15 h=> ?_))
          refine Yv 87 h fun hp_11 h=> ?_
          refine Yn P1 (Yn P1 ?_)
          refine Yo h fun w16 h=> ?_
          refine Yf [] [3,13,14] (Ys (Yt (Yn P1 ?_)))
          refine Yl h fun v102 h=> ?_
          refine Yf P1 [3,13,14,102,103] (Yd 0 ?_)
          obtain⟨I,μ,h0,hr⟩:=h
          refine znb (fun m l w=>∃(t103:Int),l=[(3,pv_ b_),(13,Vp r),(14,sv_ parts),(102,Vi v102),(103,Vi t103)]∧I t103 w∧μ t103 w=m) ⟨0,rfl,h0,rfl⟩ ?_
          rintro _ _ w17 ⟨t103,rfl,hI,rfl⟩
          obtain⟨again_,again__h,h⟩:∃ again_:Int→WP,(∀ t103' w',again_ t103' w'→I t103' w'∧μ t103' w'<μ t103 w17)∧F_ub R b_ r parts v102 again_ t103 w17:=⟨_,fun _ _ h=>h,hr t103 w17 hI⟩
          clear h0 hI
          unfold F_ub at h
          refine Yp P1 [3,13,14,102,103,104] (Ys ?_)
          refine Yc h (fun h=> ?_) fun h=> ?_
          ·refine zk (Ys (Yd 1 (Yp P2 [3,13,14,15,102,103] (Yt (Yn P2 ?_)))))
           refine YL h fun v109 h=> ?_
           refine Ym2 h fun l_ e4 w18 h=> ?_
           refine Yf (Pl 5) [3,13,14,16,17,102,103] (Ys (Yp P2 [3,13,14,16,17,102,103,114] ?_))
           refine Yc h (fun h=> ?_) fun h=> ?_
           ·refine Yp P3 [6,7] ?_
            exact YT2 ⟨none,e4,rfl,h⟩
           ·refine zk (Yt (Yn P2 ?_))
            refine Yv 117 h fun hp_32 h=> ?_
            refine Yn P1 (Yn P1 ?_)
            refine Yl h fun v120 h=> ?_
            refine Yn P1 ?_
            refine Yw (sl_ 1 1) h fun b_4 w19 h=> ?_
            obtain⟨src,hs,h⟩:=h
            refine zC (t:=78) (tx:=78) (e:=133) (a:=(Operand.tmp 120)) (xo:=(Operand.tmp 122)) (s:=v120) (x:=(Slc.mk (some ⟨b_4,0,none⟩) 1 1)) (sz:=1) (by_:=8) (zs:=[Vp none]) (ty:=78) (dst:=some 123)  src K_ K_ K_ K_ K_ K_ K_ K_ K_ hs (zo.mono h (fun v123 w20 h=> ?_))
            refine Yv 116 h fun hp_33 h=> ?_
            refine Yn P1 (Yn P1 ?_)
            refine Yo h fun w21 h=> ?_
            refine Yf [] [3,13,14,16,102,103] (Yr (Yn P2 ?_))
            refine Yv 127 h fun hp_34 h=> ?_
            refine Yn P1 (Yn P1 ?_)
            refine Yl h fun v130 h=> ?_
            refine Yn P4 ?_
            refine Yw pv_ h fun b_5 w22 h=> ?_
            refine Yn P1 ?_
            refine Yw (sl_ 1 1) h fun b_6 w23 h=> ?_
            obtain⟨src,hs,h⟩:=h
            refine zC (t:=80) (tx:=80) (e:=147) (a:=(Operand.tmp 130)) (xo:=(Operand.tmp 137)) (s:=v130) (x:=(Slc.mk (some ⟨b_6,0,none⟩) 1 1)) (sz:=1) (by_:=16) (zs:=[Value.nilIface]) (ty:=80) (dst:=some 138)  src K_ K_ K_ K_ K_ K_ K_ K_ K_ hs (zo.mono h (fun v138 w24 h=> ?_))
            refine Yv 126 h fun hp_35 h=> ?_
            refine Yn P1 (Yn P1 ?_)
            refine Yo h fun w25 h=> ?_
            refine Yf [] [3,13,14,102,103] (Yr (Yf P2 [3,13,14,102,103] ?_))
            have hb_:=again__h _ _ h
            exact⟨_,hb_.2,_,Sub.mk K_,(IntKind.i64.wrap (t103+1)),rfl,hb_.1,rfl⟩
          ·refine z3 0 (Ys (Yt (Yn P1 ?_)))
           refine Yl h fun v143 h=> ?_
           refine Yf P1 [3,13,14,143,144] (Yd 2 ?_)
           obtain⟨I,μ,h0,hr⟩:=h
           refine znb (fun m l w=>∃(t144:Int),l=[(3,pv_ b_),(13,Vp r),(14,sv_ parts),(143,Vi v143),(144,Vi t144)]∧I t144 w∧μ t144 w=m) ⟨0,rfl,h0,rfl⟩ ?_
           rintro _ _ w26 ⟨t144,rfl,hI,rfl⟩
           obtain⟨again_1,again_1_h,h⟩:∃ again_1:Int→WP,(∀ t144' w',again_1 t144' w'→I t144' w'∧μ t144' w'<μ t144 w26)∧F_tb R b_ r parts v143 again_1 t144 w26:=⟨_,fun _ _ h=>h,hr t144 w26 hI⟩
           clear h0 hI
           unfold F_tb at h
           refine Yp P1 [3,13,14,143,144,145] (Ys ?_)
           refine Yc h (fun h=> ?_) fun h=> ?_
           ·refine zk (Ys (Yd 3 (Yp P2 [3,13,14,18,143,144] (Ys ?_))))
            refine zm (id:=31) (ops:=zwr) zce K_ K_ K_ K_ (fun w27 hw=> ?_)
            replace h:=h w27 hw
            clear hw
            refine Mn P2 ?_
            refine Ml 2 h fun v150 hc h=> ?_
            refine Mn P2 ?_
            obtain⟨hp_61,h⟩:=h
            refine Mu 151 (fun pp=> .slice pp parts.len parts.cap) hp_61 ?_
            refine Mi1 5 h fun h=> ?_
            refine Ml 6 h fun v154 hc h=> ?_
            refine zt (op:=(Op.call (Call.mk (Callee.value (Operand.func 43)) #[(Operand.tmp 148),(Operand.tmp 150),(Operand.tmp 154)] #[3,3,57]))) (ty:=139) (dst:=some 155) 7 [0,2,6,1,5,3,4] [] 43 #[Vi t144,Vi v150,sv_ v154] K_ K_ K_ K_ K_ (fun ww=>by kernel_rfl) (Calls.mono h ?_)
            rintro _ w28 ⟨o_,e5,rfl,h⟩
            refine⟨_,rfl,trivial,?_⟩
            refine Mf (Pl 5) [3,13,14,18,19,20,143,144] ?_
            refine Ys (Yp P2 [3,13,14,18,19,20,143,144,159] ?_)
            refine Yc h (fun h=> ?_) fun h=> ?_
            ·refine Yp P3 [6,7] ?_
             exact YT2 ⟨none,e5,rfl,h⟩
            ·refine zk (Yt (Yn P2 ?_))
             refine Yv 162 h fun hp_64 h=> ?_
             refine Yn P1 (Yn P1 ?_)
             refine Yl h fun v165 h=> ?_
             refine Yn P1 ?_
             refine Yw (sl_ 1 1) h fun b_7 w29 h=> ?_
             obtain⟨src,hs,h⟩:=h
             refine zC (t:=79) (tx:=79) (e:=105) (a:=(Operand.tmp 165)) (xo:=(Operand.tmp 167)) (s:=v165) (x:=(Slc.mk (some ⟨b_7,0,none⟩) 1 1)) (sz:=1) (by_:=8) (zs:=[Vp none]) (ty:=79) (dst:=some 168)  src K_ K_ K_ K_ K_ K_ K_ K_ K_ hs (zo.mono h (fun v168 w30 h=> ?_))
             refine Yv 161 h fun hp_65 h=> ?_
             refine Yn P1 (Yn P1 ?_)
             refine Yo h fun w31 h=> ?_
             refine Yf [] [3,13,14,18,19,143,144] (Yr (Yn P2 ?_))
             refine Yv 172 h fun hp_66 h=> ?_
             refine Yn P1 (Yn P1 ?_)
             refine Yl h fun v175 h=> ?_
             refine Yn (Pl 5) ?_
             refine Yw pv_ h fun b_8 w32 h=> ?_
             refine Yn P1 ?_
             refine Yw (sl_ 1 1) h fun b_9 w33 h=> ?_
             obtain⟨src,hs,h⟩:=h
             refine zC (t:=80) (tx:=80) (e:=147) (a:=(Operand.tmp 175)) (xo:=(Operand.tmp 183)) (s:=v175) (x:=(Slc.mk (some ⟨b_9,0,none⟩) 1 1)) (sz:=1) (by_:=16) (zs:=[Value.nilIface]) (ty:=80) (dst:=some 184)  src K_ K_ K_ K_ K_ K_ K_ K_ K_ hs (zo.mono h (fun v184 w34 h=> ?_))
             refine Yv 171 h fun hp_67 h=> ?_
             refine Yn P1 (Yn P1 ?_)
             refine Yo h fun w35 h=> ?_
             refine Yf [] [3,13,14,143,144] (Yr (Yf P2 [3,13,14,143,144] ?_))
             have hb_:=again_1_h _ _ h
             exact⟨_,hb_.2,_,Sub.mk K_,(IntKind.i64.wrap (t144+1)),rfl,hb_.1,rfl⟩
           ·refine z3 2 (Yt (Yn P2 ?_))
            refine Yv 189 h fun hp_70 h=> ?_
            refine Yn P1 (Yn P1 ?_)
            refine Yl h fun v192 h=> ?_
            refine Yn P3 ?_
            refine Yw pv_ h fun b_10 w36 h=> ?_
            refine Yn P1 ?_
            refine Yw (sl_ 1 1) h fun b_11 w37 h=> ?_
            obtain⟨src,hs,h⟩:=h
            refine zC (t:=80) (tx:=80) (e:=147) (a:=(Operand.tmp 192)) (xo:=(Operand.tmp 198)) (s:=v192) (x:=(Slc.mk (some ⟨b_11,0,none⟩) 1 1)) (sz:=1) (by_:=16) (zs:=[Value.nilIface]) (ty:=80) (dst:=some 199)  src K_ K_ K_ K_ K_ K_ K_ K_ K_ hs (zo.mono h (fun v199 w38 h=> ?_))
            refine Yv 188 h fun hp_71 h=> ?_
            refine Yn P1 (Yn P1 ?_)
            refine Yo h fun w39 h=> ?_
            refine Yf [] [13] (Yp P3 [6,7] ?_)
            exact YT2 ⟨r,0,rfl,h⟩

/-! ### (*towpath/replica.Replica).Feed (function 21) -/

theorem S_D {r:OA} {last:Int} {w:World} {R:Int→WP} (h:F_Sb r last R w):C_V r last w R:=by
 unfold F_Sb at h
 refine Yh Tryz.func21 ?_
 ·refine Yp P1 [0,1] (Ys (Yd 0 (Yt (Yn P1 ?_))))
  refine Ym1 h fun v7 w1 h=> ?_
  refine Yf P2 [0,1,5] ?_
  refine Yc h (fun h=> ?_) fun h=> ?_
  ·refine Yp P1 [4] ?_
   exact YS ⟨2,rfl,h⟩
  ·refine Yt (Yn P1 ?_)
   refine Yv 10 h fun hp_3 h=> ?_
   refine Yn P1 (Yn P1 ?_)
   refine Yl h fun v13 h=> ?_
   refine Yf P1 [0,1,9] ?_
   refine Yc h (fun h=> ?_) fun h=> ?_
   ·refine Yp P1 [4] ?_
    exact YS ⟨11,rfl,h⟩
   ·refine zk (Yt (Yn P1 ?_))
    refine Yv 14 h fun hp_4 h=> ?_
    refine Yn P1 (Yn P1 ?_)
    refine Yl h fun v17 h=> ?_
    refine Yn P1 ?_
    refine Ym1 h fun v19 w2 h=> ?_
    refine Yf P1 [4] ?_
    exact YS ⟨v19,rfl,h⟩

/-! ### (*towpath/replica.Replica).there (function 22) -/

theorem S_w {r:OA} {w:World} {R:Bool→WP} (h:F_Gb r R w):C_c r w R:=by
 unfold F_Gb at h
 refine Yh Tryz.func22 ?_
 ·refine Yp P1 [0] (Yt (Yn P1 ?_))
  refine zw (op:=(Op.binOp BinOp.neq 28 (Operand.tmp 3) (Operand.const (Vp none)) 28)) (ty:=4) (dst:=some 4) (Vo (!r.isNone)) K_ (fun ww=>zE (p:=r) K_ K_ K_ ww) ?_
  refine Yn P2 ?_
  refine Yspl 5 h (fun h=> ?_) fun h=> ?_
  ·refine Yv 6 h fun hp_0 h=> ?_
   refine Yn [.sure] (Yn [.sure] ?_)
   refine Yl h fun v9 h=> ?_
   refine zw (op:=(Op.binOp BinOp.neq 29 (Operand.tmp 9) (Operand.const (Vp none)) 29)) (ty:=4) (dst:=some 10) (Vo (!v9.isNone)) K_ (fun ww=>zE (p:=v9) K_ K_ K_ ww) ?_
   refine Yf P2 [2] ?_
   exact YS ⟨(!v9.isNone),rfl,h⟩
  ·refine Yf [.skip,.skip,.skip,.skip,.plain,.plain] [2] ?_
   exact YS ⟨false,rfl,h⟩
end
end Go.Proofs.YtofjmclceflgiaaGreat
