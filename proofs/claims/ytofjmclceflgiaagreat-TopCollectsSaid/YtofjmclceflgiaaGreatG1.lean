/-
  A part of the proof of TopCollects.
  Conditions: none.
-/
import Derived.Test.YtofjmclceflgiaaGreatRows
import Derived.Test.YtofjmclceflgiaaGreatGF
namespace Go.Proofs.YtofjmclceflgiaaGreat
open Go
open Go.IntKind (i64 u64 u32 u8)
set_option linter.unusedVariables false
set_option maxRecDepth 100000
set_option maxHeartbeats 4000000
noncomputable section
theorem S_Q {w_ calls every w R} (h:F_xd w_ calls every R w):C_bb w_ calls every w R:=Yh Tryz.func4 (go h [.t,.w,.f 1 [1,2,3],.t,.L,.m,.f 5 [1,2,3,7],.s,.t,.n 1,.E,.f 0 [1,2,3,7,25],.c [.t,.m,.f 1 [6],.y],.k,.p 1 [1,2,3,7,9],.p 1 [1,2,3,7,9,10],.p 1 [1,2,3,7,9,10,11],.p 1 [1,2,3,7,9,10,11,12],.s,.p 1 [1,2,3,7,9,10,11,12,13],.d 0,.O [(.s,9),(.s,10),(.s,11),(.s,12),(.i,13)] [1,2,3,7,9,10,11,12,13],.s,.p 2 [1,2,3,7,9,10,11,12,13,28],.c [.k,.C [(.s,9),(.s,10),(.s,11),(.s,12)] [1,2,3,7,9,10,11,12,13] [.d 1,.t,.n 5,.R,.f 1 [1,2,3,7,9,10,11,12,13,14],.C [(.s,9),(.s,10),(.s,11),(.s,12)] [1,2,3,7,9,10,11,12,13] [.t,.n 5,.R,.F 900000030003 [1,2,3,7,9,10,11,12,13,14,53],.c [.t,.n 3,.i,.L,.m,.f 5 [1,2,3,7,9,10,11,12,13,14,16],.p 2 [1,2,3,7,9,10,11,12,13,14,64],.c [.t,.n 3,.i,.n 1,.l,.V,.A,.f 1 [1,2,3,7,9,10,11,12,13],.t,.n 1,.V,.A,.f 1 [1,2,3,7,9,10,11,12,13],.t,.n 1,.V,.A,.f 1 [1,2,3,7,9,10,11,12,13],.r,.n 1,.V,.A,.f 1 [1,2,3,7,9,10,11,12,13],.x],.k,.x],.k,.x],.t,.n 2,.l,.n 1,.m,.m,.n 3,.w,.o,.f 1 [1,2,3,7,9,10,11,12,13,17,18],.s,.p 2 [1,2,3,7,9,10,11,12,13,17,92],.c [.e 1,.x],.k,.C0 [1,2,3,7,9,10,11,12,13,17] [.t,.n 1,.l,.f 1 [1,2,3,7,9,10,11,12,13,17,95],.c [.s,.M [],.n 2,.l,.n 2,.l,.n 2,.m,.K 1,.i,.o,.K 0,.f 0 [1,2,3,7,9,10,11,12,13,17],.t,.n 2,.l,.n 2,.l,.i,.o,.f 0 [1,2,3,7,9,10,11,12,13,17],.r,.n 2,.l,.n 1,.i,.o,.f 0 [1,2,3,7,9,10,11,12,13,17],.x],.k,.x],.t,.n 1,.l,.f 1 [1,2,3,7,9,10,11,12,13,17,120],.c [.t,.n 2,.l,.n 1,.i,.o,.f 0 [1,2,3,7,9,10,11,12,13,17],.C1 .b 144 [1,2,3,7,9,10,11,12,13,144] [.M [0,1,2,3,4,5,6,7,8,10,11,12,13,14,15,9,16,17,18],.n 2,.l,.n 1,.i,.l,.n 5,.b 133 [.l,.N 92,.i,.l,.m,.K 2,.m,.K 0,.F 920 [1,2,3,7,9,10,11,12,13,144],.x],.F 911111110 [1,2,3,7,9,10,11,12,13,144],.x],.c [.p 1 [6],.y],.k,.x],.k,.x],.r,.f 3 [1,2,3,7,9,10,11,12,13],.x],.e 0,.t,.m,.f 1 [6],.y])
theorem S_id {c w R} (h:F_Hg c R w):C_Oc c w R:=Yh Tryz.func27 (go h [.t,.w,.f 1 [1],.p 1 [1,3],.C1 .b 3 [3] [.t,.n 1,.l,.f 0 [1,3,5],.d 0,.p 2 [1,3,5,6],.c [.r,.n 1,.l,.n 3,.b 11 [.l,.N 922000,.b 17 [.l,.F 9200 [3],.x],.F 91100 [3],.x],.F 91110011100 [3],.x],.p 2 [1,3,5,22],.c [.r,.n 1,.l,.n 4,.b 28 [.l,.F 92200 [3],.x],.F 911100 [3],.x],.C1 .b 34 [1,3,34] [.p 2 [1,3,5,34],.c [.k,.x],.r,.f 2 [1,3,34],.x],.c [.r,.n 1,.l,.n 3,.b 40 [.l,.F 9200 [3],.x],.F 91100 [3],.x],.k,.x],.s,.p 2 [46],.c [.p 1 [2],.y],.k,.p 1 [2],.y])
theorem S_wd {number c x w R} (h:F_Qg number c x R w):C_vd number c x w R:=Yh Tryz.func29 (go h [.t,.w,.w,.f 2 [0,4,5],.s,.d 0,.p 3 [0,4,5,8],.c [.p 2 [6,7],.y],.t,.L,.m,.f 2 [0,4,5,11],.c [.p 2 [6,7],.y],.t,.L,.m,.f 2 [0,4,5,15],.c [.p 2 [6,7],.y],.k,.t,.n 1,.L,.L,.n 1,.w,.f 2 [6,7],.y])
theorem S_Ic {t_ w R} (h:F_Kf t_ R w):C_eb t_ w R:=Yh Tryz.func67 (go h [.p 2 [0],.s,.C1 .b 13 [0,13] [.r,.n 1,.m,.n 3,.b 7 [.F 911110 [0,13],.x],.v 8,.N 92,.N 92,.l,.F 920 [0,13],.x],.c [.p 2 [2,3],.y],.k,.t,.n 1,.v 14,.n 1,.n 1,.l,.f 2 [2,3],.y])
theorem S_Jc {t_ w R} (h:F_Lf t_ R w):C_Sb t_ w R:=Yh Tryz.func68 (go h [.t,.n 1,.w,.f 1 [0,3],.s,.C1 .b 16 [0,3,16] [.r,.n 1,.m,.n 3,.b 9 [.F 9111110 [0,3,16],.x],.v 10,.N 92,.N 92,.l,.F 9220 [0,3,16],.x],.c [.t,.n 2,.o,.f 1 [2,3,4],.z],.k,.t,.n 1,.v 18,.n 1,.n 1,.l,.i,.n 1,.L,.w,.o,.f 0 [0,3,5],.t,.n 1,.l,.m,.n 1,.o,.f 0 [0,3,5],.s,.Q 9,.n 1,.v 29,.n 1,.n 1,.l,.i,.n 1,.l,.L,.n 1,.T,.o,.f 1 [2,3,4],.z])
theorem S_Vc {t_ w R} (h:F_ag t_ R w):C_qb t_ w R:=Yh Tryz.func70 (go h [.p 1 [0],.s,.M [],.n 1,.m,.K 0,.n 2,.b 5 [.v 6,.N 92,.N 92,.l,.n 3,.b 11 [.v 12,.N 92,.N 92,.l,.N 922000,.b 19 [.v 20,.N 92,.N 92,.l,.N 922,.v 25,.N 92,.N 92,.l,.F 9200 [2],.y],.F 911111111100 [2],.y],.F 91111100111111111100 [2],.y],.F 91110011111100111111111100 [2],.y])
theorem S_gc {t_ w R} (h:F_qf t_ R w):C_p t_ w R:=Yh Tryz.func102 (go h [.p 1 [0],.t,.n 1,.E,.n 2,.b 5 [.v 6,.N 92,.N 92,.l,.F 9200 [2],.y],.F 9111100 [2],.y])
def zgm:=cb_ Tryz.f180
def zcq:=cr_ zgm
def zVk:=cr_ zcq
def z0n:=cl_ zVk
def z1n:=co_ z0n
def zWk:=cr_ zVk
def zHi:=cl_ zWk
def z2n:=cl_ zHi
def zXk:=cr_ zHi
def zIi:=cl_ zXk
def z3n:=cl_ zIi
def zYk:=cr_ zIi
def zZk:=cl_ zYk
def z4n:=cl_ zZk
def z5n:=co_ z4n
def z0k:=cr_ zZk
def z6n:=cl_ z0k
def z7n:=cr_ z6n
def z8n:=cl_ z7n
def z1k:=cr_ z8n
def z9n:=cl_ z1k
def zao:=co_ z9n
def zbo:=cr_ z1k
def z2k:=cr_ zbo
def zco:=cl_ z2k
def zdo:=co_ zco
def zeo:=cr_ z2k
def zfo:=cr_ zeo
def zgo:=cl_ zfo
def zho:=co_ zgo
def zio:=cr_ z0k
def zjo:=co_ zio
def z3k:=cr_ zWk
def zrd:List Nat:=[0,1,2,3,4,5,6,7,8]
def zsd:List Nat:=[0,1,2,3,4,5,6,7]
def ztd:List Nat:=[0,1,2,3,4,5,6,7,8]
def zud:List Nat:=[0,1,2,3,4,5,6,7,8,9,10,11,12,13,14,15]
def zvd:List Nat:=[0,1,2,3,4]
def zwd:List Nat:=[0,1,2,3,4,5,6,7,8,9,10,11,12]
theorem S_hc {t_ mark least beyond w R} (h:F_Qd t_ mark least beyond R w):C_jc t_ mark least beyond w R:=by
 unfold F_Qd at h;refine Calls.mono (zKe (args:=[Vp t_,Vi mark,Vi least,sv_ beyond]) (R:=λv w'=>∃(r0:Int),v=Vi r0/\R r0 w') Tryz.func180 (c:=zgm) K_ 111 K_ K_ [(0,Vp t_),(1,Vi mark),(2,Vi least),(3,sv_ beyond)] K_ ?_) ?_
 ·letI:Rnd:=rndY Tryz.prog Tryz.f180 (λv w'=>∃(r0:Int),v=Vi r0/\R r0 w')
  refine Yt ?_;refine Yw pv_ h λb_ w1 h=> ?_;refine Yw pv_ h λb_1 w2 h=> ?_;refine Yw pv_ h λb_2 w3 h=> ?_;refine Yw pv_ h λb_3 w4 h=> ?_;refine Yf P1 [4,5,6,7,8] (Ys (Yd 0 (Yt ?_)));refine Yl h λv12 h=> ?_;refine Ym1 h λv13 w5 h=> ?_;refine Yf P2 [4,5,6,7,8,11] ?_;refine Yc h (λh=> ?_) λh=> ?_
  ·exact go h [.p 1 [8],.y]
  ·refine Yt ?_;refine Yl h λv16 h=> ?_;refine Yv 16 h λhp_3 h=> ?_;refine Yn P1 (Yn P1 ?_);refine Yl h λv19 h=> ?_;refine Yf P1 [4,5,6,7,8,15] ?_;refine Yc h (λh=> ?_) λh=> ?_
   ·exact go h [.p 1 [8],.y]
   ·refine Ycut (λl w=>∃(t20:Bool),l=[(4,pv_ b_),(5,pv_ b_1),(6,pv_ b_2),(7,pv_ b_3),(8,Vi 0),(20,Vo t20)]/\F_j R b_ b_1 b_2 b_3 t20 w) ?_ ?_
    ·refine Yr ?_;refine Yl h λv21 h=> ?_;refine Yn P2 ?_;refine Yspl 23 h (λh=> ?_) λh=> ?_
     ·refine Yf [.skip,.skip,.plain,.plain,.skip,.skip,.plain,.plain,.skip,.skip,.skip,.plain,.plain,.skip,.skip,.skip,.skip,.skip,.plain,.plain] [4,5,6,7,8,20] ?_;exact⟨_,Sub.mk K_,true,rfl,h⟩
     ·refine Yl h λv24 h=> ?_;refine Yn [.sure,.plain,.plain] ?_;refine Yspl 27 h (λh=> ?_) λh=> ?_
      ·refine Yf [.skip,.skip,.plain,.plain,.skip,.skip,.skip,.plain,.plain,.skip,.skip,.skip,.skip,.skip,.plain,.plain] [4,5,6,7,8,20] ?_;exact⟨_,Sub.mk K_,true,rfl,h⟩
      ·refine Yl h λv28 h=> ?_;refine Yn [.sure,.plain,.plain] ?_;refine Yspl 31 h (λh=> ?_) λh=> ?_
       ·refine Yf [.skip,.skip,.skip,.plain,.plain,.skip,.skip,.skip,.skip,.skip,.plain,.plain] [4,5,6,7,8,20] ?_;exact⟨_,Sub.mk K_,true,rfl,h⟩
       ·refine Yl h λv32 h=> ?_;refine Yl h λv33 h=> ?_;refine Yn [.sure,.plain,.plain] ?_;refine Yspl 36 h (λh=> ?_) λh=> ?_
        ·refine Yf [.skip,.skip,.skip,.skip,.skip,.plain,.plain] [4,5,6,7,8,20] ?_;exact⟨_,Sub.mk K_,true,rfl,h⟩
        ·refine Yl h λv37 h=> ?_;refine Yl h λv38 h=> ?_;refine Yn [.sure] ?_;refine Ym1 h λv40 w41 h=> ?_;refine Yf [.sure,.plain,.plain] [4,5,6,7,8,20] ?_;exact⟨_,Sub.mk K_,(!v40),rfl,h⟩
    ·rintro _ w6 ⟨t20,rfl,h⟩;unfold F_j at h;refine Yc h (λh=> ?_) λh=> ?_
     ·exact go h [.p 1 [8],.y]
     ·refine zA (Ys ?_);refine z5 (id:=7) (ops:=z1n) zrd K_ K_ K_ K_ K_ (λw7 hw=> ?_);replace h:=h w7 hw;clear hw;refine Ml 0 h λv43 hc h=> ?_;refine Ml 1 h λv44 hc h=> ?_;refine Ml 2 h λv45 hc h=> ?_;refine Mv 43 h λhp_6 h=> ?_;refine Mn P1 ?_;refine Mn P1 ?_;refine zyb 5 [0,4,3] [(2,λw'=>w'.cell? ⟨b_1,0,none⟩=some (Vi v45)),(1,λw'=>w'.cell? ⟨b_,0,none⟩=some (Vp v44))] h λw8 h=> ?_;obtain⟨hk0,hk1,h⟩:=h;refine⟨⟨hk0,hk1,trivial⟩,?_⟩;refine Mv 44 h λhp_7 h=> ?_;refine Mn P1 ?_;refine Mn P1 ?_;refine zyb 8 [0,1,2,3,4,5,7,6] [] h λw9 h=> ?_;refine⟨trivial,?_⟩;refine Mf [] [4,5,6,7,8] ?_;refine z2g (x:=zHi) (r1:=z2n) (b:=zXk) (id:=1) (rg:=zIi) (rest:=z3k) (assign:=z3n) (body:=zYk) (g:=(Operand.tmp 51)) (ps:=[52]) (psa:=#[52]) K_ K_ K_ K_ K_ ?_;refine Yr ?_;refine Yl h λv50 h=> ?_;refine Ym1 h λv51 w10 h=> ?_;refine zyk [(4,pv_ b_),(5,pv_ b_1),(6,pv_ b_2),(7,pv_ b_3),(8,Vi 0),(51,v51)] K_ K_ ?_;refine zJk (gv:=v51) K_ K_ (λrec_ D w11 hD_ hw_ hB_=> ?_)
      have hB_:∀(t52:Int) (w12:World) (Kb:Bool->WP),w12.heap[D+1]? =some (.loop (rec_ .ready none))->(∀ w36,w36=w12.putObj (D+1) (.loop (rec_ .busy none))->F_bc b_ b_1 b_2 b_3 rec_ D Kb t52 w36)->zWb (P:=Tryz.prog) (zBc (D+1)) #[Vi t52] w12 (λe_ W_=>∃ b_,e_=Ending.returned (.bool b_)/\Kb b_ W_):=by
       clear h;intro t52 w12 Kb hl_ hf_;refine hB_ [Vi t52] w12 _ K_ hl_ ?_
       letI:Rnd:=zQe (some (D+1)) [] zUh
       refine Yr (Yf P1 [4,5,6,7,9] ?_);refine And.intro hl_ (λw13 hw_=> ?_);have h:=hf_ w13 hw_;clear hw_ hf_ hl_;unfold F_bc at h;refine Yd 2 (Ys ?_);refine z5 (id:=10) (ops:=z5n) zsd K_ K_ K_ K_ K_ (λw14 hw=> ?_);replace h:=h w14 hw;clear hw;refine Ml 0 h λv53 hc h=> ?_;refine Mv 53 h λhp_9 h=> ?_;refine Mn P1 ?_;refine Mn P1 ?_;refine Ml 3 h λv56 hc h=> ?_;refine Ml 4 h λv57 hc h=> ?_;refine Mn P1 ?_;refine zQb (op:=(Op.alloc 209)) (ty:=0) (dst:=some 10) 6 [] [(4,λw'=>w'.cell? ⟨b_1,0,none⟩=some (Vi v57)),(3,λw'=>w'.cell? ⟨(pblk v53),(poff v53),none⟩=some (Vi v56)),(0,λw'=>w'.cell? ⟨b_,0,none⟩=some (Vp v53))] pv_ (Obj.cells ([Vb 0,Vi 0,Vi 0,Vt Be,Vt Be,Vo false,Vt Be,Vt Be,Ns]).toArray y_e (0,0)) K_ K_ K_ K_ K_ K_ (λb_4 w15 hb hw=> ?_);replace h:=h b_4 w15 hb hw;clear hb hw;obtain⟨hk0,hk1,hk2,h⟩:=h;refine⟨⟨hk0,hk1,hk2,trivial⟩,?_⟩;refine zyb 7 [0,1,2,3,4,5,6] [] h λw16 h=> ?_;refine⟨trivial,?_⟩;refine Mf [] [4,6,7,9,10] ?_;refine Ycut (λl w=>l=[(4,pv_ b_),(9,Vi t52),(10,pv_ b_4)]/\F_m b_ D rec_ Kb t52 b_4 w) ?_ ?_
       ·refine Yt ?_;refine Yl h λv59 h=> ?_;refine Yv 59 h λhp_18 h=> ?_;refine Yn P1 (Yn P2 ?_);refine Yl h λv63 h=> ?_;refine Yf [] [4,6,7,9,10,63] (Yd 3 (Yp P2 [4,6,7,9,10,63,64] ?_));refine Yc h (λh=> ?_) λh=> ?_
        ·refine z5 (id:=13) (ops:=zao) ztd K_ K_ K_ K_ K_ (λw23 hw=> ?_);replace h:=h w23 hw;clear hw;refine Ml 0 h λv66 hc h=> ?_;refine Mv 66 h λhp_19 h=> ?_;refine Mn P1 ?_;refine Mn P2 ?_;refine Ml 4 h λv70 hc h=> ?_;refine Mn P1 ?_;refine zyb 6 [5] [(4,λw'=>w'.cell? ⟨(pblk v66),(poff v66)+6,none⟩=some (Vt v70)),(0,λw'=>w'.cell? ⟨b_,0,none⟩=some (Vp v66))] h λw24 h=> ?_;obtain⟨hk0,hk1,h⟩:=h;refine⟨⟨hk0,hk1,trivial⟩,?_⟩;refine Mn P1 ?_;refine zyb 8 [0,1,2,3,4,5,6,7] [] h λw25 h=> ?_;refine⟨trivial,?_⟩;refine Mf [] [4,9,10] ?_;exact⟨_,Sub.mk K_,rfl,h⟩
        ·refine Yp P2 [4,6,7,9,10,63,73] ?_;refine Yc h (λh=> ?_) λh=> ?_
         ·refine z5 (id:=15) (ops:=zdo) zud K_ K_ K_ K_ K_ (λw26 hw=> ?_);replace h:=h w26 hw;clear hw;refine Ml 0 h λv75 hc h=> ?_;refine Mv 75 h λhp_20 h=> ?_;refine Mn P1 ?_;refine Mn P2 ?_;refine Ml 4 h λv79 hc h=> ?_;refine Ml 5 h λv80 hc h=> ?_;refine Mv 80 h λhp_21 h=> ?_;refine Mn P1 ?_;refine Mn P2 ?_;refine Ml 9 h λv84 hc h=> ?_;refine Mn P1 ?_;refine zyb 11 [10] [(9,λw'=>w'.cell? ⟨(pblk v80),(poff v80)+7,none⟩=some (Vt v84)),(5,λw'=>w'.cell? ⟨b_,0,none⟩=some (Vp v80)),(4,λw'=>w'.cell? ⟨(pblk v75),(poff v75)+6,none⟩=some (Vt v79)),(0,λw'=>w'.cell? ⟨b_,0,none⟩=some (Vp v75))] h λw27 h=> ?_;obtain⟨hk0,hk1,hk2,hk3,h⟩:=h;refine⟨⟨hk0,hk1,hk2,hk3,trivial⟩,?_⟩;refine Mn P1 ?_;refine zyb 13 [0,1,2,3,4,10,11,12] [(9,λw'=>w'.cell? ⟨(pblk v80),(poff v80)+7,none⟩=some (Vt v84)),(5,λw'=>w'.cell? ⟨b_,0,none⟩=some (Vp v80))] h λw28 h=> ?_;obtain⟨hk0,hk1,h⟩:=h;refine⟨⟨hk0,hk1,trivial⟩,?_⟩;refine Mn P1 ?_;refine zyb 15 [0,1,2,3,4,5,6,7,8,9,10,11,12,13,14] [] h λw29 h=> ?_;refine⟨trivial,?_⟩;refine Mf [] [4,9,10] ?_;exact⟨_,Sub.mk K_,rfl,h⟩
         ·refine Yp P2 [4,6,7,9,10,63,88] ?_;refine Yc h (λh=> ?_) λh=> ?_
          ·refine z5 (id:=17) (ops:=zho) zvd K_ K_ K_ K_ K_ (λw30 hw=> ?_);replace h:=h w30 hw;clear hw;refine Ml 0 h λv90 hc h=> ?_;refine Mn P1 ?_;refine zyb 2 [1] [(0,λw'=>w'.cell? ⟨b_2,0,none⟩=some (Vi v90))] h λw31 h=> ?_;obtain⟨hk0,h⟩:=h;refine⟨⟨hk0,trivial⟩,?_⟩;refine Mn P1 ?_;refine zyb 4 [0,1,2,3] [] h λw32 h=> ?_;refine⟨trivial,?_⟩;refine Mf [] [4,9,10] ?_;exact⟨_,Sub.mk K_,rfl,h⟩
          ·refine Yp P2 [4,7,9,10,93] ?_;refine Yc h (λh=> ?_) λh=> ?_
           ·refine Yr ?_;refine Yl h λv95 h=> ?_;refine Ym1 h λv96 w33 h=> ?_;refine Yn P1 ?_;refine Yo h λw34 h=> ?_;refine Yn P1 ?_;refine Yo h λw35 h=> ?_;refine Yf [] [4,9,10] ?_;exact⟨_,Sub.mk K_,rfl,h⟩
           ·refine zA ?_;exact⟨_,Sub.mk K_,rfl,h⟩
       ·rintro _ w17 ⟨rfl,h⟩;unfold F_m at h;refine z5 (id:=20) (ops:=zjo) zwd K_ K_ K_ K_ K_ (λw18 hw=> ?_);replace h:=h w18 hw;clear hw;refine Ml 0 h λv99 hc h=> ?_;refine Ml 1 h λv100 hc h=> ?_;refine Mv 100 h λhp_15 h=> ?_;refine Mn P1 ?_;refine Mn P1 ?_;refine Ml 4 h λv103 hc h=> ?_;refine Mn P1 ?_;refine ML 6 h λv105 hc h=> ?_;refine Mn P1 ?_;refine zQb (op:=(Op.buildSlice 164 1 #[(0,(Operand.tmp 106))])) (ty:=164) (dst:=some 107) 8 [7,5,6] [(4,λw'=>w'.cell? ⟨(pblk v100),(poff v100)+10,none⟩=some (sv_ v103)),(1,λw'=>w'.cell? ⟨b_,0,none⟩=some (Vp v100)),(0,λw'=>w'.cell? ⟨b_,0,none⟩=some (Vp v99))] (λbb=>Value.slice (Z0 bb) 1 1) (Obj.cells ([Vi t52,Vb v105.Kind,Vi v105.From,Vi v105.Number,Vt v105.Write.Key,Vt v105.Write.Val,Vo v105.Write.Drop,Vt v105.Key,Vt v105.End,sv_ v105.Beyond]).toArray y_w (0,0)) K_ K_ K_ K_ K_ K_ (λb_5 w19 hb hw=> ?_);replace h:=h b_5 w19 hb hw;clear hb hw;obtain⟨hk0,hk1,hk2,h⟩:=h;refine⟨⟨hk0,hk1,hk2,trivial⟩,?_⟩;obtain⟨src,hs,h⟩:=h;refine zNc (t:=164) (tx:=164) (e:=249) (a:=(Operand.tmp 103)) (xo:=(Operand.tmp 107)) (s:=v103) (x:=(Slc.mk (Z0 b_5) 1 1)) (sz:=10) (by_:=128) (zs:=[Vi 0,Vb 0,Vi 0,Vi 0,Vt Be,Vt Be,Vo false,Vt Be,Vt Be,Ns]) (ty:=164) (dst:=some 108) 9 [4,8,3,7,2,5,6,1] [(0,λw'=>w'.cell? ⟨b_,0,none⟩=some (Vp v99))] src K_ K_ K_ K_ K_ K_ K_ K_ K_ K_ K_ K_ K_ hs (zG.mono h (λv108 w20 h=> ?_));obtain⟨hk0,h⟩:=h;refine⟨⟨hk0,trivial⟩,?_⟩;refine Mv 99 h λhp_16 h=> ?_;refine Mn P1 ?_;refine Mn P1 ?_;refine zyb 12 [0,1,2,3,4,5,6,7,8,9,11,10] [] h λw21 h=> ?_;refine⟨trivial,?_⟩;refine Mf [] [] ?_;exact And.intro h.1 ⟨true,rfl,h.2 _ rfl⟩
      replace h:=h rec_ D w11 hD_ hw_ hB_;clear hB_ hw_
      have hA_:∀ w37,F_cc R D w37->@WpE (rndD Tryz.prog Tryz.f180 (λv w'=>∃(r0:Int),v=Vi r0/\R r0 w') D) Tryz.prog 111 z3k (λ_ _ _=>False) [(4,pv_ b_),(5,pv_ b_1),(6,pv_ b_2),(7,pv_ b_3),(8,Vi 0),(51,v51)] w37:=by
       clear h;intro w37 h
       letI:Rnd:=rndD Tryz.prog Tryz.f180 (λv w'=>∃(r0:Int),v=Vi r0/\R r0 w') D
       unfold F_cc at h;refine Yp P1 [8] ?_;refine zTl K_ h.1 ?_;replace h:=h.2 _ rfl
       repeat (first | refine z0i ?_ | refine zdg ?_ | refine zth ?_ | refine z1i ?_)
       exact retS (rs:=[(ResultVar.tmp 8)]) (v:=Vi 0) K_ (⟨K_,trivial⟩) ⟨0,rfl,h⟩
      refine zw.mono h ?_;rintro e_ w38 ⟨hv_,st_,pe_,hl_,hst_,h⟩;refine⟨hv_,st_,pe_,hl_,hst_,?_⟩;replace h:=h _ rfl;obtain⟨hpe_,h⟩:=h;subst hpe_;exact hA_ _ h
 ·rintro e w' ⟨v,rfl,r0,rfl,h⟩; exact⟨r0,rfl,h⟩
theorem S_Kc {t_ w R} (h:F_Rf t_ R w):C_Dc t_ w R:=Yh Tryz.func184 (go h [.p 1 [0],.s,.d 0,.t,.n 1,.m,.f 2 [0,3],.c [.p 1 [2],.y],.t,.n 1,.v 8,.n 1,.n 1,.l,.f 3 [0,7],.c [.p 1 [2],.y],.k,.t,.n 2,.v 15,.n 1,.n 1,.l,.S,.v 14,.n 1,.n 1,.o,.f 0 [0],.t,.n 1,.v 22,.n 1,.n 1,.l,.n 3,.o,.f 0 [],.p 1 [2],.y])
theorem S_Ub {t_ w R} (h:F_cf t_ R w):C_tb t_ w R:=Yh Tryz.func187 (go h [.t,.w,.f 2 [0,2],.s,.d 0,.t,.n 1,.m,.f 2 [0,2,11],.c [.t,.n 1,.o,.f 2 [2,3,4],.z],.t,.n 1,.m,.f 2 [0,2,16],.c [.t,.n 1,.o,.f 2 [2,3,4],.z],.k,.t,.n 1,.v 21,.n 1,.n 1,.l,.n 1,.w,.o,.f 0 [0,2,5],.p 1 [0,2,5,6],.s,.t,.n 1,.v 26,.n 1,.n 1,.l,.f 2 [0,2,5,6,29,30,31],.d 1,.O2 .s 6 .i 31 [0,2,5,6,29,30,31],.p 1 [0,2,5,6,29,30,31,32],.s,.c [.k,.C1 .s 6 [0,2,5,6,29,30,31] [.d 2,.t,.i,.L,.w,.o,.f 0 [0,2,5,6,8,29,30,31],.t,.n 1,.v 35,.n 1,.n 2,.l,.f 0 [0,2,5,6,8,29,30,31,39],.d 3,.p 2 [0,2,5,6,8,29,30,31,39,40],.c [.t,.n 1,.l,.n 3,.o,.f 0 [0,2,5,6,8,29,30,31],.t,.n 1,.l,.f 0 [0,2,5,6,8,29,30,31,48],.c [.r,.n 1,.l,.V,.m,.n 1,.o,.f 0 [0,2,5,6,29,30,31],.x],.k,.x],.p 2 [0,2,5,6,8,29,30,31,39,54],.c [.r,.n 1,.l,.n 1,.l,.W 2 2,.m,.n 1,.o,.f 0 [0,2,5,6,29,30,31],.x],.p 2 [0,2,5,6,8,29,30,31,39,63],.c [.r,.n 1,.l,.n 1,.l,.n 2,.o,.f 0 [0,2,5,6,29,30,31],.x],.p 2 [0,2,5,6,8,29,30,31,71],.c [.t,.n 1,.l,.f 2 [0,2,5,6,29,30,31,74,75,76],.d 4,.O2 .s 6 .i 76 [0,2,5,6,29,30,31,74,75,76],.p 1 [0,2,5,6,29,30,31,74,75,76,77],.s,.c [.k,.s,.d 5,.t,.i,.L,.w,.o,.f 0 [0,2,5,6,10,29,30,31,74,75,76],.M [],.n 2,.l,.n 1,.l,.m,.K 1,.n 1,.V,.K 0,.A,.K 0,.f 1 [0,2,5,6,29,30,31,74,75,76],.r,.f 2 [0,2,5,6,29,30,31,74,75,76],.x],.e 4,.x],.k,.x],.r,.f 2 [0,2,5,6,29,30,31],.x],.e 1,.t,.n 1,.m,.f 0 [2,5,6],.t,.L,.n 1,.o,.f 2 [2,3,4],.z])
theorem S_xd {l_ than w R} (h:F_Zg l_ than R w):C_Ad l_ than w R:=Yh Tryz.func189 (go h [.p 1 [0,1],.s,.p 3 [1,7,8,9],.d 0,.O2 .i 1 .i 9 [1,7,8,9],.p 1 [1,7,8,9,10],.s,.c [.k,.s,.d 1,.t,.i,.l,.n 1,.f 0 [1,6,7,8,9],.s,.P 90000003 [6,7,8,9,19],.c [.p 1 [4],.y],.k,.r,.f 2 [1,7,8,9],.r,.f 2 [1,7,8,9],.x],.e 0,.p 1 [4],.y])
theorem S_Vb {t_ w R} (h:F_df t_ R w):C_6c t_ w R:=Yh Tryz.func190 (go h [.t,.w,.f 1 [1],.p 2 [2],.y])
theorem S_3c {l_ w R} (h:F_sg l_ R w):C_ec l_ w R:=Yh Tryz.func193 (go h [.p 1 [0],.t,.n 1,.m,.f 1 [3],.t,.n 1,.m,.f 0 [3],.p 2 [2],.y])
theorem S_mb {a_ b_ w R} (h:F_Ce a_ b_ R w):C_Vc a_ b_ w R:=Yh Tryz.func195 (go h [.t,.w,.w,.f 1 [2,3],.t,.n 1,.l,.n 1,.l,.m,.f 1 [4],.y])
def zhm:=cb_ Tryz.f196
def zdq:=cl_ zhm
def zeq:=cr_ zdq
def zfq:=cl_ zeq
def zgq:=cl_ zfq
def zhq:=co_ zgq
def zTc:List Nat:=[0,1,2,3,4,5,6,7,8,9,10,11,12,13,14]
theorem S_nb {yield t1 w R} (h:F_6c yield t1 R w):C_Wc yield t1 w R:=by
 unfold F_6c at h;refine Calls.mono (zKe (args:=[yield,Vp t1]) (R:=λv w'=>v=Value.tuple #[]/\R w') Tryz.func196 (c:=zhm) K_ 41 K_ K_ [(0,yield),(1,Vp t1)] K_ ?_) ?_
 ·letI:Rnd:=rndY Tryz.prog Tryz.f196 (λv w'=>v=Value.tuple #[]/\R w')
  refine Ys (Yt ?_);refine Yv 1 h λhp_12 h=> ?_;refine Yl h λv6 h=> ?_;refine Yv 6 h λhp_13 h=> ?_;refine Yn P1 (Yn P2 ?_);refine Yl h λv10 h=> ?_;refine Yn P1 (Yu 1 (λpp=> .pointer pp) hp_12.symm ?_);refine Yf [] [0,1,11] ?_;refine Yc h (λh=> ?_) λh=> ?_
  ·refine Ys ?_;refine z5 (id:=1) (ops:=zhq) zTc K_ K_ K_ K_ K_ (λw1 hw=> ?_);replace h:=h w1 hw;clear hw;refine Mv 1 h λhp_17 h=> ?_;refine Ml 0 h λv13 hc h=> ?_;refine Mv 13 h λhp_18 h=> ?_;refine Mn P1 ?_;refine Mn P1 ?_;refine ML 3 h λv16 hc h=> ?_;refine Ml 4 h λv17 hc h=> ?_;refine Mv 17 h λhp_19 h=> ?_;refine Mn P1 ?_;refine Mn P2 ?_;refine Ml 8 h λv21 hc h=> ?_;refine zF (op:=(Op.call (Call.mk (Callee.value (Operand.func 62)) #[(Operand.tmp 16),(Operand.tmp 21)] #[23,9]))) (ty:=50) (dst:=some 22) 9 [3,8,2,7,1,6,0,5,4] [] 62 #[Value.agg #[Vi v16.Lanes,Vi v16.Shards,Vi v16.Window,Vi v16.Queue],Vt v21] K_ K_ K_ K_ K_ (λww=>by kernel_rfl) (Calls.mono h ?_);rintro _ w2 ⟨k_,v22_1,rfl,h⟩;refine⟨_,rfl,trivial,?_⟩;refine Mf (Pl 5) [0,3] ?_;refine Yt (Yn P2 ?_);refine zpg rfl (fo:=(Operand.tmp 25)) (aa:=#[(Operand.tmp 26)]) (ts:=#[3]) (fv:=yield) (ty:=4) (dst:=some 27) #[Vi k_] K_ K_ K_ (zWb.mono h ?_);rintro _ w3 ⟨v27,rfl,h⟩;refine⟨_,rfl,?_⟩;refine Yf [] [] ?_;exact YT0 ⟨rfl,h⟩
  ·refine zA (Yt ?_);refine Yv 1 h λhp_22 h=> ?_;refine Yl h λv28 h=> ?_;refine Yv 28 h λhp_23 h=> ?_;refine Yn P1 (Yn P2 ?_);refine Yl h λv32 h=> ?_;refine Yf P1 [0,32,33] (Yd 0 ?_);obtain⟨I,μ,h0,hr⟩:=h;refine zqd (λm l w=>∃(t33:Int),l=[(0,yield),(32,Vi v32),(33,Vi t33)]/\I t33 w/\μ t33 w=m) ⟨0,rfl,h0,rfl⟩ ?_;rintro _ _ w4 ⟨t33,rfl,hI,rfl⟩;obtain⟨again_,again__h,h⟩:∃ again_:Int->WP,(∀ t33' w',again_ t33' w'->I t33' w'/\μ t33' w'<μ t33 w4)/\F_hb yield R v32 again_ t33 w4:=⟨_,λ_ _ h=>h,hr t33 w4 hI⟩
   clear h0 hI;unfold F_hb at h;refine Yp P1 [0,32,33,34] (Ys ?_);refine Yc h (λh=> ?_) λh=> ?_
   ·refine zA (Ys (Yd 1 (Yp P2 [0,5,32,33] (Yt (Yn P2 ?_)))));refine zpg rfl (fo:=(Operand.tmp 36)) (aa:=#[(Operand.tmp 37)]) (ts:=#[3]) (fv:=yield) (ty:=4) (dst:=some 38) #[Vi t33] K_ K_ K_ (zWb.mono h ?_);rintro _ w5 ⟨v38,rfl,h⟩;refine⟨_,rfl,?_⟩;refine Yf P1 [0,32,33,39] ?_;refine Yc h (λh=> ?_) λh=> ?_
    ·exact YT0 ⟨rfl,h⟩
    ·refine zA (Yr (Yf P2 [0,32,33] ?_));have hb_:=again__h _ _ h;exact⟨_,hb_.2,_,Sub.mk K_,(i64.wrap (t33+1)),rfl,hb_.1,rfl⟩
   ·refine z4g 0 ?_
    repeat (first | refine zvk ?_ | refine zvj ?_ | refine zwk ?_ | refine zeg ?_ | refine zuf K_ ?_)
    refine zHc ?_
    repeat (first | refine z0i ?_ | refine zdg ?_ | refine zth ?_ | refine z1i ?_)
    exact retT (rs:=[]) (vs:=[]) K_ (trivial) K_ ⟨rfl,h⟩
 ·rintro e w' ⟨v,rfl,rfl,h⟩; exact⟨rfl,h⟩
theorem S_Lc {a_ b_ w R} (h:F_Tf a_ b_ R w):C_kd a_ b_ w R:=Yh Tryz.func200 (go h [.t,.w,.w,.f 1 [2,3],.t,.n 1,.l,.n 1,.l,.m,.f 1 [4],.y])
theorem S_Wc {t_ r w R} (h:F_fg t_ r R w):C_Zc t_ r w R:=Yh Tryz.func239 (go h [.t,.w,.f 1 [0,3],.s,.d 0,.t,.n 1,.m,.f 2 [0,3,8],.c [.p 1 [4],.y],.s,.D,.n 1,.v 13,.n 1,.n 1,.l,.n 2,.v 18,.n 1,.n 1,.l,.f 2 [0,3,12],.c [.p 1 [4],.y],.s,.D,.n 1,.l,.n 1,.v 26,.n 1,.n 1,.l,.f 2 [0,3,23],.c [.p 1 [4],.y],.k,.t,.n 1,.l,.n 1,.Ms,.f 1 [0,3,5],.s,.t,.n 1,.l,.f 2 [0,3,5,36,37,38],.d 1,.O2 .s 5 .i 38 [0,3,5,36,37,38],.p 1 [0,3,5,36,37,38,39],.s,.c [.k,.s,.d 2,.t,.i,.L,.w,.o,.f 0 [0,3,5,7,36,37,38],.M [],.n 2,.l,.n 1,.l,.m,.K 1,.n 1,.V,.K 0,.A,.K 0,.f 1 [0,3,5,36,37,38],.r,.f 2 [0,3,5,36,37,38],.x],.e 1,.s,.M [0,1,2,3,4,5,6,7,8,10,11,12,9,13,14,15,16,17,18],.n 2,.v 53,.n 1,.n 1,.l,.n 1,.l,.n 1,.l,.n 2,.l,.m,.K 3,.n 1,.V,.K 1,.A,.K 0,.v 52,.n 1,.n 1,.o,.K 0,.f 0 [],.p 1 [4],.y])
theorem S_7c {l_ w R} (h:F_Ag l_ R w):C_w l_ w R:=Yh Tryz.func101 (go h [.p 1 [0],.s,.p 3 [0,5,6,7],.d 0,.O1 .i 7 [0,5,6,7],.p 1 [0,5,6,7,8],.s,.c [.k,.s,.d 1,.t,.n 1,.i,.L,.w,.n 1,.o,.f 0 [0,3,4,5,6,7],.C1 .b 49 [0,5,6,7,49] [.D,.n 1,.l,.n 3,.b 15 [.F 9110011110011111110011111111111110 [0,5,6,7,49],.x],.l,.N 92000,.b 20 [.F 91110011111110011111111111110 [0,5,6,7,49],.x],.l,.N 922000,.b 26 [.F 91111110011111111111110 [0,5,6,7,49],.x],.l,.N 920,.b 29 [.l,.N 92200000000,.b 35 [.F 911111110 [0,5,6,7,49],.x],.b 38 [.i,.N 92,.l,.N 92,.l,.F 9220 [0,5,6,7,49],.x],.F 911111120 [0,5,6,7,49],.x],.N 911200222000,.b 38 [.i,.N 92,.l,.N 92,.l,.F 9220 [0,5,6,7,49],.x],.F 911111120 [0,5,6,7,49],.x],.c [.p 1 [2],.y],.k,.r,.f 2 [0,5,6,7],.x],.e 0,.p 1 [2],.y])
def zSp:=cb_ Tryz.f264
def zTp:=cr_ zSp
def zJn:=cr_ zTp
def zSk:=cr_ zJn
def zKn:=cl_ zSk
def zLn:=cl_ zKn
def zMn:=co_ zLn
def zNn:=cr_ zSk
def zOn:=cl_ zNn
def zPn:=co_ zOn
def z3f:List Nat:=[0,2,3,1,4,5,6,7,8]
def zRe:List Nat:=[0,2,3,1,4,5,6,7,8]
def zSe:List Nat:=[0,2,3,4,1,5,6,7,8]
theorem S_ld {l_ v w R} (h:F_og l_ v R w):C_td l_ v w R:=by
 unfold F_og at h;refine Yh Tryz.func264 ?_
 ·refine Yt ?_;refine Yw pv_ h λb_ w1 h=> ?_;refine Yf P3 [0,3] (Ys ?_);refine Ycut (λl w=>∃(t16:Bool),l=[(0,sv_ l_),(3,pv_ b_),(16,Vo t16)]/\F_sb l_ R b_ t16 w) ?_ ?_
  ·refine Yr (Yn P1 ?_);refine Ym1 h λv9 w15 h=> ?_;refine Yn P2 ?_;refine Yspl 11 h (λh=> ?_) λh=> ?_
   ·refine Yf [.skip,.skip,.skip,.skip,.plain] [0,3,16] ?_;exact⟨_,Sub.mk K_,true,rfl,h⟩
   ·refine YL h λv12 h=> ?_;refine Yw (sl_ 1 1) h λb_3 w16 h=> ?_;refine Ym1 h λv14 w17 h=> ?_;refine Yf [.sure,.plain] [0,3,16] ?_;exact⟨_,Sub.mk K_,(v14 != 0),rfl,h⟩
  ·rintro _ w2 ⟨t16,rfl,h⟩;unfold F_sb at h;refine Yc h (λh=> ?_) λh=> ?_
   ·exact go h [.p 3 [4,5,6],.y]
   ·refine zA (Yt (Yn P2 ?_));refine Yl h λv19 h=> ?_;refine Ym1 h λv20 w3 h=> ?_;refine Yf P1 [0,3,7] (Ys ?_);refine Ycut (λl w=>∃(t33:Bool),l=[(0,sv_ l_),(3,pv_ b_),(7,Vi v20),(33,Vo t33)]/\F_rb l_ R b_ v20 t33 w) ?_ ?_
    ·refine zZ (id:=4) (ops:=zMn) K_ K_ K_ ?_;refine Qn (Pl 6) ?_;refine Qspl 23 h (λh=> ?_) λh=> ?_
     ·obtain⟨hp_3,h⟩:=h;refine Qu 24 (λpp=> .slice pp l_.len l_.cap) hp_3 ?_;refine Qi h λh=> ?_;refine Qn [.sure] ?_;refine Ql h λv29 h=> ?_;refine Qn [.sure] ?_;refine Ql h λv31 h=> ?_;refine Qf [.sure,.plain] [0,3,7,33] h λw13 h=> ?_;exact⟨_,Sub.mk K_,(v29==v31),rfl,h⟩
     ·refine Qf [.skip,.skip,.skip,.skip,.skip,.skip,.plain] [0,3,7,33] h λw14 h=> ?_;exact⟨_,Sub.mk K_,false,rfl,h⟩
    ·rintro _ w4 ⟨t33,rfl,h⟩;unfold F_rb at h;refine Yc h (λh=> ?_) λh=> ?_
     ·exact go h [.t,.n 1,.m,.f 3 [4,5,6],.y]
     ·refine zA (Ys ?_);refine zx (id:=6) (ops:=zPn) z3f K_ K_ K_ K_ (λw6 hw=> ?_);replace h:=h w6 hw;clear hw;refine Mn P2 ?_;refine ML 3 h λv39 hc h=> ?_;refine zAc 1 [1,4] K_ K_ (zde ?_ ?_)
      ·replace h:=h.1;refine z5c (π:=zRe) (k:=3) (op:=(Op.call (Call.mk (Callee.value (Operand.func 63)) #[(Operand.tmp 36)] #[87]))) (ty:=87) (dst:=some 37) 1 [0] [(3,λw'=>zf w' b_ 0 [Vi v39.Number,Vt v39.Val,Vo v39.Drop])] 63 #[sv_ l_] K_ K_ K_ K_ K_ K_ (λww=>by kernel_rfl) (Calls.mono h ?_);rintro _ w7 ⟨v37,rfl,h⟩;obtain⟨hk0,h⟩:=h;refine⟨_,rfl,⟨hk0,trivial⟩,?_⟩;exact go h [.V,.K 0,.m,.K 0,.f 3 [4,5,6],.y]
      ·replace h:=h.2;refine zMf (π:=zSe) (k:=3) (op:=(Op.buildSlice 87 1 #[(0,(Operand.tmp 39))])) (ty:=87) (dst:=some 40) 4 [3] [] (λbb=>Value.slice (Z0 bb) 1 1) (Obj.cells ([Vi v39.Number,Vt v39.Val,Vo v39.Drop]).toArray y_b (0,0)) K_ K_ K_ K_ K_ K_ K_ (λb_2 w10 hb hw=> ?_);replace h:=h b_2 w10 hb hw;clear hb hw;refine⟨trivial,?_⟩;exact go h [.m,.K 0,.m,.K 0,.f 3 [4,5,6],.y]
theorem S_vd {l_ mark w R} (h:F_Wg l_ mark R w):C_Bd l_ mark w R:=Yh Tryz.func265 (go h [.t,.w,.f 2 [0,1,4],.s,.t,.n 1,.m,.f 1 [0,1,4,7],.p 2 [0,1,4,7,12],.c [.t,.n 2,.o,.f 2 [4,5,6],.z],.k,.t,.n 2,.m,.f 1 [0,4,8],.s,.p 2 [0,4,8,19],.c [.t,.n 1,.o,.f 2 [4,5,6],.z],.k,.t,.n 3,.i,.L,.o,.f 2 [4,5,6],.z])
theorem S_Uc {l_ least w R} (h:F_Je l_ least R w):C_1c l_ least w R:=by
 unfold F_Je at h;refine Yh Tryz.func267 ?_
 ·refine Yp P3 [0,1] (Ys (Yt (Yn P1 ?_)));refine Ym1 h λv11 w1 h=> ?_;refine Yf P1 [0,1,7] (Yp P2 [0,1,7,13] ?_);refine Yc h (λh=> ?_) λh=> ?_
  ·exact go h [.p 4 [4,5,6],.y]
  ·refine zA (Yt (Yn P2 ?_));refine Ym1 h λv17 w2 h=> ?_;refine Yf P3 [0,8] (Yt (Yn P1 ?_));refine Ym1 h λv21 w3 h=> ?_;refine Yf P1 [8,9] (Yt (Yn (Pl 6) ?_));obtain⟨hc,h⟩:=h;refine zvi (t:=87) (e:=92) (x:=(Operand.tmp 22)) (lo:=(Operand.tmp 23)) (hi:=(Operand.tmp 25)) (mx:=(Operand.tmp 27)) (s:=v21) (sz:=3) (k:= .i64) (a:=(if(i64.wrap (v17 - 1))>0 then(i64.wrap (v17 - 1)) else 0)) (k':= .i64) (b:=((v21.len:Nat):Int)) (k'':= .i64) (c:=((v21.len:Nat):Int)) (ty:=87) (dst:=some 28) K_ K_ K_ K_ K_ K_ K_ hc (λs hs=> ?_);replace h:=h s hs;clear hs;exact go h [.f 4 [4,5,6],.y]
theorem S_gd {l_ mark beyond w R} (h:F_Kg l_ mark beyond R w):C_ld l_ mark beyond w R:=Yh Tryz.func269 (go h [.p 2 [0,1,2],.s,.t,.n 1,.m,.f 1 [0,1,2,8],.p 2 [0,1,2,8,16],.c [.p 3 [6,7],.y],.k,.p 1 [0,1,2,9],.t,.n 2,.m,.f 1 [0,2,9,10],.C1 .s 9 [0,2,9,10] [.C1 .b 31 [0,2,9,10,31] [.r,.n 6,.b 23 [.i,.N 92,.l,.F 920 [0,2,9,10,31],.x],.F 911110 [0,2,9,10,31],.x],.c [.r,.n 4,.i,.L,.V,.A,.f 1 [0,2,9,10],.x],.k,.x],.s,.t,.n 2,.S,.f 2 [2,9,42,43,44],.d 0,.O2 .s 9 .i 44 [2,9,42,43,44],.p 1 [2,9,42,43,44,45],.s,.c [.k,.C1 .s 9 [2,9,42,43,44] [.d 1,.t,.i,.L,.w,.o,.f 0 [2,9,12,42,43,44],.t,.n 2,.l,.m,.f 0 [2,9,12,42,43,44,51],.c [.r,.n 1,.L,.V,.A,.f 1 [2,9,42,43,44],.x],.k,.x],.r,.f 2 [2,9,42,43,44],.x],.e 0,.p 3 [6,7],.y])
theorem S_dc {l_ at_ w R} (h:F_Bf l_ at_ R w):C_S l_ at_ w R:=Yh Tryz.func271 (go h [.p 1 [0,1],.t,.n 6,.m,.f 1 [4],.y])
theorem S_Ob {m_ i w R} (h:F_jf m_ i R w):C_7c m_ i w R:=Yh Tryz.func275 (go h [.t,.w,.f 1 [1,2],.s,.D,.n 1,.l,.n 1,.i,.n 1,.l,.n 1,.l,.f 2 [4],.y])
theorem S_4c {x y w R} (h:F_qg x y R w):C_4c x y w R:=Yh Tryz.func126 (go h [.p 1 [0,1],.t,.n 1,.m,.n 2,.b 7 [.m,.F 920000030 [4],.y],.F 9110022200 [4],.y])
theorem S_W {x w R} (h:F_cg x R w):C_Uc x w R:=Yh Tryz.func148 (go h [.p 1 [0],.p 4 [2],.y])
theorem S_lc {b_ w R} (h:F_rf b_ R w):C_ic b_ w R:=Yh Tryz.func117 (go h [.p 1 [0],.t,.n 1,.m,.n 1,.w,.f 1 [2],.y])
theorem S_Hb {r w R} (h:F_Se r R w):C_V r w R:=Yh Tryz.func119 (go h [.p 1 [0],.s,.t,.n 1,.E,.f 0 [0,4],.c [.p 1 [2],.y],.k,.t,.n 1,.v 5,.n 1,.n 1,.l,.f 2 [2],.y])
theorem S_Yb {r w R} (h:F_9e r R w):C_7b r w R:=Yh Tryz.func120 (go h [.p 1 [0],.s,.d 0,.C1 .b 3 [0,3] [.r,.n 1,.E,.n 2,.b 6 [.F 9111100 [0,3],.x],.v 7,.N 92,.N 92,.l,.F 9200 [0,3],.x],.c [.p 1 [2],.y],.C1 .b 13 [0,13] [.r,.n 1,.v 14,.n 1,.n 1,.l,.n 3,.b 19 [.v 20,.N 92,.N 92,.l,.F 92200 [0,13],.x],.F 91111100 [0,13],.x],.c [.p 1 [2],.y],.k,.t,.n 1,.v 27,.n 1,.n 1,.l,.f 1 [2],.y])
theorem S_Zb {r w R} (h:F_af r R w):C_sb r w R:=Yh Tryz.func122 (go h [.t,.w,.f 0 [0,2],.t,.n 2,.m,.f 0 [2],.t,.l,.o,.f 0 [2],.z])
theorem S_ub {r width w R} (h:F_ze r width R w):C_Tb r width w R:=Yh Tryz.func124 (go h [.t,.w,.w,.f 0 [0,3,4],.t,.n 2,.m,.f 0 [4],.t,.l,.o,.f 0 [4],.z])
theorem S_Ib {r most w R} (h:F_Te r most R w):C_kb r most w R:=Yh Tryz.func125 (go h [.t,.w,.w,.f 0 [0,3,4],.t,.n 2,.m,.f 0 [4],.t,.l,.o,.f 0 [4],.z])
def zSq:=cb_ Tryz.f143
def zTq:=cr_ zSq
def zDo:=cr_ zTq
def zEo:=cr_ zDo
def zFo:=cr_ zEo
def zGo:=cl_ zFo
def zHo:=co_ zGo
theorem S_Jb {r next w R} (h:F_hd r next R w):C_X r next w R:=by
 unfold F_hd at h;refine Yh Tryz.func143 ?_
 ·refine Yp P1 [0,1] (Ys ?_);refine Ycut (λl w=>∃(t22:Bool),l=[(0,Vp r),(1,next),(22,Vo t22)]/\F_x r next R t22 w) ?_ ?_
  ·refine Yr (Yn P1 ?_);refine zT (op:=(Op.binOp BinOp.eql 268 (Operand.tmp 7) (Operand.const (Vp none)) 268)) (ty:=4) (dst:=some 8) (Vo r.isNone) K_ (λww=>zeb (p:=r) K_ K_ K_ ww) ?_;refine Yn P2 ?_;refine Yspl 9 h (λh=> ?_) λh=> ?_
   ·refine Yf [.skip,.skip,.skip,.skip,.plain,.plain,.skip,.skip,.skip,.skip,.skip,.plain] [0,1,22] ?_;exact⟨_,Sub.mk K_,true,rfl,h⟩
   ·refine Yv 10 h λhp_20 h=> ?_;refine Yn [.sure] (Yn [.sure] ?_);refine Yl h λv13 h=> ?_;refine Yn [.sure,.plain,.plain,.plain] ?_;refine Yspl 16 h (λh=> ?_) λh=> ?_
    ·refine Yf [.skip,.skip,.skip,.skip,.plain] [0,1,22] ?_;exact⟨_,Sub.mk K_,true,rfl,h⟩
    ·refine Yv 17 h λhp_21 h=> ?_;refine Yn [.sure] (Yn [.sure] ?_);refine Yl h λv20 h=> ?_;refine Yf [.sure,.plain] [0,1,22] ?_;exact⟨_,Sub.mk K_,(v20 != 0),rfl,h⟩
  ·rintro _ w1 ⟨t22,rfl,h⟩;unfold F_x at h;refine Yc h (λh=> ?_) λh=> ?_
   ·exact go h [.p 1 [4],.y]
   ·refine zA (Yt (Yn P2 ?_));refine Yv 25 h λhp_7 h=> ?_;refine Yn P1 (Yn P1 ?_);refine Yl h λv28 h=> ?_;refine z8b (fo:=(Operand.tmp 24)) (aa:=#[(Operand.tmp 28)]) (ts:=#[109]) (fv:=next) (ty:=50) (dst:=some 29) #[sv_ v28] K_ K_ K_ (zw.mono h ?_);rintro _ w2 ⟨n_,e,rfl,h⟩;refine⟨_,rfl,?_⟩;refine Yf (Pl 5) [0,5,6] (Ys (Yp P2 [0,5,6,33] ?_));refine Yc h (λh=> ?_) λh=> ?_
    ·exact go h [.t,.n 2,.v 34,.n 1,.n 1,.o,.f 0 [],.p 1 [4],.y]
    ·refine zA (Ys ?_);refine zK (id:=7) (ops:=zHo) K_ 19 K_ K_ (λw4 hw=> ?_);replace h:=h w4 hw;clear hw;refine Qn P2 ?_;refine Qv 39 h λhp_16 h=> ?_;refine Qn P1 ?_;refine Qn P1 ?_;refine Ql h λv42 h=> ?_;refine Qn P2 ?_;refine Qv 44 h λhp_17 h=> ?_;refine Qn P1 ?_;refine Qn P1 ?_;refine Ql h λv47 h=> ?_;refine Qn P2 ?_;refine Qv 49 h λhp_18 h=> ?_;refine Qn P1 ?_;refine Qn P1 ?_;refine Ql h λv52 h=> ?_;refine Qn P1 ?_;obtain⟨hc,h⟩:=h;refine zFh (t:=109) (e:=5) (x:=(Operand.tmp 42)) (lo:=(Operand.tmp 43)) (hi:=(Operand.tmp 48)) (mx:=(Operand.tmp 53)) (s:=v42) (sz:=1) (k:= .i64) (a:=n_) (k':= .i64) (b:=((v47.len:Nat):Int)) (k'':= .i64) (c:=((v52.len:Nat):Int)) (ty:=109) (dst:=some 54) K_ K_ K_ K_ K_ K_ K_ hc (λs hs=> ?_);replace h:=h s hs;clear hs;exact go h [.v 38,.n 1,.n 1,.T,.o,.f 0 [],.p 1 [4],.y]
theorem S_vb {b_ t1 w R} (h:F_wg b_ t1 R w):C_Tc b_ t1 w R:=Yh Tryz.func144 (go h [.p 2 [0,1],.t,.n 1,.m,.f 7 [1,5,6,7],.t,.n 1,.v 1,.o,.f 0 [6,7],.p 4 [3,4],.y])
theorem S_dd {b_ w R} (h:F_Cg b_ R w):C_Ac b_ w R:=Yh Tryz.func145 (go h [.p 3 [0,2],.s,.p 3 [2,7,8,9],.d 0,.O2 .u 2 .i 9 [2,7,8,9],.p 1 [2,7,8,9,10],.s,.c [.k,.s,.d 1,.t,.n 1,.i,.l,.n 2,.f 0 [2,5,6,7,8,9],.s,.P 900000300000033 [2,5,6,7,8,9,27],.c [.p 3 [2,3,4],.y],.k,.t,.n 6,.h,.f 2 [2,5,6,7,8,9],.p 2 [2,5,7,8,9,37],.c [.p 6 [2,3,4],.y],.k,.r,.f 2 [2,7,8,9],.x],.e 0,.p 3 [2,3,4],.y])
def zUq:=cb_ Tryz.f146
def zVq:=cr_ zUq
def zIo:=cr_ zVq
def zJo:=cl_ zIo
def zKo:=cr_ zJo
def zLo:=cl_ zKo
def zMo:=cl_ zLo
def zNo:=cr_ zMo
def zOo:=cl_ zNo
def zPo:=cl_ zOo
def zQo:=co_ zPo
theorem S_bb {b_ t1 t2 w R} (h:F_Oc b_ t1 t2 R w):C_rc b_ t1 t2 w R:=by
 unfold F_Oc at h;refine Yh Tryz.func146 ?_
 ·refine Yp P2 [0,1,2] (Ys (Yd 0 ?_));refine Ycut (λl w=>∃(t7:Bool),l=[(0,sv_ b_),(1,Vp t1),(2,Vp t2),(7,Vo t7)]/\F_H b_ t1 t2 R t7 w) ?_ ?_
  ·refine Yr ?_;refine Yv 1 h λhp_20 h=> ?_;refine Yl h λv8 h=> ?_;refine Yn P2 ?_;refine Yspl 10 h (λh=> ?_) λh=> ?_
   ·refine Yn [.skip,.skip,.plain,.plain] (Yu 1 (λpp=> .pointer pp) hp_20.symm ?_);refine Yf [] [0,1,2,7] ?_;exact⟨_,Sub.mk K_,true,rfl,h⟩
   ·refine Yl h λv11 h=> ?_;refine Yn [.sure,.plain,.plain] (Yu 1 (λpp=> .pointer pp) hp_20.symm ?_);refine Yf [] [0,1,2,7] ?_;exact⟨_,Sub.mk K_,(decide (v11>8)),rfl,h⟩
  ·rintro _ w1 ⟨t7,rfl,h⟩;unfold F_H at h;refine Yc h (λh=> ?_) λh=> ?_
   ·exact go h [.p 2 [4,5],.y]
   ·refine Yt ?_;refine Yv 1 h λhp_6 h=> ?_;refine Yl h λv15 h=> ?_;refine Yn P4 (Yu 1 (λpp=> .pointer pp) hp_6.symm ?_);refine Yf [] [0,1,2,14] ?_;refine Yc h (λh=> ?_) λh=> ?_
    ·exact go h [.p 2 [4,5],.y]
    ·refine zA (Ys (Yt ?_));refine Yv 1 h λhp_14 h=> ?_;refine Yl h λv19 h=> ?_;refine Yn P2 (Yu 1 (λpp=> .pointer pp) hp_14.symm ?_);refine Yf [] [0,1,2,6] (Yd 1 ?_);obtain⟨I,μ,h0,hr⟩:=h;refine zqd (λm l w=>∃(i:Int),l=[(0,sv_ b_),(1,Vp t1),(2,Vp t2),(6,Vi i)]/\I i w/\μ i w=m) ⟨(i64.wrap (v19 - 1)),rfl,h0,rfl⟩ ?_;rintro _ _ w2 ⟨i,rfl,hI,rfl⟩;obtain⟨again_,again__h,h⟩:∃ again_:Int->WP,(∀ i' w',again_ i' w'->I i' w'/\μ i' w'<μ i w2)/\F_2 b_ t1 t2 R again_ i w2:=⟨_,λ_ _ h=>h,hr i w2 hI⟩
     clear h0 hI;unfold F_2 at h;refine Ys (Yp P2 [0,1,2,6,22] ?_);refine Yc h (λh=> ?_) λh=> ?_
     ·refine zA (Ys (Yd 2 ?_));refine zK (id:=8) (ops:=zQo) K_ 8 K_ K_ (λw3 hw=> ?_);replace h:=h w3 hw;clear hw;refine Qv 2 h λhp_17 h=> ?_;refine Ql h λv25 h=> ?_;refine Qn P3 ?_;obtain⟨hp_18,h⟩:=h;refine Qu 27 (λpp=> .slice pp b_.len b_.cap) hp_18 ?_;refine Qi1 h λh=> ?_;refine Ql h λv30 h=> ?_;refine Qn P2 ?_;refine zEb K_ ?_;refine Yo h λw4 h=> ?_;refine Yu 2 (λpp=> .pointer pp) hp_17.symm ?_;refine Yf [] [0,1,2,6] (Yr (Yf P3 [0,1,2,6] ?_));have hb_:=again__h _ _ h;exact⟨_,hb_.2,_,Sub.mk K_,(i64.wrap (i - 1)),rfl,hb_.1,rfl⟩
     ·exact go h [.e 1,.t,.v 1,.l,.f 2 [4,5],.y]
theorem S_hb {b_ t1 t2 w R} (h:F_Uc b_ t1 t2 R w):C_Mc b_ t1 t2 w R:=by
 unfold F_Uc at h;refine Yh Tryz.func147 ?_
 ·refine Yp P2 [0,1,2] (Ys (Yt ?_));refine Yv 1 h λhp_3 h=> ?_;refine Yl h λv9 h=> ?_;refine Yn P1 (Yu 1 (λpp=> .pointer pp) hp_3.symm ?_);refine Yf [] [0,1,2,10] ?_;refine Yc h (λh=> ?_) λh=> ?_
  ·exact go h [.p 2 [4,5],.y]
  ·refine zA (Yt (Yn P1 ?_));refine Ym3 h λn_ size e w1 h=> ?_;refine Yf (Pl 7) [0,1,2,6,7,8] (Ys (Yd 0 (Yp P3 [0,1,2,6,7,8,17] ?_)));refine Yc h (λh=> ?_) λh=> ?_
   ·exact go h [.p 3 [4,5],.y]
   ·refine Yt (Yn P1 ?_);refine Yv 1 h λhp_7 h=> ?_;refine Yl h λv23 h=> ?_;refine Yf P3 [0,2,6,7,21] ?_;refine Yc h (λh=> ?_) λh=> ?_
    ·exact go h [.p 2 [4,5],.y]
    ·refine Yp (Pl 8) [0,2,6,7,26] ?_;refine Yc h (λh=> ?_) λh=> ?_
     ·exact go h [.p 2 [4,5],.y]
     ·refine zA (Yt (Yn (Pl 6) ?_));obtain⟨hc,h⟩:=h;refine zCj (t:=109) (e:=5) (x:=(Operand.tmp 34)) (lo:=(Operand.tmp 35)) (hi:=(Operand.tmp 39)) (s:=b_) (sz:=1) (k:= .i64) (a:=size) (k':= .i64) (b:=(i64.wrap (size+(i64.wrap n_)))) (ty:=109) (dst:=some 40) K_ K_ K_ K_ K_ K_ hc (λs hs=> ?_);replace h:=h s hs;clear hs;obtain⟨str,hs,h⟩:=h;refine zHh (t:=109) (d:=9) (e:=5) (x:=(Operand.tmp 40)) (s:=s) (ty:=9) (dst:=some 41) K_ K_ K_ K_ K_ hs ?_;exact go h [.v 2,.o,.f 0 [6,7],.p 6 [4,5],.y]
theorem S_mc {w R} (h:F_Af R w):C_oc w R:=Yh Tryz.func258 (go h [.p 1 [],.t,.n 1,.w,.f 1 [0],.y])
theorem S_0b {w_ n_ w R} (h:F_if w_ n_ R w):C_m w_ n_ w R:=Yh Tryz.func259 (go h [.s,.t,.n 1,.m,.f 0 [0,1,5],.c [.y],.k,.s,.d 0,.O1 .u 1 [0,1],.s,.p 2 [0,1,7],.c [.k,.s,.d 1,.r,.n 2,.v 11,.n 1,.n 1,.l,.n 3,.V,.A,.v 10,.n 1,.n 1,.o,.f 0 [0,1],.r,.f 3 [0,1],.x],.e 0,.r,.n 2,.v 23,.n 1,.n 1,.l,.n 2,.V,.A,.v 22,.n 1,.n 1,.o,.f 0 [],.y])
theorem S_Kb {w_ s w R} (h:F_kd w_ s R w):C_lb w_ s w R:=by
 unfold F_kd at h;refine Yh Tryz.func260 ?_
 ·refine Ys (Yt (Yn P1 ?_));refine Ym1 h λv5 w1 h=> ?_;refine Yf [] [0,1,5] ?_;refine Yc h (λh=> ?_) λh=> ?_
  ·exact YT0 ⟨rfl,h⟩
  ·refine zA (Yt (Yn P4 ?_));refine Ym0 h λw2 h=> ?_;refine Yf [] [0,1] (Yr (Yn P2 ?_));refine Yv 12 h λhp_0 h=> ?_;refine Yn P1 (Yn P1 ?_);refine Yl h λv15 h=> ?_;refine Yn P1 ?_;refine zOg (t:=109) (tx:=9) (e:=5) (a:=(Operand.tmp 15)) (xo:=(Operand.tmp 16)) (s:=v15) (str:=s) (by_:=1) (zs:=[Vb 0]) (ty:=109) (dst:=some 17)  K_ K_ K_ K_ K_ K_ K_ K_ K_ (zG.mono h (λv17 w3 h=> ?_));exact go h [.v 11,.n 1,.n 1,.o,.f 0 [],.y]
theorem S_wb {w_ n_ width w R} (h:F_Ie w_ n_ width R w):C_8 w_ n_ width w R:=Yh Tryz.func261 (go h [.p 1 [0,1,2],.s,.d 0,.t,.n 1,.m,.f 1 [0,1,2,7],.c [.p 1 [6],.y],.P 90000030 [0,1,2,10],.c [.p 1 [6],.y],.t,.n 3,.h,.f 2 [0,1,2,17],.c [.p 1 [6],.y],.k,.s,.p 2 [0,1,23,24],.d 1,.O2 .u 1 .i 24 [0,1,23,24],.p 1 [0,1,23,24,25],.s,.c [.k,.s,.d 2,.t,.n 2,.v 27,.n 1,.n 1,.l,.n 2,.V,.A,.v 26,.n 1,.n 1,.o,.f 0 [0,1,23,24],.r,.f 3 [0,1,23,24],.r,.f 2 [0,1,23,24],.x],.e 1,.p 1 [6],.y])
theorem S_Lb {w_ w R} (h:F_Xe w_ R w):C_Yb w_ w R:=Yh Tryz.func262 (go h [.p 1 [0],.s,.t,.n 1,.m,.f 0 [0,4],.c [.p 1 [2],.y],.k,.t,.n 1,.v 5,.n 1,.n 1,.l,.m,.f 1 [2],.y])
theorem S_Mb {w_ w R} (h:F_Ye w_ R w):C_E w_ w R:=Yh Tryz.func270 (go h [.p 1 [0],.t,.n 1,.E,.n 2,.b 5 [.F 9111100 [2],.y],.v 6,.N 92,.N 92,.l,.F 9200 [2],.y])
theorem S_ed {c w R} (h:F_Ig c R w):C_db c w R:=Yh Tryz.func36 (go h [.t,.w,.f 1 [1],.s,.t,.n 1,.l,.n 2,.l,.n 2,.l,.n 2,.l,.n 1,.W 4 4,.f 2 [17,18,19],.d 0,.O1 .i 19 [17,18,19],.p 1 [17,18,19,20],.s,.c [.k,.s,.d 1,.t,.j,.L,.w,.o,.f 0 [4,17,18,19],.C1 .b 32 [17,18,19,32] [.r,.I,.l,.n 2,.b 26 [.F 9111110 [17,18,19,32],.x],.I,.l,.I,.l,.F 920 [17,18,19,32],.x],.c [.p 1 [2],.y],.k,.r,.f 2 [17,18,19],.x],.e 0,.p 1 [2],.y])
def zhr:=cb_ Tryz.f62
def zir:=cr_ zhr
def zKp:=cr_ zir
def zLp:=cr_ zKp
def zMp:=cl_ zLp
def zNp:=co_ zMp
theorem S_fd {c key w R} (h:F_Jf c key R w):C_3b c key w R:=by
 unfold F_Jf at h;refine Yh Tryz.func62 ?_
 ·refine Yt ?_;refine Yw pv_ h λb_ w1 h=> ?_;refine Yf P2 [1,2] (Ys (Yt ?_));refine YL h λv7 h=> ?_;refine Ym1 h λv8 w2 h=> ?_;refine Yf P1 [1,2,6] (Yp P2 [1,2,6,10] ?_);refine Yc h (λh=> ?_) λh=> ?_
  ·exact go h [.p 3 [4,5],.y]
  ·refine zA (Ys (Yp [.plain,.plain,.plain,.plain,.plain,.plain,.pick] [1,2,18] ?_));refine Yc h (λh=> ?_) λh=> ?_
   ·exact go h [.p 2 [4,5],.y]
   ·refine zA (Ys ?_);refine zZ (id:=6) (ops:=zNp) K_ K_ K_ ?_;refine Qn P1 ?_;obtain⟨v20,hq,h⟩:=h;refine zzj (op:=(Op.call (Call.mk (Callee.value (Operand.func 98)) #[(Operand.tmp 19)] #[9]))) (ty:=233) (dst:=some 20) 98 #[Vt key] (Value.int .u32 v20) K_ (λww=>by kernel_rfl) (λw' he=>Calls.mono (hq w' he) (by rintro _ w'' ⟨_,rfl,rfl,hE⟩; exact⟨rfl,hE⟩)) ?_;clear hq;refine Qn P1 ?_;refine Ql h λv22 h=> ?_;refine Qn P1 ?_;obtain⟨h0,h⟩:=h;refine z5d (op:=(Op.binOp BinOp.rem 233 (Operand.tmp 20) (Operand.tmp 23) 233)) (ty:=233) (dst:=some 24) (Value.int .u32 (Int.tmod v20 (u32.wrap v22))) K_ (λww=>zNg K_ K_ h0 ww) ?_;exact go h [.f 3 [4,5],.y]
theorem S_ud {w R} (h:F_Sg R w):C_fd w R:=Yh Tryz.func38 (go h [.p 1 [],.t,.G,.G,.G,.n 1,.w,.f 1 [0],.y])
theorem S_bc {t_ w R} (h:F_sf t_ R w):C_Cb t_ w R:=Yh Tryz.func176 (go h [.p 1 [0],.t,.n 1,.E,.n 2,.b 5 [.F 9111100 [2],.y],.v 6,.N 92,.N 92,.l,.E,.f 2 [2],.y])
theorem S_Hc {t_ x w R} (h:F_Uf t_ x R w):C_Fc t_ x w R:=Yh Tryz.func218 (go h [.t,.w,.f 2 [0,3],.s,.d 0,.t,.n 1,.m,.f 1 [0,3,14],.c [.p 2 [4,5],.y],.t,.L,.m,.f 2 [0,3,17],.c [.p 2 [4,5],.y],.s,.D,.n 1,.l,.n 1,.v 24,.n 1,.n 1,.l,.f 2 [0,3,21],.c [.p 2 [4,5],.y],.k,.p 1 [0,3,6],.s,.t,.n 1,.l,.f 2 [0,3,6,30,31,32],.d 1,.O2 .i 6 .i 32 [0,3,6,30,31,32],.p 1 [0,3,6,30,31,32,33],.s,.c [.k,.C1 .i 6 [0,3,6,30,31,32] [.d 2,.t,.i,.L,.w,.o,.f 0 [0,3,6,8,30,31,32],.s,.M [],.n 1,.l,.n 1,.v 38,.n 1,.n 1,.l,.n 1,.l,.k0,.n 1,.w,.K 4,.o,.K 0,.f 0 [0,3,6,9,30,31,32],.s,.D,.n 1,.v 47,.n 1,.n 1,.l,.I,.l,.k1,.f 5 [0,3,6,9,11,30,31,32],.C1 .b 65 [0,3,6,9,30,31,32,65] [.D,.n 3,.b 57 [.v 58,.N 92,.N 92,.l,.L,.k0,.F 920 [0,3,6,9,30,31,32,65],.x],.F 91111110 [0,3,6,9,30,31,32,65],.x],.c [.s,.Q 5,.n 1,.v 66,.n 1,.n 1,.l,.L,.T,.up,.f 0 [0,3,6,30,31,32],.r,.f 3 [0,3,6,30,31,32],.x],.k,.x],.r,.f 2 [0,3,6,30,31,32],.x],.e 1,.s,.t,.n 1,.l,.f 2 [0,3,6,75,76,77],.d 3,.O1 .i 77 [0,3,6,75,76,77],.p 1 [0,3,6,75,76,77,78],.s,.c [.k,.s,.d 4,.t,.i,.L,.w,.o,.f 0 [0,3,6,13,75,76,77],.Q 8,.n 1,.v 81,.n 1,.n 1,.l,.n 1,.l,.n 1,.l,.T,.up,.f 0 [0,3,6,75,76,77],.r,.f 2 [0,3,6,75,76,77],.x],.e 3,.s,.Q 7,.n 1,.v 90,.n 1,.n 1,.l,.n 1,.l,.n 1,.T,.up,.f 0 [0,3,6],.t,.n 2,.l,.v 97,.n 1,.n 1,.o,.f 0 [6],.p 3 [4,5],.y])
def zQp:=cb_ Tryz.f283
def zRp:=cr_ zQp
def zon:=cr_ zRp
def zpn:=cr_ zon
def zqn:=cr_ zpn
def zrn:=cr_ zqn
def zsn:=cr_ zrn
def ztn:=cl_ zsn
def zun:=cr_ ztn
def zvn:=cl_ zun
def zwn:=cl_ zvn
def zxn:=cr_ zwn
def zyn:=cr_ zxn
def zzn:=cl_ zyn
def zBn:=cr_ zzn
def zQk:=cr_ zBn
def zCn:=cl_ zQk
def zDn:=co_ zCn
def zRk:=cr_ zQk
def zEn:=cl_ zRk
def zFn:=co_ zEn
def zGn:=cr_ zRk
def zHn:=cl_ zGn
def zIn:=co_ zHn
theorem S_cc {t_ number w R} (h:F_Td t_ number R w):C_pc t_ number w R:=by
 unfold F_Td at h;refine Yh Tryz.func283 ?_
 ·refine Yp P2 [0,1] (Ys (Yt (Yn P1 ?_)));refine Ym1 h λv11 w1 h=> ?_;refine Yf [] [0,1,11] ?_;refine Yc h (λh=> ?_) λh=> ?_
  ·exact go h [.p 2 [4,5],.y]
  ·refine zA (Yt (Yn P1 ?_));refine Yv 13 h λhp_1 h=> ?_;refine Yn P1 (Yn P1 ?_);refine Yl h λv16 h=> ?_;refine Yn P1 ?_;obtain⟨es,n_,ok,hm_,hi_,hn_,hk_,hl_,h⟩:=h;refine zJe (t:=185) (kt:=3) (et:=3) (x:=(Operand.tmp 16)) (k:=(Operand.tmp 17)) (m:=v16) (es:=es) (kv:=(Vi number)) (z:=(Vi 0)) (u:=(Vi n_)) (b:=ok) (ty:=210) (dst:=some 18) (keyI K_) K_ K_ K_ K_ (λw_=>by kernel_rfl) hm_ hi_ hn_ hk_ hl_ ?_;refine Yf (Pl 5) [0,1,6,7] (Ys (Yd 0 (Yp P3 [0,1,6,21] ?_)));refine Yc h (λh=> ?_) λh=> ?_
   ·exact go h [.p 2 [4,5],.y]
   ·refine Yp P3 [0,1,24] ?_;refine Yc h (λh=> ?_) λh=> ?_
    ·exact go h [.p 2 [4,5],.y]
    ·refine zA (Yt (Yn P1 ?_));refine Yv 27 h λhp_3 h=> ?_;refine Yn P1 (Yn P1 ?_);refine Yl h λv30 h=> ?_;refine Yn P1 ?_;obtain⟨r,es1,c,hr_,hm_,hi_,hk_,h⟩:=h;refine zMd (t:=185) (tk:=3) (kt:=3) (et:=3) (x:=(Operand.tmp 30)) (k:=(Operand.tmp 31)) (m:=v30) (es:=es1) (kv:=(Vi number)) (ty:=0) (dst:=none) r c (keyI K_) K_ K_ hr_ K_ K_ hm_ hi_ hk_ (λes2 w2 hs_ hw=> ?_);replace h:=h es2 w2 hs_ hw;clear hw hs_;refine Yf [] [0,1] (Yp P1 [0,1,8] (Ys (Yt (Yn P1 ?_))));refine Yv 32 h λhp_13 h=> ?_;refine Yn P1 (Yn P1 ?_);refine Yl h λv35 h=> ?_;obtain⟨r1,es3,c1,hr_,hm_,h⟩:=h;refine zKj (t:=186) (kt:=178) (et:=4) (x:=(Operand.tmp 35)) (r:=r1) (c:=c1) (es:=es3) (ty:=0) (dst:=some 36) K_ (Eq.trans K_ (congrArg Value.map hr_)) K_ hm_ (λb_ w3 hb hw=> ?_);replace h:=h b_ w3 hb hw;clear hb hw;refine Yf [] [0,1,8,36] (Yd 1 ?_);obtain⟨I,μ,h0,hr⟩:=h;refine zqd (λm l w=>∃(out:Slc),l=[(0,Vp t_),(1,Vi number),(8,sv_ out),(36,pv_ b_)]/\I out w/\μ out w=m) ⟨(Slc.mk none 0 0),rfl,h0,rfl⟩ ?_;rintro _ _ w4 ⟨out,rfl,hI,rfl⟩;obtain⟨again_,again__h,h⟩:∃ again_:Slc->WP,(∀ out' w',again_ out' w'->I out' w'/\μ out' w'<μ out w4)/\F_ec t_ number R b_ again_ out w4:=⟨_,λ_ _ h=>h,hr out w4 hI⟩
     clear h0 hI;unfold F_ec at h;refine Ycut (λl w=>∃(t38:Bool),l=[(0,Vp t_),(1,Vi number),(8,sv_ out),(36,pv_ b_),(38,Vo t38)]/\F_M t_ number R b_ out again_ t38 w) ?_ ?_
     ·refine Yr ?_;obtain⟨bm1,since1,last,seen1,es11,clock1,hi_,hb_,ho_,hs_,h⟩:=h;refine zGk (x:=(Operand.tmp 36)) (ty:=0) (dst:=some 37) K_ K_ hi_ hb_ ho_ hs_ (λha_=> ?_) (λe1 w16 w17 he_ hc_ hd_ hw=> ?_)
      ·replace h:=h.1 ha_;refine Yf P1 [0,1,8,36,38] ?_;exact⟨_,Sub.mk K_,false,rfl,h⟩
      ·replace h:=h.2 e1 w16 w17 he_ hc_ hd_ hw;clear hw;refine Yf P1 [0,1,8,36,38] ?_;exact⟨_,Sub.mk K_,true,rfl,h⟩
     ·rintro _ w5 ⟨t38,rfl,h⟩;unfold F_M at h;refine Ys ?_;refine Yc h (λh=> ?_) λh=> ?_
      ·refine zA (Yd 2 (Yt ?_));obtain⟨bm,since,clock,seen,es4,e,key,val,hi_,hb_,he_,hn_,hk_,hv_,h⟩:=h;refine zLj (x:=(Operand.tmp 36)) (ty:=0) (dst:=some 39) K_ K_ hi_ hb_ he_ hn_ hk_ hv_ ?_;refine Yn P1 ?_;refine Yw pv_ h λb_1 w6 h=> ?_;refine Yo h λw7 h=> ?_;refine Yf [] [0,1,8,9,36] (Ys (Yt ?_));obtain⟨h0,h1,h⟩:=h;refine zmb (t:=178) (e:=3) (x:=(Operand.tmp 9)) (ix:=(Operand.const (Value.int i64 1))) (b:=b_1) (o:=0) (len:=2) (k:= .i64) (j:=1) (ty:=0) (dst:=some 41) K_ K_ K_ K_ K_ h0 h1 ?_;refine Yl h λv42 h=> ?_;refine Yf P2 [0,1,8,9,36,44] ?_;refine Yc h (λh=> ?_) λh=> ?_
       ·refine z4g 2 ?_;have hb_:=again__h _ _ h;exact⟨_,hb_.2,_,Sub.mk K_,out,rfl,hb_.1,rfl⟩
       ·refine zA (Ys ?_);refine zK (id:=14) (ops:=zDn) K_ 5 K_ K_ (λw8 hw=> ?_);replace h:=h w8 hw;clear hw;refine Qn P1 ?_;refine Qv 45 h λhp_15 h=> ?_;refine Qn P1 ?_;refine Qn P1 ?_;refine Ql h λv48 h=> ?_;refine QL h λv49 h=> ?_;refine zEb K_ ?_;obtain⟨r2,es5,c2,hr_,hm_,hi_,hk_,h⟩:=h;refine zMd (t:=186) (tk:=178) (kt:=178) (et:=4) (x:=(Operand.tmp 48)) (k:=(Operand.tmp 49)) (m:=v48) (es:=es5) (kv:=(Value.agg #[Vi v49.e0,Vi v49.e1])) (ty:=0) (dst:=none) r2 c2 zXl K_ K_ hr_ K_ K_ hm_ hi_ hk_ (λes6 w9 hs_ hw=> ?_);replace h:=h es6 w9 hs_ hw;clear hw hs_;refine Yf [] [0,1,8,9,36] (Ys ?_);refine zK (id:=15) (ops:=zFn) K_ 8 K_ K_ (λw10 hw=> ?_);replace h:=h w10 hw;clear hw;refine Qn P1 ?_;refine Qv 50 h λhp_17 h=> ?_;refine Qn P1 ?_;refine Qn P1 ?_;refine Ql h λv53 h=> ?_;obtain⟨h0,h1,h⟩:=h;refine z2c (t:=178) (e:=3) (x:=(Operand.tmp 9)) (ix:=(Operand.const (Value.int i64 0))) (b:=b_1) (o:=0) (len:=2) (k:= .i64) (j:=0) (ty:=0) (dst:=some 54) K_ K_ K_ K_ K_ h0 h1 ?_;refine Ql h λv55 h=> ?_;obtain⟨es7,v56,ok1,hm_,hi_,hn_,hk_,hl_,h⟩:=h;refine zOc (t:=185) (kt:=3) (et:=3) (x:=(Operand.tmp 53)) (k:=(Operand.tmp 55)) (m:=v53) (es:=es7) (kv:=(Vi v55)) (z:=(Vi 0)) (u:=(Vi v56)) (b:=ok1) (ty:=3) (dst:=some 56) (keyI K_) K_ K_ K_ K_ (λw_=>by kernel_rfl) hm_ hi_ hn_ hk_ hl_ ?_;refine Qn P1 ?_;refine zEb K_ ?_;obtain⟨r3,es8,c3,hr_,hm_,hi_,hn_,hk_,h⟩:=h;refine znc (t:=185) (kt:=3) (et:=3) (x:=(Operand.tmp 53)) (k:=(Operand.tmp 55)) (v:=(Operand.tmp 57)) (m:=v53) (es:=es8) (kv:=(Vi v55)) (vv:=(Vi (i64.wrap (v56 - 1)))) (ty:=0) (dst:=none) r3 c3 (keyI K_) K_ K_ hr_ K_ K_ K_ hm_ hi_ hn_ hk_ (λes9 c4 w11 hs_ hw=> ?_);replace h:=h es9 c4 w11 hs_ hw;clear hw hs_;refine Yf [] [0,1,8,9,36] (Ys ?_);refine zZ (id:=16) (ops:=zIn) K_ K_ K_ ?_;refine Qn P1 ?_;refine Qv 58 h λhp_19 h=> ?_;refine Qn P1 ?_;refine Qn P1 ?_;refine Ql h λv61 h=> ?_;obtain⟨h0,h1,h⟩:=h;refine z2c (t:=178) (e:=3) (x:=(Operand.tmp 9)) (ix:=(Operand.const (Value.int i64 0))) (b:=b_1) (o:=0) (len:=2) (k:= .i64) (j:=0) (ty:=0) (dst:=some 62) K_ K_ K_ K_ K_ h0 h1 ?_;refine Ql h λv63 h=> ?_;obtain⟨es10,v64,ok2,hm_,hi_,hn_,hk_,hl_,h⟩:=h;refine zOc (t:=185) (kt:=3) (et:=3) (x:=(Operand.tmp 61)) (k:=(Operand.tmp 63)) (m:=v61) (es:=es10) (kv:=(Vi v63)) (z:=(Vi 0)) (u:=(Vi v64)) (b:=ok2) (ty:=3) (dst:=some 64) (keyI K_) K_ K_ K_ K_ (λw_=>by kernel_rfl) hm_ hi_ hn_ hk_ hl_ ?_;refine Qf P1 [0,1,8,9,36,65] h λw12 h=> ?_;refine Yc h (λh=> ?_) λh=> ?_
        ·refine Yr (Yn P1 ?_);obtain⟨h0,h1,h⟩:=h;refine zmb (t:=178) (e:=3) (x:=(Operand.tmp 9)) (ix:=(Operand.const (Value.int i64 0))) (b:=b_1) (o:=0) (len:=2) (k:= .i64) (j:=0) (ty:=0) (dst:=some 67) K_ K_ K_ K_ K_ h0 h1 ?_;refine Yl h λv68 h=> ?_;refine Yw (sl_ 1 1) h λb_2 w13 h=> ?_;obtain⟨src,hs,h⟩:=h;refine zkg (t:=25) (tx:=25) (e:=3) (a:=(Operand.tmp 66)) (xo:=(Operand.tmp 69)) (s:=out) (x:=(Slc.mk (Z0 b_2) 1 1)) (sz:=1) (by_:=8) (zs:=[Vi 0]) (ty:=25) (dst:=some 70)  src K_ K_ K_ K_ K_ K_ K_ K_ K_ hs (zG.mono h (λout1 w14 h=> ?_));refine Yf P1 [0,1,8,36] ?_;have hb_:=again__h _ _ h;exact⟨_,hb_.2,_,Sub.mk K_,out1,rfl,hb_.1,rfl⟩
        ·refine zA ?_;have hb_:=again__h _ _ h;exact⟨_,hb_.2,_,Sub.mk K_,out,rfl,hb_.1,rfl⟩
      ·exact go h [.e 1,.t,.n 1,.m,.f 0 [8],.p 3 [4,5],.y]
theorem S_yd {capacity w R} (h:F_Pg capacity R w):C_ud capacity w R:=Yh Tryz.func18 (go h [.p 2 [0],.s,.P 9000003 [0,9],.c [.p 2 [2,3],.y],.k,.t,.n 2,.w,.f 2 [2,3],.y])
theorem S_O {d slot w R} (h:F_de d slot R w):C_Rb d slot w R:=Yh Tryz.func57 (go h [.p 2 [0,1],.s,.t,.n 2,.m,.f 1 [0,1,6],.p 2 [0,1,6,11],.c [.p 3 [4,5],.y],.k,.t,.n 2,.v 13,.n 1,.n 1,.I,.l,.m,.f 2 [4,5],.y])
theorem S_P {d slot w R} (h:F_ee d slot R w):C_fb d slot w R:=Yh Tryz.func93 (go h [.p 1 [0,1],.s,.d 0,.C1 .b 5 [1,5] [.r,.n 1,.E,.n 2,.b 8 [.F 9111100 [1,5],.x],.v 9,.N 92,.N 92,.l,.F 9200 [1,5],.x],.c [.p 1 [4],.y],.P 90000030 [15],.c [.p 1 [4],.y],.k,.p 1 [4],.y])
theorem S_xb {d w R} (h:F_Ae d R w):C_Ub d w R:=Yh Tryz.func173 (go h [.p 1 [0],.s,.t,.n 1,.E,.f 0 [0,4],.c [.p 1 [2],.y],.k,.t,.n 1,.v 5,.n 1,.n 1,.l,.f 1 [2],.y])
def zWq:=cb_ Tryz.f245
def zXq:=cr_ zWq
def zRo:=cr_ zXq
def zSo:=cr_ zRo
def zTo:=cr_ zSo
def zUo:=cl_ zTo
def zVo:=cr_ zUo
def zWo:=cr_ zVo
def zXo:=cl_ zWo
def zYo:=co_ zXo
def zxd:List Nat:=[0,1,2,3,4,5,6,7,8,9,10,11,12,13,14,15,16,18,19,17,20,21]
theorem S_nc {d slot at_ b_ w R} (h:F_Sd d slot at_ b_ R w):C_mc d slot at_ b_ w R:=by
 unfold F_Sd at h;refine Yh Tryz.func245 ?_
 ·refine Yp P1 [0,1,2,3] (Ys (Yt (Yn P2 ?_)));refine Ym1 h λv14 w1 h=> ?_;refine Yf P1 [0,1,2,3,9] (Yp P2 [0,1,2,3,9,16] ?_);refine Yc h (λh=> ?_) λh=> ?_
  ·exact go h [.p 2 [8],.y]
  ·refine zA (Ys (Yd 0 (Yp [.plain,.plain,.plain,.plain,.plain,.plain,.pick,.plain] [0,1,2,3,18] ?_)));refine Yc h (λh=> ?_) λh=> ?_
   ·exact go h [.p 1 [8],.y]
   ·refine Yt (Yn P3 ?_);refine Yv 28 h λhp_5 h=> ?_;refine Yn P1 (Yn P1 ?_);obtain⟨h0,h1,h⟩:=h;refine zmb (t:=110) (e:=109) (x:=(Operand.tmp 31)) (ix:=(Operand.tmp 29)) (b:=(pblk d)) (o:=((poff d)+2)) (len:=2) (k:= .i64) (j:=slot) (ty:=0) (dst:=some 32) K_ K_ K_ K_ K_ h0 h1 ?_;refine Yl h λv33 h=> ?_;refine Yf P3 [0,1,2,3,26] ?_;refine Yc h (λh=> ?_) λh=> ?_
    ·exact go h [.p 1 [8],.y]
    ·refine Yt (Yn P2 ?_);refine Yv 38 h λhp_7 h=> ?_;refine Yn P1 (Yn P1 ?_);refine Yl h λv41 h=> ?_;refine Yf (Pl 5) [0,1,2,3,36] ?_;refine Yc h (λh=> ?_) λh=> ?_
     ·exact go h [.p 1 [8],.y]
     ·refine zA (Ys (Yt (Yn P1 ?_)));refine Ym1 h λv47 w2 h=> ?_;refine Yf P1 [0,1,2,3,10] (Yp P2 [0,1,2,3,10,49] ?_);refine Yc h (λh=> ?_) λh=> ?_
      ·exact go h [.p 2 [8],.y]
      ·refine zA ?_;refine Ycut (λl w=>l=[(0,Vp d),(1,Vi slot),(2,Vi at_),(3,sv_ b_)]/\F_L d slot at_ b_ R w) ?_ ?_
       ·refine Yp (Pl 5) [0,1,2,3,11] (Yt (Yn P3 ?_));refine Yv 56 h λhp_16 h=> ?_;refine Yn P1 (Yn P1 ?_);obtain⟨h0,h1,h⟩:=h;refine zmb (t:=110) (e:=109) (x:=(Operand.tmp 59)) (ix:=(Operand.tmp 57)) (b:=(pblk d)) (o:=((poff d)+2)) (len:=2) (k:= .i64) (j:=slot) (ty:=0) (dst:=some 60) K_ K_ K_ K_ K_ h0 h1 ?_;refine Yl h λv61 h=> ?_;refine Yf P2 [0,1,2,3,11,63] ?_;refine Yc h (λh=> ?_) λh=> ?_
        ·refine zx (id:=15) (ops:=zYo) zxd K_ K_ K_ K_ (λw5 hw=> ?_);replace h:=h w5 hw;clear hw;refine Mn P4 ?_;refine Mv 66 h λhp_17 h=> ?_;refine Mn P1 ?_;refine Mn P1 ?_;obtain⟨h0,h1,h⟩:=h;refine zec (i:=6) K_ (t:=110) (e:=109) (x:=(Operand.tmp 69)) (ix:=(Operand.tmp 67)) (b:=(pblk d)) (o:=((poff d)+2)) (len:=2) (k:= .i64) (j:=slot) (ty:=0) (dst:=some 70) K_ K_ K_ K_ K_ h0 h1 ?_;refine Ml 7 h λv71 hc h=> ?_;refine Mn P3 ?_;refine Mv 73 h λhp_18 h=> ?_;refine Mn P1 ?_;refine Mn P1 ?_;obtain⟨h0,h1,h⟩:=h;refine zec (i:=13) K_ (t:=110) (e:=109) (x:=(Operand.tmp 76)) (ix:=(Operand.tmp 74)) (b:=(pblk d)) (o:=((poff d)+2)) (len:=2) (k:= .i64) (j:=slot) (ty:=0) (dst:=some 77) K_ K_ K_ K_ K_ h0 h1 ?_;refine Ml 14 h λv78 hc h=> ?_;refine Mn P2 ?_;refine Mv 64 h λhp_19 h=> ?_;refine Mn P1 ?_;refine Mn P1 ?_;obtain⟨h0,h1,h⟩:=h;refine zIh (t:=109) (tx:=3) (e:=5) (a:=(Operand.tmp 71)) (xo:=(Operand.tmp 80)) (s:=v71) (l:=(i64.wrap ((i64.wrap (at_+((b_.len:Nat):Int))) - ((v78.len:Nat):Int)))) (sz:=1) (by_:=1) (zs:=[Vb 0]) (ty:=109) (dst:=some 81) 17 [7,16,6,8,15,3,5,14,4,13,2,10,12,11,9] [] K_ K_ K_ K_ K_ K_ K_ K_ K_ K_ K_ K_ K_ K_ h0 h1 (zG.mono h (λv81 w6 h=> ?_));refine⟨trivial,?_⟩;obtain⟨h0,h1,h⟩:=h;refine zec (i:=20) K_ (t:=110) (e:=109) (x:=(Operand.tmp 83)) (ix:=(Operand.tmp 65)) (b:=(pblk d)) (o:=((poff d)+2)) (len:=2) (k:= .i64) (j:=slot) (ty:=0) (dst:=some 84) K_ K_ K_ K_ K_ h0 h1 ?_;refine zyb 21 [0,1,2,3,4,5,6,7,8,9,10,11,12,13,14,15,16,17,20,19,18] [] h λw7 h=> ?_;refine⟨trivial,?_⟩;refine Mf [] [0,1,2,3] ?_;exact⟨_,Sub.mk K_,rfl,h⟩
        ·refine zA ?_;exact⟨_,Sub.mk K_,rfl,h⟩
       ·rintro _ w3 ⟨rfl,h⟩;unfold F_L at h;refine Yt (Yn P2 ?_);refine Yv 85 h λhp_14 h=> ?_;refine Yn P1 (Yn P1 ?_);obtain⟨h0,h1,h⟩:=h;refine zmb (t:=110) (e:=109) (x:=(Operand.tmp 88)) (ix:=(Operand.tmp 86)) (b:=(pblk d)) (o:=((poff d)+2)) (len:=2) (k:= .i64) (j:=slot) (ty:=0) (dst:=some 89) K_ K_ K_ K_ K_ h0 h1 ?_;refine Yl h λv90 h=> ?_;refine Yn P1 ?_;obtain⟨hc,h⟩:=h;refine zyc (t:=109) (e:=5) (x:=(Operand.tmp 90)) (lo:=(Operand.tmp 91)) (s:=v90) (sz:=1) (k:= .i64) (a:=at_) (ty:=109) (dst:=some 92) K_ K_ K_ K_ K_ hc (λs hs=> ?_);replace h:=h s hs;clear hs;refine Yn P1 ?_;obtain⟨src,hs,h⟩:=h;refine zjd (t:=109) (tx:=109) (e:=5) (a:=(Operand.tmp 92)) (xo:=(Operand.tmp 93)) (d:=s) (x:=b_) (sz:=1) (ty:=3) (dst:=some 94)  src K_ K_ K_ K_ K_ hs (zRc.mono h (λw4 h=> ?_));exact go h [.f 0 [],.p 1 [8],.y]
theorem S_oc {d slot w R} (h:F_yf d slot R w):C_nc d slot w R:=Yh Tryz.func246 (go h [.p 1 [0,1],.s,.t,.n 2,.m,.f 1 [0,1,5],.p 2 [0,1,5,11],.c [.p 2 [4],.y],.k,.s,.t,.n 1,.m,.f 1 [0,1,6],.p 2 [0,1,6,16],.c [.p 2 [4],.y],.k,.t,.n 2,.v 18,.n 1,.n 1,.I,.o,.f 0 [],.p 1 [4],.y])
theorem S_0c {d w R} (h:F_gg d R w):C_1b d w R:=Yh Tryz.func263 (go h [.p 1 [0],.s,.C1 .b 13 [0,13] [.r,.n 1,.v 3,.n 1,.n 1,.l,.n 2,.b 7 [.F 911110 [0,13],.x],.v 8,.N 92,.N 92,.l,.F 920 [0,13],.x],.c [.t,.n 1,.v 14,.n 1,.n 1,.o,.f 0 [],.p 1 [2],.y],.k,.t,.n 2,.v 18,.n 1,.n 1,.l,.n 2,.v 17,.n 1,.n 1,.o,.f 0 [0],.t,.n 1,.v 26,.n 1,.n 1,.l,.n 3,.o,.f 0 [],.p 1 [2],.y])
def zpr:=cb_ Tryz.f41
def zqr:=cr_ zpr
def zxq:=cr_ zqr
def zyq:=cr_ zxq
def zzq:=cr_ zyq
def zAq:=cl_ zzq
def zBq:=cr_ zAq
def zCq:=cl_ zBq
def zDq:=cl_ zCq
def zEq:=cr_ zDq
def zFq:=cr_ zEq
def zGq:=cl_ zFq
def zHq:=cl_ zGq
def zIq:=cr_ zHq
def zJq:=cr_ zIq
def zKq:=cr_ zJq
def zLq:=co_ zKq
def zWf:List Nat:=[0,1,2,3,4,5,6,7,8,9,10,11,12,13,14,15]
theorem S_jd {c s w R} (h:F_Gf c s R w):C_hd c s w R:=by
 unfold F_Gf at h;refine Yh Tryz.func41 ?_
 ·refine Yt ?_;refine Yw pv_ h λb_ w1 h=> ?_;refine Yw pv_ h λb_1 w2 h=> ?_;refine Yf P2 [2,3] (Ys (Yt ?_));refine YL h λv13 h=> ?_;refine Ym1 h λv14 w3 h=> ?_;refine Yf P1 [2,3,6] (Yp P2 [2,3,6,16] ?_);refine Yc h (λh=> ?_) λh=> ?_
  ·refine Yp P3 [4,5] ?_;exact YT2 ⟨(Slc.mk none 0 0),v14,rfl,h⟩
  ·refine zA (Ys (Yt ?_));refine YL h λv18 h=> ?_;refine Ym1 h λv19 w4 h=> ?_;refine Yf P1 [2,3,7] (Yp P2 [2,3,7,21] ?_);refine Yc h (λh=> ?_) λh=> ?_
   ·refine Yp P3 [4,5] ?_;exact YT2 ⟨(Slc.mk none 0 0),v19,rfl,h⟩
   ·refine zA (Yt (Yn P1 ?_));refine Yl h λv24 h=> ?_;obtain⟨h0,h1,h2,h⟩:=h;refine z6d (t:=127) (e:=57) (lo:=(Operand.tmp 24)) (co:=(Operand.tmp 24)) (l:=v24) (c:=v24) (sz:=1) (by_:=24) (zs:=[Ns]) (ty:=127) (dst:=some 25) K_ K_ K_ K_ K_ K_ K_ K_ K_ h0 h1 h2 (λb_2 w5 hb hw=> ?_);replace h:=h b_2 w5 hb hw;clear hb hw;refine Yf P1 [2,3,8] (Ys (Yt (Yn P1 ?_)));refine Yl h λv27 h=> ?_;refine Yf P2 [2,3,8,28,29] (Yd 0 ?_);obtain⟨I,μ,h0,hr⟩:=h;refine zqd (λm l w=>∃(t29:Int),l=[(2,pv_ b_),(3,pv_ b_1),(8,Value.slice (Z0 b_2) v24.toNat v24.toNat),(28,Vi ((v27.len:Nat):Int)),(29,Vi t29)]/\I t29 w/\μ t29 w=m) ⟨0,rfl,h0,rfl⟩ ?_;rintro _ _ w6 ⟨t29,rfl,hI,rfl⟩;obtain⟨again_,again__h,h⟩:∃ again_:Int->WP,(∀ t29' w',again_ t29' w'->I t29' w'/\μ t29' w'<μ t29 w6)/\F_od R b_ b_1 v24 b_2 v27 again_ t29 w6:=⟨_,λ_ _ h=>h,hr t29 w6 hI⟩
    clear h0 hI;unfold F_od at h;refine Yp P1 [2,3,8,28,29,30] (Ys ?_);refine Yc h (λh=> ?_) λh=> ?_
    ·refine zA (Ys (Yd 1 (Yp P2 [2,3,8,9,28,29] (Yt (Yn P1 ?_)))));refine Yl h λv33 h=> ?_;refine Yn P1 ?_;obtain⟨hp_7,h⟩:=h;refine Yu 33 (λpp=> .slice pp v33.len v33.cap) hp_7 ?_;refine Yi h λh=> ?_;refine YL h λv36 h=> ?_;refine Yw pv_ h λb_3 w7 h=> ?_;refine Yo h λw8 h=> ?_;refine Yf [] [2,3,8,10,28,29] (Yt ?_);refine YL h λv38 h=> ?_;refine Yn P1 ?_;refine Yl h λv40 h=> ?_;refine Ym2 h λn_ v41_1 w9 h=> ?_;refine Yf (Pl 5) [2,3,8,10,11,28,29] ?_;refine zx (id:=13) (ops:=zLq) zWf K_ K_ K_ K_ (λw10 hw=> ?_);replace h:=h w10 hw;clear hw;refine Mn P4 ?_;refine Mi1 4 h λh=> ?_;refine Ml 5 h λv49 hc h=> ?_;refine Mn P1 ?_;refine Ml 7 h λv51 hc h=> ?_;refine Mn P1 ?_;refine Ml 9 h λv53 hc h=> ?_;refine zF (op:=(Op.call (Call.mk (Callee.value (Operand.func 63)) #[(Operand.tmp 53)] #[87]))) (ty:=87) (dst:=some 54) 10 [9,8] [(7,λw'=>w'.cell? ⟨b_3,0,none⟩=some (Vt v51)),(5,λw'=>w'.cell? ⟨b_2,0+n_.toNat,none⟩=some (sv_ v49))] 63 #[sv_ v53] K_ K_ K_ K_ K_ (λww=>by kernel_rfl) (Calls.mono h ?_);rintro _ w11 ⟨v54,rfl,h⟩;obtain⟨hk0,hk1,h⟩:=h;refine⟨_,rfl,⟨hk0,hk1,trivial⟩,?_⟩;refine Mn P1 ?_;refine zQb (op:=(Op.buildSlice 57 1 #[(0,(Operand.tmp 55))])) (ty:=57) (dst:=some 56) 12 [11,7,10,6,9,8] [(5,λw'=>w'.cell? ⟨b_2,0+n_.toNat,none⟩=some (sv_ v49))] (λbb=>Value.slice (Z0 bb) 1 1) (Obj.cells ([Vt v51,sv_ v54]).toArray y_c (0,0)) K_ K_ K_ K_ K_ K_ (λb_4 w12 hb hw=> ?_);replace h:=h b_4 w12 hb hw;clear hb hw;obtain⟨hk0,h⟩:=h;refine⟨⟨hk0,trivial⟩,?_⟩;obtain⟨src,hs,h⟩:=h;refine zNc (t:=57) (tx:=57) (e:=89) (a:=(Operand.tmp 49)) (xo:=(Operand.tmp 56)) (s:=v49) (x:=(Slc.mk (Z0 b_4) 1 1)) (sz:=2) (by_:=40) (zs:=[Vt Be,Ns]) (ty:=57) (dst:=some 57) 13 [5,10,12,4,9,11,2,3,8,7,6] [] src K_ K_ K_ K_ K_ K_ K_ K_ K_ K_ K_ K_ K_ hs (zG.mono h (λv57 w13 h=> ?_));refine⟨trivial,?_⟩;refine Mi1 14 h λh=> ?_;refine zyb 15 [0,1,2,3,4,5,6,7,8,9,10,11,12,13,14] [] h λw14 h=> ?_;refine⟨trivial,?_⟩;refine Mf [] [2,3,8,28,29] ?_;refine Yr (Yf P2 [2,3,8,28,29] ?_);have hb_:=again__h _ _ h;exact⟨_,hb_.2,_,Sub.mk K_,(i64.wrap (t29+1)),rfl,hb_.1,rfl⟩
    ·refine z4g 0 (Yp P3 [4,5] ?_);exact YT2 ⟨(Slc.mk (Z0 b_2) v24.toNat v24.toNat),0,rfl,h⟩
theorem S_Xb {s w R} (h:F_If s R w):C_Jb s w R:=Yh Tryz.func61 (go h [.t,.w,.f 1 [1],.s,.C1 .b 21 [1,21] [.r,.n 1,.l,.n 3,.b 17 [.F 9110 [1,21],.x],.l,.F 920 [1,21],.x],.c [.p 1 [2],.y],.k,.t,.n 1,.l,.f 2 [1,3],.s,.t,.n 1,.l,.f 2 [1,3,26,27,28],.d 0,.O2 .i 3 .i 28 [1,3,26,27,28],.p 1 [1,3,26,27,28,29],.s,.c [.k,.s,.d 1,.t,.i,.l,.n 1,.f 0 [1,3,5,26,27,28],.s,.P 90000003 [1,5,26,27,28,38],.c [.p 1 [2],.y],.k,.r,.f 3 [1,3,26,27,28],.r,.f 2 [1,3,26,27,28],.x],.e 0,.s,.t,.n 1,.l,.m,.f 5 [1,7],.p 2 [1,49],.c [.p 1 [2],.y],.k,.s,.t,.n 1,.l,.f 2 [1,51,52,53],.d 2,.O1 .i 53 [1,51,52,53],.p 1 [1,51,52,53,54],.s,.c [.k,.s,.d 3,.t,.i,.L,.w,.o,.f 0 [1,9,51,52,53],.t,.n 1,.l,.f 2 [1,51,52,53,58,59,60],.d 4,.O1 .i 60 [1,51,52,53,58,59,60],.p 1 [1,51,52,53,58,59,60,61],.s,.c [.k,.s,.d 5,.t,.n 1,.i,.L,.w,.n 1,.o,.f 0 [1,10,11,51,52,53,58,59,60],.s,.C1 .b 77 [1,11,51,52,53,58,59,60,77] [.r,.n 1,.l,.n 1,.l,.n 6,.b 70 [.b 73 [.F 9120 [1,11,51,52,53,58,59,60,77],.x],.l,.F 920 [1,11,51,52,53,58,59,60,77],.x],.F 9110 [1,11,51,52,53,58,59,60,77],.x],.c [.p 1 [2],.y],.k,.t,.n 1,.l,.n 1,.l,.m,.f 5 [1,11,13,51,52,53,58,59,60],.t,.n 1,.l,.n 1,.l,.F 900003 [1,51,52,53,58,59,60,94],.c [.p 1 [2],.y],.k,.r,.f 2 [1,51,52,53,58,59,60],.x],.e 4,.r,.f 2 [1,51,52,53],.x],.e 2,.p 1 [2],.y])
theorem S_bd {b_ w R} (h:F_zg b_ R w):C_ad b_ w R:=Yh Tryz.func96 (go h [.t,.w,.w,.f 0 [0,2,3],.t,.n 1,.m,.w,.o,.f 0 [0,2,3,4],.t,.n 2,.w,.o,.f 0 [2,3,4,5],.t,.n 1,.w,.o,.f 0 [2,3,4,6],.t,.n 1,.w,.o,.f 0 [2,3,4,6,7],.p 2 [2,3,4,6,7,8],.t,.l,.Y,.n 1,.o,.f 0 [2,3,4,6,7,8],.s,.t,.l,.Y,.f 1 [2,3,4,6,7,8,9],.d 0,.O1 .i 9 [2,3,4,6,7,8,9],.s,.C1 .b 30 [2,3,4,6,7,8,9,30] [.r,.n 3,.b 27 [.l,.F 920 [2,3,4,6,7,8,9,30],.x],.F 9110 [2,3,4,6,7,8,9,30],.x],.c [.k,.s,.d 1,.M [],.n 1,.l,.l,.Y,.K 1,.V,.K 1,.A,.K 0,.n 1,.o,.K 0,.f 0 [2,3,4,6,7,8,9],.r,.f 3 [2,3,4,6,7,8,9],.x],.e 0,.t,.l,.m,.f 1 [2,3,4,6,7,8,10],.C0 [2,3,4,6,7,8,10] [.t,.l,.f 1 [2,3,4,6,7,8,10,43],.c [.r,.l,.Y,.f 0 [2,3,4,6,7,8,10],.x],.k,.x],.C0 [2,3,4] [.d 2,.O1 .u 10 [2,3,4,6,7,8,10],.s,.C1 .b 51 [2,3,4,6,7,8,10,51] [.r,.n 3,.b 48 [.l,.F 920 [2,3,4,6,7,8,10,51],.x],.F 9110 [2,3,4,6,7,8,10,51],.x],.c [.k,.s,.d 3,.t,.l,.m,.n 1,.w,.o,.f 0 [2,3,4,6,7,8,10,11],.s,.t,.l,.Y,.f 0 [2,3,4,6,7,8,10,11,58],.c [.e 2,.x],.k,.s,.t,.l,.Y,.f 1 [2,3,4,6,7,8,10,11,12],.d 4,.O1 .i 12 [2,3,4,6,7,8,10,11,12],.s,.C1 .b 66 [2,3,4,6,7,8,10,11,12,66] [.r,.n 3,.b 63 [.l,.F 920 [2,3,4,6,7,8,10,11,12,66],.x],.F 9110 [2,3,4,6,7,8,10,11,12,66],.x],.c [.k,.s,.d 5,.M [],.n 1,.l,.n 1,.m,.K 1,.V,.K 1,.A,.K 0,.n 1,.o,.K 0,.f 0 [2,3,4,6,7,8,10,11,12],.r,.f 3 [2,3,4,6,7,8,10,11,12],.x],.e 4,.r,.n 1,.l,.L,.V,.A,.n 1,.o,.f 0 [2,3,4,6,7,8,10],.r,.f 3 [2,3,4,6,7,8,10],.x],.e 2,.x],.s,.d 6,.t,.l,.f 2 [2,3,4,82],.c [.s,.M [],.n 1,.l,.o,.K 1,.o,.K 0,.f 0 [2,3],.Z],.t,.l,.m,.f 2 [2,3,87],.c [.t,.n 1,.o,.o,.f 0 [2,3],.Z],.t,.L,.m,.f 2 [2,3,92],.c [.t,.n 1,.o,.o,.f 0 [2,3],.Z],.k,.t,.L,.o,.o,.f 0 [2,3],.Z])
def zMq:=cb_ Tryz.f118
def zNq:=cr_ zMq
def zOq:=cl_ zNq
def zPq:=cl_ zOq
def zQq:=cr_ zPq
def zAo:=cr_ zQq
def zBo:=cl_ zAo
def zCo:=co_ zBo
def zge:List Nat:=[0,2,1,3,4]
theorem S_Xc {is f t2 t3 t4 w R} (h:F_xe is f t2 t3 t4 R w):C_Rc is f t2 t3 t4 w R:=by
 unfold F_xe at h;refine Yh Tryz.func118 ?_
 ·refine Yp P1 [0,1,2,3,4] ?_;refine Ycut (λl w=>l=[(2,Vp t2),(3,Vp t3),(4,Vp t4)]/\F_C t2 t3 t4 R w) ?_ ?_
  ·refine Yd 0 (Yt ?_);refine Yv 2 h λhp_20 h=> ?_;refine Yl h λv9 h=> ?_;refine Yn P2 (Yu 2 (λpp=> .pointer pp) hp_20.symm ?_);refine Yf [] [0,1,2,3,4,8] ?_;refine Yc h (λh=> ?_) λh=> ?_
   ·refine zA ?_;exact⟨_,Sub.mk K_,rfl,h⟩
   ·refine Ys ?_;refine zx (id:=2) (ops:=zCo) zge K_ K_ K_ K_ (λw4 hw=> ?_);replace h:=h w4 hw;clear hw;refine Mv 3 h λhp_23 h=> ?_;refine Ml 0 h λv12 hc h=> ?_;refine Mv 4 h λhp_24 h=> ?_;refine Ml 2 h λv14 hc h=> ?_;refine zF (op:=(Op.call (Call.mk (Callee.value (Operand.func 119)) #[(Operand.tmp 12)] #[268]))) (ty:=3) (dst:=some 13) 1 [0] [(2,λw'=>w'.cell? ⟨(pblk t4),(poff t4),none⟩=some (Vi v14))] 119 #[Vp v12] K_ K_ K_ K_ K_ (λww=>by kernel_rfl) (Calls.mono h ?_);rintro _ w5 ⟨v13,rfl,h⟩;obtain⟨hk0,h⟩:=h;refine⟨_,rfl,⟨hk0,trivial⟩,?_⟩;refine Mn P2 ?_;refine Mu 3 (λpp=> .pointer pp) hp_23.symm ?_;refine Mu 4 (λpp=> .pointer pp) hp_24.symm ?_;refine Mf [] [0,1,2,3,4,11] ?_;refine Yc h (λh=> ?_) λh=> ?_
    ·refine Yt ?_;refine Yv 3 h λhp_27 h=> ?_;refine Yl h λv16 h=> ?_;refine Ym1 h λv17 w6 h=> ?_;refine Yv 2 h λhp_28 h=> ?_;refine Yo h λw7 h=> ?_;refine Yu 3 (λpp=> .pointer pp) hp_27.symm ?_;refine Yu 2 (λpp=> .pointer pp) hp_28.symm ?_;refine Yf [] [2,3,4] (Yt ?_);refine Yv 2 h λhp_30 h=> ?_;refine Yl h λv18 h=> ?_;refine Yn P1 (Yu 2 (λpp=> .pointer pp) hp_30.symm ?_);refine Yf [] [2,3,4,19] ?_;refine Yc h (λh=> ?_) λh=> ?_
     ·refine Yr ?_;refine Yv 2 h λhp_31 h=> ?_;refine Yo h λw8 h=> ?_;refine Yu 2 (λpp=> .pointer pp) hp_31.symm ?_;refine Yf [] [2,3,4] ?_;exact⟨_,Sub.mk K_,rfl,h⟩
     ·refine zA ?_;exact⟨_,Sub.mk K_,rfl,h⟩
    ·refine Yp P2 [1,2,3,4,20] ?_;refine Yc h (λh=> ?_) λh=> ?_
     ·refine Yr (Yn P1 ?_);refine Yv 2 h λhp_32 h=> ?_;refine Yo h λw9 h=> ?_;refine Yu 2 (λpp=> .pointer pp) hp_32.symm ?_;refine Yf [] [2,3,4] ?_;exact⟨_,Sub.mk K_,rfl,h⟩
     ·refine zA ?_;exact⟨_,Sub.mk K_,rfl,h⟩
  ·rintro _ w1 ⟨rfl,h⟩;exact go h [.t,.v 3,.l,.m,.v 4,.o,.f 0 [2],.t,.v 2,.l,.f 2 [7],.y]
theorem S_Yc {t0 t1 t2 w R} (h:F_bg t0 t1 t2 R w):C_od t0 t1 t2 w R:=Yh Tryz.func121 (go h [.p 1 [0,1,2],.s,.t,.v 0,.l,.f 1 [1,2,6],.c [.p 1 [3],.y],.k,.t,.v 1,.l,.m,.f 1 [2,4],.s,.t,.v 2,.l,.n 2,.Y,.f 0 [4,12],.c [.p 1 [3],.y],.k,.p 3 [3],.y])
theorem S_Zc {t0 t1 t2 t3 w R} (h:F_ye t0 t1 t2 t3 R w):C_Sc t0 t1 t2 t3 w R:=by
 unfold F_ye at h;refine Yh Tryz.func123 ?_
 ·refine Yt ?_;refine Yw pv_ h λb_ w1 h=> ?_;refine Yf [] [0,1,2,3,4] (Yt ?_);refine Yv 0 h λhp_1 h=> ?_;refine Yl h λv6 h=> ?_;refine z8b (fo:=(Operand.tmp 6)) (aa:=#[]) (ts:=#[]) (fv:=v6) (ty:=3) (dst:=some 7) #[] K_ K_ K_ (zw.mono h ?_);rintro _ w2 ⟨v7,rfl,h⟩;refine⟨_,rfl,?_⟩;refine Yn P1 ?_;refine Yo h λw3 h=> ?_;refine Yf [] [1,2,3,4] (Ys (Yt ?_));refine Yv 1 h λhp_5 h=> ?_;refine Yl h λv9 h=> ?_;refine Yf P1 [2,3,4,10] ?_;refine Yc h (λh=> ?_) λh=> ?_
  ·exact go h [.t,.L,.o,.f 0 [4],.z]
  ·refine zA (Yt ?_);refine Yv 2 h λhp_7 h=> ?_;refine Yl h λv12 h=> ?_;refine Ym1 h λv13 w5 h=> ?_;refine Yn P1 (Yu 2 (λpp=> .pointer pp) hp_7.symm ?_);refine Yf [] [2,3,4,5] ?_;refine Ycut (λl w=>l=[(4,pv_ b_)]/\F_zd R b_ w) ?_ ?_
   ·refine Yt (Yn P3 ?_);refine Yo h λw8 h=> ?_;refine Yf [] [2,3,4,5] ?_;refine Ycut (λl w=>∃(t26:Bool),l=[(2,Vp t2),(3,Vp t3),(4,pv_ b_),(26,Vo t26)]/\F_J t2 t3 R b_ t26 w) ?_ ?_
    ·refine Yr ?_;refine Yv 3 h λhp_17 h=> ?_;refine Yl h λv17 h=> ?_;refine Yn P2 ?_;refine z8b (fo:=(Operand.tmp 17)) (aa:=#[(Operand.tmp 19),(Operand.const (Value.int i64 4))]) (ts:=#[4,36]) (fv:=v17) (ty:=4) (dst:=some 20) #[Vo (decide (v13>1)),Vi 4] K_ K_ K_ (zw.mono h ?_);rintro _ w13 ⟨v20,rfl,h⟩;refine⟨_,rfl,?_⟩;refine Yn P3 ?_;refine Yspl 22 h (λh=> ?_) λh=> ?_
     ·refine Yl h λv24 h=> ?_;refine Yn [.sure,.plain] (Yu 3 (λpp=> .pointer pp) hp_17.symm ?_);refine Yf [] [2,3,4,26] ?_;exact⟨_,Sub.mk K_,(!v24),rfl,h⟩
     ·refine Yn [.skip,.skip,.plain] (Yu 3 (λpp=> .pointer pp) hp_17.symm ?_);refine Yf [] [2,3,4,26] ?_;exact⟨_,Sub.mk K_,false,rfl,h⟩
    ·rintro _ w9 ⟨t26,rfl,h⟩;unfold F_J at h;refine Yc h (λh=> ?_) λh=> ?_
     ·refine Yt ?_;refine Yv 2 h λhp_15 h=> ?_;refine Yl h λv27 h=> ?_;refine Ym1 h λv28 w10 h=> ?_;refine Yn P1 ?_;refine Yo h λw11 h=> ?_;refine Yf [] [3,4] (Yr ?_);refine Yv 3 h λhp_16 h=> ?_;refine Yl h λv30 h=> ?_;refine z8b (fo:=(Operand.tmp 30)) (aa:=#[(Operand.const (Vo false)),(Operand.const (Value.int i64 0))]) (ts:=#[4,36]) (fv:=v30) (ty:=4) (dst:=some 31) #[Vo false,Vi 0] K_ K_ K_ (zw.mono h ?_);rintro _ w12 ⟨v31,rfl,h⟩;refine⟨_,rfl,?_⟩;refine Yf [] [4] ?_;exact⟨_,Sub.mk K_,rfl,h⟩
     ·refine zA ?_;exact⟨_,Sub.mk K_,rfl,h⟩
   ·rintro _ w6 ⟨rfl,h⟩;exact go h [.t,.L,.o,.f 0 [4],.z]
theorem S_cd {s w R} (h:F_Fg s R w):C_cd s w R:=Yh Tryz.func244 (go h [.t,.w,.f 2 [1],.s,.t,.L,.m,.f 1 [1,4],.p 2 [1,4,15],.c [.p 3 [2,3],.y],.k,.t,.m,.f 1 [1,5],.t,.n 2,.l,.n 1,.m,.f 0 [1,5],.t,.n 2,.l,.n 2,.m,.f 0 [1,5],.s,.t,.n 1,.l,.f 2 [1,5,30,31,32],.d 0,.O1 .i 32 [1,5,30,31,32],.p 1 [1,5,30,31,32,33],.s,.c [.k,.s,.d 1,.t,.i,.l,.n 1,.f 0 [1,5,7,30,31,32],.r,.n 3,.m,.f 0 [1,5,30,31,32],.r,.f 2 [1,5,30,31,32],.x],.e 0,.t,.n 2,.l,.n 2,.m,.f 0 [1,5],.s,.t,.n 1,.l,.f 2 [5,48,49,50],.d 2,.O1 .i 50 [5,48,49,50],.p 1 [5,48,49,50,51],.s,.c [.k,.s,.d 3,.t,.i,.L,.w,.o,.f 0 [5,9,48,49,50],.t,.n 2,.l,.m,.f 0 [5,9,48,49,50],.t,.n 2,.l,.n 2,.m,.f 0 [5,9,48,49,50],.t,.n 1,.l,.f 2 [5,48,49,50,65,66,67],.d 4,.O1 .i 67 [5,48,49,50,65,66,67],.p 1 [5,48,49,50,65,66,67,68],.s,.c [.k,.C0 [5,48,49,50,65,66,67] [.d 5,.t,.i,.L,.w,.o,.f 0 [5,11,48,49,50,65,66,67],.t,.n 2,.l,.n 1,.m,.f 0 [5,11,48,49,50,65,66,67],.s,.t,.n 1,.l,.f 0 [5,11,48,49,50,65,66,67,77],.c [.t,.n 1,.m,.f 0 [5,48,49,50,65,66,67],.e 5,.x],.k,.t,.n 1,.m,.f 0 [5,11,48,49,50,65,66,67],.r,.n 2,.l,.m,.f 0 [5,48,49,50,65,66,67],.x],.r,.f 2 [5,48,49,50,65,66,67],.x],.e 4,.r,.f 2 [5,48,49,50],.x],.e 2,.t,.n 1,.m,.f 2 [2,3],.y])
end
end Go.Proofs.YtofjmclceflgiaaGreat
