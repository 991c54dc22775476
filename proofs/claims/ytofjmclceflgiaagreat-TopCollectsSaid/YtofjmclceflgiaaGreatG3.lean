/-
  A part of the proof of TopCollects.
  Conditions: none.
-/
import Derived.Test.YtofjmclceflgiaaGreatRows
import Derived.Test.YtofjmclceflgiaaGreatGF
namespace Go.Proofs.YtofjmclceflgiaaGreat
open Go
open Go.IntKind (i64 u64 u32 u8)
set_option linter.unusedVariables false
set_option maxRecDepth 100000
set_option maxHeartbeats 4000000
noncomputable section
theorem S_Tb {capacity w R} (h:F_5e capacity R w):C_5b capacity w R:=Yh Tryz.func65 (go h [.p 2 [0],.s,.P 9000003 [0,9],.c [.p 2 [2,3],.y],.k,.t,.n 1,.Ms,.n 1,.w,.f 2 [2,3],.y])
theorem S_K {r w R} (h:F_Ad r R w):C_N r w R:=Yh Tryz.func128 (go h [.p 1 [0],.s,.C1 .b 10 [0,10] [.r,.n 1,.m,.n 2,.b 5 [.F 91110 [0,10],.x],.v 6,.N 92,.N 92,.l,.f 1 [0,10],.x],.c [.p 1 [2],.y],.k,.s,.D,.n 1,.v 11,.n 1,.n 1,.l,.n 2,.v 16,.n 1,.n 1,.l,.f 2 [2],.y])
theorem S_L {r w R} (h:F_Bd r R w):C_O r w R:=Yh Tryz.func149 (go h [.p 1 [0],.t,.n 1,.E,.n 2,.b 5 [.F 9111100 [2],.y],.v 6,.N 92,.N 92,.l,.E,.f 2 [2],.y])
def z6p:=cb_ Tryz.f192
def z7p:=cr_ z6p
def zQn:=cr_ z7p
def zRn:=cl_ zQn
def zSn:=co_ zRn
theorem S_R {r x w R} (h:F_Dc r x R w):C_pb r x w R:=by
 unfold F_Dc at h;refine Yh Tryz.func192 ?_
 ·refine Yt ?_;refine Yw pv_ h λb_ w1 h=> ?_;refine Yf P1 [0,3] (Ys (Yt (Yn P1 ?_)));refine Ym1 h λv6 w2 h=> ?_;refine Yf P1 [0,3,7] ?_;refine Yc h (λh=> ?_) λh=> ?_
  ·exact go h [.p 1 [4],.y]
  ·refine zA (Ys ?_);refine zK (id:=3) (ops:=zSn) K_ 21 K_ K_ (λw3 hw=> ?_);replace h:=h w3 hw;clear hw;refine Qn P1 ?_;refine Qv 8 h λhp_5 h=> ?_;refine Qn P1 ?_;refine Qn P1 ?_;refine Ql h λv11 h=> ?_;refine Qn P1 ?_;refine Qv 12 h λhp_6 h=> ?_;refine Qn P1 ?_;refine Qn P1 ?_;refine Ql h λv15 h=> ?_;refine Qn P1 ?_;refine Qv 16 h λhp_7 h=> ?_;refine Qn P1 ?_;refine Qn P1 ?_;refine Ql h λv19 h=> ?_;refine Qn P2 ?_;refine Qv 21 h λhp_8 h=> ?_;refine Qn P1 ?_;refine Qn P1 ?_;refine Ql h λv24 h=> ?_;refine Qn P1 ?_;obtain⟨h0,h⟩:=h;refine z5d (op:=(Op.binOp BinOp.rem 3 (Operand.tmp 20) (Operand.tmp 25) 3)) (ty:=3) (dst:=some 26) (Vi (Int.tmod (i64.wrap (v15+v19)) ((v24.len:Nat):Int))) K_ (λww=>zNg K_ K_ h0 ww) ?_;exact go h [.L,.i,.T,.o,.f 0 [0],.t,.n 1,.v 29,.n 1,.n 1,.l,.n 3,.o,.f 0 [],.p 1 [4],.y]
theorem S_S {r w R} (h:F_Md r R w):C_U r w R:=Yh Tryz.func236 (go h [.p 1 [0],.s,.t,.n 1,.m,.f 0 [0,4],.c [.p 1 [2],.y],.k,.t,.n 1,.v 5,.n 1,.n 1,.l,.f 1 [2],.y])
def z8p:=cb_ Tryz.f241
def z9p:=cr_ z8p
def zaq:=cl_ z9p
def zbq:=cr_ zaq
def zTn:=cr_ zbq
def zUn:=cl_ zTn
def zUk:=cr_ zUn
def zVn:=cl_ zUk
def zWn:=co_ zVn
def zXn:=cr_ zUk
def zYn:=cl_ zXn
def zZn:=co_ zYn
theorem S_M {r w R} (h:F_sc r R w):C_hb r w R:=by
 unfold F_sc at h;refine Yh Tryz.func241 ?_
 ·refine Yt ?_;refine Yw pv_ h λb_ w1 h=> ?_;refine Yf P1 [0,2] ?_;refine Ycut (λl w=>∃(ok:Bool),l=[(2,pv_ b_),(3,Vo ok)]/\F_U R b_ ok w) ?_ ?_
  ·refine Yt (Yn P1 ?_);refine Ym2 h λv7 ok1 w4 h=> ?_;refine Yn P3 ?_;refine Yo h λw5 h=> ?_;refine Yf P1 [0,2,3] (Yp P1 [0,2,3,10] ?_);refine Yc h (λh=> ?_) λh=> ?_
   ·refine Yt ?_;refine Yw pv_ h λb_1 w6 h=> ?_;refine Yf [] [0,2,3,4] (Ys ?_);refine zK (id:=4) (ops:=zWn) K_ 10 K_ K_ (λw7 hw=> ?_);replace h:=h w7 hw;clear hw;refine Qn P1 ?_;refine Qv 11 h λhp_16 h=> ?_;refine Qn P1 ?_;refine Qn P1 ?_;refine Ql h λv14 h=> ?_;refine Qn P1 ?_;refine Qv 15 h λhp_17 h=> ?_;refine Qn P1 ?_;refine Qn P1 ?_;refine Ql h λv18 h=> ?_;refine QL h λv19 h=> ?_;obtain⟨hp_18,h⟩:=h;refine Qu 14 (λpp=> .slice pp v14.len v14.cap) hp_18 ?_;refine Qi h λh=> ?_;refine zEb K_ ?_;refine Yo h λw8 h=> ?_;refine Yf [] [0,2,3] (Ys ?_);refine zK (id:=5) (ops:=zZn) K_ 14 K_ K_ (λw9 hw=> ?_);replace h:=h w9 hw;clear hw;refine Qn P2 ?_;refine Qv 22 h λhp_22 h=> ?_;refine Qn P1 ?_;refine Qn P1 ?_;refine Ql h λv25 h=> ?_;refine Qn P2 ?_;refine Qv 27 h λhp_23 h=> ?_;refine Qn P1 ?_;refine Qn P1 ?_;refine Ql h λv30 h=> ?_;refine Qn P1 ?_;obtain⟨h0,h⟩:=h;refine z5d (op:=(Op.binOp BinOp.rem 3 (Operand.tmp 26) (Operand.tmp 31) 3)) (ty:=3) (dst:=some 32) (Vi (Int.tmod (i64.wrap (v25+1)) ((v30.len:Nat):Int))) K_ (λww=>zNg K_ K_ h0 ww) ?_;refine Qv 21 h λhp_24 h=> ?_;refine Qn P1 ?_;refine Qn P1 ?_;refine zEb K_ ?_;refine Yo h λw10 h=> ?_;refine Yf [] [0,2,3] (Yr (Yn P1 ?_));refine Yv 35 h λhp_25 h=> ?_;refine Yn P1 (Yn P1 ?_);refine Yl h λv38 h=> ?_;refine Yn P3 ?_;refine Yo h λw11 h=> ?_;refine Yf [] [2,3] ?_;exact⟨_,Sub.mk K_,ok1,rfl,h⟩
   ·refine zA ?_;exact⟨_,Sub.mk K_,ok1,rfl,h⟩
  ·rintro _ w2 ⟨ok,rfl,h⟩;exact go h [.t,.L,.n 1,.o,.f 1 [2,3],.z]
theorem S_I {r w R} (h:F_pd r R w):C_0b r w R:=Yh Tryz.func247 (go h [.t,.w,.f 1 [0,2],.s,.t,.n 1,.m,.f 1 [0,2,6],.c [.t,.L,.o,.f 1 [2,3],.z],.k,.s,.Q 10,.n 1,.v 8,.n 1,.n 1,.l,.n 1,.v 12,.n 1,.n 1,.l,.i,.L,.T,.o,.f 1 [2,3],.z])
theorem S_ec {s w R} (h:F_of s R w):C_hc s w R:=Yh Tryz.func51 (go h [.p 1 [0],.s,.t,.n 1,.m,.f 0 [0,4],.c [.p 1 [2],.y],.k,.t,.n 2,.v 6,.n 1,.n 2,.m,.f 1 [2],.y])
def zjr:=cb_ Tryz.f64
def zkr:=cr_ zjr
def zlr:=cr_ zkr
def zmr:=cl_ zlr
def zUp:=cr_ zmr
def zVp:=cl_ zUp
def zWp:=cl_ zVp
def zXp:=cr_ zWp
def zYp:=cr_ zXp
def zZp:=cl_ zYp
def z0p:=cl_ zZp
def zfm:=cr_ z0p
def z1p:=cl_ zfm
def z2p:=cl_ z1p
def z3p:=co_ z2p
def z4p:=cr_ zfm
def z5p:=co_ z4p
def zUf:List Nat:=[0,1,2,3,4,5,6,7,8,9,10,11,12,13,14,15,16,17,18,19,20,21,22,23,24,25,26,27,28,29,30]
def zVf:List Nat:=[0,1,2,3,4,5,6,7,8,9,10]
theorem S_Pb {l_ w R} (h:F_we l_ R w):C_4b l_ w R:=by
 unfold F_we at h;refine Yh Tryz.func64 ?_
 ·refine Yp P2 [0] (Yt ?_);refine Ym1 h λv7 w1 h=> ?_;refine Yf P1 [0,4] (Ys (Yp P3 [0,4,8,9,10] (Yd 0 ?_)));obtain⟨I,μ,h0,hr⟩:=h;refine zqd (λm l w=>∃(t10:Int),l=[(0,sv_ l_),(4,Vp v7),(8,sv_ l_),(9,Vi ((l_.len:Nat):Int)),(10,Vi t10)]/\I t10 w/\μ t10 w=m) ⟨0,rfl,h0,rfl⟩ ?_;rintro _ _ w2 ⟨t10,rfl,hI,rfl⟩;obtain⟨again_,again__h,h⟩:∃ again_:Int->WP,(∀ t10' w',again_ t10' w'->I t10' w'/\μ t10' w'<μ t10 w2)/\F_Hc l_ R v7 again_ t10 w2:=⟨_,λ_ _ h=>h,hr t10 w2 hI⟩
  clear h0 hI;unfold F_Hc at h;refine Yp P1 [0,4,8,9,10,11] (Ys ?_);refine Yc h (λh=> ?_) λh=> ?_
  ·refine zA (Ys (Yd 1 (Yt (Yn P1 ?_))));obtain⟨hp_22,h⟩:=h;refine Yu 8 (λpp=> .slice pp l_.len l_.cap) hp_22 ?_;refine Yi h λh=> ?_;refine YL h λv14 h=> ?_;refine Yw pv_ h λb_ w3 h=> ?_;refine Yn P1 ?_;refine Yo h λw4 h=> ?_;refine Yu 8 (λpp=> .slice pp l_.len l_.cap) hp_22.symm ?_;refine Yf [] [0,4,5,6,8,9,10] (Ys ?_);refine Ycut (λl w=>∃(t45:Bool),l=[(0,sv_ l_),(4,Vp v7),(6,pv_ b_),(8,sv_ l_),(9,Vi ((l_.len:Nat):Int)),(10,Vi t10),(45,Vo t45)]/\F_k R v7 t10 again_ b_ t45 w) ?_ ?_
   ·refine zx (id:=5) (ops:=z3p) zUf K_ K_ K_ K_ (λw9 hw=> ?_);replace h:=h w9 hw;clear hw;refine Mn P1 ?_;refine Ml 1 h λv16 hc h=> ?_;refine zF (op:=(Op.call (Call.mk (Callee.value (Operand.func 100)) #[(Operand.tmp 16)] #[9]))) (ty:=4) (dst:=some 17) 2 [1,0] [] 100 #[Vt v16] K_ K_ K_ K_ K_ (λww=>by kernel_rfl) (Calls.mono h ?_);rintro _ w10 ⟨v17,rfl,h⟩;refine⟨_,rfl,trivial,?_⟩;refine Mn (Pl 8) ?_;refine Mspl 19 h (λh=> ?_) λh=> ?_
    ·refine Mf [.skip,.skip,.skip,.skip,.skip,.skip,.skip,.plain,.plain,.skip,.skip,.skip,.skip,.plain,.plain,.skip,.skip,.skip,.skip,.plain] [0,4,6,8,9,10,45] ?_;exact⟨_,Sub.mk K_,true,rfl,h⟩
    ·refine Mspl 22 h (λh=> ?_) λh=> ?_
     ·obtain⟨hp_27,h⟩:=h;refine Mu 23 (λpp=> .slice pp l_.len l_.cap) hp_27 ?_;refine Mi 11 h λh=> ?_;refine Mn [.sure] ?_;refine Ml 13 h λv28 hc h=> ?_;refine Mn [.sure] ?_;refine Ml 15 h λv30 hc h=> ?_;refine Mn [.sure,.sure,.plain,.plain,.plain] ?_;refine Mspl 34 h (λh=> ?_) λh=> ?_
      ·refine Mf [.skip,.skip,.skip,.plain,.plain,.skip,.skip,.skip,.skip,.plain] [0,4,6,8,9,10,45] ?_;exact⟨_,Sub.mk K_,true,rfl,h⟩
      ·refine Ml 21 h λv36 hc h=> ?_;refine Mn [.sure,.sure,.plain,.plain,.plain] ?_;refine Mspl 40 h (λh=> ?_) λh=> ?_
       ·refine Mf [.skip,.skip,.skip,.plain] [0,4,6,8,9,10,45] ?_;exact⟨_,Sub.mk K_,true,rfl,h⟩
       ·refine Ml 27 h λv42 hc h=> ?_;refine zF (op:=(Op.call (Call.mk (Callee.value (Operand.func 101)) #[(Operand.tmp 42)] #[87]))) (ty:=36) (dst:=some 43) 28 [25,27,19,24,26,7,18,23,4,6,17,22,2,3,5,16,21,1,13,15,20,0,12,14,11,8,10,9] [] 101 #[sv_ v42] K_ K_ K_ K_ K_ (λww=>by kernel_rfl) (Calls.mono h ?_);rintro _ w11 ⟨v43,rfl,h⟩;refine⟨_,rfl,trivial,?_⟩;refine Mf [.sure,.plain] [0,4,6,8,9,10,45] ?_;exact⟨_,Sub.mk K_,(v43 != 0),rfl,h⟩
     ·refine Mn [.skip,.skip,.skip,.skip,.skip,.skip,.sure,.plain,.plain,.sure] ?_;refine Ml 21 h λv361 hc h=> ?_;refine Mn [.sure,.sure,.plain,.plain,.plain] ?_;refine Mspl 40 h (λh=> ?_) λh=> ?_
      ·refine Mf [.skip,.skip,.skip,.plain] [0,4,6,8,9,10,45] ?_;exact⟨_,Sub.mk K_,true,rfl,h⟩
      ·refine Ml 27 h λv421 hc h=> ?_;refine zF (op:=(Op.call (Call.mk (Callee.value (Operand.func 101)) #[(Operand.tmp 42)] #[87]))) (ty:=36) (dst:=some 43) 28 [25,27,19,24,26,7,18,23,4,6,17,22,2,3,5,16,21,1,13,15,20,0,12,14,11,8,10,9] [] 101 #[sv_ v421] K_ K_ K_ K_ K_ (λww=>by kernel_rfl) (Calls.mono h ?_);rintro _ w12 ⟨v431,rfl,h⟩;refine⟨_,rfl,trivial,?_⟩;refine Mf [.sure,.plain] [0,4,6,8,9,10,45] ?_;exact⟨_,Sub.mk K_,(v431 != 0),rfl,h⟩
   ·rintro _ w5 ⟨t45,rfl,h⟩;unfold F_k at h;refine Yc h (λh=> ?_) λh=> ?_
    ·exact go h [.p 2 [2,3],.y]
    ·refine zA ?_;refine zx (id:=7) (ops:=z5p) zVf K_ K_ K_ K_ (λw6 hw=> ?_);replace h:=h w6 hw;clear hw;refine Mn P1 ?_;refine Mv 46 h λhp_26 h=> ?_;refine Mn P1 ?_;refine Mn P2 ?_;refine Ml 4 h λv50 hc h=> ?_;refine Mn P1 ?_;refine Ml 6 h λv52 hc h=> ?_;refine Mn P1 ?_;refine Ml 8 h λv54 hc h=> ?_;refine zF (op:=(Op.call (Call.mk (Callee.value (Operand.func 63)) #[(Operand.tmp 54)] #[87]))) (ty:=87) (dst:=some 55) 9 [8,7] [(6,λw'=>w'.cell? ⟨b_,0,none⟩=some (Vt v52)),(4,λw'=>w'.cell? ⟨(pblk v7),(poff v7),none⟩=some (Value.map v50))] 63 #[sv_ v54] K_ K_ K_ K_ K_ (λww=>by kernel_rfl) (Calls.mono h ?_);rintro _ w7 ⟨v55,rfl,h⟩;obtain⟨hk0,hk1,h⟩:=h;refine⟨_,rfl,⟨hk0,hk1,trivial⟩,?_⟩;obtain⟨r,es,c,hr_,hm_,hi_,hn_,hk_,h⟩:=h;refine zPf (t:=220) (kt:=9) (et:=87) (x:=(Operand.tmp 50)) (k:=(Operand.tmp 52)) (v:=(Operand.tmp 55)) (m:=v50) (es:=es) (kv:=(Vt v52)) (vv:=(sv_ v55)) (ty:=0) (dst:=none) 10 [0,1,2,3,4,5,6,7,8,9] [] r c (keyS K_) K_ K_ K_ K_ K_ K_ hr_ K_ K_ K_ hm_ hi_ hn_ hk_ (λes1 c1 w8 hs_ hw=> ?_);replace h:=h es1 c1 w8 hs_ hw;clear hw hs_;refine⟨trivial,?_⟩;refine Mf [] [0,4,8,9,10] ?_;refine Yr (Yf P2 [0,4,8,9,10] ?_);have hb_:=again__h _ _ h;exact⟨_,hb_.2,_,Sub.mk K_,(i64.wrap (t10+1)),rfl,hb_.1,rfl⟩
  ·exact go h [.e 0,.p 3 [2,3],.y]
theorem S_Qb {s w R} (h:F_7e s R w):C_q s w R:=Yh Tryz.func77 (go h [.p 1 [0],.t,.n 1,.E,.n 2,.b 5 [.F 91111100 [2],.y],.v 6,.N 92,.N 922,.l,.E,.f 2 [2],.y])
theorem S_Bb {s pick w R} (h:F_Qe s pick R w):C_jb s pick w R:=Yh Tryz.func78 (go h [.p 1 [0,1],.s,.t,.n 1,.m,.f 0 [0,1,10],.c [.p 1 [4],.y],.k,.p 1 [0,1,5],.s,.t,.n 1,.v 11,.n 1,.n 1,.m,.f 2 [1,5,14,15,16],.d 0,.O2 .s 5 .i 16 [1,5,14,15,16],.p 1 [1,5,14,15,16,17],.s,.c [.k,.C1 .s 5 [1,5,14,15,16] [.d 1,.t,.i,.l,.n 1,.f 0 [1,5,7,14,15,16],.t,.n 2,.Y,.f 1 [1,5,7,8,14,15,16],.p 3 [1,5,7,8,14,15,16,25],.c [.r,.n 4,.V,.A,.f 1 [1,5,14,15,16],.x],.k,.x],.r,.f 2 [1,5,14,15,16],.x],.e 0,.p 2 [4],.y])
theorem S_db {k_ key w R} (h:F_me k_ key R w):C_Kb k_ key w R:=Yh Tryz.func79 (go h [.p 1 [0,1],.t,.n 1,.v 5,.n 1,.n 1,.l,.n 1,.k0,.m,.f 1 [4],.y])
theorem S_qc {w R} (h:F_kg R w):C_qd w R:=Yh Tryz.func99 (go h [.p 1 [],.t,.G,.n 2,.w,.f 1 [0],.y])
theorem S_rc {key w R} (h:F_lg key R w):C_5c key w R:=Yh Tryz.func100 (go h [.p 1 [0],.P 900000030 [2],.y])
theorem S_Cb {k_ w R} (h:F_Re k_ R w):C_C k_ w R:=Yh Tryz.func107 (go h [.p 1 [0],.t,.n 1,.v 3,.n 1,.n 1,.l,.m,.m,.f 1 [2],.y])
theorem S_eb {s number w_ w R} (h:F_oe s number w_ R w):C_Nb s number w_ w R:=Yh Tryz.func249 (go h [.t,.w,.f 2 [0,1,5],.s,.d 0,.t,.n 1,.m,.f 1 [0,1,5,11],.c [.p 2 [6,7],.y],.t,.n 1,.l,.m,.f 2 [0,1,5,14],.c [.p 2 [6,7],.y],.k,.s,.M [],.n 1,.v 20,.n 1,.n 2,.l,.n 1,.l,.k0,.n 2,.l,.n 1,.l,.n 1,.m,.K 0,.f 7 [0,5,8,9,10],.C0 [9,10] [.p 2 [0,5,8,9,10,39],.c [.Q 8,.n 1,.v 40,.n 1,.n 2,.l,.n 1,.l,.n 1,.T,.up,.f 0 [9,10],.x],.k,.x],.p 4 [6,7],.y])
theorem S_fc {s key mark w R} (h:F_zf s key mark R w):C_Gb s key mark w R:=Yh Tryz.func251 (go h [.p 2 [0,1,2],.s,.t,.n 1,.m,.f 0 [0,1,2,12],.c [.p 2 [6,7],.y],.k,.t,.n 1,.v 14,.n 1,.n 2,.l,.n 1,.k0,.n 1,.m,.n 4,.w,.o,.f 2 [8,9],.s,.D,.n 1,.l,.n 3,.b 29 [.l,.F 92000 [6,7],.y],.F 911000 [6,7],.y])
theorem S_Rb {s key end_ mark w R} (h:F_gf s key end_ mark R w):C_bc s key end_ mark w R:=Yh Tryz.func253 (go h [.p 1 [0,1,2,3],.s,.t,.n 1,.m,.f 0 [0,1,2,3,10],.c [.p 1 [8],.y],.k,.t,.n 5,.m,.f 1 [8],.y])
theorem S_fb {s least w R} (h:F_pe s least R w):C_Ob s least w R:=Yh Tryz.func255 (go h [.p 1 [0,1],.s,.t,.n 1,.m,.f 0 [0,1,12],.c [.p 1 [4],.y],.k,.p 1 [0,1,5],.s,.t,.n 1,.v 13,.n 1,.n 1,.m,.f 2 [0,1,5,16,17,18],.d 0,.O2 .i 5 .i 18 [0,1,5,16,17,18],.p 1 [0,1,5,16,17,18,19],.s,.c [.k,.s,.d 1,.t,.i,.l,.n 1,.f 0 [0,1,5,7,16,17,18],.t,.n 1,.v 23,.n 1,.n 2,.l,.n 1,.k0,.n 1,.m,.f 7 [0,1,5,7,8,9,16,17,18],.t,.n 1,.v 35,.n 1,.n 2,.l,.n 2,.up,.f 0 [0,1,5,9,16,17,18],.r,.f 4 [0,1,5,16,17,18],.r,.f 2 [0,1,5,16,17,18],.x],.e 0,.p 2 [4],.y])
theorem S_Sb {s mark beyond w R} (h:F_hf s mark beyond R w):C_cc s mark beyond w R:=Yh Tryz.func257 (go h [.t,.w,.w,.w,.f 1 [3,4,5],.t,.l,.n 1,.m,.f 1 [6],.y])
theorem S_hd {r key end_ mark w R} (h:F_1f r key end_ mark R w):C_Dd r key end_ mark w R:=by
 unfold F_1f at h;refine Yh Tryz.func266 ?_
 ·refine Yp P1 [0,1,2,3] (Yp P1 [0,1,2,3,9] (Ys ?_));refine Ycut (λl w=>∃(t15:Slc) (t16:Int),l=[(0,r),(1,Vt key),(2,Vt end_),(3,Vi mark),(9,Ns),(15,sv_ t15),(16,Vi t16),(17,Vi 0)]/\F_rd r key end_ mark R t15 t16 w) ?_ ?_
  ·refine Yr (Yn P1 ?_);rcases h with ⟨r2,hx_,hp_,h⟩ | ⟨r3,hx_,h⟩
   ·have hx2_:=(hx_.trans (congrArg (λpp=>Value.iface 168 (Vp pp)) hp_))
    refine Yu 14 (λpp=>pp) hx2_ ?_;refine Ym1 h λv15 w7 h=> ?_;refine Yf P2 [0,1,2,3,9,15,16,17] ?_;exact⟨_,Sub.mk K_,v15,((v15.len:Nat):Int),rfl,h⟩
   ·refine Yu 14 (λpp=>pp) hx_ ?_;refine Ym1 h λv151 w8 h=> ?_;refine Yf P2 [0,1,2,3,9,15,16,17] ?_;exact⟨_,Sub.mk K_,v151,((v151.len:Nat):Int),rfl,h⟩
  ·rintro _ w1 ⟨t15,t16,rfl,h⟩;exact go h [.d 0,.O2 .s 9 .i 17 [0,1,2,3,9,15,16,17],.p 1 [0,1,2,3,9,15,16,17,18],.s,.c [.k,.C1 .s 9 [0,1,2,3,9,15,16,17] [.d 1,.t,.i,.l,.n 1,.f 0 [0,1,2,3,9,11,15,16,17],.t,.n 3,.q 22,.m,.f 5 [0,1,2,3,9,11,12,13,15,16,17],.P 9000003000000033 [0,1,2,3,9,11,12,15,16,17,42],.c [.r,.n 4,.V,.A,.f 1 [0,1,2,3,9,15,16,17],.x],.k,.x],.r,.f 2 [0,1,2,3,9,15,16,17],.x],.e 0,.p 2 [8],.y]
theorem S_lb {key t1 t2 t3 w R} (h:F_Ke key t1 t2 t3 R w):C_2c key t1 t2 t3 w R:=Yh Tryz.func268 (go h [.p 1 [0,1,2,3],.s,.M [],.v 1,.l,.v 9,.n 1,.n 2,.l,.n 1,.k0,.v 2,.l,.v 3,.l,.m,.K 0,.f 5 [6],.p 2 [5],.y])
theorem S_p {s w R} (h:F_3b s R w):C_A s w R:=Yh Tryz.func56 (go h [.p 1 [0],.s,.t,.n 1,.E,.f 0 [0,4],.c [.p 1 [2],.y],.k,.t,.W 0 0,.n 1,.A,.f 1 [2],.y])
theorem S_b {s w R} (h:F_F s R w):C_a s w R:=Yh Tryz.func63 (go h [.p 1 [0],.s,.t,.n 1,.E,.f 0 [0,4],.c [.p 1 [2],.y],.k,.t,.W 0 0,.n 1,.A,.f 1 [2],.y])
theorem S_k {data a_ b_ cmp w R} (h:F_kb data a_ b_ cmp R w):C_l data a_ b_ cmp w R:=Yh Tryz.func80 (go h [.p 3 [0,1,2,3,8],.d 0,.O1 .i 8 [0,1,2,3,8],.s,.p 3 [0,1,2,3,8,14],.c [.k,.s,.d 1,.p 2 [0,1,2,3,8,9],.d 2,.O1 .i 9 [0,1,2,3,8,9],.s,.C1 .b 34 [0,1,2,3,8,9,34] [.Q 14,.n 7,.b 21 [.i,.L,.N 9222,.i,.L,.T,.Y,.F 920 [0,1,2,3,8,9,34],.x],.N 91111111,.T,.F 9110 [0,1,2,3,8,9,34],.x],.c [.k,.s,.d 3,.M [],.n 8,.i,.L,.n 2,.i,.L,.i,.o,.K 0,.i,.o,.K 0,.f 0 [0,1,2,3,8,9],.r,.f 3 [0,1,2,3,8,9],.x],.e 2,.r,.f 3 [0,1,2,3,8],.x],.e 0,.y])
theorem S_m {s w R} (h:F_yd s R w):C_u s w R:=Yh Tryz.func94 (go h [.p 1 [0],.s,.t,.n 1,.E,.f 0 [0,4],.c [.p 1 [2],.y],.k,.t,.W 0 0,.n 1,.A,.f 1 [2],.y])
theorem S_D {x target w R} (h:F_Rc x target R w):C_T x target w R:=Yh Tryz.func97 (go h [.p 2 [0,1],.p 3 [0,1,6],.p 3 [0,1,6,7,8],.s,.d 0,.O2 .i 7 .i 8 [0,1,6,7,8],.s,.p 3 [0,1,6,7,8,15],.c [.k,.d 1,.p 7 [0,1,6,7,8,9],.t,.n 2,.i,.l,.n 1,.m,.f 0 [0,1,6,7,8,9,27],.c [.r,.f 3 [0,1,6,7,8],.x],.r,.f 2 [0,1,6,7,8],.x],.e 0,.t,.n 7,.b 35 [.i,.l,.N 922200,.b 42 [.F 911111112000 [4,5],.y],.i,.l,.m,.N 920,.b 48 [.m,.F 922000 [4,5],.y],.F 9122000 [4,5],.y],.F 9111111111111111000 [4,5],.y])
theorem S_X {s w R} (h:F_0d s R w):C_F s w R:=Yh Tryz.func103 (go h [.p 1 [0],.s,.t,.n 1,.E,.f 0 [0,4],.c [.p 1 [2],.y],.k,.t,.W 0 0,.n 1,.A,.f 1 [2],.y])
theorem S_a {s f w R} (h:F_0c s f R w):C_b s f w R:=Yh Tryz.func114 (go h [.p 1 [0,1],.t,.n 2,.m,.f 2 [4],.y])
theorem S_F {x w R} (h:F_Jg x R w):C_8b x w R:=Yh Tryz.func127 (go h [.p 1 [0],.p 4 [2],.y])
theorem S_c {s f w R} (h:F_gd s f R w):C_W s f w R:=Yh Tryz.func140 (go h [.p 1 [0,1],.s,.p 3 [0,1,7,8],.d 0,.O1 .i 8 [0,1,7,8],.p 1 [0,1,7,8,9],.s,.c [.k,.s,.d 1,.p 2 [0,1,5,7,8],.t,.n 3,.i,.L,.Y,.f 0 [0,1,5,7,8,16],.c [.p 2 [4],.y],.k,.r,.f 2 [0,1,7,8],.x],.e 0,.p 1 [4],.y])
theorem S_h {x cmp w R} (h:F_8 x cmp R w):C_h x cmp w R:=Yh Tryz.func194 (go h [.r,.n 4,.m,.f 0 [],.y])
theorem S_n {slices w R} (h:F_Pb slices R w):C_y slices w R:=Yh Tryz.func198 (go h [.p 1 [0],.p 1 [0,3],.s,.p 3 [0,3,9,10,11],.d 0,.O2 .i 3 .i 11 [0,3,9,10,11],.p 1 [0,3,9,10,11,12],.s,.c [.k,.s,.d 1,.t,.i,.l,.n 1,.f 0 [0,3,5,9,10,11],.p 5 [0,3,9,10,11],.p 2 [0,3,9,10,11,20],.c [.r,.n 1,.J],.k,.r,.f 2 [0,3,9,10,11],.x],.e 0,.t,.n 1,.m,.f 1 [0,6],.s,.p 3 [6,25,26,27],.d 2,.O2 .s 6 .i 27 [6,25,26,27],.p 1 [6,25,26,27,28],.s,.c [.k,.s,.d 3,.t,.i,.l,.n 1,.f 0 [6,8,25,26,27],.r,.n 2,.A,.f 1 [6,25,26,27],.r,.f 2 [6,25,26,27],.x],.e 2,.p 2 [2],.y])
theorem S_f {x cmp w R} (h:F_V x cmp R w):C_n x cmp w R:=Yh Tryz.func199 (go h [.r,.n 4,.m,.f 0 [],.y])
theorem S_A {data n_ cmp w R} (h:F_Ac data n_ cmp R w):C_mb data n_ cmp w R:=Yh Tryz.func201 (go h [.p 1 [0,1,2,6],.p 3 [0,1,2,6,7,8],.s,.d 0,.O2 .i 7 .i 8 [0,1,2,6,7,8],.s,.p 3 [0,1,2,6,7,8,13],.c [.k,.d 1,.t,.n 4,.m,.f 0 [0,1,2,6,8],.p 2 [0,1,2,6,7,8],.r,.f 4 [0,1,2,6,7,8],.x],.e 0,.t,.n 4,.m,.f 0 [0,1,2,6],.d 2,.O1 .i 6 [0,1,2,6],.s,.p 3 [0,1,2,6,30],.c [.k,.d 3,.p 4 [0,1,2,6,7,8],.s,.d 4,.O2 .i 7 .i 8 [0,1,2,6,7,8],.s,.p 3 [0,1,2,6,7,8,35],.c [.k,.d 5,.t,.n 7,.m,.f 0 [0,1,2,6,8],.p 2 [0,1,2,6,7,8],.r,.f 5 [0,1,2,6,7,8],.x],.e 4,.C0 [0,1,2,6] [.p 4 [0,1,2,6,7,9],.p 3 [0,1,2,6,7,9,54],.c [.r,.n 5,.m,.f 0 [0,1,2,6],.x],.k,.x],.r,.f 3 [0,1,2,6],.x],.e 2,.y])
theorem S_t {s n_ w R} (h:F_fc s n_ R w):C_G s n_ w R:=Yh Tryz.func202 (go h [.p 1 [0,1],.s,.p 2 [0,1,6],.c [.r,.n 1,.J],.k,.C1 .s 0 [0] [.p 8 [0,1],.p 2 [0,1,16],.c [.r,.n 3,.H,.n 1,.Az,.n 2,.H,.f 1 [0],.x],.k,.x],.p 2 [4],.y])
theorem S_x {data n_ cmp w R} (h:F_qc data n_ cmp R w):C_gb data n_ cmp w R:=Yh Tryz.func203 (go h [.p 1 [0,1,2,6],.p 3 [0,1,2,6,7,8],.s,.d 0,.O2 .i 7 .i 8 [0,1,2,6,7,8],.s,.p 3 [0,1,2,6,7,8,13],.c [.k,.d 1,.t,.n 4,.m,.f 0 [0,1,2,6,8],.p 2 [0,1,2,6,7,8],.r,.f 4 [0,1,2,6,7,8],.x],.e 0,.t,.n 4,.m,.f 0 [0,1,2,6],.d 2,.O1 .i 6 [0,1,2,6],.s,.p 3 [0,1,2,6,30],.c [.k,.d 3,.p 4 [0,1,2,6,7,8],.s,.d 4,.O2 .i 7 .i 8 [0,1,2,6,7,8],.s,.p 3 [0,1,2,6,7,8,35],.c [.k,.d 5,.t,.n 7,.m,.f 0 [0,1,2,6,8],.p 2 [0,1,2,6,7,8],.r,.f 5 [0,1,2,6,7,8],.x],.e 4,.C0 [0,1,2,6] [.p 4 [0,1,2,6,7,9],.p 3 [0,1,2,6,7,9,54],.c [.r,.n 5,.m,.f 0 [0,1,2,6],.x],.k,.x],.r,.f 3 [0,1,2,6],.x],.e 2,.y])
theorem S_u {data a_ m_ b_ cmp w R} (h:F_gc data a_ m_ b_ cmp R w):C_d data a_ m_ b_ cmp w R:=Yh Tryz.func204 (go h [.s,.p 4 [0,1,2,3,4,28],.c [.p 2 [0,1,3,4,10],.p 2 [0,1,4,10,11],.s,.d 0,.O2 .i 10 .i 11 [0,1,4,10,11],.s,.p 3 [0,1,4,10,11,33],.c [.k,.d 1,.p 7 [0,1,4,10,11,12],.s,.Q 9,.n 3,.i,.L,.n 2,.i,.L,.T,.Y,.f 1 [0,1,4,10,11,12,50],.c [.r,.f 3 [0,1,4,10,11],.x],.r,.f 2 [0,1,4,10,11],.x],.e 0,.s,.p 2 [0,10,13],.d 2,.O1 .i 13 [0,10,13],.s,.p 4 [0,10,13,58],.c [.k,.s,.d 3,.M [],.n 8,.i,.L,.n 2,.i,.L,.i,.o,.K 0,.i,.o,.K 0,.f 0 [0,10,13],.r,.f 3 [0,10,13],.x],.e 2,.y],.k,.s,.p 4 [0,1,2,3,4,80],.c [.p 2 [0,2,4,14],.p 2 [0,2,4,14,15],.s,.d 4,.O2 .i 14 .i 15 [0,2,4,14,15],.s,.p 3 [0,2,4,14,15,85],.c [.k,.d 5,.p 7 [0,2,4,14,15,16],.s,.Q 9,.n 3,.i,.L,.n 2,.i,.L,.T,.Y,.f 2 [0,2,4,14,15,16,103],.c [.r,.f 3 [0,2,4,14,15],.x],.r,.f 2 [0,2,4,14,15],.x],.e 4,.s,.p 2 [0,14,17],.d 6,.O1 .i 17 [0,14,17],.s,.p 3 [0,14,17,110],.c [.k,.s,.d 7,.M [],.n 8,.i,.L,.n 2,.i,.L,.i,.o,.K 0,.i,.o,.K 0,.f 0 [0,14,17],.r,.f 3 [0,14,17],.x],.e 6,.y],.k,.p 7 [0,1,2,3,4,18],.p 4 [0,1,2,3,4,18,19],.p 2 [0,1,2,3,4,18,19],.C2 .i 20 .i 21 [0,1,2,3,4,18,19,20,21] [.p 3 [0,1,2,3,4,18,19,140],.c [.p 4 [0,1,2,3,4,18,19,20],.r,.f 2 [0,1,2,3,4,18,19,20,21],.x],.p 2 [0,1,2,3,4,18,19,20],.r,.f 2 [0,1,2,3,4,18,19,20,21],.x],.p 3 [0,1,2,3,4,18,19,20,21,22],.s,.d 8,.O2 .i 20 .i 21 [0,1,2,3,4,18,19,20,21,22],.s,.p 3 [0,1,2,3,4,18,19,20,21,22,151],.c [.k,.d 9,.p 7 [0,1,2,3,4,18,19,20,21,22,23],.s,.Q 11,.n 5,.i,.L,.n 2,.i,.L,.T,.Y,.f 2 [0,1,2,3,4,18,19,20,21,22,23,171],.c [.r,.f 3 [0,1,2,3,4,18,19,20,21,22],.x],.r,.f 2 [0,1,2,3,4,18,19,20,21,22],.x],.e 8,.p 4 [0,1,2,3,4,18,20,24],.C0 [0,1,3,4,18,20,24] [.P 900000003 [0,1,2,3,4,18,20,24,185],.c [.r,.n 5,.m,.f 0 [0,1,3,4,18,20,24],.x],.k,.x],.C0 [0,3,4,18,24] [.P 900000003 [0,1,3,4,18,20,24,199],.c [.r,.n 5,.m,.f 0 [0,3,4,18,24],.x],.k,.x],.P 900000003 [0,3,4,18,24,213],.c [.r,.n 5,.m,.f 0 [],.y],.k,.y])
theorem S_i {data a_ b_ cmp w R} (h:F_cb data a_ b_ cmp R w):C_j data a_ b_ cmp w R:=Yh Tryz.func205 (go h [.p 3 [0,1,2,3,8],.d 0,.O1 .i 8 [0,1,2,3,8],.s,.p 3 [0,1,2,3,8,14],.c [.k,.s,.d 1,.p 2 [0,1,2,3,8,9],.d 2,.O1 .i 9 [0,1,2,3,8,9],.s,.C1 .b 34 [0,1,2,3,8,9,34] [.Q 14,.n 7,.b 21 [.i,.L,.N 9222,.i,.L,.T,.Y,.F 920 [0,1,2,3,8,9,34],.x],.N 91111111,.T,.F 9110 [0,1,2,3,8,9,34],.x],.c [.k,.s,.d 3,.M [],.n 8,.i,.L,.n 2,.i,.L,.i,.o,.K 0,.i,.o,.K 0,.f 0 [0,1,2,3,8,9],.r,.f 3 [0,1,2,3,8,9],.x],.e 2,.r,.f 3 [0,1,2,3,8],.x],.e 0,.y])
theorem S_q {data a_ m_ b_ cmp w R} (h:F_7b data a_ m_ b_ cmp R w):C_c data a_ m_ b_ cmp w R:=Yh Tryz.func206 (go h [.s,.p 4 [0,1,2,3,4,28],.c [.p 2 [0,1,3,4,10],.p 2 [0,1,4,10,11],.s,.d 0,.O2 .i 10 .i 11 [0,1,4,10,11],.s,.p 3 [0,1,4,10,11,33],.c [.k,.d 1,.p 7 [0,1,4,10,11,12],.s,.Q 9,.n 3,.i,.L,.n 2,.i,.L,.T,.Y,.f 1 [0,1,4,10,11,12,50],.c [.r,.f 3 [0,1,4,10,11],.x],.r,.f 2 [0,1,4,10,11],.x],.e 0,.s,.p 2 [0,10,13],.d 2,.O1 .i 13 [0,10,13],.s,.p 4 [0,10,13,58],.c [.k,.s,.d 3,.M [],.n 8,.i,.L,.n 2,.i,.L,.i,.o,.K 0,.i,.o,.K 0,.f 0 [0,10,13],.r,.f 3 [0,10,13],.x],.e 2,.y],.k,.s,.p 4 [0,1,2,3,4,80],.c [.p 2 [0,2,4,14],.p 2 [0,2,4,14,15],.s,.d 4,.O2 .i 14 .i 15 [0,2,4,14,15],.s,.p 3 [0,2,4,14,15,85],.c [.k,.d 5,.p 7 [0,2,4,14,15,16],.s,.Q 9,.n 3,.i,.L,.n 2,.i,.L,.T,.Y,.f 2 [0,2,4,14,15,16,103],.c [.r,.f 3 [0,2,4,14,15],.x],.r,.f 2 [0,2,4,14,15],.x],.e 4,.s,.p 2 [0,14,17],.d 6,.O1 .i 17 [0,14,17],.s,.p 3 [0,14,17,110],.c [.k,.s,.d 7,.M [],.n 8,.i,.L,.n 2,.i,.L,.i,.o,.K 0,.i,.o,.K 0,.f 0 [0,14,17],.r,.f 3 [0,14,17],.x],.e 6,.y],.k,.p 7 [0,1,2,3,4,18],.p 4 [0,1,2,3,4,18,19],.p 2 [0,1,2,3,4,18,19],.C2 .i 20 .i 21 [0,1,2,3,4,18,19,20,21] [.p 3 [0,1,2,3,4,18,19,140],.c [.p 4 [0,1,2,3,4,18,19,20],.r,.f 2 [0,1,2,3,4,18,19,20,21],.x],.p 2 [0,1,2,3,4,18,19,20],.r,.f 2 [0,1,2,3,4,18,19,20,21],.x],.p 3 [0,1,2,3,4,18,19,20,21,22],.s,.d 8,.O2 .i 20 .i 21 [0,1,2,3,4,18,19,20,21,22],.s,.p 3 [0,1,2,3,4,18,19,20,21,22,151],.c [.k,.d 9,.p 7 [0,1,2,3,4,18,19,20,21,22,23],.s,.Q 11,.n 5,.i,.L,.n 2,.i,.L,.T,.Y,.f 2 [0,1,2,3,4,18,19,20,21,22,23,171],.c [.r,.f 3 [0,1,2,3,4,18,19,20,21,22],.x],.r,.f 2 [0,1,2,3,4,18,19,20,21,22],.x],.e 8,.p 4 [0,1,2,3,4,18,20,24],.C0 [0,1,3,4,18,20,24] [.P 900000003 [0,1,2,3,4,18,20,24,185],.c [.r,.n 5,.m,.f 0 [0,1,3,4,18,20,24],.x],.k,.x],.C0 [0,3,4,18,24] [.P 900000003 [0,1,3,4,18,20,24,199],.c [.r,.n 5,.m,.f 0 [0,3,4,18,24],.x],.k,.x],.P 900000003 [0,3,4,18,24,213],.c [.r,.n 5,.m,.f 0 [],.y],.k,.y])
theorem S_B {data a_ m_ b_ cmp w R} (h:F_Bc data a_ m_ b_ cmp R w):C_L data a_ m_ b_ cmp w R:=Yh Tryz.func207 (go h [.p 4 [0,2,3,4,10],.p 4 [0,2,4,10,11],.s,.d 0,.O2 .i 10 .i 11 [0,2,4,10,11],.s,.p 3 [0,2,4,10,11,20],.c [.k,.d 1,.p 3 [0,2,4,10,11,23],.c [.t,.n 7,.m,.f 0 [0,2,4,10,11],.r,.f 4 [0,2,4,10,11],.x],.t,.n 11,.m,.f 0 [0,2,4,10,11],.r,.f 4 [0,2,4,10,11],.x],.e 0,.r,.n 7,.m,.f 0 [],.y])
theorem S_y {data a_ m_ b_ cmp w R} (h:F_rc data a_ m_ b_ cmp R w):C_I data a_ m_ b_ cmp w R:=Yh Tryz.func208 (go h [.p 4 [0,2,3,4,10],.p 4 [0,2,4,10,11],.s,.d 0,.O2 .i 10 .i 11 [0,2,4,10,11],.s,.p 3 [0,2,4,10,11,20],.c [.k,.d 1,.p 3 [0,2,4,10,11,23],.c [.t,.n 7,.m,.f 0 [0,2,4,10,11],.r,.f 4 [0,2,4,10,11],.x],.t,.n 11,.m,.f 0 [0,2,4,10,11],.r,.f 4 [0,2,4,10,11],.x],.e 0,.r,.n 7,.m,.f 0 [],.y])
theorem S_r {data a_ b_ n_ cmp w R} (h:F_9b data a_ b_ n_ cmp R w):C_i data a_ b_ n_ cmp w R:=Yh Tryz.func209 (go h [.p 1 [0,1,2,3,10],.d 0,.O1 .i 10 [0,1,2,3,10],.s,.p 3 [0,1,2,3,10,13],.c [.k,.s,.d 1,.M [],.n 12,.i,.L,.n 4,.i,.L,.i,.o,.K 0,.i,.o,.K 0,.f 0 [0,1,2,3,10],.r,.f 3 [0,1,2,3,10],.x],.e 0,.y])
theorem S_o {data a_ b_ n_ cmp w R} (h:F_Ub data a_ b_ n_ cmp R w):C_g data a_ b_ n_ cmp w R:=Yh Tryz.func210 (go h [.p 1 [0,1,2,3,10],.d 0,.O1 .i 10 [0,1,2,3,10],.s,.p 3 [0,1,2,3,10,13],.c [.k,.s,.d 1,.M [],.n 12,.i,.L,.n 4,.i,.L,.i,.o,.K 0,.i,.o,.K 0,.f 0 [0,1,2,3,10],.r,.f 3 [0,1,2,3,10],.x],.e 0,.y])
theorem S_s {s w R} (h:F_ac s R w):C_B s w R:=Yh Tryz.func243 (go h [.p 1 [0],.s,.t,.n 1,.E,.f 0 [0,4],.c [.p 1 [2],.y],.k,.t,.W 0 0,.n 1,.A,.f 1 [2],.y])
def zyp:=cb_ Tryz.f272
def zzp:=cr_ zyp
def zAp:=cr_ zzp
def zBp:=cr_ zAp
def zTm:=cr_ zBp
def zUm:=cr_ zTm
def zPk:=cr_ zUm
def zVm:=cl_ zPk
def zWm:=cr_ zVm
def zXm:=cl_ zWm
def zYm:=cr_ zXm
def zZm:=cr_ zYm
def z0m:=cl_ zZm
def z1m:=co_ z0m
def z2m:=cr_ zPk
def z3m:=cr_ z2m
def z4m:=cl_ z3m
def z5m:=cr_ z4m
def z6m:=cl_ z5m
def z7m:=cl_ z6m
def z8m:=co_ z7m
theorem S_j {s i v w R} (h:F_E s i v R w):C_k s i v w R:=by
 unfold F_E at h;refine Yh Tryz.func272 ?_
 ·refine Yp P1 [0,1,2] (Yt (Yn P2 ?_));obtain⟨hc,h⟩:=h;refine zyc (t:=87) (e:=92) (x:=(Operand.tmp 10)) (lo:=(Operand.tmp 11)) (s:=s) (sz:=3) (k:= .i64) (a:=i) (ty:=87) (dst:=some 12) K_ K_ K_ K_ K_ hc (λs1 hs=> ?_);replace h:=h s1 hs;clear hs;refine Yf [] [0,1,2] (Yp P3 [0,1,2,7] (Ys (Yp P2 [0,1,2,7,16] ?_)));refine Yc h (λh=> ?_) λh=> ?_
  ·exact go h [.p 2 [6],.y]
  ·refine zA (Yp P3 [0,1,2,7,8] (Ys (Yp P3 [0,1,2,7,8,22] ?_)));refine Yc h (λh=> ?_) λh=> ?_
   ·exact go h [.t,.n 2,.A,.f 1 [6],.y]
   ·refine zA (Ys (Yp (Pl 6) [0,1,2,7,8,31] ?_));refine Yc h (λh=> ?_) λh=> ?_
    ·refine Yt (Yn P2 ?_);obtain⟨h0,h1,h⟩:=h;refine zGc (t:=87) (e:=92) (x:=(Operand.tmp 32)) (hi:=(Operand.tmp 33)) (p:=s.ptr) (l:=s.len) (c:=s.cap) (sz:=3) (k:= .i64) (j:=i) (ty:=87) (dst:=some 34) K_ K_ K_ K_ K_ h0 h1 ?_;refine Yn (Pl 5) ?_;obtain⟨h0,h1,h⟩:=h;refine zOf (t:=87) (tx:=3) (e:=92) (a:=(Operand.tmp 34)) (xo:=(Operand.tmp 39)) (s:=(Slc.mk s.ptr i.toNat s.cap)) (l:=(i64.wrap ((i64.wrap (((s.len:Nat):Int)+((v.len:Nat):Int))) - i))) (sz:=3) (by_:=32) (zs:=[Vi 0,Vt Be,Vo false]) (ty:=87) (dst:=some 40)  K_ K_ K_ K_ K_ K_ K_ K_ K_ K_ h0 h1 (zG.mono h (λs2 w2 h=> ?_));refine Yf P1 [0,1,2,7,9] (Yt (Yn P2 ?_));obtain⟨hc,h⟩:=h;refine zyc (t:=87) (e:=92) (x:=(Operand.tmp 41)) (lo:=(Operand.tmp 42)) (s:=s2) (sz:=3) (k:= .i64) (a:=i) (ty:=87) (dst:=some 43) K_ K_ K_ K_ K_ hc (λs3 hs=> ?_);replace h:=h s3 hs;clear hs;refine Yn P1 ?_;obtain⟨src,hs,h⟩:=h;refine zjd (t:=87) (tx:=87) (e:=92) (a:=(Operand.tmp 43)) (xo:=(Operand.tmp 44)) (d:=s3) (x:=v) (sz:=3) (ty:=3) (dst:=some 45)  src K_ K_ K_ K_ K_ hs (zRc.mono h (λw3 h=> ?_));refine Yf [] [0,1,7,9] (Ys ?_);refine zK (id:=11) (ops:=z1m) K_ 8 K_ K_ (λw4 hw=> ?_);replace h:=h w4 hw;clear hw;refine Qn P4 ?_;obtain⟨hc,h⟩:=h;refine zkd (t:=87) (e:=92) (x:=(Operand.tmp 46)) (lo:=(Operand.tmp 49)) (s:=s2) (sz:=3) (k:= .i64) (a:=(i64.wrap (i+((v.len:Nat):Int)))) (ty:=87) (dst:=some 50) K_ K_ K_ K_ K_ hc (λs4 hs=> ?_);replace h:=h s4 hs;clear hs;refine Qn P2 ?_;obtain⟨hc,h⟩:=h;refine zkd (t:=87) (e:=92) (x:=(Operand.tmp 51)) (lo:=(Operand.tmp 52)) (s:=s) (sz:=3) (k:= .i64) (a:=i) (ty:=87) (dst:=some 53) K_ K_ K_ K_ K_ hc (λs5 hs=> ?_);replace h:=h s5 hs;clear hs;refine zEb K_ ?_;obtain⟨src,hs,h⟩:=h;refine zjd (t:=87) (tx:=87) (e:=92) (a:=(Operand.tmp 50)) (xo:=(Operand.tmp 53)) (d:=s4) (x:=s5) (sz:=3) (ty:=3) (dst:=some 54)  src K_ K_ K_ K_ K_ hs (zRc.mono h (λw5 h=> ?_));exact go h [.f 0 [9],.p 2 [6],.y]
    ·refine zA (Yt (Yn P4 ?_));obtain⟨h0,h1,h⟩:=h;refine zGc (t:=87) (e:=92) (x:=(Operand.tmp 56)) (hi:=(Operand.tmp 59)) (p:=s.ptr) (l:=s.len) (c:=s.cap) (sz:=3) (k:= .i64) (j:=(i64.wrap (((s.len:Nat):Int)+((v.len:Nat):Int)))) (ty:=87) (dst:=some 60) K_ K_ K_ K_ K_ h0 h1 ?_;refine Yf P1 [0,1,2,7,8] (Ys (Yt (Yn (Pl 5) ?_)));obtain⟨hc,h⟩:=h;refine zyc (t:=87) (e:=92) (x:=(Operand.tmp 62)) (lo:=(Operand.tmp 65)) (s:=(Slc.mk s.ptr ((i64.wrap (((s.len:Nat):Int)+((v.len:Nat):Int))).toNat) s.cap)) (sz:=3) (k:= .i64) (a:=(i64.wrap (i+((v.len:Nat):Int)))) (ty:=87) (dst:=some 66) K_ K_ K_ K_ K_ hc (λs6 hs=> ?_);replace h:=h s6 hs;clear hs;obtain⟨hov,h⟩:=h;refine zLh (fo:=(Operand.func 276)) (a:=(Operand.tmp 61)) (b:=(Operand.tmp 66)) (ts:=#[87,87]) 276 (x:=v) (y:=s6) (tS:=87) (tR:=4) (e:=92) (sz:=3) (ty:=4) (dst:=some 67) K_ K_ K_ K_ Tryz.func276 K_ K_ K_ K_ K_ K_ hov ?_;clear hov;refine Yf P1 [0,1,2,7,8,68] ?_;refine Yc h (λh=> ?_) λh=> ?_
     ·refine Ys ?_;refine zK (id:=15) (ops:=z8m) K_ 8 K_ K_ (λw6 hw=> ?_);replace h:=h w6 hw;clear hw;refine Qn P4 ?_;obtain⟨hc,h⟩:=h;refine zkd (t:=87) (e:=92) (x:=(Operand.tmp 69)) (lo:=(Operand.tmp 72)) (s:=(Slc.mk s.ptr ((i64.wrap (((s.len:Nat):Int)+((v.len:Nat):Int))).toNat) s.cap)) (sz:=3) (k:= .i64) (a:=(i64.wrap (i+((v.len:Nat):Int)))) (ty:=87) (dst:=some 73) K_ K_ K_ K_ K_ hc (λs7 hs=> ?_);replace h:=h s7 hs;clear hs;refine Qn P2 ?_;obtain⟨hc,h⟩:=h;refine zkd (t:=87) (e:=92) (x:=(Operand.tmp 74)) (lo:=(Operand.tmp 75)) (s:=(Slc.mk s.ptr ((i64.wrap (((s.len:Nat):Int)+((v.len:Nat):Int))).toNat) s.cap)) (sz:=3) (k:= .i64) (a:=i) (ty:=87) (dst:=some 76) K_ K_ K_ K_ K_ hc (λs8 hs=> ?_);replace h:=h s8 hs;clear hs;refine zEb K_ ?_;obtain⟨src,hs,h⟩:=h;refine zjd (t:=87) (tx:=87) (e:=92) (a:=(Operand.tmp 73)) (xo:=(Operand.tmp 76)) (d:=s7) (x:=s8) (sz:=3) (ty:=3) (dst:=some 77)  src K_ K_ K_ K_ K_ hs (zRc.mono h (λw7 h=> ?_));refine Yf [] [0,1,2] (Yt (Yn P2 ?_));obtain⟨hc,h⟩:=h;refine zyc (t:=87) (e:=92) (x:=(Operand.tmp 78)) (lo:=(Operand.tmp 79)) (s:=(Slc.mk s.ptr ((i64.wrap (((s.len:Nat):Int)+((v.len:Nat):Int))).toNat) s.cap)) (sz:=3) (k:= .i64) (a:=i) (ty:=87) (dst:=some 80) K_ K_ K_ K_ K_ hc (λs9 hs=> ?_);replace h:=h s9 hs;clear hs;refine Yn P1 ?_;obtain⟨src,hs,h⟩:=h;refine zjd (t:=87) (tx:=87) (e:=92) (a:=(Operand.tmp 80)) (xo:=(Operand.tmp 81)) (d:=s9) (x:=v) (sz:=3) (ty:=3) (dst:=some 82)  src K_ K_ K_ K_ K_ hs (zRc.mono h (λw8 h=> ?_));exact go h [.f 0 [0],.p 2 [6],.y]
     ·refine zA (Yt (Yn P2 ?_));obtain⟨hc,h⟩:=h;refine zyc (t:=87) (e:=92) (x:=(Operand.tmp 84)) (lo:=(Operand.tmp 85)) (s:=(Slc.mk s.ptr ((i64.wrap (((s.len:Nat):Int)+((v.len:Nat):Int))).toNat) s.cap)) (sz:=3) (k:= .i64) (a:=((s.len:Nat):Int)) (ty:=87) (dst:=some 86) K_ K_ K_ K_ K_ hc (λs10 hs=> ?_);replace h:=h s10 hs;clear hs;refine Yn P1 ?_;obtain⟨src,hs,h⟩:=h;refine zjd (t:=87) (tx:=87) (e:=92) (a:=(Operand.tmp 86)) (xo:=(Operand.tmp 87)) (d:=s10) (x:=v) (sz:=3) (ty:=3) (dst:=some 88)  src K_ K_ K_ K_ K_ hs (zRc.mono h (λw9 h=> ?_));exact go h [.f 0 [0,1,7],.t,.n 2,.S,.n 1,.m,.f 0 [0],.p 2 [6],.y]
theorem S_H {s v w R} (h:F_vd s v R w):C_9 s v w R:=Yh Tryz.func273 (go h [.p 1 [0,1],.t,.n 2,.m,.f 2 [4],.y])
theorem S_Y {s v w R} (h:F_7d s v R w):C_yc s v w R:=Yh Tryz.func278 (go h [.p 1 [0,1],.s,.p 3 [0,1,7,8],.d 0,.O1 .i 8 [0,1,7,8],.p 1 [0,1,7,8,9],.s,.c [.k,.s,.d 1,.p 2 [0,1,5,7,8],.t,.n 3,.i,.l,.f 1 [0,1,5,7,8,16],.c [.p 2 [4],.y],.k,.r,.f 2 [0,1,7,8],.x],.e 0,.p 1 [4],.y])
theorem S_ib {d w R} (h:F_0e d R w):C_Ib d w R:=Yh Tryz.func37 (go h [.t,.w,.f 4 [0,2,3,4,5],.s,.p 1 [0,2,3,4,5,13],.d 0,.O [(.i,3),(.i,4),(.b,5),(.i,13)] [0,2,3,4,5,13],.p 1 [0,2,3,4,5,13,14],.s,.c [.k,.C [(.i,3),(.i,4),(.b,5)] [0,2,3,4,5,13] [.d 1,.p 2 [0,2,3,4,5,7,13],.t,.n 2,.m,.f 5 [0,2,3,4,5,7,8,9,13],.s,.p 2 [0,2,3,4,5,7,8,9,13,23],.c [.t,.n 2,.o,.f 4 [2,3,4,5,6],.z],.k,.t,.n 1,.m,.n 4,.w,.o,.f 2 [0,2,3,4,5,7,10,11,12,13],.P 900000000033 [0,2,3,4,5,7,10,11,13,42],.c [.r,.L,.n 3,.o,.f 3 [0,2,3,4,5,13],.x],.k,.x],.r,.f 2 [0,2,3,4,5,13],.x],.e 0,.t,.L,.n 3,.o,.f 4 [2,3,4,5,6],.z])
def zrr:=cb_ Tryz.f58
def zsr:=cr_ zrr
def zYq:=cr_ zsr
def zZq:=cr_ zYq
def z0q:=cr_ zZq
def z1q:=cl_ z0q
def z2q:=cl_ z1q
def z3q:=co_ z2q
def zUe:List Nat:=[0,1,2,3,4,5,6,7,8,9,10,11,12,13]
theorem S_Ab {b_ w R} (h:F_9d b_ R w):C_zc b_ w R:=by
 unfold F_9d at h;refine Yh Tryz.func58 ?_
 ·refine Yt ?_;refine Yw pv_ h λb_1 w1 h=> ?_;refine Yf P2 [0,2,3] (Ys (Yp P3 [0,2,3,10] ?_));refine Yc h (λh=> ?_) λh=> ?_
  ·exact go h [.t,.n 1,.o,.f 2 [2,3,4],.z]
  ·refine zA (Yt (Yn P1 ?_));obtain⟨h0,h1,h⟩:=h;refine zGc (t:=109) (e:=5) (x:=(Operand.tmp 12)) (hi:=(Operand.const (Value.int i64 20))) (p:=b_.ptr) (l:=b_.len) (c:=b_.cap) (sz:=1) (k:= .i64) (j:=20) (ty:=109) (dst:=some 13) K_ K_ K_ K_ K_ h0 h1 ?_;refine zT (op:=(Op.sliceToArrayPointer 237 (Operand.tmp 13))) (ty:=0) (dst:=some 14) (Vp b_.ptr) K_ (λww=>by kernel_rfl) ?_;refine Yv 14 h λhp_1 h=> ?_;obtain⟨v15,hl_v15_0,hc,h⟩:=h;refine z4d (t:=237) (a:=(Operand.tmp 14)) (b:=(pblk b_.ptr)) (o:=(poff b_.ptr)) (ty:=237) (dst:=some 15) (List.map (Value.int .u8) v15) K_ K_ K_ (k:=20) K_ (by simp [hl_v15_0]) hc ?_;refine Yw pv_ h λb_2 w3 h=> ?_;obtain⟨hc,h⟩:=h;refine zxc (t:=237) (a:=(Operand.tmp 5)) (x:=(Operand.tmp 15)) (b:=b_2) (o:=0) (ty:=0) (dst:=none) (List.map (Value.int .u8) v15) K_ K_ K_ (k:=20) K_ (by simp [*]) (by simp [zv,oneCell,bP]) hc (λw4 hw=> ?_);replace h:=h w4 hw;clear hw;refine Yf [] [0,2,3,5] (Ys (Yp P1 [0,2,3,5,6] (Yd 0 ?_)));obtain⟨I,μ,h0,hr⟩:=h;refine zqd (λm l w=>∃(generation:Int) (i:Int),l=[(0,sv_ b_),(2,pv_ b_1),(3,Value.int .u64 generation),(5,pv_ b_2),(6,Vi i)]/\I generation i w/\μ generation i w=m) ⟨0,11,rfl,h0,rfl⟩ ?_;rintro _ _ w5 ⟨generation,i,rfl,hI,rfl⟩;obtain⟨again_,again__h,h⟩:∃ again_:Int->Int->WP,(∀ generation' i' w',again_ generation' i' w'->I generation' i' w'/\μ generation' i' w'<μ generation i w5)/\F_3c b_ R b_1 b_2 again_ generation i w5:=⟨_,λ_ _ _ h=>h,hr generation i w5 hI⟩
   clear h0 hI;unfold F_3c at h;refine Ys (Yp P2 [0,2,3,5,6,17] ?_);refine Yc h (λh=> ?_) λh=> ?_
   ·refine zA (Ys (Yd 1 (Yr (Yn P3 ?_))));obtain⟨h0,h1,h⟩:=h;refine zmb (t:=237) (e:=5) (x:=(Operand.tmp 5)) (ix:=(Operand.tmp 22)) (b:=b_2) (o:=0) (len:=20) (k:= .i64) (j:=i) (ty:=0) (dst:=some 23) K_ K_ K_ K_ K_ h0 h1 ?_;refine Yl h λv24 h=> ?_;refine Yf P3 [0,2,3,5,6] (Yr (Yf P3 [0,2,3,5,6] ?_));have hb_:=again__h _ _ _ h;exact⟨_,hb_.2,_,Sub.mk K_,(bor .u64 (u64.wrap (generation*2 ^ 8)) (u64.wrap v24)),(i64.wrap (i - 1)),rfl,hb_.1,rfl⟩
   ·refine z4g 0 (Ys ?_);refine Ycut (λl w=>∃(t40:Bool),l=[(0,sv_ b_),(2,pv_ b_1),(3,Value.int .u64 generation),(40,Vo t40)]/\F_qb b_ R b_1 generation t40 w) ?_ ?_
    ·refine zx (id:=8) (ops:=z3q) zUe K_ K_ K_ K_ (λw11 hw=> ?_);replace h:=h w11 hw;clear hw;refine Mn [.plain,.plain,.plain,.plain,.plain,.pick,.plain] ?_;refine Mspl 33 h (λh=> ?_) λh=> ?_
     ·refine Mf [.skip,.skip,.skip,.skip,.skip,.skip,.plain] [0,2,3,40] ?_;exact⟨_,Sub.mk K_,true,rfl,h⟩
     ·obtain⟨v34,hl_v34_0,hc,h⟩:=h;refine zmg (i:=7) K_ (t:=237) (a:=(Operand.tmp 5)) (b:=b_2) (o:=0) (ty:=237) (dst:=some 34) (List.map (Value.int .u8) v34) K_ K_ K_ (k:=20) K_ (by simp [hl_v34_0]) hc ?_;refine Mn [.sure,.sure] ?_;obtain⟨hc,h⟩:=h;refine zGj (i:=10) K_ (t:=109) (e:=5) (x:=(Operand.tmp 36)) (lo:=(Operand.const (Value.int i64 20))) (s:=b_) (sz:=1) (k:= .i64) (a:=20) (ty:=109) (dst:=some 37) K_ K_ K_ K_ K_ hc (λs1 hs=> ?_);replace h:=h s1 hs;clear hs;refine zF (op:=(Op.call (Call.mk (Callee.value (Operand.func 95)) #[(Operand.tmp 35),(Operand.tmp 37)] #[160,109]))) (ty:=237) (dst:=some 38) 11 [6,8,10,2,5,9,1,4,0,3] [(7,λw'=>zf w' b_2 0 (List.map (Value.int .u8) v34))] 95 #[Value.int .u64 generation,sv_ s1] K_ K_ K_ K_ K_ (λww=>by kernel_rfl) (Calls.mono h ?_);rintro _ w12 ⟨v38,hl_v38_0,rfl,h⟩;replace h:=h hl_v38_0;obtain⟨hk0,h⟩:=h;refine⟨_,rfl,⟨hk0,trivial⟩,?_⟩;refine z4i (i:=12) K_ (op:=(Op.binOp BinOp.neq 237 (Operand.tmp 34) (Operand.tmp 38) 237)) (ty:=4) (dst:=some 39) (Vo (!(v34==v38))) K_ (λww=>zBi (N:=20) (xs:=v34) (ys:=v38) (k:= .u8) K_ K_ K_ (by first | assumption | simp) (by first | assumption | simp) K_ ww) ?_;refine Mf P1 [0,2,3,40] ?_;exact⟨_,Sub.mk K_,(!(v34==v38)),rfl,h⟩
    ·rintro _ w6 ⟨t40,rfl,h⟩;exact go h [.c [.t,.n 1,.o,.f 2 [2,3,4],.z],.k,.t,.n 1,.S,.m,.n 3,.o,.f 1 [2,3,7],.t,.L,.n 3,.o,.f 2 [2,3,4],.z]
theorem S_1b {s w R} (h:F_6e s R w):C_rb s w R:=Yh Tryz.func71 (go h [.p 1 [0],.s,.C1 .b 12 [0,12] [.r,.n 1,.E,.n 2,.b 6 [.F 911110 [0,12],.x],.v 7,.N 92,.N 92,.l,.g,.f 1 [0,12],.x],.c [.p 1 [2],.y],.k,.t,.n 1,.v 13,.n 1,.n 1,.l,.f 5 [0,3],.C1 .i 3 [3] [.t,.n 1,.v 21,.n 1,.n 1,.l,.f 1 [3,25],.c [.r,.f 3 [3],.x],.k,.x],.p 2 [2],.y])
def ztr:=cb_ Tryz.f95
def zur:=cr_ ztr
def zvr:=cr_ zur
def zwr:=cr_ zvr
def z4q:=cr_ zwr
def z5q:=cl_ z4q
def z6q:=co_ z5q
def zve:List Nat:=[0,1,2,3,4]
theorem S_5c {generation x w R} (h:F_1e generation x R w):C_dc generation x w R:=by
 unfold F_1e at h;refine Yh Tryz.func95 ?_
 ·refine Yt ?_;refine Yw pv_ h λb_ w1 h=> ?_;refine Yf [] [0,1,4] (Yt ?_);refine zT (op:=(Op.slice 237 (Operand.tmp 4) (some (Operand.const (Value.int i64 0))) (some (Operand.const (Value.int i64 4))) none)) (ty:=109) (dst:=some 5) (Value.slice (Z0 b_) 4 20) K_ (λww=>by kernel_rfl) ?_;refine Ym0 h λw2 h=> ?_;refine Yf [] [0,1,4] (Yt ?_);refine zT (op:=(Op.slice 237 (Operand.tmp 4) (some (Operand.const (Value.int i64 4))) (some (Operand.const (Value.int i64 12))) none)) (ty:=109) (dst:=some 7) (Value.slice (some ⟨b_,4,none⟩) 8 16) K_ (λww=>by kernel_rfl) ?_;refine Yn P1 ?_;refine Ym0 h λw3 h=> ?_;refine Yf [] [1,4] (Yt ?_);refine zT (op:=(Op.slice 237 (Operand.tmp 4) (some (Operand.const (Value.int i64 12))) (some (Operand.const (Value.int i64 16))) none)) (ty:=109) (dst:=some 10) (Value.slice (some ⟨b_,12,none⟩) 4 8) K_ (λww=>by kernel_rfl) ?_;refine Yn P4 ?_;refine Ym0 h λw4 h=> ?_;refine Yf [] [1,4] (Ys ?_);refine zx (id:=4) (ops:=z6q) zve K_ K_ K_ K_ (λw5 hw=> ?_);replace h:=h w5 hw;clear hw;refine z4i (i:=0) K_ (op:=(Op.slice 237 (Operand.tmp 4) (some (Operand.const (Value.int i64 16))) (some (Operand.const (Value.int i64 20))) none)) (ty:=109) (dst:=some 16) (Value.slice (some ⟨b_,16,none⟩) 4 4) K_ (λww=>by kernel_rfl) ?_;refine Mn P1 ?_;refine zF (op:=(Op.call (Call.mk (Callee.value (Operand.func 116)) #[(Operand.tmp 4),(Operand.tmp 17)] #[237,109]))) (ty:=233) (dst:=some 18) 2 [1] [] 116 #[pv_ b_,sv_ x] K_ K_ K_ K_ K_ (λww=>by kernel_rfl) (Calls.mono h ?_);rintro _ w6 ⟨v18,rfl,h⟩;refine⟨_,rfl,trivial,?_⟩;refine Mn P1 ?_;refine zF (op:=(Op.call (Call.mk (Callee.value (Operand.func 115)) #[(Operand.tmp 16),(Operand.tmp 19)] #[109,160]))) (ty:=0) (dst:=some 20) 4 [0,2,3,1] [] 115 #[Value.slice (some ⟨b_,16,none⟩) 4 4,Value.int .u64 (u64.wrap v18)] K_ K_ K_ K_ K_ (λww=>by kernel_rfl) (Calls.mono h ?_);rintro _ w7 ⟨rfl,h⟩;refine⟨_,rfl,trivial,?_⟩;refine Mf [] [4] ?_;refine Yt ?_;obtain⟨v21,hl_v21_0,hc,h⟩:=h;refine z4d (t:=237) (a:=(Operand.tmp 4)) (b:=b_) (o:=0) (ty:=237) (dst:=some 21) (List.map (Value.int .u8) v21) K_ K_ K_ (k:=20) K_ (by simp [hl_v21_0]) hc ?_;obtain⟨hc,h⟩:=h;refine zxc (t:=237) (a:=(Operand.tmp 4)) (x:=(Operand.tmp 21)) (b:=b_) (o:=0) (ty:=0) (dst:=none) (List.map (Value.int .u8) v21) K_ K_ K_ (k:=20) K_ (by simp [*]) (by simp [zv,oneCell,bP]) hc (λw8 hw=> ?_);replace h:=h w8 hw;clear hw;refine Yf [] [4] ?_;obtain⟨res,hl_res_0,hc_res,h⟩:=h;exact YSg (rs:=[(ResultVar.cell 4 237)]) (v:=Value.agg (List.map (Value.int .u8) res).toArray) (⟨b_,0,(List.map (Value.int .u8) res),K_,hc_res,(z2i (k:=20) K_ (by simp [hl_res_0])),.inl ⟨K_,rfl⟩,trivial⟩) ⟨res,(by simp [*]),rfl,h⟩
theorem S_nd {b_ n_ w R} (h:F_Ng b_ n_ R w):C_Xb b_ n_ w R:=Yh Tryz.func115 (go h [.p 3 [0,1,6,7],.d 0,.O1 .i 7 [0,1,6,7],.p 1 [0,1,6,7,8],.s,.c [.k,.s,.d 1,.p 2 [0,1,4,6,7],.r,.n 5,.h,.n 1,.i,.o,.f 0 [0,1,6,7],.r,.f 2 [0,1,6,7],.x],.e 0,.y])
theorem S_Mc {h_ x w R} (h:F_Pf h_ x R w):C_jd h_ x w R:=Yh Tryz.func116 (go h [.p 1 [0,1],.t,.n 1,.v 5,.n 1,.X,.m,.n 1,.m,.f 1 [4],.y])
def z7q:=cb_ Tryz.f185
def z8q:=cr_ z7q
def zZo:=cr_ z8q
def z0o:=cl_ zZo
def z1o:=co_ z0o
theorem S_2b {s w R} (h:F_Cd s R w):C_ac s w R:=by
 unfold F_Cd at h;refine Yh Tryz.func185 ?_
 ·refine Yp P1 [0] (Ys (Yd 0 ?_));refine Ycut (λl w=>∃(t6:Bool),l=[(0,Vp s),(6,Vo t6)]/\F_I s R t6 w) ?_ ?_
  ·refine Yr (Yn P1 ?_);refine zT (op:=(Op.binOp BinOp.eql 100 (Operand.tmp 7) (Operand.const (Vp none)) 100)) (ty:=4) (dst:=some 8) (Vo s.isNone) K_ (λww=>zeb (p:=s) K_ K_ K_ ww) ?_;refine Yn P2 ?_;refine Yspl 9 h (λh=> ?_) λh=> ?_
   ·refine Yf [.skip,.skip,.skip,.skip,.plain,.plain] [0,6] ?_;exact⟨_,Sub.mk K_,true,rfl,h⟩
   ·refine Yv 10 h λhp_45 h=> ?_;refine Yn [.sure] (Yn [.sure] ?_);refine Yl h λv13 h=> ?_;obtain⟨hi_,h⟩:=h;refine zT (op:=(Op.binOp BinOp.eql 251 (Operand.tmp 13) (Operand.const Value.nilFunc) 251)) (ty:=4) (dst:=some 14) (Vo (zLd v13)) K_ (λww=>zIe (p:=v13) K_ hi_ K_ ww) ?_;refine Yf P2 [0,6] ?_;exact⟨_,Sub.mk K_,(zLd v13),rfl,h⟩
  ·rintro _ w1 ⟨t6,rfl,h⟩;unfold F_I at h;refine Yc h (λh=> ?_) λh=> ?_
   ·exact go h [.p 1 [2],.y]
   ·refine Yt (Yn P1 ?_);refine Yv 17 h λhp_14 h=> ?_;refine Yn P1 (Yn P1 ?_);refine Yl h λv20 h=> ?_;refine Yf P2 [0,16] ?_;refine Yc h (λh=> ?_) λh=> ?_
    ·exact go h [.s,.Q 8,.n 1,.v 22,.n 1,.n 1,.l,.n 1,.v 26,.n 1,.n 1,.l,.T,.Y,.f 1 [0,3],.t,.n 3,.v 31,.n 1,.n 1,.o,.f 0 [3],.p 2 [2],.y]
    ·refine Yt (Yn P1 ?_);refine Yv 38 h λhp_22 h=> ?_;refine Yn P1 (Yn P1 ?_);refine Yl h λv41 h=> ?_;refine Yf P3 [0,37] ?_;refine Yc h (λh=> ?_) λh=> ?_
     ·exact go h [.p 1 [2],.y]
     ·refine zA (Ys ?_);refine zZ (id:=9) (ops:=z1o) K_ K_ K_ ?_;refine Qn P1 ?_;refine Qv 44 h λhp_25 h=> ?_;refine Qn P1 ?_;refine Qn P1 ?_;refine Ql h λv47 h=> ?_;refine Qn P1 ?_;refine Qv 48 h λhp_26 h=> ?_;refine Qn P1 ?_;refine Qn P1 ?_;refine Ql h λv51 h=> ?_;refine Qn P2 ?_;obtain⟨h0,h1,h⟩:=h;refine zAh (t:=109) (e:=5) (x:=(Operand.tmp 47)) (hi:=(Operand.tmp 53)) (p:=v47.ptr) (l:=v47.len) (c:=v47.cap) (sz:=1) (k:= .i64) (j:=(if 64<((v51.len:Nat):Int) then 64 else((v51.len:Nat):Int))) (ty:=109) (dst:=some 54) K_ K_ K_ K_ K_ h0 h1 ?_;exact go h [.f 1 [0,4],.s,.s,.Q 13,.n 1,.v 55,.n 1,.n 1,.l,.n 1,.v 59,.n 1,.n 1,.l,.n 1,.v 63,.n 1,.n 1,.l,.n 1,.T,.Y,.f 1 [0,4,5],.p 2 [0,4,5,70],.c [.p 2 [2],.y],.k,.t,.n 2,.v 73,.n 1,.n 1,.l,.n 2,.S,.v 72,.n 1,.n 1,.o,.f 0 [0,4],.t,.n 1,.v 82,.n 1,.n 1,.l,.n 5,.o,.f 0 [],.p 1 [2],.y]
theorem S_od {d s w R} (h:F_ng d s R w):C_sd d s w R:=by
 unfold F_ng at h;refine Yh Tryz.func240 ?_
 ·refine Yt ?_;refine Yw pv_ h λb_ w1 h=> ?_;refine Yf P2 [0,3] (Yt (Yn P1 ?_));refine zvc (op:=(Op.call (Call.mk (Callee.value (Operand.func 37)) #[(Operand.tmp 14)] #[29]))) (ty:=120) (dst:=some 15) 37 #[Vp d] K_ (λww=>by kernel_rfl) (Calls.mono h ?_);rintro _ w2 ⟨v15,generation,slot,ok,e,rfl,h⟩;refine⟨_,rfl,?_⟩;refine Yn (Pl 6) ?_;refine Yw pv_ h λb_1 w3 h=> ?_;refine Yo h λw4 h=> ?_;refine Yf P4 [0,3,7,8,9,10] (Ys (Yp P2 [0,3,7,8,9,10,22] ?_));refine Yc h (λh=> ?_) λh=> ?_
  ·exact go h [.p 3 [4,5],.y]
  ·refine zA (Yt ?_);refine YL h λv25 h=> ?_;refine Ym2 h λx e1 w5 h=> ?_;refine Yf (Pl 5) [0,7,8,9,10,11] (Ys (Yp P2 [0,7,8,9,10,11,30] ?_));refine Yc h (λh=> ?_) λh=> ?_
   ·exact go h [.p 3 [4,5],.y]
   ·refine zA ?_;refine Ycut (λl w=>∃(slot1:Int),l=[(0,Vp d),(7,Vi generation),(8,Vi slot1),(11,sv_ x)]/\F_jc d R generation x slot1 w) ?_ ?_
    ·refine Yp P1 [0,7,8,11,32] ?_;refine Yc h (λh=> ?_) λh=> ?_
     ·refine Yr (Yf P3 [0,7,8,11] ?_);exact⟨_,Sub.mk K_,(i64.wrap (1 - slot)),rfl,h⟩
     ·refine zA ?_;exact⟨_,Sub.mk K_,slot,rfl,h⟩
    ·rintro _ w6 ⟨slot1,rfl,h⟩;unfold F_jc at h;refine Ys (Yp P2 [0,7,8,11,36] ?_);refine Yc h (λh=> ?_) λh=> ?_
     ·exact go h [.p 2 [4,5],.y]
     ·refine zA (Yt (Yn P4 ?_));refine zvc (op:=(Op.call (Call.mk (Callee.value (Operand.func 95)) #[(Operand.tmp 39),(Operand.tmp 40)] #[160,109]))) (ty:=237) (dst:=some 41) 95 #[Value.int .u64 (u64.wrap ((u64.wrap generation)+1)),sv_ x] K_ (λww=>by kernel_rfl) (Calls.mono h ?_);rintro _ w7 ⟨v41,hl_v41_0,rfl,h⟩;refine⟨_,rfl,?_⟩;replace h:=h hl_v41_0;refine Yw pv_ h λb_2 w8 h=> ?_;obtain⟨hc,h⟩:=h;refine zxc (t:=237) (a:=(Operand.tmp 12)) (x:=(Operand.tmp 41)) (b:=b_2) (o:=0) (ty:=0) (dst:=none) (List.map (Value.int .u8) v41) K_ K_ K_ (k:=20) K_ (by simp [*]) (by simp [zv,oneCell,bP]) hc (λw9 hw=> ?_);replace h:=h w9 hw;clear hw;exact go h [.f 0 [0,8,11,12],.s,.t,.n 3,.m,.f 2 [0,8,11,12,47],.c [.p 2 [4,5],.y],.k,.t,.n 5,.X,.n 1,.A,.n 1,.w,.f 2 [4,5],.y]
theorem S_8c {n_ f w R} (h:F_Gg n_ f R w):C_Cd n_ f w R:=Yh Tryz.func274 (go h [.p 1 [0,1],.p 3 [1,5,6],.s,.d 0,.O2 .i 5 .i 6 [1,5,6],.s,.p 3 [1,5,6,11],.c [.k,.d 1,.p 7 [1,5,6,7],.t,.n 2,.Y,.f 1 [1,5,6,7,21],.c [.r,.f 3 [1,5,6],.x],.r,.f 2 [1,5,6],.x],.e 0,.p 2 [4],.y])
theorem S_qd {key w R} (h:F_ug key R w):C_zd key w R:=by
 unfold F_ug at h;refine Yh Tryz.func98 ?_
 ·refine Yp P1 [0] (Yp P1 [0,3] (Ys (Yp P3 [0,3,6,7] (Yd 0 ?_))));obtain⟨I,μ,h0,hr⟩:=h;refine zqd (λm l w=>∃(h_:Int) (t7:Int),l=[(0,Vt key),(3,Value.int .u32 h_),(6,Vi ((key.size:Nat):Int)),(7,Vi t7)]/\I h_ t7 w/\μ h_ t7 w=m) ⟨2166136261,0,rfl,h0,rfl⟩ ?_;rintro _ _ w1 ⟨h_,t7,rfl,hI,rfl⟩;obtain⟨again_,again__h,h⟩:∃ again_:Int->Int->WP,(∀ h_' t7' w',again_ h_' t7' w'->I h_' t7' w'/\μ h_' t7' w'<μ h_ t7 w1)/\F_ae key R again_ h_ t7 w1:=⟨_,λ_ _ _ h=>h,hr h_ t7 w1 hI⟩
  clear h0 hI;unfold F_ae at h;refine Yp P1 [0,3,6,7,8] (Ys ?_);refine Yc h (λh=> ?_) λh=> ?_
  ·refine zA (Ys (Yd 1 (Yp P2 [0,3,4,6,7] (Yt (Yn P3 ?_)))));obtain⟨h0,h1,h⟩:=h;refine zyh (t:=9) (x:=(Operand.tmp 11)) (ix:=(Operand.tmp 12)) (s:=key) (k:= .i64) (j:=t7) (ty:=5) (dst:=some 13) K_ K_ K_ K_ h0 h1 ?_;refine Yf P3 [0,3,6,7] (Yr (Yf P3 [0,3,6,7] (Yr (Yf P2 [0,3,6,7] ?_))));have hb_:=again__h _ _ _ h;exact⟨_,hb_.2,_,Sub.mk K_,(u32.wrap ((bxor .u32 h_ (u32.wrap (zCe key t7)))*16777619)),(i64.wrap (t7+1)),rfl,hb_.1,rfl⟩
  ·exact go h [.e 0,.p 2 [2],.y]
theorem S_rd {sum b_ w R} (h:F_vg sum b_ R w):C_gd sum b_ w R:=by
 unfold F_vg at h;refine Yh Tryz.func141 ?_
 ·refine Yp P1 [0,1] (Yt ?_);refine zvc (op:=(Op.call (Call.mk (Callee.value (Operand.func 155)) #[] #[]))) (ty:=296) (dst:=some 9) 155 #[] K_ (λww=>by kernel_rfl) (Calls.mono h ?_);rintro _ w1 ⟨v9,hl_v9_0,rfl,h⟩;refine⟨_,rfl,?_⟩;replace h:=h hl_v9_0;refine Yw pv_ h λb_1 w2 h=> ?_;obtain⟨hc,h⟩:=h;refine zxc (t:=296) (a:=(Operand.tmp 5)) (x:=(Operand.tmp 9)) (b:=b_1) (o:=0) (ty:=0) (dst:=none) (List.map (Value.int .u32) v9) K_ K_ K_ (k:=256) K_ (by simp [*]) (by simp [zv,oneCell,bP]) hc (λw3 hw=> ?_);replace h:=h w3 hw;clear hw;exact go h [.f 0 [0,1,5],.p 3 [1,5,6],.s,.p 3 [5,6,12,13,14],.d 0,.O2 .a 6 .i 14 [5,6,12,13,14],.p 1 [5,6,12,13,14,15],.s,.c [.k,.s,.d 1,.t,.i,.l,.n 1,.f 0 [5,6,8,12,13,14],.r,.n 4,.I,.l,.f 4 [5,6,12,13,14],.r,.f 2 [5,6,12,13,14],.x],.e 0,.p 3 [4],.y]
theorem S_zd {b_ w R} (h:F_Yg b_ R w):C_Fd b_ w R:=Yh Tryz.func142 (go h [.p 1 [0],.t,.n 1,.m,.f 1 [2],.y])
theorem S_kd {w R} (h:F_mg R w):C_rd w R:=by
 unfold F_mg at h;refine Yh Tryz.func155 ?_
 ·refine Yt ?_;refine Yw pv_ h λb_ w1 h=> ?_;refine Yf [] [0] (Yt ?_);refine Yw pv_ h λb_1 w2 h=> ?_;refine Yf [] [0,1] (Ys (Yp P1 [0,1,4] (Yd 0 ?_)));obtain⟨I,μ,h0,hr⟩:=h;refine zqd (λm l w=>∃(t4:Int),l=[(0,pv_ b_),(1,pv_ b_1),(4,Vi t4)]/\I t4 w/\μ t4 w=m) ⟨0,rfl,h0,rfl⟩ ?_;rintro _ _ w3 ⟨t4,rfl,hI,rfl⟩;obtain⟨again_,again__h,h⟩:∃ again_:Int->WP,(∀ t4' w',again_ t4' w'->I t4' w'/\μ t4' w'<μ t4 w3)/\F_Id R b_ b_1 again_ t4 w3:=⟨_,λ_ _ h=>h,hr t4 w3 hI⟩
  clear h0 hI;unfold F_Id at h;refine Yp P1 [0,1,4,5] (Ys ?_);refine Yc h (λh=> ?_) λh=> ?_
  ·refine zA (Ys (Yd 1 (Yp P2 [0,1,2,4] (Yp P3 [0,1,2,3,4] (Ys (Yp P1 [0,1,2,3,4,9] (Yd 2 ?_)))))));obtain⟨I,μ,h0,hr⟩:=h;refine zqd (λm l w=>∃(c:Int) (t9:Int),l=[(0,pv_ b_),(1,pv_ b_1),(2,Vi t4),(3,Value.int .u32 c),(4,Vi t4),(9,Vi t9)]/\I c t9 w/\μ c t9 w=m) ⟨(u32.wrap t4),0,rfl,h0,rfl⟩ ?_;rintro _ _ w4 ⟨c,t9,rfl,hI,rfl⟩;obtain⟨again_1,again_1_h,h⟩:∃ again_1:Int->Int->WP,(∀ c' t9' w',again_1 c' t9' w'->I c' t9' w'/\μ c' t9' w'<μ c t9 w4)/\F_Hd b_1 t4 again_ again_1 c t9 w4:=⟨_,λ_ _ _ h=>h,hr c t9 w4 hI⟩
   clear h0 hI;unfold F_Hd at h;refine Yp P1 [0,1,2,3,4,9,10] (Ys ?_);refine Yc h (λh=> ?_) λh=> ?_
   ·refine zA (Ys (Yd 3 (Yr (Yf (Pl 8) [0,1,2,3,4,9] (Yr (Yf P2 [0,1,2,3,4,9] ?_))))));have hb_:=again_1_h _ _ _ h;exact⟨_,hb_.2,_,Sub.mk K_,(bxor .u32 (Int.fdiv c (2 ^ 1)) (band .u32 2197175160 (u32.wrap (0 - (band .u32 c 1))))),(i64.wrap (t9+1)),rfl,hb_.1,rfl⟩
   ·refine z4g 2 (Yr (Yn P2 ?_));obtain⟨h0,h1,h⟩:=h;refine zmb (t:=296) (e:=233) (x:=(Operand.tmp 1)) (ix:=(Operand.tmp 19)) (b:=b_1) (o:=0) (len:=256) (k:= .i64) (j:=t4) (ty:=0) (dst:=some 21) K_ K_ K_ K_ K_ h0 h1 ?_;refine Yo h λw5 h=> ?_;refine Yf [] [0,1,4] (Yr (Yf P2 [0,1,4] ?_));have hb_:=again__h _ _ h;exact⟨_,hb_.2,_,Sub.mk K_,(i64.wrap (t4+1)),rfl,hb_.1,rfl⟩
  ·refine z4g 0 (Yt ?_);obtain⟨v23,hl_v23_0,hc,h⟩:=h;refine z4d (t:=296) (a:=(Operand.tmp 1)) (b:=b_1) (o:=0) (ty:=296) (dst:=some 23) (List.map (Value.int .u32) v23) K_ K_ K_ (k:=256) K_ (by simp [hl_v23_0]) hc ?_;obtain⟨hc,h⟩:=h;refine zxc (t:=296) (a:=(Operand.tmp 0)) (x:=(Operand.tmp 23)) (b:=b_) (o:=0) (ty:=0) (dst:=none) (List.map (Value.int .u32) v23) K_ K_ K_ (k:=256) K_ (by simp [*]) (by simp [zv,oneCell,bP]) hc (λw6 hw=> ?_);replace h:=h w6 hw;clear hw;refine Yf [] [0] ?_;obtain⟨res,hl_res_0,hc_res,h⟩:=h;exact YSg (rs:=[(ResultVar.cell 0 296)]) (v:=Value.agg (List.map (Value.int .u32) res).toArray) (⟨b_,0,(List.map (Value.int .u32) res),K_,hc_res,(z2i (k:=256) K_ (by simp [hl_res_0])),.inl ⟨K_,rfl⟩,trivial⟩) ⟨res,(by simp [*]),rfl,h⟩
theorem S_yb {w_ w R} (h:F_se w_ R w):C_3 w_ w R:=Yh Tryz.func5 (go h [.t,.w,.f 2 [1],.t,.n 1,.l,.m,.f 5 [1,4,5],.t,.n 1,.l,.m,.f 5 [1,4,5,6,7],.s,.P 9000003 [1,4,6,27],.c [.p 2 [2,3],.y],.k,.t,.n 1,.L,.n 2,.m,.f 5 [1,4,8,9],.s,.p 2 [1,4,8,37],.c [.p 2 [2,3],.y],.k,.t,.n 2,.l,.m,.f 0 [4,8],.p 4 [2,3],.y])
theorem S_zb {w R} (h:F_1c R w):C_x w R:=by
 unfold F_1c at h;refine Yh Tryz.func6 ?_
 ·refine Yp P1 [] (Yt (Yn P1 ?_));refine Yw (sl_ 1 1) h λb_ w1 h=> ?_;refine Yn P1 ?_;refine Yw pv_ h λb_1 w2 h=> ?_;refine Yo h λw3 h=> ?_;refine Yf [] [1] (Yt (Yn P1 ?_));refine Yw (sl_ 1 1) h λb_2 w4 h=> ?_;refine Yn P1 ?_;refine Yw pv_ h λb_3 w5 h=> ?_;refine Yo h λw6 h=> ?_;refine Yf [] [1,2] (Yt (Yn P1 ?_));refine YL h λv17 h=> ?_;refine YL h λv18 h=> ?_;refine Yw (sl_ 2 2) h λb_4 w7 h=> ?_;refine Yn P1 ?_;refine Ym2 h λr v21_1 w8 h=> ?_;refine Yf (Pl 5) [3] (Ys (Yt (Yn P1 ?_)));refine zT (op:=(Op.binOp BinOp.eql 28 (Operand.tmp 24) (Operand.const (Vp none)) 28)) (ty:=4) (dst:=some 25) (Vo r.isNone) K_ (λww=>zeb (p:=r) K_ K_ K_ ww) ?_;refine Yf [] [3,25] ?_;refine Yc h (λh=> ?_) λh=> ?_
  ·exact go h [.p 1 [0],.y]
  ·refine zA (Yp P1 [3,5] ?_);refine Ycut (λl w=>∃(n_:Int),l=[(3,Vp r),(5,Vi n_)]/\F_D R r n_ w) ?_ ?_
   ·refine Yd 0 ?_;obtain⟨I,μ,h0,hr⟩:=h;refine zqd (λm l w=>∃(n_1:Int),l=[(3,Vp r),(5,Vi n_1)]/\I n_1 w/\μ n_1 w=m) ⟨0,rfl,h0,rfl⟩ ?_;rintro _ _ w11 ⟨n_1,rfl,hI,rfl⟩;obtain⟨again_,again__h,h⟩:∃ again_:Int->WP,(∀ n_1' w',again_ n_1' w'->I n_1' w'/\μ n_1' w'<μ n_1 w11)/\F_eb R r again_ n_1 w11:=⟨_,λ_ _ h=>h,hr n_1 w11 hI⟩
    clear h0 hI;unfold F_eb at h;refine Ys (Yp P2 [3,5,27] ?_);refine Yc h (λh=> ?_) λh=> ?_
    ·refine zA (Ys (Yd 1 (Yt (Yn P1 ?_))));refine Ym2 h λv32 e w12 h=> ?_;refine Yn P3 ?_;refine Yw pv_ h λb_5 w13 h=> ?_;refine Yo h λw14 h=> ?_;refine Yf P1 [3,5,7] (Yp P2 [3,5,36] ?_);refine Yc h (λh=> ?_) λh=> ?_
     ·refine z4g 0 ?_;exact⟨_,Sub.mk K_,n_1,rfl,h⟩
     ·refine zA (Yr (Yf P3 [3,5] ?_));have hb_:=again__h _ _ h;exact⟨_,hb_.2,_,Sub.mk K_,(i64.wrap (n_1+1)),rfl,hb_.1,rfl⟩
    ·refine z4g 0 ?_;exact⟨_,Sub.mk K_,n_1,rfl,h⟩
   ·rintro _ w9 ⟨n_,rfl,h⟩;unfold F_D at h;refine Yt (Yn P1 ?_);refine Ym1 h λv38 w10 h=> ?_;refine Yf P1 [5,8] (Yt (Yn [.plain,.plain,.plain,.plain,.plain,.plain,.pick,.plain,.plain] ?_));refine Yspl 46 h (λh=> ?_) λh=> ?_
    ·obtain⟨hp_0,h⟩:=h;refine Yu 47 (λpp=> .slice pp v38.len v38.cap) hp_0 ?_;refine Yi h λh=> ?_;refine YL h λv49 h=> ?_;refine Yn [.sure] ?_;refine zT (op:=(Op.binOp BinOp.eql 74 (Operand.tmp 49) (Operand.tmp 50) 74)) (ty:=4) (dst:=some 51) (Vo ((v49.Key==(ByteArray.mk #[97]))&&(v49.Val==(ByteArray.mk #[50])))) K_ (λww=>zDd (xs:=[Vt v49.Key,Vt v49.Val]) (ys:=[Vt (ByteArray.mk #[97]),Vt (ByteArray.mk #[50])]) K_ K_ K_ K_ K_ ww) ?_;exact go h [.f 2 [0],.y]
    ·exact go h [.F 9111100 [0],.y]
theorem S_pc {l_ at_ w R} (h:F_mf l_ at_ R w):C_fc l_ at_ w R:=Yh Tryz.func8 (go h [.p 1 [0,1],.s,.p 4 [0,1,8],.c [.t,.n 2,.i,.l,.f 1 [4],.y],.k,.p 2 [4],.y])
theorem S_3b {mark marks open_ w R} (h:F_3e mark marks open_ R w):C_2b mark marks open_ w R:=Yh Tryz.func15 (go h [.p 1 [0,1,2],.p 2 [1,2,7],.s,.p 1 [1,2,7,8],.d 0,.O2 .i 7 .i 8 [1,2,7,8],.s,.p 4 [1,2,7,8,13],.c [.k,.C1 .i 7 [1,2,7,8] [.d 1,.C1 .b 27 [1,2,7,8,27] [.r,.n 2,.i,.l,.n 3,.b 20 [.i,.l,.F 9220 [1,2,7,8,27],.x],.F 911110 [1,2,7,8,27],.x],.c [.r,.n 2,.i,.l,.f 1 [1,2,7,8],.x],.k,.x],.r,.f 3 [1,2,7,8],.x],.e 0,.p 2 [6],.y])
theorem S_Nc {l_ mark w R} (h:F_Cf l_ mark R w):C_Bc l_ mark w R:=Yh Tryz.func16 (go h [.p 1 [0,1],.s,.p 1 [0,1,5],.d 0,.O1 .i 5 [0,1,5],.s,.p 4 [0,1,5,11],.c [.k,.s,.d 1,.p 1 [0,1,5,6],.s,.p 1 [0,1,5,6,7],.d 2,.O2 .i 6 .i 7 [0,1,5,6,7],.s,.t,.n 3,.i,.n 1,.l,.f 2 [0,1,5,6,7,21],.c [.k,.C1 .i 6 [0,1,5,6,7] [.d 3,.t,.n 2,.i,.n 1,.l,.n 1,.i,.n 1,.l,.f 2 [0,1,5,6,7,34],.c [.r,.f 3 [0,1,5,6,7],.x],.k,.x],.r,.f 3 [0,1,5,6,7],.x],.e 2,.p 2 [0,1,5,38],.c [.p 1 [4],.y],.k,.r,.f 3 [0,1,5],.x],.e 0,.p 1 [4],.y])
end
end Go.Proofs.YtofjmclceflgiaaGreat
