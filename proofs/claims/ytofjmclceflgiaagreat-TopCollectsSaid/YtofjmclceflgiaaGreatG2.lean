/-
  A part of the proof of TopCollects.
  Conditions: none.
-/
import Derived.Test.YtofjmclceflgiaaGreatRows
import Derived.Test.YtofjmclceflgiaaGreatGF
namespace Go.Proofs.YtofjmclceflgiaaGreat
open Go
open Go.IntKind (i64 u64 u32 u8)
set_option linter.unusedVariables false
set_option maxRecDepth 100000
set_option maxHeartbeats 4000000
noncomputable section
theorem S_pd {s mark beyond window w R} (h:F_tg s mark beyond window R w):C_wd s mark beyond window w R:=by
 unfold F_tg at h;refine Yh Tryz.func39 ?_
 ·refine Yp P2 [0,1,2,3] (Ys (Yt (Yn P1 ?_)));refine zT (op:=(Op.binOp BinOp.eql 62 (Operand.tmp 14) (Operand.const (Vp none)) 62)) (ty:=4) (dst:=some 15) (Vo s.isNone) K_ (λww=>zeb (p:=s) K_ K_ K_ ww) ?_;refine Yf [] [0,1,2,3,15] ?_;refine Yc h (λh=> ?_) λh=> ?_
  ·exact go h [.p 2 [8,9],.y]
  ·refine zA (Ys (Yp [.plain,.plain,.plain,.plain,.plain,.pick,.plain,.plain,.plain,.pick] [0,1,2,3,25] ?_));refine Yc h (λh=> ?_) λh=> ?_
   ·exact go h [.p 2 [8,9],.y]
   ·refine zA (Yt (Yn P2 ?_));refine Yw (λbb=>Value.map (some bb)) h λb_ w1 h=> ?_;refine Yf P1 [0,1,2,3,10] (Yp P2 [0,1,2,3,10,11] (Ys (Yp P3 [0,1,3,10,11,30,31,32] (Yd 0 ?_))));obtain⟨I,μ,h0,hr⟩:=h;refine zqd (λm l w=>∃(last:Int) (t32:Int),l=[(0,Vp s),(1,Vi mark),(3,Vi window),(10,Value.map (some b_)),(11,Vi last),(30,sv_ beyond),(31,Vi ((beyond.len:Nat):Int)),(32,Vi t32)]/\I last t32 w/\μ last t32 w=m) ⟨mark,0,rfl,h0,rfl⟩ ?_;rintro _ _ w2 ⟨last,t32,rfl,hI,rfl⟩;obtain⟨again_,again__h,h⟩:∃ again_:Int->Int->WP,(∀ last' t32' w',again_ last' t32' w'->I last' t32' w'/\μ last' t32' w'<μ last t32 w2)/\F_8d s mark beyond window R b_ again_ last t32 w2:=⟨_,λ_ _ _ h=>h,hr last t32 w2 hI⟩
    clear h0 hI;unfold F_8d at h;refine Yp P1 [0,1,3,10,11,30,31,32,33] (Ys ?_);refine Yc h (λh=> ?_) λh=> ?_
    ·refine zA (Ys (Yd 1 (Yt (Yn P1 ?_))));obtain⟨hp_7,h⟩:=h;refine Yu 30 (λpp=> .slice pp beyond.len beyond.cap) hp_7 ?_;refine Yi1 h λh=> ?_;refine Yl h λn_ h=> ?_;refine Yn P2 (Yu 30 (λpp=> .slice pp beyond.len beyond.cap) hp_7.symm ?_);refine Yf [] [0,1,3,10,11,12,13,30,31,32] (Ys (Yp [.plain,.plain,.plain,.plain,.plain,.plain,.plain,.plain,.plain,.plain,.plain,.pick,.pick] [0,1,3,10,13,30,31,32,49] ?_));refine Yc h (λh=> ?_) λh=> ?_
     ·exact go h [.p 2 [8,9],.y]
     ·refine zA (Yp P2 [0,1,3,10,11,13,30,31,32] (Yr (Yn P3 ?_)));obtain⟨r,es,c,hr_,hm_,hi_,hn_,h⟩:=h;refine z2f (t:=189) (kt:=3) (et:=190) (x:=(Operand.tmp 51)) (k:=(Operand.tmp 52)) (v:=(Operand.tmp 53)) (m:=(some b_)) (es:=es) (j:=n_) (vv:=(Value.agg #[])) (ty:=0) (dst:=none) r c K_ K_ hr_ K_ K_ K_ K_ (λw_=>by kernel_rfl) hm_ hi_ hn_ (λw3 hw=> ?_);replace h:=h w3 hw;clear hw;refine Yf [] [0,1,3,10,11,30,31,32] (Yr (Yf P2 [0,1,3,10,11,30,31,32] ?_));have hb_:=again__h _ _ _ h;exact⟨_,hb_.2,_,Sub.mk K_,n_,(i64.wrap (t32+1)),rfl,hb_.1,rfl⟩
    ·exact go h [.e 0,.s,.t,.n 2,.m,.f 1 [0,1,3,10,58],.c [.p 2 [8,9],.y],.k,.t,.n 6,.w,.f 2 [8,9],.y]
theorem S_vc {f last w R} (h:F_Hf f last R w):C_Cc f last w R:=Yh Tryz.func44 (go h [.p 1 [0,1],.s,.d 0,.t,.n 1,.m,.f 2 [0,1,5],.c [.p 1 [4],.y],.t,.n 1,.v 10,.n 1,.n 1,.l,.f 1 [0,1,9],.c [.p 1 [4],.y],.C1 .b 14 [0,1,14] [.r,.n 2,.v 16,.n 1,.n 1,.l,.n 4,.b 21 [.F 91111100 [0,1,14],.x],.v 23,.N 92,.N 92,.l,.m,.F 9200 [0,1,14],.x],.c [.p 1 [4],.y],.k,.t,.n 2,.v 30,.n 1,.n 1,.o,.f 0 [],.p 1 [4],.y])
theorem S_5b {f w R} (h:F_pf f R w):C_Q f w R:=Yh Tryz.func66 (go h [.p 1 [0],.t,.n 1,.E,.n 2,.b 5 [.v 6,.N 92,.N 92,.l,.E,.f 2 [2],.y],.F 9111100 [2],.y])
theorem S_Qc {f mark w R} (h:F_dg f mark R w):C_Xc f mark w R:=Yh Tryz.func214 (go h [.p 1 [0,1],.s,.t,.n 1,.m,.f 1 [0,1,8],.c [.p 1 [4],.y],.k,.p 1 [0,1],.C1 .q 5 [5] [.d 0,.s,.d 5,.C0 [] [.d 4,.d 3,.s,.d 2,.s,.d 1,.s,.s,.C1 .b 9 [0,1,9] [.r,.n 1,.v 10,.n 1,.n 1,.l,.E,.n 2,.b 15 [.m,.f 2 [0,1,9],.x],.F 9100 [0,1,9],.x],.c [.e 1,.p 1 [5],.e 0,.x],.k,.s,.C1 .b 19 [0,19] [.r,.n 1,.v 20,.n 1,.n 1,.l,.E,.n 3,.b 25 [.m,.f 2 [0,19],.x],.F 9100 [0,19],.x],.c [.e 2,.p 1 [5],.e 0,.x],.k,.s,.C1 .b 30 [0,30] [.t,.n 1,.v 31,.n 1,.n 1,.l,.E,.f 1 [0,30],.c [.k,.x],.r,.n 1,.v 36,.n 1,.n 1,.l,.f 1 [0,30],.x],.c [.e 3,.x],.k,.s,.D,.n 1,.v 41,.n 1,.n 1,.l,.n 1,.v 45,.n 1,.n 1,.l,.f 2 [40],.c [.e 4,.x],.k,.e 5,.p 1 [5],.e 0,.x],.s,.p 1 [4],.y],.p 2 [4],.y])
def zCp:=cb_ Tryz.f215
def zem:=cr_ zCp
def zDp:=cl_ zem
def zEp:=cl_ zDp
def zFp:=cr_ zEp
def z9m:=cr_ zFp
def zan:=cr_ z9m
def zbn:=cr_ zan
def zcn:=cr_ zbn
def zdn:=cr_ zcn
def zen:=cl_ zdn
def zfn:=co_ zen
def zgn:=cr_ zem
def zhn:=cl_ zgn
def zin:=co_ zhn
def zOd:List Nat:=[0,1,2,3,4,5,6,7,8,9,10,11,12,13,14,15]
def z7c:List Nat:=[0,1,2,3,4,5,6,7,8,9,10,11,12,13,14,15]
def z8c:List Nat:=[0,1,2,3,4,5,6,7,8,13,9,10,11,12,14,15]
theorem S_wc {f w R} (h:F_ge f R w):C_Ec f w R:=by
 unfold F_ge at h;refine Yh Tryz.func215 ?_
 ·refine Yp P2 [0] (Ys (Yd 0 (Yt (Yn P1 ?_))));refine Ym1 h λv8 w1 h=> ?_;refine Yf P2 [0,6] ?_;refine Yc h (λh=> ?_) λh=> ?_
  ·exact go h [.p 2 [2,3],.y]
  ·refine Yt (Yn P1 ?_);refine Yv 11 h λhp_9 h=> ?_;refine Yn P1 (Yn P1 ?_);refine Yl h λv14 h=> ?_;refine zT (op:=(Op.binOp BinOp.neq 191 (Operand.tmp 14) (Operand.const (Vp none)) 191)) (ty:=4) (dst:=some 15) (Vo (!v14.isNone)) K_ (λww=>z9d (p:=v14) K_ K_ K_ ww) ?_;refine Yf P1 [0,10] ?_;refine Yc h (λh=> ?_) λh=> ?_
   ·exact go h [.p 2 [2,3],.y]
   ·refine Yt (Yn P1 ?_);refine Yv 17 h λhp_11 h=> ?_;refine Yn P1 (Yn P1 ?_);refine Yl h λv20 h=> ?_;refine Yf P1 [0,16] ?_;refine Yc h (λh=> ?_) λh=> ?_
    ·exact go h [.p 2 [2,3],.y]
    ·refine Ys ?_;refine zZ (id:=7) (ops:=zfn) K_ K_ K_ ?_;refine Qn P1 ?_;refine Qv 22 h λhp_14 h=> ?_;refine Qn P1 ?_;refine Qn P1 ?_;refine Ql h λv25 h=> ?_;refine Qn P1 ?_;refine Qv 26 h λhp_15 h=> ?_;refine Qn P1 ?_;refine Qn P1 ?_;refine Ql h λv29 h=> ?_;refine Qf P2 [0,21] h λw2 h=> ?_;refine Yc h (λh=> ?_) λh=> ?_
     ·exact go h [.p 2 [2,3],.y]
     ·refine zA ?_;refine Ycut (λl w=>∃(t_:OA) (e:Int),l=[(0,Vp f),(4,Vp t_),(5,Vi e)]/\F_ob f R t_ e w) ?_ ?_
      ·refine zx (id:=9) (ops:=zin) zOd K_ K_ K_ K_ (λw6 hw=> ?_);replace h:=h w6 hw;clear hw;refine Mn P1 ?_;refine Mv 32 h λhp_23 h=> ?_;refine Mn P1 ?_;refine Mn P1 ?_;refine Ml 3 h λv35 hc h=> ?_;refine Mn P1 ?_;refine Mv 36 h λhp_24 h=> ?_;refine Mn P1 ?_;refine Mn P1 ?_;refine Ml 7 h λv39 hc h=> ?_;refine Mn P1 ?_;refine zAc 9 [9,13] K_ K_ (zde ?_ ?_)
       ·replace h:=h.1;refine z5c (π:=z7c) (k:=9) (op:=(Op.call (Call.mk (Callee.value (Operand.func 221)) #[(Operand.tmp 35),(Operand.tmp 40)] #[62,3]))) (ty:=337) (dst:=some 41) 9 [3,8,2,7,1,6,0,5,4] [] 221 #[Vp v35,Vi (i64.wrap (v39+1))] K_ K_ K_ K_ K_ K_ (λww=>by kernel_rfl) (Calls.mono h ?_);rintro _ w7 ⟨v41,e1,rfl,h⟩;refine⟨_,rfl,trivial,?_⟩;refine Mn P3 ?_;refine zQb (op:=(Op.alloc 72)) (ty:=0) (dst:=some 4) 13 [] [] (λbb=>pv_ bb) (Obj.cells ([Vi 0,Ns]).toArray y_a (0,0)) K_ K_ K_ K_ K_ K_ (λb_ w8 hb hw=> ?_);replace h:=h b_ w8 hb hw;clear hb hw;refine⟨trivial,?_⟩;refine zyb 14 [0,1,2,3,4,5,6,7,8,9,10,11,13] [] h λw9 h=> ?_;refine⟨trivial,?_⟩;refine Mf P1 [0,4,5] ?_;exact⟨_,Sub.mk K_,(Z0 b_),e1,rfl,h⟩
       ·replace h:=h.2;refine zMf (π:=z8c) (k:=9) (op:=(Op.alloc 72)) (ty:=0) (dst:=some 4) 13 [] [(7,λw'=>w'.cell? ⟨(pblk f),(poff f)+1,none⟩=some (Vi v39)),(3,λw'=>w'.cell? ⟨(pblk f),(poff f),none⟩=some (Vp v35))] (λbb=>pv_ bb) (Obj.cells ([Vi 0,Ns]).toArray y_a (0,0)) K_ K_ K_ K_ K_ K_ K_ (λb_1 w10 hb hw=> ?_);replace h:=h b_1 w10 hb hw;clear hb hw;obtain⟨hk0,hk1,h⟩:=h;refine⟨⟨hk0,hk1,trivial⟩,?_⟩;refine zF (op:=(Op.call (Call.mk (Callee.value (Operand.func 221)) #[(Operand.tmp 35),(Operand.tmp 40)] #[62,3]))) (ty:=337) (dst:=some 41) 9 [3,8,2,7,1,6,0,5,4] [] 221 #[Vp v35,Vi (i64.wrap (v39+1))] K_ K_ K_ K_ K_ (λww=>by kernel_rfl) (Calls.mono h ?_);rintro _ w11 ⟨v411,e2,rfl,h⟩;refine⟨_,rfl,trivial,?_⟩;refine Mn P3 ?_;refine zyb 14 [0,1,2,3,4,5,6,7,8,9,10,11,13] [] h λw12 h=> ?_;refine⟨trivial,?_⟩;refine Mf P1 [0,4,5] ?_;exact⟨_,Sub.mk K_,(Z0 b_1),e2,rfl,h⟩
      ·rintro _ w3 ⟨t_,e,rfl,h⟩;exact go h [.s,.p 2 [0,4,5,45],.c [.p 3 [2,3],.y],.k,.t,.n 1,.v 47,.n 1,.n 1,.l,.n 3,.o,.f 0 [0,4],.t,.n 1,.v 54,.n 1,.n 1,.o,.f 0 [4],.t,.v 4,.n 1,.l,.f 2 [2,3],.y]
theorem S_kb {f mark w R} (h:F_De f mark R w):C_z f mark w R:=Yh Tryz.func217 (go h [.t,.w,.f 1 [0,1,4],.s,.d 0,.t,.n 1,.m,.f 2 [0,1,4,7],.c [.t,.n 1,.o,.f 1 [4,5],.z],.t,.n 1,.v 13,.n 1,.n 1,.l,.E,.f 1 [0,1,4,12],.c [.t,.n 1,.o,.f 1 [4,5],.z],.C1 .b 19 [0,4,19] [.r,.n 1,.m,.n 3,.b 22 [.F 91100 [0,4,19],.x],.m,.F 9200 [0,4,19],.x],.c [.t,.n 1,.o,.f 1 [4,5],.z],.k,.t,.n 1,.v 29,.n 1,.n 1,.l,.v 32,.n 1,.L,.w,.o,.f 0 [0,4,6],.t,.n 1,.v 35,.n 1,.n 1,.o,.f 0 [4,6],.t,.L,.o,.f 1 [4,5],.z])
def zGp:=cb_ Tryz.f219
def zHp:=cr_ zGp
def zIp:=cl_ zHp
def zJp:=co_ zIp
def zPd:List Nat:=[0,1,2,3,4,5,6,7,8,9,10,11,12,13,14,15,16,17]
theorem S_6b {f w R} (h:F_Rd f R w):C_Eb f w R:=by
 unfold F_Rd at h;refine Yh Tryz.func219 ?_
 ·refine Yp P1 [0] (Ys ?_);refine zx (id:=1) (ops:=zJp) zPd K_ K_ K_ K_ (λw1 hw=> ?_);replace h:=h w1 hw;clear hw;refine Mn P1 ?_;refine Mv 6 h λhp_3 h=> ?_;refine Mn P1 ?_;refine Mn P1 ?_;refine Ml 3 h λv9 hc h=> ?_;refine Mn P1 ?_;refine Mv 10 h λhp_4 h=> ?_;refine Mn P1 ?_;refine Mn P1 ?_;refine Ml 7 h λv13 hc h=> ?_;refine Mv 13 h λhp_5 h=> ?_;refine Mn P1 ?_;refine Mn P1 ?_;refine Ml 10 h λv16 hc h=> ?_;obtain⟨es,hm_,hi_,h⟩:=h;refine zPh (i:=11) K_ (t:=189) (kt:=3) (et:=190) (x:=(Operand.tmp 9)) (k:=(Operand.tmp 16)) (m:=v9) (es:=es) (j:=v16) (ty:=340) (dst:=some 17) K_ K_ K_ K_ K_ (λw_=>by kernel_rfl) hm_ hi_ ?_;exact go h [.n 3,.w,.K 4,.o,.K 0,.f 1 [4],.p 2 [2],.y]
theorem S_xc {f mark w R} (h:F_Vf f mark R w):C_Vb f mark w R:=Yh Tryz.func220 (go h [.p 1 [0,1],.s,.D,.n 1,.v 5,.n 1,.n 1,.l,.v 8,.n 1,.n 1,.l,.n 1,.v 12,.n 1,.n 1,.l,.f 4 [4],.y])
theorem S_Fc {g w R} (h:F_Ef g R w):C_cb g w R:=Yh Tryz.func26 (go h [.p 1 [0],.s,.t,.n 1,.E,.f 0 [0,4],.c [.p 1 [2],.y],.k,.t,.n 1,.v 5,.n 1,.n 1,.l,.f 1 [2],.y])
theorem S_td {mark beyond w R} (h:F_Tg mark beyond R w):C_xd mark beyond w R:=Yh Tryz.func40 (go h [.p 2 [0,1],.s,.P 9000003 [0,1,14],.c [.p 2 [4,5],.y],.k,.t,.n 3,.w,.f 1 [0,1,6],.s,.p 3 [0,6,19,20,21],.d 0,.O1 .i 21 [0,6,19,20,21],.p 1 [0,6,19,20,21,22],.s,.c [.k,.s,.d 1,.t,.i,.l,.n 1,.f 0 [0,6,8,19,20,21],.s,.C1 .b 40 [0,6,8,19,20,21,40] [.r,.N 90000000300000,.b 33 [.F 9110 [0,6,8,19,20,21,40],.x],.l,.F 920 [0,6,8,19,20,21,40],.x],.c [.p 2 [4,5],.y],.k,.r,.n 2,.m,.f 0 [0,6,19,20,21],.r,.f 2 [0,6,19,20,21],.x],.e 0,.p 3 [4,5],.y])
theorem S_Sc {g n_ w R} (h:F_8f g n_ R w):C_Zb g n_ w R:=Yh Tryz.func60 (go h [.s,.Q 14,.n 3,.v 4,.n 1,.n 1,.I,.l,.n 2,.h,.n 3,.I,.T,.o,.f 0 [0,1],.r,.n 2,.v 19,.n 1,.n 1,.l,.n 2,.v 18,.n 1,.n 1,.o,.f 0 [],.y])
theorem S_Nb {g w R} (h:F_bf g R w):C_9b g w R:=Yh Tryz.func179 (go h [.p 1 [0],.s,.C1 .b 13 [0,13] [.r,.n 1,.E,.n 2,.b 7 [.F 911110 [0,13],.x],.v 8,.N 92,.N 92,.l,.F 920 [0,13],.x],.c [.p 1 [2],.y],.k,.p 1 [0,3],.s,.t,.n 1,.v 14,.n 1,.n 1,.l,.f 2 [0,3,4],.d 0,.O2 .s 3 .i 4 [0,3,4],.s,.t,.n 2,.v 20,.n 1,.n 1,.l,.f 1 [0,3,4,24],.c [.k,.C1 .s 3 [0,3,4] [.d 1,.t,.n 2,.m,.f 0 [0,3,4,29],.c [.r,.n 2,.V,.A,.f 1 [0,3,4],.x],.k,.x],.r,.f 3 [0,3,4],.x],.e 0,.p 2 [2],.y])
theorem S_2c {g n_ w R} (h:F_rg g n_ R w):C_Mb g n_ w R:=Yh Tryz.func188 (go h [.p 1 [0,1],.t,.n 6,.b 7 [.v 8,.N 92,.N 92,.I,.l,.N 922,.h,.F 92200 [4],.y],.F 911111111100 [4],.y])
theorem S_Gc {g number w R} (h:F_3f g number R w):C_Kc g number w R:=Yh Tryz.func284 (go h [.p 2 [0,1],.s,.d 0,.C1 .b 7 [0,1,7] [.r,.n 1,.E,.n 2,.b 10 [.F 9111100 [0,1,7],.x],.v 11,.N 92,.N 92,.l,.F 9200 [0,1,7],.x],.c [.p 2 [4,5],.y],.C1 .b 17 [0,1,17] [.r,.N 9000003000,.b 24 [.F 9100 [0,1,17],.x],.m,.f 2 [0,1,17],.x],.c [.p 2 [4,5],.y],.k,.t,.n 2,.m,.f 0 [0],.p 1 [0,6],.s,.d 1,.O1 .i 6 [0,6],.s,.t,.n 2,.v 33,.n 1,.n 1,.l,.n 1,.m,.f 0 [0,6,38],.c [.k,.s,.d 2,.t,.n 1,.v 41,.n 1,.n 1,.l,.n 3,.o,.f 0 [0,6],.Q 20,.n 2,.v 49,.n 1,.n 1,.l,.n 1,.v 48,.n 1,.n 1,.I,.l,.n 1,.v 58,.n 1,.n 1,.l,.n 1,.h,.n 3,.I,.T,.o,.f 0 [0,6],.r,.f 3 [0,6],.x],.e 1,.p 3 [4,5],.y])
theorem S_Tc {g number w R} (h:F_jg g number R w):C_3c g number w R:=Yh Tryz.func286 (go h [.p 1 [0,1],.t,.n 1,.E,.n 2,.b 7 [.v 8,.N 92,.N 92,.l,.N 900003000,.b 17 [.v 19,.N 92,.N 92,.l,.N 92200,.b 24 [.F 91200 [4],.y],.m,.F 9200 [4],.y],.F 911111111100 [4],.y],.F 91110011001111111111100 [4],.y])
theorem S_sd {number c w R} (h:F_Ug number c R w):C_yd number c w R:=Yh Tryz.func42 (go h [.t,.w,.f 2 [0,3],.s,.d 0,.t,.L,.m,.f 2 [0,3,6],.c [.p 2 [4,5],.y],.C1 .b 10 [0,3,10] [.r,.n 5,.b 13 [.F 91100 [0,3,10],.x],.l,.F 9200 [0,3,10],.x],.c [.p 2 [4,5],.y],.k,.t,.n 1,.L,.n 3,.w,.f 2 [4,5],.y])
theorem S_7b {l_ w R} (h:F_vf l_ R w):C_R l_ w R:=Yh Tryz.func222 (go h [.p 1 [0],.s,.t,.n 1,.m,.f 5 [3,4],.p 1 [3,10],.c [.t,.n 1,.v 11,.n 1,.n 1,.l,.f 1 [2],.y],.k,.p 1 [2],.y])
def zOp:=cb_ Tryz.f225
def zPp:=cr_ zOp
def zjn:=cr_ zPp
def zkn:=cr_ zjn
def zln:=cr_ zkn
def zmn:=cl_ zln
def znn:=co_ zmn
def zQd:List Nat:=[0,1,2,3,4,5,6,7,8,9,10,11]
theorem S_yc {l_ w R} (h:F_he l_ R w):C_Wb l_ w R:=by
 unfold F_he at h;refine Yh Tryz.func225 ?_
 ·refine Yt (Yn P1 ?_);refine Yw pv_ h λb_ w1 h=> ?_;refine Yf P1 [0,3] (Ys (Yt (Yn P1 ?_)));refine Ym1 h λv10 w2 h=> ?_;refine Yf [] [0,3,10] ?_;refine Yc h (λh=> ?_) λh=> ?_
  ·exact go h [.t,.n 2,.o,.f 1 [2,3,4],.z]
  ·refine zA ?_;refine Ycut (λl w=>∃(w_:OA) (ok:Bool),l=[(0,Vp l_),(3,pv_ b_),(5,Vp w_),(6,Vo ok)]/\F_G l_ R b_ w_ ok w) ?_ ?_
   ·refine Yr (Yn P1 ?_);refine Yv 13 h λhp_7 h=> ?_;refine Yn P1 (Yn P1 ?_);refine Yl h λv16 h=> ?_;rcases h with ⟨r,hx_,h⟩ | ⟨r1,hx_,h⟩
    ·refine Yu 16 (λpp=>pp) hx_ ?_;refine Ym2 h λv17 ok1 w11 h=> ?_;refine Yn P3 ?_;refine Yw pv_ h λb_1 w12 h=> ?_;refine Yo h λw13 h=> ?_;refine Yf P1 [0,3,5,6] ?_;exact⟨_,Sub.mk K_,(Z0 b_1),ok1,rfl,h⟩
    ·refine Yu 16 (λpp=>pp) hx_ ?_;refine Ym2 h λv171 ok2 w14 h=> ?_;refine Yn P3 ?_;refine Yw pv_ h λb_2 w15 h=> ?_;refine Yo h λw16 h=> ?_;refine Yf P1 [0,3,5,6] ?_;exact⟨_,Sub.mk K_,(Z0 b_2),ok2,rfl,h⟩
   ·rintro _ w4 ⟨w_,ok,rfl,h⟩;unfold F_G at h;refine Ys (Yp P2 [0,3,5,21] ?_);refine Yc h (λh=> ?_) λh=> ?_
    ·exact go h [.t,.n 2,.o,.f 1 [2,3,4],.z]
    ·refine zA (Ys ?_);refine zx (id:=6) (ops:=znn) zQd K_ K_ K_ K_ (λw6 hw=> ?_);replace h:=h w6 hw;clear hw;refine Mn P1 ?_;refine Mv 24 h λhp_3 h=> ?_;refine Mn P1 ?_;refine Mn P1 ?_;refine ML 3 h λv27 hc h=> ?_;refine Mv 5 h λhp_4 h=> ?_;refine Mn P1 ?_;refine Ml 5 h λv29 hc h=> ?_;refine zF (op:=(Op.call (Call.mk (Callee.value (Operand.func 62)) #[(Operand.tmp 27),(Operand.tmp 29)] #[23,9]))) (ty:=50) (dst:=some 30) 6 [3,5,2,4,1,0] [] 62 #[Value.agg #[Vi v27.Lanes,Vi v27.Shards,Vi v27.Window,Vi v27.Queue],Vt v29] K_ K_ K_ K_ K_ (λww=>by kernel_rfl) (Calls.mono h ?_);rintro _ w7 ⟨s,v30_1,rfl,h⟩;refine⟨_,rfl,trivial,?_⟩;refine Mn (Pl 5) ?_;refine Mu 5 (λpp=> .pointer pp) hp_4.symm ?_;exact go h [.f 0 [0,3,5,7],.s,.M [0,1,2,3,4,5,7,6,8,9,10,11],.n 2,.v 34,.n 1,.n 1,.l,.n 1,.v 5,.L,.m,.K 2,.n 2,.o,.K 0,.f 1 [2,3,4],.z]
theorem S_8b {l_ w R} (h:F_wf l_ R w):C_Fb l_ w R:=Yh Tryz.func226 (go h [.p 1 [0],.t,.n 1,.m,.f 5 [3,4],.t,.n 3,.b 11 [.v 12,.N 92,.N 92,.l,.N 922000,.b 19 [.v 20,.N 92,.N 92,.l,.F 9200 [2],.y],.F 9111100 [2],.y],.F 911111001111100 [2],.y])
theorem S_J {l_ w R} (h:F_7c l_ R w):C_r l_ w R:=by
 unfold F_7c at h;refine Yh Tryz.func227 ?_
 ·refine Yp P2 [0] (Ys (Yt (Yn P1 ?_)));refine Ym1 h λv7 w1 h=> ?_;refine Yf [] [0,7] ?_;refine Yc h (λh=> ?_) λh=> ?_
  ·exact go h [.p 2 [2,3],.y]
  ·refine zA ?_;refine Ycut (λl w=>∃(b_:OA) (ok:Bool),l=[(4,Vp b_),(5,Vo ok)]/\F_id R b_ ok w) ?_ ?_
   ·refine Yr (Yn P1 ?_);refine Yv 9 h λhp_1 h=> ?_;refine Yn P1 (Yn P1 ?_);refine Yl h λv12 h=> ?_;rcases h with ⟨b_1,hx_,h⟩ | ⟨hx_,h⟩
    ·refine Yu 12 (λpp=>pp) hx_ ?_;refine zT (op:=(Op.typeAssert (Operand.tmp 12) 200 341 true)) (ty:=342) (dst:=some 13) (Value.tuple #[Vp b_1,Vo true]) K_ (λww=>by kernel_rfl) ?_;refine Yf (Pl 5) [4,5] ?_;exact⟨_,Sub.mk K_,b_1,true,rfl,h⟩
    ·refine zT (op:=(Op.typeAssert (Operand.tmp 12) 200 341 true)) (ty:=342) (dst:=some 13) (Value.tuple #[Vp none,Vo false]) K_ (λww=>zNh (p:=v12) (z:=(Vp none)) K_ hx_ K_ (λw_=>by kernel_rfl) ww) ?_;refine Yf (Pl 5) [4,5] ?_;exact⟨_,Sub.mk K_,none,false,rfl,h⟩
   ·rintro _ w2 ⟨b_,ok,rfl,h⟩;exact go h [.p 4 [2,3],.y]
theorem S_zc {l_ t_ w R} (h:F_Wf l_ t_ R w):C_Gc l_ t_ w R:=Yh Tryz.func228 (go h [.t,.w,.f 1 [0,3],.s,.t,.n 1,.m,.f 0 [0,3,9],.c [.p 1 [4],.y],.k,.s,.t,.n 1,.m,.f 5 [0,3,6],.p 1 [0,3,15],.c [.p 1 [4],.y],.k,.s,.t,.L,.m,.f 1 [0,3,7],.p 2 [0,3,7,19],.c [.p 2 [4],.y],.k,.s,.M [],.n 2,.l,.L,.m,.K 1,.n 1,.w,.K 0,.n 1,.v 21,.n 1,.n 1,.o,.K 0,.f 0 [],.p 1 [4],.y])
theorem S_Ac {l_ w R} (h:F_Xf l_ R w):C_Hc l_ w R:=Yh Tryz.func229 (go h [.p 1 [0],.s,.t,.n 1,.m,.f 0 [0,6],.c [.p 1 [2],.y],.k,.t,.n 1,.m,.f 5 [3,4],.s,.C1 .b 21 [3,21] [.r,.n 4,.b 14 [.F 9111110 [3,21],.x],.v 15,.N 92,.N 92,.l,.F 9220 [3,21],.x],.c [.p 1 [2],.y],.k,.t,.n 2,.v 23,.n 1,.n 1,.l,.S,.v 22,.n 1,.n 1,.o,.f 0 [3],.t,.n 1,.v 30,.n 1,.n 1,.l,.n 3,.o,.f 0 [],.p 1 [2],.y])
theorem S_Bc {l_ w R} (h:F_Yf l_ R w):C_Ic l_ w R:=Yh Tryz.func230 (go h [.p 2 [0],.s,.t,.n 1,.m,.f 0 [0,7],.c [.p 2 [2,3],.y],.k,.t,.n 1,.m,.f 5 [0,4,5],.s,.d 0,.p 3 [0,4,13],.c [.p 2 [2,3],.y],.t,.n 1,.m,.f 2 [0,4,16],.c [.p 2 [2,3],.y],.k,.t,.n 3,.v 20,.n 1,.n 1,.o,.f 0 [4],.t,.n 1,.v 25,.n 1,.n 1,.l,.f 2 [2,3],.y])
theorem S_Cc {l_ w R} (h:F_Zf l_ R w):C_v l_ w R:=Yh Tryz.func231 (go h [.p 1 [0],.t,.n 1,.E,.n 2,.b 5 [.F 9111100 [2],.y],.v 6,.N 92,.N 92,.l,.g,.f 2 [2],.y])
theorem S_Rc {t_ w R} (h:F_eg t_ R w):C_Yc t_ w R:=Yh Tryz.func232 (go h [.t,.w,.f 1 [1],.p 1 [1,3],.s,.t,.n 1,.l,.f 2 [1,3,7,8,9],.d 0,.O2 .s 3 .i 9 [1,3,7,8,9],.p 1 [1,3,7,8,9,10],.s,.c [.k,.C1 .s 3 [1,3,7,8,9] [.d 1,.t,.n 1,.i,.L,.w,.n 1,.o,.f 0 [1,3,4,5,7,8,9],.t,.n 1,.l,.n 2,.S,.n 1,.m,.f 1 [1,3,5,7,8,9,21],.c [.r,.n 1,.L,.V,.A,.f 1 [1,3,7,8,9],.x],.k,.x],.r,.f 2 [1,3,7,8,9],.x],.e 0,.p 2 [2],.y])
theorem S_9b {x t1 w R} (h:F_Lg x t1 R w):C_ed x t1 w R:=Yh Tryz.func233 (go h [.t,.w,.f 1 [1,2],.t,.n 1,.l,.v 1,.n 1,.l,.f 2 [3],.y])
theorem S_ac {l_ w R} (h:F_xf l_ R w):C_lc l_ w R:=Yh Tryz.func238 (go h [.p 1 [0],.s,.t,.n 1,.m,.f 0 [0,6],.c [.p 1 [2],.y],.k,.t,.n 1,.m,.f 5 [3,4],.s,.C1 .b 20 [3,20] [.r,.n 4,.b 14 [.F 911110 [3,20],.x],.v 15,.N 92,.N 92,.l,.F 920 [3,20],.x],.c [.p 1 [2],.y],.k,.t,.n 1,.v 21,.n 1,.n 1,.l,.n 3,.o,.f 0 [],.p 1 [2],.y])
theorem S_Dc {t0 w R} (h:F_4f t0 R w):C_Lc t0 w R:=Yh Tryz.func302 (go h [.t,.w,.w,.f 1 [2],.t,.n 1,.o,.f 1 [2,3],.z])
theorem S_Ec {b_ w R} (h:F_5f b_ R w):C_md b_ w R:=Yh Tryz.func305 (go h [.t,.w,.f 1 [0,2],.s,.t,.n 1,.v 4,.n 1,.n 1,.l,.f 2 [0,2,9],.c [.t,.n 1,.o,.f 1 [2,3],.z],.k,.t,.n 1,.v 11,.n 1,.n 1,.l,.i,.L,.o,.f 1 [2,3],.z])
theorem S_6c {l_ w R} (h:F_xg l_ R w):C_8c l_ w R:=Yh Tryz.func19 (go h [.p 2 [0],.s,.t,.n 1,.m,.f 1 [0,4],.p 2 [0,4,11],.c [.p 3 [2,3],.y],.k,.t,.n 1,.w,.f 1 [0,5],.s,.p 3 [5,15,16,17],.d 0,.O1 .i 17 [5,15,16,17],.p 1 [5,15,16,17,18],.s,.c [.k,.s,.d 1,.t,.i,.L,.w,.o,.f 0 [5,7,15,16,17],.M [],.n 4,.l,.L,.m,.K 1,.V,.K 1,.A,.K 0,.n 2,.o,.K 0,.f 0 [5,15,16,17],.r,.f 2 [5,15,16,17],.x],.e 0,.p 3 [2,3],.y])
theorem S_Oc {l_ w R} (h:F_Rg l_ R w):C_Pc l_ w R:=Yh Tryz.func34 (go h [.p 1 [0],.t,.m,.f 1 [0,3],.s,.p 3 [3,8,9,10],.d 0,.O1 .i 10 [3,8,9,10],.p 1 [3,8,9,10,11],.s,.c [.k,.s,.d 1,.t,.i,.L,.w,.o,.f 0 [3,5,8,9,10],.t,.n 1,.L,.Y,.f 1 [3,6,8,9,10],.p 2 [3,6,8,9,10,18],.c [.p 2 [2],.y],.k,.r,.f 2 [3,8,9,10],.x],.e 0,.p 1 [2],.y])
theorem S_uc {t_ w R} (h:F_Ff t_ R w):C_Qb t_ w R:=Yh Tryz.func35 (go h [.t,.w,.w,.f 0 [1,2],.s,.M [],.n 1,.l,.n 1,.l,.m,.K 1,.n 1,.o,.K 0,.f 0 [2],.z])
theorem S_Pc {w R} (h:F_Vg R w):C_nd w R:=Yh Tryz.func55 (go h [.p 1 [],.t,.w,.o,.f 0 [1],.p 2 [0],.y])
theorem S_cb {s w R} (h:F_le s R w):C_1 s w R:=Yh Tryz.func59 (go h [.p 1 [0],.s,.t,.n 1,.E,.f 0 [0,4],.c [.p 1 [2],.y],.k,.t,.n 1,.v 5,.n 1,.n 1,.l,.f 2 [2],.y])
theorem S_4b {t_ t1 w R} (h:F_Pd t_ t1 R w):C_dd t_ t1 w R:=by
 unfold F_Pd at h;refine Yh Tryz.func91 ?_
 ·refine Yt ?_;refine Yw pv_ h λb_ w1 h=> ?_;refine Yf P1 [1,2] (Ys (Yt ?_));refine YL h λv5 h=> ?_;refine Ym1 h λv6 w2 h=> ?_;refine Yf P1 [1,2,4] (Yp P2 [1,2,4,8] ?_);refine Yc h (λh=> ?_) λh=> ?_
  ·exact go h [.p 2 [3],.y]
  ·refine zA (Ys (Yt (Yn P1 ?_)));refine Yl h λv11 h=> ?_;refine Yv 1 h λhp_3 h=> ?_;refine Yl h λv12 h=> ?_;refine Yn P1 (Yu 1 (λpp=> .pointer pp) hp_3.symm ?_);exact go h [.f 0 [1,13],.c [.p 1 [3],.y],.k,.t,.v 1,.l,.n 1,.o,.f 0 [],.p 1 [3],.y]
theorem S_jb {s number w R} (h:F_Ee s number R w):C_5 s number w R:=Yh Tryz.func221 (go h [.t,.w,.f 1 [0,1,4],.s,.d 0,.C1 .b 6 [0,1,4,6] [.r,.n 1,.E,.n 2,.b 9 [.F 9111100 [0,1,4,6],.x],.v 10,.N 92,.N 92,.l,.F 9200 [0,1,4,6],.x],.c [.t,.n 1,.o,.f 1 [4,5],.z],.C1 .b 17 [0,1,4,17] [.r,.n 5,.b 20 [.F 91111100 [0,1,4,17],.x],.v 22,.N 92,.N 92,.l,.F 92200 [0,1,4,17],.x],.c [.t,.n 1,.o,.f 1 [4,5],.z],.k,.t,.n 2,.v 31,.n 1,.n 1,.l,.n 1,.V,.A,.v 30,.n 1,.n 1,.o,.f 0 [0,1,4],.t,.n 1,.v 40,.n 1,.n 1,.l,.n 2,.i,.L,.m,.o,.f 1 [4,5],.z])
theorem S_d {m_ w R} (h:F_Ib m_ R w):C_f m_ w R:=Yh Tryz.func138 (go h [.t,.w,.f 1 [1],.p 2 [2],.y])
theorem S_ic {o_ w R} (h:F_nf o_ R w):C_gc o_ w R:=Yh Tryz.func30 (go h [.p 1 [0],.s,.t,.n 1,.m,.f 1 [0,5],.c [.p 1 [2],.y],.k,.t,.n 1,.v 6,.n 1,.n 1,.l,.m,.f 1 [2],.y])
theorem S_md {number queue l_ w R} (h:F_Mg number queue l_ R w):C_pd number queue l_ w R:=Yh Tryz.func43 (go h [.p 2 [0,1,2],.s,.P 900000300030003 [1,2,24],.c [.p 2 [6,7],.y],.k,.t,.n 1,.m,.f 5 [1,8,9],.s,.p 2 [1,8,9,31],.c [.p 3 [6,7],.y],.k,.t,.n 1,.m,.f 5 [8,9,10],.s,.p 2 [8,9,10,39],.c [.p 3 [6,7],.y],.k,.t,.n 3,.w,.f 2 [6,7],.y])
theorem S_Db {o_ w R} (h:F_Oe o_ R w):C_s o_ w R:=Yh Tryz.func50 (go h [.p 1 [0],.t,.n 1,.E,.n 2,.b 5 [.v 6,.N 92,.N 92,.l,.E,.f 2 [2],.y],.F 9111100 [2],.y])
theorem S_Wb {o_ w R} (h:F_8e o_ R w):C_6b o_ w R:=Yh Tryz.func104 (go h [.p 1 [0],.s,.t,.n 1,.m,.f 1 [0,5],.c [.p 1 [2],.y],.k,.t,.n 1,.v 6,.n 1,.n 1,.l,.m,.f 1 [2],.y])
theorem S_jc {o_ r w R} (h:F_tf o_ r R w):C_Db o_ r w R:=Yh Tryz.func183 (go h [.t,.w,.f 2 [0,3],.s,.t,.n 1,.m,.f 1 [0,3,8],.c [.p 2 [4,5],.y],.k,.s,.t,.L,.m,.f 1 [0,3,11],.c [.p 2 [4,5],.y],.k,.t,.n 1,.l,.m,.n 1,.o,.f 0 [0,3],.s,.Q 5,.n 1,.v 16,.n 1,.n 1,.l,.L,.T,.m,.f 2 [4,5],.y])
def ziq:=cb_ Tryz.f191
def zjq:=cr_ ziq
def zkq:=cr_ zjq
def zlq:=cl_ zkq
def zmq:=co_ zlq
theorem S_sc {r w R} (h:F_2e r R w):C_sc r w R:=by
 unfold F_2e at h;refine Yh Tryz.func191 ?_
 ·refine Yt ?_;refine Yw pv_ h λb_ w1 h=> ?_;refine Yf P1 [1] ?_;refine Ycut (λl w=>∃(mark:Bool),l=[(1,pv_ b_),(3,Vo mark)]/\F_ic R b_ mark w) ?_ ?_
  ·refine Yr (Yn P1 ?_);refine Yl h λv9 h=> ?_;refine Yn P3 ?_;refine Yspl 11 h (λh=> ?_) λh=> ?_
   ·refine Yl h λv13 h=> ?_;refine Yf [.sure,.plain,.plain] [1,3] ?_;exact⟨_,Sub.mk K_,(decide (v13<=65536)),rfl,h⟩
   ·refine Yf [.skip,.skip,.plain,.plain] [1,3] ?_;exact⟨_,Sub.mk K_,false,rfl,h⟩
  ·rintro _ w2 ⟨mark,rfl,h⟩;unfold F_ic at h;refine Ycut (λl w=>∃(key:Bool) (bare:Bool),l=[(1,pv_ b_),(3,Vo mark),(4,Vo key),(5,Vo bare)]/\F_K R b_ mark key bare w) ?_ ?_
   ·refine zZ (id:=2) (ops:=zmq) K_ K_ K_ ?_;refine Qn P1 ?_;refine Ql h λv17 h=> ?_;refine Qn P3 ?_;refine Qspl 19 h (λh=> ?_) λh=> ?_
    ·refine Ql h λv21 h=> ?_;refine Qn [.sure,.sure,.plain,.plain] ?_;refine Ql h λv26 h=> ?_;refine Qn P3 ?_;refine Qspl 28 h (λh=> ?_) λh=> ?_
     ·refine Ql h λv30 h=> ?_;refine Qf [.sure,.plain,.plain,.plain] [1,3,4,5] h λw9 h=> ?_;exact⟨_,Sub.mk K_,(decide (((v21.size:Nat):Int)<=64)),(v30.toList==Be.toList),rfl,h⟩
     ·refine Qf [.skip,.skip,.plain,.plain,.plain] [1,3,4,5] h λw10 h=> ?_;exact⟨_,Sub.mk K_,(decide (((v21.size:Nat):Int)<=64)),false,rfl,h⟩
    ·refine Qn [.skip,.skip,.skip,.plain,.plain] ?_;refine Ql h λv261 h=> ?_;refine Qn P3 ?_;refine Qspl 28 h (λh=> ?_) λh=> ?_
     ·refine Ql h λv301 h=> ?_;refine Qf [.sure,.plain,.plain,.plain] [1,3,4,5] h λw11 h=> ?_;exact⟨_,Sub.mk K_,false,(v301.toList==Be.toList),rfl,h⟩
     ·refine Qf [.skip,.skip,.plain,.plain,.plain] [1,3,4,5] h λw12 h=> ?_;exact⟨_,Sub.mk K_,false,false,rfl,h⟩
   ·rintro _ w3 ⟨key,bare,rfl,h⟩;unfold F_K at h;refine Ycut (λl w=>∃(read:Bool),l=[(1,pv_ b_),(3,Vo mark),(4,Vo key),(5,Vo bare),(6,Vo read)]/\F_hc R b_ mark key bare read w) ?_ ?_
    ·refine Yr (Yn P1 ?_);refine Yl h λv34 h=> ?_;refine Yn [.plain,.plain,.plain,.pick,.plain,.plain] ?_;refine Yspl 39 h (λh=> ?_) λh=> ?_
     ·refine YL h λv41 h=> ?_;refine Yn [.sure] ?_;refine zT (op:=(Op.binOp BinOp.eql 69 (Operand.tmp 41) (Operand.tmp 42) 69)) (ty:=4) (dst:=some 43) (Vo (((v41.Key==Be)&&(v41.Val==Be))&&(v41.Drop==false))) K_ (λww=>zDd (xs:=[Vt v41.Key,Vt v41.Val,Vo v41.Drop]) (ys:=[Vt Be,Vt Be,Vo false]) K_ K_ K_ K_ K_ ww) ?_;refine Yf P2 [1,3,4,5,6] ?_;exact⟨_,Sub.mk K_,(((v41.Key==Be)&&(v41.Val==Be))&&(v41.Drop==false)),rfl,h⟩
     ·refine Yf [.skip,.skip,.skip,.plain,.plain] [1,3,4,5,6] ?_;exact⟨_,Sub.mk K_,false,rfl,h⟩
    ·rintro _ w4 ⟨read,rfl,h⟩;exact go h [.s,.C1 .b 53 [1,3,4,5,6,53] [.r,.n 1,.l,.n 3,.b 48 [.l,.F 9220 [1,3,4,5,6,53],.x],.F 91110 [1,3,4,5,6,53],.x],.c [.p 1 [2],.y],.k,.s,.t,.n 1,.L,.w,.o,.f 0 [1,3,4,5,6,7],.t,.n 1,.l,.f 0 [1,3,4,5,6,7,57],.d 0,.p 2 [1,3,4,5,6,7,57,58],.c [.t,.n 1,.l,.N 9000300,.b 66 [.l,.N 92000300,.b 74 [.l,.N 92000,.b 79 [.l,.N 922000,.b 85 [.l,.N 922000,.b 91 [.l,.N 9220,.b 95 [.F 911200 [2],.y],.l,.F 92200 [2],.y],.F 9111111100 [2],.y],.F 9111001111111100 [2],.y],.F 9111001111001111111100 [2],.y],.F 911001111001111001111111100 [2],.y],.F 91100100111001111001111001111111100 [2],.y],.p 2 [1,4,5,6,57,101],.c [.t,.N 9000300,.b 107 [.l,.F 9200 [2],.y],.F 91100 [2],.y],.p 2 [1,5,6,57,112],.c [.t,.n 3,.b 115 [.l,.N 922000,.b 121 [.l,.F 92200 [2],.y],.F 911100 [2],.y],.F 911100111100 [2],.y],.p 2 [1,5,6,57,127],.c [.P 900030 [2],.y],.p 2 [1,5,6,133],.c [.t,.N 9000300,.b 139 [.l,.N 92,.l,.m,.f 2 [2],.y],.F 9111100 [2],.y],.k,.p 1 [2],.y]
theorem S_9c {l_ than w R} (h:F_Eg l_ than R w):C_bd l_ than w R:=Yh Tryz.func197 (go h [.p 1 [0,1],.s,.p 3 [1,7,8,9],.d 0,.O2 .i 1 .i 9 [1,7,8,9],.p 1 [1,7,8,9,10],.s,.c [.k,.s,.d 1,.t,.i,.l,.n 1,.f 0 [1,6,7,8,9],.s,.P 90000003 [6,7,8,9,19],.c [.p 1 [4],.y],.k,.r,.f 2 [1,7,8,9],.r,.f 2 [1,7,8,9],.x],.e 0,.p 1 [4],.y])
theorem S_kc {o_ w R} (h:F_uf o_ R w):C_kc o_ w R:=Yh Tryz.func211 (go h [.p 1 [0],.s,.t,.n 1,.m,.f 1 [0,5],.c [.p 1 [2],.y],.k,.t,.n 1,.v 6,.n 1,.n 1,.l,.m,.f 1 [2],.y])
def znq:=cb_ Tryz.f237
def zoq:=cr_ znq
def zko:=cr_ zoq
def zlo:=cr_ zko
def zmo:=cr_ zlo
def zno:=cr_ zmo
def zoo:=cl_ zno
def zpo:=co_ zoo
def zUc:List Nat:=[0,2,3,5,1,4,6]
theorem S_Eb {o_ w R} (h:F_jd o_ R w):C_D o_ w R:=by
 unfold F_jd at h;refine Yh Tryz.func237 ?_
 ·refine Yt ?_;refine Yw pv_ h λb_ w1 h=> ?_;refine Yf P1 [0,2] (Ys (Yt (Yn P1 ?_)));refine Ym1 h λv8 w2 h=> ?_;refine Yf P1 [0,2,9] ?_;refine Yc h (λh=> ?_) λh=> ?_
  ·exact go h [.t,.n 1,.o,.f 1 [2,3],.z]
  ·refine zA (Yt (Yn P1 ?_));refine Yv 12 h λhp_1 h=> ?_;refine Yn P1 (Yn P1 ?_);refine Yl h λv15 h=> ?_;refine Ym2 h λv16 ok w4 h=> ?_;refine Yn P3 ?_;refine Yw pv_ h λb_1 w5 h=> ?_;refine Yo h λw6 h=> ?_;refine Yf P1 [0,2,4,5] (Ys (Yp P2 [0,2,4,20] ?_));refine Yc h (λh=> ?_) λh=> ?_
   ·exact go h [.t,.n 1,.o,.f 1 [2,3],.z]
   ·refine zA (Yt (Yn P1 ?_));refine Yl h λv23 h=> ?_;refine Yn P1 ?_;refine Yw pv_ h λb_2 w8 h=> ?_;refine Yo h λw9 h=> ?_;refine Yf [] [0,2,4,6] (Ys ?_);refine zx (id:=7) (ops:=zpo) zUc K_ K_ K_ K_ (λw10 hw=> ?_);replace h:=h w10 hw;clear hw;refine Mn P2 ?_;refine Ml 3 h λv28 hc h=> ?_;refine ML 5 h λv30 hc h=> ?_;refine zF (op:=(Op.call (Call.mk (Callee.value (Operand.func 242)) #[(Operand.tmp 25)] #[105]))) (ty:=357) (dst:=some 26) 1 [0] [(5,λw'=>zf w' b_1 0 [Vb v30.Kind,Vi v30.From,Vi v30.Number,Vt v30.Write.Key,Vt v30.Write.Val,Vo v30.Write.Drop,Vt v30.Key,Vt v30.End,sv_ v30.Beyond]),(3,λw'=>w'.cell? ⟨b_1,0,none⟩=some (Vb v28))] 242 #[Vp o_] K_ K_ K_ K_ K_ (λww=>by kernel_rfl) (Calls.mono h ?_);rintro _ w11 ⟨v26,rfl,h⟩;obtain⟨hk0,hk1,h⟩:=h;refine⟨_,rfl,⟨hk0,hk1,trivial⟩,?_⟩;obtain⟨h0,h1,h⟩:=h;refine z1g (i:=4) K_ (t:=357) (e:=356) (x:=(Operand.tmp 26)) (ix:=(Operand.tmp 28)) (k:= .u8) (j:=v28) (ty:=356) (dst:=some 29) (len:=6) (λxx=>xx) ([v26.e0,v26.e1,v26.e2,v26.e3,v26.e4,v26.e5]:List Value) Value.nilFunc K_ K_ K_ K_ K_ K_ K_ h0 h1 ?_;exact go h [.Y,.K 0,.f 0 [2,6],.t,.L,.o,.f 1 [2,3],.z]
theorem S_ob {o_ w R} (h:F_He o_ R w):C_0c o_ w R:=Yh Tryz.func242 (go h [.t,.w,.w,.f 0 [1,2],.t,.n 6,.o,.f 0 [2],.z])
theorem S_Z {r out t2 w R} (h:F_2d r out t2 R w):C_tc r out t2 w R:=Yh Tryz.func248 (go h [.t,.w,.f 0 [1,2,3],.M [],.n 1,.v 2,.l,.v 7,.n 1,.n 1,.l,.n 1,.l,.n 1,.L,.m,.K 0,.n 3,.v 6,.n 1,.n 1,.o,.K 0,.f 0 [],.y])
theorem S_0 {r out t2 w R} (h:F_3d r out t2 R w):C_uc r out t2 w R:=Yh Tryz.func250 (go h [.t,.w,.f 0 [1,2,3],.s,.M [],.v 2,.l,.v 8,.n 1,.n 1,.l,.n 1,.l,.n 1,.l,.m,.K 0,.f 5 [1,3,5,6],.t,.n 2,.v 19,.n 1,.n 1,.o,.f 0 [1,3,5,6],.p 1 [1,3,5,23],.c [.r,.n 2,.l,.n 2,.V,.v 24,.n 1,.n 1,.o,.f 0 [],.y],.k,.y])
theorem S_1 {r out t2 w R} (h:F_4d r out t2 R w):C_vc r out t2 w R:=Yh Tryz.func252 (go h [.t,.w,.f 0 [1,2,3],.M [],.n 1,.v 2,.l,.v 6,.n 1,.n 1,.l,.n 1,.l,.n 1,.l,.n 1,.l,.m,.K 0,.v 5,.n 1,.n 1,.o,.K 0,.f 0 [],.y])
theorem S_2 {r out t2 w R} (h:F_5d r out t2 R w):C_wc r out t2 w R:=Yh Tryz.func254 (go h [.t,.w,.f 0 [1,2,3],.M [],.n 1,.v 2,.l,.v 6,.n 1,.n 1,.l,.n 1,.l,.m,.K 0,.v 5,.n 1,.n 1,.o,.K 0,.f 0 [],.y])
theorem S_3 {r out t2 w R} (h:F_6d r out t2 R w):C_xc r out t2 w R:=Yh Tryz.func256 (go h [.t,.w,.f 0 [1,2,3],.M [],.n 1,.v 2,.l,.v 6,.n 1,.n 1,.l,.n 1,.l,.n 1,.l,.m,.K 0,.v 5,.n 1,.n 1,.o,.K 0,.f 0 [],.y])
theorem S_1c {t_ w R} (h:F_Xg t_ R w):C_Lb t_ w R:=Yh Tryz.func92 (go h [.t,.w,.f 1 [1],.p 1 [1,3],.s,.C1 .b 23 [23] [.r,.n 1,.l,.n 3,.b 7 [.F 9110011110011110 [23],.x],.l,.N 92000,.b 12 [.F 91110011110 [23],.x],.l,.N 922000,.b 18 [.F 91110 [23],.x],.l,.N 92,.m,.f 1 [23],.x],.c [.p 1 [2],.y],.k,.p 1 [2],.y])
theorem S_tc {w_ w R} (h:F_Og w_ R w):C_id w_ w R:=Yh Tryz.func113 (go h [.t,.w,.f 1 [1],.t,.n 1,.l,.n 3,.b 6 [.F 911100111100111111100 [2],.y],.l,.N 922000,.b 12 [.F 911100111111100 [2],.y],.l,.N 922000,.b 18 [.F 911111100 [2],.y],.l,.N 920,.b 21 [.l,.F 92200 [2],.y],.F 911200 [2],.y])
theorem S_4 {r pick w R} (h:F_Ud r pick R w):C_Y r pick w R:=Yh Tryz.func7 (go h [.t,.w,.f 1 [0,1,4],.s,.d 0,.t,.n 1,.m,.f 2 [0,1,4,8],.c [.t,.n 1,.o,.f 1 [4,5],.z],.t,.n 1,.v 14,.n 1,.n 1,.l,.f 1 [0,1,4,13],.c [.t,.n 1,.o,.f 1 [4,5],.z],.k,.t,.n 1,.m,.f 1 [0,1,4,6],.s,.p 3 [0,1,4,6,23],.c [.t,.n 1,.o,.f 1 [4,5],.z],.k,.t,.n 3,.R,.f 1 [0,4,6,7],.C1 .i 7 [0,4,6,7] [.p 2 [0,4,6,7,30],.c [.r,.f 5 [0,4,6,7],.x],.k,.x],.t,.n 3,.i,.l,.m,.n 2,.o,.f 1 [4,5],.z])
theorem S_5 {r w R} (h:F_Vd r R w):C_ub r w R:=Yh Tryz.func11 (go h [.p 1 [0],.s,.t,.n 1,.m,.f 1 [0,5],.c [.p 1 [2],.y],.k,.t,.n 1,.v 6,.n 1,.n 1,.l,.m,.f 1 [2],.y])
theorem S_T {r w R} (h:F_Jd r R w):C_nb r w R:=Yh Tryz.func13 (go h [.p 1 [0],.p 1 [0,3],.t,.n 1,.m,.f 1 [0,3,4],.s,.t,.n 1,.m,.f 2 [3,4,12,13,14],.d 0,.O2 .s 3 .i 14 [3,4,12,13,14],.p 1 [3,4,12,13,14,15],.s,.c [.k,.C1 .s 3 [3,4,12,13,14] [.d 1,.t,.i,.L,.w,.o,.f 0 [3,4,6,12,13,14],.p 1 [3,4,6,7,12,13,14],.s,.t,.n 1,.l,.f 2 [3,4,6,7,12,13,14,20,21],.d 2,.O2 .p 7 .i 21 [3,4,6,7,12,13,14,20,21],.p 1 [3,4,6,7,12,13,14,20,21,22],.s,.c [.k,.C1 .p 7 [3,4,6,7,12,13,14,20,21] [.d 3,.p 2 [3,4,6,7,8,12,13,14,20,21],.t,.n 1,.l,.n 1,.i,.n 1,.l,.f 2 [3,4,6,7,8,12,13,14,20,21,31],.c [.r,.n 1,.l,.n 1,.i,.f 1 [3,4,6,7,12,13,14,20,21],.x],.k,.x],.r,.f 2 [3,4,6,7,12,13,14,20,21],.x],.e 2,.C1 .b 45 [3,4,6,7,12,13,14,45] [.r,.n 1,.E,.n 2,.b 39 [.v 40,.N 92,.N 92,.l,.F 920 [3,4,6,7,12,13,14,45],.x],.F 911110 [3,4,6,7,12,13,14,45],.x],.c [.M [],.n 2,.l,.n 1,.v 49,.n 1,.n 1,.l,.n 1,.V,.K 0,.A,.K 0,.f 1 [3,4,12,13,14],.x],.k,.x],.r,.f 2 [3,4,12,13,14],.x],.e 0,.p 2 [2],.y])
theorem S_6 {r x w R} (h:F_Wd r x R w):C_vb r x w R:=Yh Tryz.func14 (go h [.t,.w,.f 2 [0,3],.s,.d 0,.t,.n 1,.m,.f 2 [0,3,9],.c [.p 2 [4,5],.y],.t,.n 1,.v 14,.n 1,.n 1,.l,.f 1 [0,3,13],.c [.p 2 [4,5],.y],.t,.n 1,.v 19,.n 1,.n 1,.l,.f 1 [0,3,18],.c [.p 2 [4,5],.y],.t,.L,.m,.f 2 [0,3,23],.c [.p 2 [4,5],.y],.t,.n 1,.m,.f 2 [0,3,27],.c [.p 2 [4,5],.y],.k,.t,.n 1,.v 31,.n 1,.n 1,.l,.f 3 [0,3,6],.s,.M [],.n 2,.v 39,.n 1,.n 1,.L,.L,.m,.K 0,.f 5 [0,3,6,7,8],.s,.p 2 [0,3,6,7,8,48],.c [.p 3 [4,5],.y],.k,.s,.M [],.n 2,.v 51,.n 1,.n 1,.l,.n 4,.l,.n 2,.w,.K 1,.V,.K 1,.A,.K 0,.v 50,.n 1,.n 1,.o,.K 0,.f 0 [6],.p 3 [4,5],.y])
theorem S_G {r w R} (h:F_bd r R w):C_H r w R:=Yh Tryz.func17 (go h [.p 1 [0],.p 1 [0,3],.C1 .s 3 [3] [.t,.n 1,.m,.f 0 [0,3,7],.c [.t,.n 1,.v 8,.n 1,.n 1,.l,.f 2 [3,11,12,13],.d 0,.O2 .s 3 .i 13 [3,11,12,13],.p 1 [3,11,12,13,14],.s,.c [.k,.s,.d 1,.t,.i,.l,.n 1,.f 0 [3,5,11,12,13],.r,.n 2,.m,.A,.f 1 [3,11,12,13],.r,.f 2 [3,11,12,13],.x],.e 0,.x],.k,.x],.t,.n 1,.m,.f 0 [3],.p 2 [2],.y])
def znr:=cb_ Tryz.f20
def zor:=cr_ znr
def zpq:=cr_ zor
def zqq:=cr_ zpq
def zrq:=cr_ zqq
def zsq:=cr_ zrq
def ztq:=cl_ zsq
def zuq:=co_ ztq
def zTe:List Nat:=[0,1,2,3,4,5,6]
def zRd:List Nat:=[0,1,2,3,4,5,6]
def zSd:List Nat:=[0,1,3,2,4,5,6]
theorem S_ad {c s d w R} (h:F_kf c s d R w):C_9c c s d w R:=by
 unfold F_kf at h;refine Yh Tryz.func20 ?_
 ·refine Yt ?_;refine Yw pv_ h λb_ w1 h=> ?_;refine Yf P2 [1,2,3] (Ys ?_);refine Ycut (λl w=>∃(t26:Bool),l=[(1,Vp s),(2,Vp d),(3,pv_ b_),(26,Vo t26)]/\F_lc s d R b_ t26 w) ?_ ?_
  ·refine Yr (Yn P1 ?_);refine zT (op:=(Op.binOp BinOp.eql 62 (Operand.tmp 21) (Operand.const (Vp none)) 62)) (ty:=4) (dst:=some 22) (Vo s.isNone) K_ (λww=>zeb (p:=s) K_ K_ K_ ww) ?_;refine Yn P2 ?_;refine Yspl 23 h (λh=> ?_) λh=> ?_
   ·refine Yf [.skip,.plain] [1,2,3,26] ?_;exact⟨_,Sub.mk K_,true,rfl,h⟩
   ·refine zT (op:=(Op.binOp BinOp.eql 29 (Operand.tmp 24) (Operand.const (Vp none)) 29)) (ty:=4) (dst:=some 25) (Vo d.isNone) K_ (λww=>zeb (p:=d) K_ K_ K_ ww) ?_;refine Yf P1 [1,2,3,26] ?_;exact⟨_,Sub.mk K_,d.isNone,rfl,h⟩
  ·rintro _ w2 ⟨t26,rfl,h⟩;unfold F_lc at h;refine Yc h (λh=> ?_) λh=> ?_
   ·exact go h [.p 2 [6,7],.y]
   ·refine zA (Ys (Yt ?_));refine YL h λv27 h=> ?_;refine Ym1 h λv28 w3 h=> ?_;refine Yf P1 [1,2,3,29] ?_;refine Yc h (λh=> ?_) λh=> ?_
    ·exact go h [.p 2 [6,7],.y]
    ·refine zA (Yt (Yn P1 ?_));refine zvc (op:=(Op.call (Call.mk (Callee.value (Operand.func 37)) #[(Operand.tmp 31)] #[29]))) (ty:=120) (dst:=some 32) 37 #[Vp d] K_ (λww=>by kernel_rfl) (Calls.mono h ?_);rintro _ w4 ⟨v32,v32_1,v32_2,v32_3,e,rfl,h⟩;refine⟨_,rfl,?_⟩;refine Yn (Pl 6) ?_;refine Yw pv_ h λb_1 w5 h=> ?_;refine Yo h λw6 h=> ?_;refine Yf P4 [1,2,3,8,12] (Ys (Yp P2 [1,2,3,8,12,39] ?_));refine Yc h (λh=> ?_) λh=> ?_
     ·exact go h [.p 3 [6,7],.y]
     ·refine zA ?_;refine Ycut (λl w=>∃(r:OA),l=[(1,Vp s),(3,pv_ b_),(8,pv_ b_1),(13,Vp r)]/\F_kc s R b_ b_1 r w) ?_ ?_
      ·refine zx (id:=8) (ops:=zuq) zTe K_ K_ K_ K_ (λw40 hw=> ?_);replace h:=h w40 hw;clear hw;refine ML 0 h λv41 hc h=> ?_;refine Mn P1 ?_;refine zAc 2 [2,3] K_ K_ (zde ?_ ?_)
       ·replace h:=h.1;refine z5c (π:=zRd) (k:=2) (op:=(Op.call (Call.mk (Callee.value (Operand.func 38)) #[] #[]))) (ty:=76) (dst:=some 43) 2 [] [(0,λw'=>zf w' b_ 0 [Vi v41.Lanes,Vi v41.Shards,Vi v41.Window,Vi v41.Queue])] 38 #[] K_ K_ K_ K_ K_ K_ (λww=>by kernel_rfl) (Calls.mono h ?_);rintro _ w41 ⟨v43,rfl,h⟩;obtain⟨hk0,h⟩:=h;refine⟨_,rfl,⟨hk0,trivial⟩,?_⟩;refine zQb (op:=(Op.makeMap 82 none)) (ty:=82) (dst:=some 44) 3 [] [(0,λw'=>zf w' b_ 0 [Vi v41.Lanes,Vi v41.Shards,Vi v41.Window,Vi v41.Queue])] (λbb=>Value.map (some bb)) (Obj.map #[] 0) K_ K_ K_ K_ K_ K_ (λb_12 w42 hb hw=> ?_);replace h:=h b_12 w42 hb hw;clear hb hw;obtain⟨hk0,h⟩:=h;refine⟨⟨hk0,trivial⟩,?_⟩;refine Mn P1 ?_;refine zQb (op:=(Op.box 84 (Operand.tmp 45))) (ty:=28) (dst:=some 46) 5 [4,0,1,2,3] [] (λbb=>pv_ bb) (Obj.cells ([Vi v41.Lanes,Vi v41.Shards,Vi v41.Window,Vi v41.Queue,Vp d,Vp none,Vp v43,Vp none,Ns,Ns,Ns,Ns,Ns,Value.map (some b_12),Ns,Vo false,Vo false,Vo false]).toArray y_m (0,0)) K_ K_ K_ K_ K_ K_ (λb_13 w43 hb hw=> ?_);replace h:=h b_13 w43 hb hw;clear hb hw;refine⟨trivial,?_⟩;refine Mf P1 [1,3,8,13] ?_;exact⟨_,Sub.mk K_,(Z0 b_13),rfl,h⟩
       ·replace h:=h.2;refine zMf (π:=zSd) (k:=2) (op:=(Op.makeMap 82 none)) (ty:=82) (dst:=some 44) 3 [] [(0,λw'=>zf w' b_ 0 [Vi v41.Lanes,Vi v41.Shards,Vi v41.Window,Vi v41.Queue])] (λbb=>Value.map (some bb)) (Obj.map #[] 0) K_ K_ K_ K_ K_ K_ K_ (λb_14 w44 hb hw=> ?_);replace h:=h b_14 w44 hb hw;clear hb hw;obtain⟨hk0,h⟩:=h;refine⟨⟨hk0,trivial⟩,?_⟩;refine zF (op:=(Op.call (Call.mk (Callee.value (Operand.func 38)) #[] #[]))) (ty:=76) (dst:=some 43) 2 [] [(0,λw'=>zf w' b_ 0 [Vi v41.Lanes,Vi v41.Shards,Vi v41.Window,Vi v41.Queue])] 38 #[] K_ K_ K_ K_ K_ (λww=>by kernel_rfl) (Calls.mono h ?_);rintro _ w45 ⟨v431,rfl,h⟩;obtain⟨hk0,h⟩:=h;refine⟨_,rfl,⟨hk0,trivial⟩,?_⟩;refine Mn P1 ?_;refine zQb (op:=(Op.box 84 (Operand.tmp 45))) (ty:=28) (dst:=some 46) 5 [4,0,1,2,3] [] (λbb=>pv_ bb) (Obj.cells ([Vi v41.Lanes,Vi v41.Shards,Vi v41.Window,Vi v41.Queue,Vp d,Vp none,Vp v431,Vp none,Ns,Ns,Ns,Ns,Ns,Value.map (some b_14),Ns,Vo false,Vo false,Vo false]).toArray y_m (0,0)) K_ K_ K_ K_ K_ K_ (λb_15 w46 hb hw=> ?_);replace h:=h b_15 w46 hb hw;clear hb hw;refine⟨trivial,?_⟩;refine Mf P1 [1,3,8,13] ?_;exact⟨_,Sub.mk K_,(Z0 b_15),rfl,h⟩
      ·rintro _ w7 ⟨r,rfl,h⟩;exact go h [.s,.t,.n 3,.l,.n 1,.l,.n 1,.l,.m,.n 3,.v 48,.n 1,.n 1,.o,.f 1 [3,8,12,13],.p 2 [3,8,12,13,62],.c [.p 3 [6,7],.y],.k,.s,.t,.n 2,.l,.n 1,.l,.m,.n 3,.v 65,.n 1,.n 1,.o,.f 1 [3,8,12,13],.p 2 [3,8,12,13,76],.c [.p 3 [6,7],.y],.k,.t,.L,.L,.m,.f 5 [3,12,13,14],.s,.p 2 [3,12,13,14,85],.c [.p 3 [6,7],.y],.k,.t,.n 2,.v 88,.n 1,.n 1,.l,.n 3,.w,.n 1,.V,.A,.v 87,.n 1,.n 1,.o,.f 0 [3,13,14],.s,.t,.n 1,.l,.f 1 [3,13,14,102,103],.d 0,.O1 .i 103 [3,13,14,102,103],.p 1 [3,13,14,102,103,104],.s,.c [.k,.s,.d 1,.p 2 [3,13,14,15,102,103],.t,.n 2,.L,.m,.f 5 [3,13,14,16,17,102,103],.s,.p 2 [3,13,14,16,17,102,103,114],.c [.p 3 [6,7],.y],.k,.t,.n 2,.v 117,.n 1,.n 1,.l,.n 1,.V,.A,.v 116,.n 1,.n 1,.o,.f 0 [3,13,14,16,102,103],.r,.n 2,.v 127,.n 1,.n 1,.l,.n 4,.w,.n 1,.V,.A,.v 126,.n 1,.n 1,.o,.f 0 [3,13,14,102,103],.r,.f 2 [3,13,14,102,103],.x],.e 0,.s,.t,.n 1,.l,.f 1 [3,13,14,143,144],.d 2,.O1 .i 144 [3,13,14,143,144],.p 1 [3,13,14,143,144,145],.s,.c [.k,.s,.d 3,.p 2 [3,13,14,18,143,144],.s,.M [],.n 2,.l,.n 2,.i,.l,.m,.K 0,.f 5 [3,13,14,18,19,20,143,144],.s,.p 2 [3,13,14,18,19,20,143,144,159],.c [.p 3 [6,7],.y],.k,.t,.n 2,.v 162,.n 1,.n 1,.l,.n 1,.V,.A,.v 161,.n 1,.n 1,.o,.f 0 [3,13,14,18,19,143,144],.r,.n 2,.v 172,.n 1,.n 1,.l,.n 5,.w,.n 1,.V,.A,.v 171,.n 1,.n 1,.o,.f 0 [3,13,14,143,144],.r,.f 2 [3,13,14,143,144],.x],.e 2,.t,.n 2,.v 189,.n 1,.n 1,.l,.n 3,.w,.n 1,.V,.A,.v 188,.n 1,.n 1,.o,.f 0 [13],.p 3 [6,7],.y]
theorem S_7 {r last w R} (h:F_Xd r last R w):C_wb r last w R:=Yh Tryz.func21 (go h [.p 1 [0,1],.s,.d 0,.t,.n 1,.m,.f 2 [0,1,5],.c [.p 1 [4],.y],.t,.n 1,.v 10,.n 1,.n 1,.l,.f 1 [0,1,9],.c [.p 1 [4],.y],.k,.t,.n 1,.v 14,.n 1,.n 1,.l,.n 1,.m,.f 1 [4],.y])
theorem S_U {r w R} (h:F_Kd r R w):C_e r w R:=Yh Tryz.func22 (go h [.p 1 [0],.t,.n 1,.E,.n 2,.b 5 [.v 6,.N 92,.N 92,.l,.E,.f 2 [2],.y],.F 9111100 [2],.y])
theorem S_V {r w R} (h:F_Ld r R w):C_ob r w R:=Yh Tryz.func23 (go h [.p 1 [0],.s,.C1 .b 16 [0,16] [.r,.n 1,.m,.n 3,.b 11 [.F 91110 [0,16],.x],.v 12,.N 92,.N 92,.l,.f 1 [0,16],.x],.c [.p 1 [2],.y],.k,.p 1 [0,3],.s,.t,.n 1,.v 17,.n 1,.n 1,.l,.f 2 [0,3,20,21,22],.d 0,.O2 .s 3 .i 22 [0,3,20,21,22],.p 1 [0,3,20,21,22,23],.s,.c [.k,.C1 .s 3 [0,3,20,21,22] [.d 1,.t,.n 1,.i,.l,.n 2,.f 0 [0,3,4,5,20,21,22],.C1 .b 29 [0,3,4,20,21,22,29] [.r,.n 1,.or [.q 27,.m,.f 1 [0,3,4,20,21,22,29],.x],.or [.q 27,.m,.f 1 [0,3,4,20,21,22,29],.x],.or [.q 27,.m,.f 1 [0,3,4,20,21,22,29],.x],.or [.q 27,.m,.f 1 [0,3,4,20,21,22,29],.x],.q 27,.m,.f 1 [0,3,4,20,21,22,29],.x],.c [.r,.n 2,.V,.A,.f 1 [0,3,20,21,22],.x],.k,.x],.r,.f 2 [0,3,20,21,22],.x],.e 0,.s,.t,.n 1,.v 35,.n 1,.n 1,.l,.f 2 [3,38,39,40],.d 2,.O2 .s 3 .i 40 [3,38,39,40],.p 1 [3,38,39,40,41],.s,.c [.k,.C1 .s 3 [3,38,39,40] [.d 3,.t,.n 1,.i,.l,.n 2,.f 0 [3,6,7,38,39,40],.t,.n 1,.m,.f 1 [3,6,38,39,40,47],.c [.r,.n 3,.V,.A,.f 1 [3,38,39,40],.x],.k,.x],.r,.f 2 [3,38,39,40],.x],.e 2,.p 2 [2],.y])
theorem S_v {r n_ w R} (h:F_zb r n_ R w):C_Z r n_ w R:=by
 unfold F_zb at h;refine Yh Tryz.func24 ?_
 ·refine Yt ?_;refine Yw pv_ h λb_ w1 h=> ?_;refine Yf P1 [0,1,4] (Ys (Yd 0 (Yt (Yn P1 ?_))));refine Ym1 h λv12 w2 h=> ?_;refine Yf P2 [0,1,4,10] ?_;refine Yc h (λh=> ?_) λh=> ?_
  ·exact go h [.t,.n 1,.o,.f 1 [4,5],.z]
  ·refine Yt (Yn P1 ?_);refine Yv 16 h λhp_3 h=> ?_;refine Yn P1 (Yn P1 ?_);refine Yl h λv19 h=> ?_;refine Yf P1 [0,1,4,15] ?_;refine Yc h (λh=> ?_) λh=> ?_
   ·exact go h [.t,.n 1,.o,.f 1 [4,5],.z]
   ·refine zA (Yt (Yn P2 ?_));refine Ym2 h λt_ ok w5 h=> ?_;refine Yf (Pl 5) [0,1,4,6,7] (Ys (Yp P2 [0,1,4,6,28] ?_));refine Yc h (λh=> ?_) λh=> ?_
    ·exact go h [.t,.n 1,.o,.f 1 [4,5],.z]
    ·refine zA ?_;refine Ycut (λl w=>∃(k_:Int),l=[(0,Vp r),(1,Vi n_),(4,pv_ b_),(6,t_),(8,Vb k_)]/\F_a r n_ R b_ t_ k_ w) ?_ ?_
     ·refine Yr (Yn P1 ?_);rcases h with ⟨r6,hx_,h⟩ | ⟨r7,hx_,h⟩ | ⟨r8,hx_,h⟩ | ⟨r9,hx_,h⟩ | ⟨r10,hx_,h⟩
      ·refine Yu 30 (λpp=>pp) hx_ ?_;refine Ym1 h λv31 w30 h=> ?_;refine Yf P1 [0,1,4,6,8] ?_;exact⟨_,Sub.mk K_,v31,rfl,h⟩
      ·refine Yu 30 (λpp=>pp) hx_ ?_;refine Ym1 h λv311 w31 h=> ?_;refine Yf P1 [0,1,4,6,8] ?_;exact⟨_,Sub.mk K_,v311,rfl,h⟩
      ·refine Yu 30 (λpp=>pp) hx_ ?_;refine Ym1 h λv312 w32 h=> ?_;refine Yf P1 [0,1,4,6,8] ?_;exact⟨_,Sub.mk K_,v312,rfl,h⟩
      ·refine Yu 30 (λpp=>pp) hx_ ?_;refine Ym1 h λv313 w33 h=> ?_;refine Yf P1 [0,1,4,6,8] ?_;exact⟨_,Sub.mk K_,v313,rfl,h⟩
      ·refine Yu 30 (λpp=>pp) hx_ ?_;refine Ym1 h λv314 w34 h=> ?_;refine Yf P1 [0,1,4,6,8] ?_;exact⟨_,Sub.mk K_,v314,rfl,h⟩
     ·rintro _ w7 ⟨k_,rfl,h⟩;unfold F_a at h;refine Ys (Yp P2 [0,1,4,6,8,33] ?_);refine Yc h (λh=> ?_) λh=> ?_
      ·exact go h [.t,.n 1,.o,.f 1 [4,5],.z]
      ·refine zA ?_;refine Ycut (λl w=>∃(ev:OA),l=[(0,Vp r),(1,Vi n_),(4,pv_ b_),(8,Vb k_),(9,Vp ev)]/\F_b r n_ R b_ k_ ev w) ?_ ?_
       ·refine Yr (Yn P2 ?_);rcases h with ⟨r1,hx_,h⟩ | ⟨r2,hx_,h⟩ | ⟨r3,hx_,h⟩ | ⟨r4,hx_,h⟩ | ⟨r5,hx_,h⟩
        ·refine Yu 35 (λpp=>pp) hx_ ?_;refine Ym1 h λv37 w15 h=> ?_;refine Yw pv_ h λb_1 w16 h=> ?_;refine Yo h λw17 h=> ?_;refine Yf [] [0,1,4,8,9] ?_;exact⟨_,Sub.mk K_,(Z0 b_1),rfl,h⟩
        ·refine Yu 35 (λpp=>pp) hx_ ?_;refine Ym1 h λv371 w18 h=> ?_;refine Yw pv_ h λb_2 w19 h=> ?_;refine Yo h λw20 h=> ?_;refine Yf [] [0,1,4,8,9] ?_;exact⟨_,Sub.mk K_,(Z0 b_2),rfl,h⟩
        ·refine Yu 35 (λpp=>pp) hx_ ?_;refine Ym1 h λv372 w21 h=> ?_;refine Yw pv_ h λb_3 w22 h=> ?_;refine Yo h λw23 h=> ?_;refine Yf [] [0,1,4,8,9] ?_;exact⟨_,Sub.mk K_,(Z0 b_3),rfl,h⟩
        ·refine Yu 35 (λpp=>pp) hx_ ?_;refine Ym1 h λv373 w24 h=> ?_;refine Yw pv_ h λb_4 w25 h=> ?_;refine Yo h λw26 h=> ?_;refine Yf [] [0,1,4,8,9] ?_;exact⟨_,Sub.mk K_,(Z0 b_4),rfl,h⟩
        ·refine Yu 35 (λpp=>pp) hx_ ?_;refine Ym1 h λv374 w27 h=> ?_;refine Yw pv_ h λb_5 w28 h=> ?_;refine Yo h λw29 h=> ?_;refine Yf [] [0,1,4,8,9] ?_;exact⟨_,Sub.mk K_,(Z0 b_5),rfl,h⟩
       ·rintro _ w9 ⟨ev,rfl,h⟩;unfold F_b at h;refine Yt (Yn P3 ?_);refine Yv 40 h λhp_6 h=> ?_;refine Yn P1 (Yn P1 ?_);refine Yl h λv43 h=> ?_;refine Ym1 h λv44 w10 h=> ?_;refine Yv 9 h λhp_7 h=> ?_;refine Yn P1 ?_;refine Yo h λw11 h=> ?_;refine Yn P1 ?_;refine Yo h λw12 h=> ?_;refine Yn P1 ?_;refine Yo h λw13 h=> ?_;refine Yu 9 (λpp=> .pointer pp) hp_7.symm ?_;exact go h [.f 0 [4,9],.t,.v 9,.L,.o,.f 1 [4,5],.z]
theorem S_8 {r w R} (h:F_Yd r R w):C_xb r w R:=Yh Tryz.func28 (go h [.p 1 [0],.p 1 [0,3],.s,.t,.n 1,.v 6,.n 1,.n 1,.l,.f 2 [3,9,10,11],.d 0,.O2 .i 3 .i 11 [3,9,10,11],.p 1 [3,9,10,11,12],.s,.c [.k,.C1 .i 3 [3,9,10,11] [.d 1,.t,.i,.l,.n 1,.f 0 [3,5,9,10,11],.t,.n 1,.v 15,.n 1,.n 1,.l,.f 1 [3,9,10,11,19],.c [.r,.f 3 [3,9,10,11],.x],.k,.x],.r,.f 2 [3,9,10,11],.x],.e 0,.p 2 [2],.y])
theorem S_E {a_ b_ w R} (h:F_Sc a_ b_ R w):C_Hb a_ b_ w R:=Yh Tryz.func32 (go h [.t,.w,.w,.f 1 [2,3],.t,.n 1,.l,.n 1,.l,.m,.f 1 [4],.y])
theorem S_pb {c w R} (h:F_te c R w):C_M c w R:=Yh Tryz.func45 (go h [.p 1 [0],.s,.t,.n 1,.v 8,.n 1,.n 1,.l,.f 0 [0,11],.c [.p 1 [2],.y],.k,.s,.t,.n 1,.v 13,.n 1,.n 1,.l,.m,.f 5 [0,4],.p 2 [0,21],.c [.s,.C1 .b 36 [36] [.r,.n 1,.v 22,.n 1,.n 1,.l,.n 3,.b 27 [.v 28,.N 92,.N 922,.l,.v 32,.N 92,.N 92,.l,.f 1 [36],.x],.F 911111110 [36],.x],.c [.p 1 [2],.y],.k,.p 1 [2],.y],.k,.t,.n 1,.v 38,.n 1,.n 1,.l,.m,.n 4,.w,.n 1,.o,.f 1 [0,5,7],.s,.d 0,.C1 .b 46 [0,46] [.r,.n 3,.b 48 [.v 49,.N 92,.N 92,.L,.N 92,.m,.f 2 [0,46],.x],.F 91111100 [0,46],.x],.c [.p 1 [2],.y],.t,.n 1,.v 57,.n 1,.n 1,.l,.m,.f 2 [0,56],.c [.p 1 [2],.y],.C1 .b 63 [63] [.r,.n 1,.v 64,.n 1,.n 1,.l,.n 3,.b 69 [.v 70,.N 92,.N 92,.l,.N 92000,.b 76 [.v 77,.N 92,.N 92,.l,.m,.F 9200 [63],.x],.F 91111100 [63],.x],.F 911110011111100 [63],.x],.c [.p 1 [2],.y],.k,.p 1 [2],.y])
theorem S_C {r n_ w R} (h:F_2c r n_ R w):C_Qc r n_ w R:=Yh Tryz.func46 (go h [.p 2 [0,1],.p 1 [0,1,6],.s,.d 0,.C1 .b 7 [0,1,6,7] [.r,.n 6,.b 10 [.v 13,.N 92,.N 92,.l,.N 92,.m,.f 2 [0,1,6,7],.x],.F 91111100 [0,1,6,7],.x],.c [.t,.n 1,.v 20,.n 1,.n 1,.l,.n 1,.i,.l,.f 2 [4,5],.y],.C1 .b 27 [0,1,27] [.r,.n 7,.b 30 [.v 34,.N 92,.N 92,.l,.N 92,.m,.f 2 [0,1,27],.x],.F 91111100 [0,1,27],.x],.c [.t,.n 1,.v 41,.n 1,.n 1,.l,.n 2,.i,.l,.f 3 [4,5],.y],.k,.p 2 [4,5],.y])
theorem S_Fb {p shard w R} (h:F_Pe p shard R w):C_ib p shard w R:=Yh Tryz.func69 (go h [.t,.w,.f 1 [1,2],.t,.n 1,.l,.v 6,.n 1,.n 1,.l,.n 1,.i,.l,.m,.f 2 [4],.y])
theorem S_w {at_ most w R} (h:F_Nc at_ most R w):C_yb at_ most w R:=Yh Tryz.func72 (go h [.p 1 [0,1],.P 900000030 [4],.y])
theorem S_e {c k_ w R} (h:F_W c k_ R w):C_t c k_ w R:=Yh Tryz.func177 (go h [.t,.w,.f 0 [0,1,4],.t,.n 1,.v 16,.n 1,.n 1,.l,.n 1,.w,.o,.f 0 [0,1,4,5],.C0 [4,5] [.p 1 [0,4,5,21],.d 0,.p 2 [0,4,5,21,22],.c [.t,.n 2,.v 25,.n 1,.n 2,.l,.v 29,.n 1,.n 1,.l,.m,.v 24,.n 1,.n 1,.o,.f 0 [0,4,5],.s,.M [0,1,2,3,4,5,6,7,9,11,12,13,14,8,10,15],.n 1,.v 36,.n 1,.n 1,.l,.n 1,.v 40,.n 1,.n 1,.L,.n 2,.v 47,.n 1,.n 1,.l,.m,.K 2,.m,.K 2,.m,.K 0,.f 0 [0,4,5],.Q 22,.n 1,.v 52,.n 1,.n 2,.l,.n 1,.v 57,.n 1,.n 2,.l,.v 61,.n 1,.n 1,.l,.n 2,.b 65 [.N 911110,.v 56,.n 1,.n 1,.T,.o,.f 0 [4,5],.x],.v 66,.N 92,.N 92,.l,.N 920,.v 56,.n 1,.n 1,.T,.o,.f 0 [4,5],.x],.p 2 [0,4,5,21,74],.c [.t,.n 1,.v 77,.n 1,.n 1,.l,.m,.n 4,.w,.n 1,.o,.f 1 [0,4,5,6,7],.s,.Q 12,.n 1,.v 85,.n 1,.n 2,.l,.v 89,.n 1,.n 1,.l,.n 1,.i,.l,.L,.T,.m,.f 0 [0,4,5,6],.t,.n 1,.v 98,.n 1,.n 1,.l,.m,.f 0 [4,5,6],.r,.n 2,.o,.f 0 [4,5],.x],.p 2 [0,4,5,21,105],.c [.t,.n 1,.v 107,.n 1,.n 1,.l,.m,.f 1 [0,4,5,9],.C0 [4,5,9] [.t,.n 1,.v 112,.n 1,.n 1,.l,.m,.f 1 [0,4,5,9,10],.p 2 [0,4,5,9,118],.c [.t,.n 1,.v 120,.n 1,.n 1,.l,.m,.f 5 [0,4,5,9,11],.t,.n 3,.m,.f 0 [0,4,5,9],.r,.n 1,.v 131,.n 1,.n 2,.l,.v 135,.n 1,.n 1,.o,.f 0 [4,5,9],.x],.k,.x],.r,.n 3,.o,.f 0 [4,5],.x],.p 2 [0,4,5,141],.c [.t,.n 1,.v 144,.n 1,.n 1,.l,.m,.n 4,.w,.o,.f 2 [0,4,5,13],.C0 [0,4,5,13] [.t,.n 1,.v 152,.n 1,.n 1,.l,.f 1 [0,4,5,13,156],.c [.Q 7,.n 1,.v 157,.n 1,.n 1,.l,.n 1,.l,.n 1,.T,.o,.f 0 [0,4,5,13],.x],.k,.x],.r,.n 1,.L,.m,.f 0 [4,5],.x],.k,.x],.t,.L,.o,.f 0 [4],.z])
theorem S_9 {c w R} (h:F_1d c R w):C_zb c w R:=Yh Tryz.func178 (go h [.s,.t,.n 1,.v 5,.n 1,.n 1,.l,.f 1 [0,9],.c [.y],.k,.t,.n 1,.v 11,.n 1,.n 1,.l,.m,.n 4,.w,.o,.f 2 [0,2,3],.M [],.n 3,.v 22,.n 1,.n 2,.l,.v 26,.n 1,.n 1,.l,.n 1,.l,.n 1,.v 32,.n 1,.n 1,.l,.n 2,.m,.K 0,.n 3,.v 20,.n 1,.n 1,.o,.K 0,.v 21,.n 1,.n 1,.o,.K 0,.f 0 [],.y])
theorem S_Gb {p w R} (h:F_Ue p R w):C_o p w R:=Yh Tryz.func181 (go h [.t,.w,.f 1 [1],.t,.n 1,.l,.v 4,.n 1,.n 1,.l,.m,.f 1 [2],.y])
theorem S_ab {c w R} (h:F_Pc c R w):C_Ab c w R:=by
 unfold F_Pc at h;refine Yh Tryz.func182 ?_
 ·refine Yp P1 [0] (Yt (Yn P1 ?_));refine Yv 8 h λhp_1 h=> ?_;refine Yn P1 (Yn P1 ?_);refine YL h λv11 h=> ?_;refine Ym1 h λv12 w1 h=> ?_;refine Yf P1 [0,3] (Ys (Yt (Yn P1 ?_)));refine Yv 13 h λhp_20 h=> ?_;refine Yn P1 (Yn P2 ?_);refine Yl h λv17 h=> ?_;refine Yv 17 h λhp_21 h=> ?_;refine Yn P1 (Yn P1 ?_);refine Yl h λv20 h=> ?_;refine Yf P2 [0,3,20,21,22] (Yd 0 ?_);obtain⟨I,μ,h0,hr⟩:=h;refine zqd (λm l w=>∃(n_:Int) (t22:Int),l=[(0,Vp c),(3,Vi n_),(20,sv_ v20),(21,Vi ((v20.len:Nat):Int)),(22,Vi t22)]/\I n_ t22 w/\μ n_ t22 w=m) ⟨v12,0,rfl,h0,rfl⟩ ?_;rintro _ _ w2 ⟨n_,t22,rfl,hI,rfl⟩;obtain⟨again_,again__h,h⟩:∃ again_:Int->Int->WP,(∀ n_' t22' w',again_ n_' t22' w'->I n_' t22' w'/\μ n_' t22' w'<μ n_ t22 w2)/\F_3 c R v20 again_ n_ t22 w2:=⟨_,λ_ _ _ h=>h,hr n_ t22 w2 hI⟩
  clear h0 hI;unfold F_3 at h;refine Yp P1 [0,3,20,21,22,23] (Ys ?_);refine Yc h (λh=> ?_) λh=> ?_
  ·refine zA ?_;refine Ycut (λl w=>∃(n_1:Int),l=[(0,Vp c),(3,Vi n_1),(20,sv_ v20),(21,Vi ((v20.len:Nat):Int)),(22,Vi t22)]/\F_y t22 again_ n_1 w) ?_ ?_
   ·refine Yd 1 (Yt ?_);obtain⟨hp_29,h⟩:=h;refine Yu 20 (λpp=> .slice pp v20.len v20.cap) hp_29 ?_;refine Yi1 h λh=> ?_;refine Yl h λo_ h=> ?_;refine Yn P1 (Yu 20 (λpp=> .slice pp v20.len v20.cap) hp_29.symm ?_);refine Yf [] [0,3,5,20,21,22] (Yt (Yn P1 ?_));refine Yv 27 h λhp_31 h=> ?_;refine Yn P1 (Yn P1 ?_);refine Yl h λv30 h=> ?_;refine Ym2 h λm_ begun w4 h=> ?_;refine Yf (Pl 5) [0,3,5,6,7,20,21,22] ?_;refine Ycut (λl w=>∃(t46:Bool),l=[(0,Vp c),(3,Vi n_),(6,Vi m_),(20,sv_ v20),(21,Vi ((v20.len:Nat):Int)),(22,Vi t22),(46,Vo t46)]/\F_h n_ t22 again_ m_ t46 w) ?_ ?_
    ·refine Yr (Yn P2 ?_);obtain⟨same,hr_,h⟩:=h;refine zSl (op:=(Op.binOp BinOp.neq 97 (Operand.tmp 34) (Operand.tmp 35) 97)) (ty:=4) (dst:=some 36) (Vo (!same)) K_ (zTh (p:=o_) (q:=c) K_ K_ K_ hr_) ?_;refine Yn [.plain,.plain,.pick,.plain,.plain] ?_;refine Yspl 40 h (λh=> ?_) λh=> ?_
     ·refine Yv 41 h λhp_33 h=> ?_;refine Yn [.sure] (Yn [.sure] ?_);refine Yl h λv44 h=> ?_;refine Yf [.sure,.plain] [0,3,6,20,21,22,46] ?_;exact⟨_,Sub.mk K_,(!v44),rfl,h⟩
     ·refine Yf [.skip,.skip,.skip,.skip,.plain] [0,3,6,20,21,22,46] ?_;exact⟨_,Sub.mk K_,false,rfl,h⟩
    ·rintro _ w5 ⟨t46,rfl,h⟩;unfold F_h at h;refine Yc h (λh=> ?_) λh=> ?_
     ·refine Yr (Yf P4 [0,3,20,21,22] ?_);exact⟨_,Sub.mk K_,(if m_<n_ then m_ else n_),rfl,h⟩
     ·refine zA ?_;exact⟨_,Sub.mk K_,n_,rfl,h⟩
   ·rintro _ w3 ⟨n_1,rfl,h⟩;unfold F_y at h;refine Yr (Yf P2 [0,3,20,21,22] ?_);have hb_:=again__h _ _ _ h;exact⟨_,hb_.2,_,Sub.mk K_,n_1,(i64.wrap (t22+1)),rfl,hb_.1,rfl⟩
  ·exact go h [.e 0,.p 2 [2],.y]
theorem S_qb {c a_ w R} (h:F_Be c a_ R w):C_4 c a_ w R:=Yh Tryz.func186 (go h [.t,.w,.f 0 [0,3],.s,.M [],.n 2,.L,.v 4,.n 1,.n 1,.o,.K 1,.v 5,.n 1,.n 1,.o,.K 0,.f 0 [0],.t,.n 1,.v 11,.n 1,.n 1,.l,.f 1 [0,15],.c [.r,.n 1,.v 16,.n 1,.n 2,.l,.v 20,.n 1,.n 1,.o,.f 0 [],.y],.k,.y])
theorem S_N {d w R} (h:F_Dd d R w):C_P d w R:=Yh Tryz.func212 (go h [.p 1 [0],.s,.M [],.n 1,.v 3,.n 1,.n 2,.l,.v 7,.n 1,.n 1,.l,.n 1,.v 11,.n 1,.n 1,.L,.m,.K 2,.m,.K 0,.f 1 [2],.y])
def zvq:=cb_ Tryz.f213
def zwq:=cr_ zvq
def z4k:=cr_ zwq
def zqo:=cl_ z4k
def zro:=co_ zqo
def z5k:=cr_ z4k
def zso:=cl_ z5k
def zto:=co_ zso
def zuo:=cr_ z5k
def zvo:=cl_ zuo
def z6k:=cr_ zvo
def zwo:=cl_ z6k
def zxo:=co_ zwo
def zyo:=cr_ z6k
def zzo:=co_ zyo
def z5b:List Nat:=[0,1,2,3,4,5,6,7,8,9,10,11,12,13,14,15,16,17,18,19]
def z6b:List Nat:=[0,1,2,3,4,5,6,7,8,9,10,11,12,13,14]
def z7b:List Nat:=[0,1,2,3,4,5,6,7,8,9,10,11,12,13,14,15,16,17,18]
def zMb:List Nat:=[0,1,2,3,4,5,6,7,8,9,10,11,12,13,14,15,16,17,18,19]
def zNb:List Nat:=[0,1,2,3,4,5,6,7,8,9,10,11,12,13,14,15,16,17,18,19]
def zOb:List Nat:=[0,1,2,3,4,5,6,7,8,9,10,11,12,17,13,14,15,16,18,19]
def zPb:List Nat:=[0,1,2,3,4,5,6,7,8,9,10,11,17,12,13,14,15,16,18,19]
theorem S_l {d k_ w R} (h:F_4 d k_ R w):C_K d k_ w R:=by
 unfold F_4 at h;refine Yh Tryz.func213 ?_
 ·refine Yt ?_;refine Yw pv_ h λb_ w1 h=> ?_;refine Yf [] [0,1,4] (Ys (Yp P1 [0,4,13] (Yd 0 (Yp P2 [0,4,13,14] ?_))));refine Yc h (λh=> ?_) λh=> ?_
  ·exact go h [.t,.n 1,.v 17,.n 1,.n 2,.l,.v 21,.n 1,.n 1,.l,.m,.f 5 [4,5],.t,.n 2,.o,.f 0 [4],.z]
  ·refine Yp P2 [0,4,30] ?_;refine Yc h (λh=> ?_) λh=> ?_
   ·exact go h [.t,.n 1,.v 33,.n 1,.n 2,.l,.v 37,.n 1,.n 1,.l,.m,.f 5 [4,7],.t,.n 2,.o,.f 0 [4],.z]
   ·refine zA ?_;refine Ycut (λl w=>∃(t_:OA),l=[(0,Vp d),(4,pv_ b_),(9,Vp t_)]/\F_i d R b_ t_ w) ?_ ?_
    ·refine zx (id:=8) (ops:=zro) z5b K_ K_ K_ K_ (λw17 hw=> ?_);replace h:=h w17 hw;clear hw;refine Mn P1 ?_;refine Mv 47 h λhp_42 h=> ?_;refine Mn P1 ?_;refine Mn P2 ?_;refine Ml 4 h λv51 hc h=> ?_;refine Mv 51 h λhp_43 h=> ?_;refine Mn P1 ?_;refine Mn P1 ?_;refine Ml 7 h λv54 hc h=> ?_;refine Mn P1 ?_;refine Mv 55 h λhp_44 h=> ?_;refine Mn P1 ?_;refine Mn P1 ?_;refine ML 11 h λv58 hc h=> ?_;refine zAc 12 [12,17] K_ K_ (zde ?_ ?_)
     ·replace h:=h.1;refine z5c (π:=zMb) (k:=12) (op:=(Op.call (Call.mk (Callee.value (Operand.func 181)) #[(Operand.tmp 58)] #[99]))) (ty:=3) (dst:=some 59) 12 [11,10,9,8] [(7,λw'=>w'.cell? ⟨(pblk v51),(poff v51)+5,none⟩=some (Vp v54)),(4,λw'=>w'.cell? ⟨(pblk d),(poff d),none⟩=some (Vp v51))] 181 #[Value.agg #[Vp v58.r]] K_ K_ K_ K_ K_ K_ (λww=>by kernel_rfl) (Calls.mono h ?_);rintro _ w18 ⟨v59,rfl,h⟩;obtain⟨hk0,hk1,h⟩:=h;refine⟨_,rfl,⟨hk0,hk1,trivial⟩,?_⟩;refine zAc 13 [13,17] K_ K_ (zde ?_ ?_)
      ·replace h:=h.1;refine z5c (π:=zNb) (k:=13) (op:=(Op.call (Call.mk (Callee.value (Operand.func 217)) #[(Operand.tmp 54),(Operand.tmp 59)] #[75,3]))) (ty:=337) (dst:=some 60) 13 [7,12,6,11,5,10,4,9,3,8,2,1,0] [] 217 #[Vp v54,Vi v59] K_ K_ K_ K_ K_ K_ (λww=>by kernel_rfl) (Calls.mono h ?_);rintro _ w19 ⟨v60,v60_1,rfl,h⟩;refine⟨_,rfl,trivial,?_⟩;refine Mn P3 ?_;refine zQb (op:=(Op.alloc 72)) (ty:=0) (dst:=some 9) 17 [] [] (λbb=>pv_ bb) (Obj.cells ([Vi 0,Ns]).toArray y_a (0,0)) K_ K_ K_ K_ K_ K_ (λb_2 w20 hb hw=> ?_);replace h:=h b_2 w20 hb hw;clear hb hw;refine⟨trivial,?_⟩;refine zyb 18 [0,1,2,3,4,5,6,7,8,9,10,11,12,13,14,15,17] [] h λw21 h=> ?_;refine⟨trivial,?_⟩;refine Mf P1 [0,4,9] ?_;exact⟨_,Sub.mk K_,(Z0 b_2),rfl,h⟩
      ·replace h:=h.2;refine zMf (π:=zOb) (k:=13) (op:=(Op.alloc 72)) (ty:=0) (dst:=some 9) 17 [] [(7,λw'=>w'.cell? ⟨(pblk v51),(poff v51)+5,none⟩=some (Vp v54)),(4,λw'=>w'.cell? ⟨(pblk d),(poff d),none⟩=some (Vp v51))] (λbb=>pv_ bb) (Obj.cells ([Vi 0,Ns]).toArray y_a (0,0)) K_ K_ K_ K_ K_ K_ K_ (λb_3 w22 hb hw=> ?_);replace h:=h b_3 w22 hb hw;clear hb hw;obtain⟨hk0,hk1,h⟩:=h;refine⟨⟨hk0,hk1,trivial⟩,?_⟩;refine zF (op:=(Op.call (Call.mk (Callee.value (Operand.func 217)) #[(Operand.tmp 54),(Operand.tmp 59)] #[75,3]))) (ty:=337) (dst:=some 60) 13 [7,12,6,11,5,10,4,9,3,8,2,1,0] [] 217 #[Vp v54,Vi v59] K_ K_ K_ K_ K_ (λww=>by kernel_rfl) (Calls.mono h ?_);rintro _ w23 ⟨v601,v60_11,rfl,h⟩;refine⟨_,rfl,trivial,?_⟩;refine Mn P3 ?_;refine zyb 18 [0,1,2,3,4,5,6,7,8,9,10,11,12,13,14,15,17] [] h λw24 h=> ?_;refine⟨trivial,?_⟩;refine Mf P1 [0,4,9] ?_;exact⟨_,Sub.mk K_,(Z0 b_3),rfl,h⟩
     ·replace h:=h.2;refine zMf (π:=zPb) (k:=12) (op:=(Op.alloc 72)) (ty:=0) (dst:=some 9) 17 [] [(11,λw'=>zf w' (pblk d) (poff d) [Vp v58.r]),(7,λw'=>w'.cell? ⟨(pblk v51),(poff v51)+5,none⟩=some (Vp v54)),(4,λw'=>w'.cell? ⟨(pblk d),(poff d),none⟩=some (Vp v51))] (λbb=>pv_ bb) (Obj.cells ([Vi 0,Ns]).toArray y_a (0,0)) K_ K_ K_ K_ K_ K_ K_ (λb_4 w25 hb hw=> ?_);replace h:=h b_4 w25 hb hw;clear hb hw;obtain⟨hk0,hk1,hk2,h⟩:=h;refine⟨⟨hk0,hk1,hk2,trivial⟩,?_⟩;refine zF (op:=(Op.call (Call.mk (Callee.value (Operand.func 181)) #[(Operand.tmp 58)] #[99]))) (ty:=3) (dst:=some 59) 12 [11,10,9,8] [(7,λw'=>w'.cell? ⟨(pblk v51),(poff v51)+5,none⟩=some (Vp v54)),(4,λw'=>w'.cell? ⟨(pblk d),(poff d),none⟩=some (Vp v51))] 181 #[Value.agg #[Vp v58.r]] K_ K_ K_ K_ K_ (λww=>by kernel_rfl) (Calls.mono h ?_);rintro _ w26 ⟨v591,rfl,h⟩;obtain⟨hk0,hk1,h⟩:=h;refine⟨_,rfl,⟨hk0,hk1,trivial⟩,?_⟩;refine zF (op:=(Op.call (Call.mk (Callee.value (Operand.func 217)) #[(Operand.tmp 54),(Operand.tmp 59)] #[75,3]))) (ty:=337) (dst:=some 60) 13 [7,12,6,11,5,10,4,9,3,8,2,1,0] [] 217 #[Vp v54,Vi v591] K_ K_ K_ K_ K_ (λww=>by kernel_rfl) (Calls.mono h ?_);rintro _ w27 ⟨v602,v60_12,rfl,h⟩;refine⟨_,rfl,trivial,?_⟩;refine Mn P3 ?_;refine zyb 18 [0,1,2,3,4,5,6,7,8,9,10,11,12,13,14,15,17] [] h λw28 h=> ?_;refine⟨trivial,?_⟩;refine Mf P1 [0,4,9] ?_;exact⟨_,Sub.mk K_,(Z0 b_4),rfl,h⟩
    ·rintro _ w6 ⟨t_,rfl,h⟩;unfold F_i at h;refine Ys ?_;refine zx (id:=9) (ops:=zto) z6b K_ K_ K_ K_ (λw7 hw=> ?_);replace h:=h w7 hw;clear hw;refine Mn P1 ?_;refine Mv 64 h λhp_22 h=> ?_;refine Mn P1 ?_;refine Mn P2 ?_;refine Ml 4 h λv68 hc h=> ?_;refine Mv 68 h λhp_23 h=> ?_;refine Mn P1 ?_;refine Mn P1 ?_;refine Ml 7 h λv71 hc h=> ?_;refine Mv 9 h λhp_24 h=> ?_;refine ML 8 h λv72 hc h=> ?_;refine zF (op:=(Op.call (Call.mk (Callee.value (Operand.func 218)) #[(Operand.tmp 71),(Operand.tmp 72)] #[76,72]))) (ty:=50) (dst:=some 73) 9 [7,8,6,5,4,3,2,1,0] [] 218 #[Vp v71,Value.agg #[Vi v72.Number,sv_ v72.Writes]] K_ K_ K_ K_ K_ (λww=>by kernel_rfl) (Calls.mono h ?_);rintro _ w8 ⟨n_2,v73_1,rfl,h⟩;refine⟨_,rfl,trivial,?_⟩;refine Mn (Pl 5) ?_;refine Mu 9 (λpp=> .pointer pp) hp_24.symm ?_;refine Mf [] [0,4,9,11] ?_;refine Ycut (λl w=>l=[(4,pv_ b_),(9,Vp t_),(11,Vi n_2)]/\F_B R b_ t_ n_2 w) ?_ ?_
     ·refine Yp P2 [0,4,9,11,77] ?_;refine Yc h (λh=> ?_) λh=> ?_
      ·refine zx (id:=11) (ops:=zxo) z7b K_ K_ K_ K_ (λw11 hw=> ?_);replace h:=h w11 hw;clear hw;refine Mn P1 ?_;refine Mv 78 h λhp_34 h=> ?_;refine Mn P1 ?_;refine Mn P2 ?_;refine Ml 4 h λv82 hc h=> ?_;refine Mn P1 ?_;refine Mv 83 h λhp_35 h=> ?_;refine Mn P1 ?_;refine Mn P2 ?_;refine Ml 9 h λv87 hc h=> ?_;refine Mv 87 h λhp_36 h=> ?_;refine Mn P1 ?_;refine Mn P1 ?_;refine Ml 12 h λv90 hc h=> ?_;refine Mv 9 h λhp_37 h=> ?_;refine ML 13 h λv91 hc h=> ?_;refine zQb (op:=(Op.buildSlice 24 1 #[(0,(Operand.tmp 91))])) (ty:=24) (dst:=some 92) 14 [13] [(12,λw'=>w'.cell? ⟨(pblk v87),(poff v87)+12,none⟩=some (sv_ v90)),(9,λw'=>w'.cell? ⟨(pblk d),(poff d),none⟩=some (Vp v87)),(4,λw'=>w'.cell? ⟨(pblk d),(poff d),none⟩=some (Vp v82))] (λbb=>Value.slice (Z0 bb) 1 1) (Obj.cells ([Vi v91.Number,sv_ v91.Writes]).toArray y_a (0,0)) K_ K_ K_ K_ K_ K_ (λb_1 w12 hb hw=> ?_);replace h:=h b_1 w12 hb hw;clear hb hw;obtain⟨hk0,hk1,hk2,h⟩:=h;refine⟨⟨hk0,hk1,hk2,trivial⟩,?_⟩;obtain⟨src,hs,h⟩:=h;refine zNc (t:=24) (tx:=24) (e:=72) (a:=(Operand.tmp 90)) (xo:=(Operand.tmp 92)) (s:=v90) (x:=(Slc.mk (Z0 b_1) 1 1)) (sz:=2) (by_:=32) (zs:=[Vi 0,Ns]) (ty:=24) (dst:=some 93) 15 [12,14,11,13,10,9,8,7,6,5] [(4,λw'=>w'.cell? ⟨(pblk d),(poff d),none⟩=some (Vp v82))] src K_ K_ K_ K_ K_ K_ K_ K_ K_ K_ K_ K_ K_ hs (zG.mono h (λv93 w13 h=> ?_));obtain⟨hk0,h⟩:=h;refine⟨⟨hk0,trivial⟩,?_⟩;refine Mv 82 h λhp_38 h=> ?_;refine Mn P1 ?_;refine Mn P1 ?_;refine zyb 18 [0,1,2,3,4,5,6,7,8,9,10,11,12,13,14,15,17,16] [] h λw14 h=> ?_;refine⟨trivial,?_⟩;refine Mu 9 (λpp=> .pointer pp) hp_37.symm ?_;refine Mf [] [4,9,11] ?_;exact⟨_,Sub.mk K_,rfl,h⟩
      ·refine zK (id:=12) (ops:=zzo) K_ 11 K_ K_ (λw15 hw=> ?_);replace h:=h w15 hw;clear hw;refine Qn P1 ?_;refine Qv 96 h λhp_39 h=> ?_;refine Qn P1 ?_;refine Qn P2 ?_;refine Ql h λv100 h=> ?_;refine Qv 100 h λhp_40 h=> ?_;refine Qn P1 ?_;refine Qn P1 ?_;refine Ql h λv103 h=> ?_;refine Qv 9 h λhp_41 h=> ?_;refine Qn P1 ?_;refine Ql h λv105 h=> ?_;refine QL h λv106 h=> ?_;refine zEb K_ ?_;obtain⟨r,es,c,hr_,hm_,hi_,hn_,hk_,h⟩:=h;refine znc (t:=82) (kt:=3) (et:=72) (x:=(Operand.tmp 103)) (k:=(Operand.tmp 105)) (v:=(Operand.tmp 106)) (m:=v103) (es:=es) (kv:=(Vi v105)) (vv:=(Value.agg #[Vi v106.Number,sv_ v106.Writes])) (ty:=0) (dst:=none) r c (keyI K_) K_ K_ hr_ K_ K_ K_ hm_ hi_ hn_ hk_ (λes1 c1 w16 hs_ hw=> ?_);replace h:=h es1 c1 w16 hs_ hw;clear hw hs_;refine Yu 9 (λpp=> .pointer pp) hp_41.symm ?_;refine Yf [] [4,9,11] ?_;exact⟨_,Sub.mk K_,rfl,h⟩
     ·rintro _ w9 ⟨rfl,h⟩;exact go h [.t,.v 9,.n 1,.l,.n 2,.o,.f 0 [4],.z]
theorem S_rb {w_ w R} (h:F_Fe w_ R w):C_6 w_ w R:=Yh Tryz.func223 (go h [.p 1 [0],.s,.t,.n 1,.v 6,.n 1,.n 1,.l,.m,.f 1 [0,11],.c [.s,.t,.n 1,.v 12,.n 1,.n 2,.l,.v 16,.n 1,.n 1,.l,.f 2 [21],.c [.p 1 [2],.y],.k,.p 1 [2],.y],.k,.s,.t,.n 1,.v 23,.n 1,.n 1,.l,.m,.n 4,.w,.n 1,.o,.f 1 [0,3,5],.C1 .b 39 [0,39] [.r,.n 3,.b 32 [.v 33,.N 92,.N 92,.L,.N 92,.m,.f 1 [0,39],.x],.F 9111110 [0,39],.x],.c [.p 1 [2],.y],.k,.s,.t,.n 1,.v 40,.n 1,.n 1,.l,.m,.f 0 [44],.c [.p 1 [2],.y],.k,.p 1 [2],.y])
theorem S_g {w_ k_ w R} (h:F_Vb w_ k_ R w):C_J w_ k_ w R:=Yh Tryz.func224 (go h [.t,.w,.f 0 [0,1,4],.s,.p 1 [0,4,11],.d 0,.p 2 [0,4,11,12],.c [.t,.n 1,.v 14,.n 1,.n 2,.l,.v 18,.n 1,.n 1,.l,.i,.L,.w,.o,.f 0 [0,4,5],.s,.Q 16,.n 1,.v 24,.n 1,.n 2,.l,.n 1,.v 29,.n 1,.n 2,.l,.v 33,.n 1,.n 1,.l,.S,.v 28,.n 1,.n 1,.T,.o,.f 0 [0,4,5],.s,.Q 5,.n 1,.v 40,.n 1,.n 1,.l,.L,.T,.m,.f 0 [4,5],.t,.n 1,.l,.n 1,.o,.f 0 [4],.z],.p 2 [0,4,49],.c [.t,.n 1,.v 52,.n 1,.n 1,.l,.m,.n 4,.w,.n 1,.o,.f 1 [0,4,6,7],.s,.Q 12,.n 1,.v 60,.n 1,.n 2,.l,.v 64,.n 1,.n 1,.l,.n 1,.i,.l,.L,.T,.m,.f 0 [0,4,6],.t,.n 1,.v 73,.n 1,.n 1,.l,.m,.f 0 [0,4,6],.t,.n 1,.v 78,.n 1,.n 1,.l,.m,.n 2,.o,.f 0 [4],.z],.k,.t,.n 1,.v 86,.n 1,.n 1,.l,.m,.f 5 [0,4,9],.s,.M [],.n 1,.v 93,.n 1,.n 2,.l,.n 1,.v 98,.n 1,.n 2,.l,.v 102,.n 1,.n 1,.l,.n 1,.V,.K 3,.A,.K 1,.v 97,.n 1,.n 1,.o,.K 0,.f 0 [4,9],.t,.n 2,.o,.f 0 [4],.z])
theorem S_sb {k_ w R} (h:F_Ge k_ R w):C_7 k_ w R:=Yh Tryz.func234 (go h [.p 1 [0],.s,.t,.n 1,.v 3,.n 1,.n 1,.l,.m,.f 1 [8],.c [.p 1 [2],.y],.k,.p 1 [2],.y])
theorem S_z {k_ t1 w R} (h:F_Zc k_ t1 R w):C_2 k_ t1 w R:=Yh Tryz.func235 (go h [.t,.w,.f 0 [0,4],.t,.n 1,.v 10,.n 1,.n 1,.l,.m,.n 3,.w,.o,.f 1 [0,4,5],.s,.t,.n 1,.l,.f 1 [0,4,5,19],.c [.s,.D,.n 1,.v 20,.n 1,.n 2,.l,.v 24,.n 1,.n 1,.l,.n 1,.l,.n 1,.i,.l,.f 1 [0,4,7],.t,.n 1,.m,.f 0 [0,4,7],.s,.M [0,2,3,4,5,1,6,7],.n 2,.v 37,.n 1,.n 1,.l,.m,.K 1,.n 1,.o,.K 0,.f 0 [4],.z],.k,.s,.D,.n 1,.v 42,.n 1,.n 2,.l,.v 46,.n 1,.n 1,.l,.n 1,.l,.n 1,.i,.l,.f 1 [0,4,5,8],.s,.Q 5,.n 1,.v 55,.n 1,.n 1,.l,.L,.T,.m,.f 0 [0,4,5,8],.C0 [0,4,5] [.t,.n 1,.v 61,.n 1,.n 1,.l,.m,.f 0 [0,4,5,8,65],.c [.r,.n 1,.m,.f 0 [0,4,5],.x],.k,.x],.s,.Q 7,.n 1,.l,.n 1,.v 70,.n 1,.n 1,.l,.n 1,.T,.o,.f 0 [4],.z])
theorem S_tb {w_ w R} (h:F_Le w_ R w):C_ab w_ w R:=Yh Tryz.func281 (go h [.p 1 [0],.s,.t,.n 1,.v 3,.n 1,.n 2,.l,.v 7,.n 1,.n 1,.l,.f 2 [12],.c [.p 1 [2],.y],.k,.p 1 [2],.y])
theorem S_gb {w_ t1 w R} (h:F_re w_ t1 R w):C_Pb w_ t1 w R:=Yh Tryz.func282 (go h [.t,.w,.f 0 [0,4],.t,.n 1,.v 12,.n 1,.n 2,.l,.v 16,.n 1,.n 1,.l,.i,.l,.f 1 [0,4,5],.s,.Q 16,.n 1,.v 22,.n 1,.n 2,.l,.n 1,.v 27,.n 1,.n 2,.l,.v 31,.n 1,.n 1,.l,.S,.v 26,.n 1,.n 1,.T,.o,.f 0 [0,4,5],.t,.n 1,.v 39,.n 1,.n 2,.l,.v 43,.n 1,.n 1,.l,.n 1,.m,.f 5 [0,4,5,6],.s,.p 3 [0,4,5,51,52,53],.d 0,.O1 .i 53 [0,4,5,51,52,53],.p 1 [0,4,5,51,52,53,54],.s,.c [.k,.s,.d 1,.t,.i,.l,.n 1,.f 0 [0,4,5,9,51,52,53],.s,.M [],.n 1,.v 57,.n 1,.n 2,.l,.n 1,.v 62,.n 1,.n 2,.l,.v 66,.n 1,.n 1,.l,.n 1,.v 70,.n 1,.n 2,.l,.v 74,.n 1,.n 1,.l,.n 1,.k0,.V,.K 3,.A,.K 1,.v 61,.n 1,.n 1,.o,.K 0,.f 0 [0,4,5,9,51,52,53],.r,.n 1,.v 84,.n 1,.n 2,.l,.v 88,.n 1,.n 1,.l,.n 1,.dl,.f 0 [0,4,5,51,52,53],.r,.f 2 [0,4,5,51,52,53],.x],.e 0,.t,.n 1,.v 95,.n 1,.n 2,.l,.v 99,.n 1,.n 1,.l,.n 1,.m,.f 5 [4,5,10],.t,.n 3,.o,.f 0 [4],.z])
end
end Go.Proofs.YtofjmclceflgiaaGreat
