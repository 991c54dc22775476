/- WRITTEN BY PROGRAM (dec.py): for each Go function the clean formula F, the call's contract C, and the proof S that F gives C. -/
import Derived.Test.YtofjmclceflgiaaGreatRows
import Derived.Test.YtofjmclceflgiaaGreatGF
namespace Go.Proofs.YtofjmclceflgiaaGreat
open Go
set_option linter.unusedVariables false
set_option maxRecDepth 100000
set_option maxHeartbeats 4000000
noncomputable section

/-! ### towpath/conf.Check (function 36) -/

theorem S_Qb {c:T_f} {w:World} {R:Int→WP} (h:F_td c R w):C_3 c w R:=by
 unfold F_td at h
 refine Yh Tryz.func36 ?_
 ·refine Yt ?_
  refine Yw pv_ h fun b_ w1 h=> ?_
  refine Yf P1 [1] (Ys (Yt (Yn P1 ?_)))
  refine Yl h fun v6 h=> ?_
  refine Yn P2 ?_
  refine Yl h fun v9 h=> ?_
  refine Yn P2 ?_
  refine Yl h fun v12 h=> ?_
  refine Yn P2 ?_
  refine Yl h fun v15 h=> ?_
  refine Yn P1 ?_
  refine Yw (sl_ 4 4) h fun b_1 w2 h=> ?_
  refine Yf P2 [17,18,19] (Yd 0 ?_)
  obtain⟨I,μ,h0,hr⟩:=h
  refine znb (fun m l w=>∃(t19:Int),l=[(17,Value.slice (some ⟨b_1,0,none⟩) 4 4),(18,Vi ((4:Nat):Int)),(19,Vi t19)]∧I t19 w∧μ t19 w=m) ⟨0,rfl,h0,rfl⟩ ?_
  rintro _ _ w3 ⟨t19,rfl,hI,rfl⟩
  obtain⟨again_,again__h,h⟩:∃ again_:Int→WP,(∀ t19' w',again_ t19' w'→I t19' w'∧μ t19' w'<μ t19 w3)∧F_uc R b_1 again_ t19 w3:=⟨_,fun _ _ h=>h,hr t19 w3 hI⟩
  clear h0 hI
  unfold F_uc at h
  refine Yp P1 [17,18,19,20] (Ys ?_)
  refine Yc h (fun h=> ?_) fun h=> ?_
  ·refine zk (Ys (Yd 1 (Yt ?_)))
   obtain⟨h0,h1,h⟩:=h
   refine zrc (t:=179) (e:=178) (x:=(Operand.tmp 17)) (ix:=(Operand.tmp 19)) (b:=b_1) (o:=0) (l:=4) (c:=4) (k:= .i64) (j:=t19) (ty:=0) (dst:=some 21) (sz:=2) K_ K_ K_ K_ K_ h0 h1 ?_
   refine YL h fun v22 h=> ?_
   refine Yw pv_ h fun b_2 w4 h=> ?_
   refine Yo h fun w5 h=> ?_
   refine Yf [] [4,17,18,19] ?_
   refine Ycut (fun l w=>∃(t32:Bool),l=[(17,Value.slice (some ⟨b_1,0,none⟩) 4 4),(18,Vi ((4:Nat):Int)),(19,Vi t19),(32,Vo t32)]∧F_tc R t19 again_ t32 w) ?_ ?_
   ·refine Yr ?_
    obtain⟨h0,h1,h⟩:=h
    refine zdb (t:=178) (e:=3) (x:=(Operand.tmp 4)) (ix:=(Operand.const (Value.int IntKind.i64 0))) (b:=b_2) (o:=0) (len:=2) (k:= .i64) (j:=0) (ty:=0) (dst:=some 23) K_ K_ K_ K_ K_ h0 h1 ?_
    refine Yl h fun v24 h=> ?_
    refine Yn P2 ?_
    refine Yspl 26 h (fun h=> ?_) fun h=> ?_
    ·refine Yf [.skip,.skip,.skip,.skip,.skip,.plain] [17,18,19,32] ?_
     exact⟨_,Sub.mk K_,true,rfl,h⟩
    ·obtain⟨h0,h1,h⟩:=h
     refine zdb (t:=178) (e:=3) (x:=(Operand.tmp 4)) (ix:=(Operand.const (Value.int IntKind.i64 0))) (b:=b_2) (o:=0) (len:=2) (k:= .i64) (j:=0) (ty:=0) (dst:=some 27) K_ K_ K_ K_ K_ h0 h1 ?_
     refine Yl h fun v28 h=> ?_
     obtain⟨h0,h1,h⟩:=h
     refine zdb (t:=178) (e:=3) (x:=(Operand.tmp 4)) (ix:=(Operand.const (Value.int IntKind.i64 1))) (b:=b_2) (o:=0) (len:=2) (k:= .i64) (j:=1) (ty:=0) (dst:=some 29) K_ K_ K_ K_ K_ h0 h1 ?_
     refine Yl h fun v30 h=> ?_
     refine Yf [.sure,.plain] [17,18,19,32] ?_
     exact⟨_,Sub.mk K_,(decide (v28>v30)),rfl,h⟩
   ·rintro _ w6 ⟨t32,rfl,h⟩
    unfold F_tc at h
    refine Yc h (fun h=> ?_) fun h=> ?_
    ·refine Yp P1 [2] ?_
     exact YS ⟨7,rfl,h⟩
    ·refine zk (Yr (Yf P2 [17,18,19] ?_))
     have hb_:=again__h _ _ h
     exact⟨_,hb_.2,_,Sub.mk K_,(IntKind.i64.wrap (t19+1)),rfl,hb_.1,rfl⟩
  ·refine z3 0 (Yp P1 [2] ?_)
   exact YS ⟨0,rfl,h⟩

/-! ### towpath/conf.Shard (function 62) -/
def z7v:=cb_ Tryz.f62
def z8v:=cr_ z7v
def zit:=cr_ z8v
def zjt:=cr_ zit
def zkt:=cl_ zjt
def zlt:=co_ zkt

theorem S_Rb {c:T_f} {key:ByteArray} {w:World} {R:Int→Int→WP} (h:F_wd c key R w):C_Eb c key w R:=by
 unfold F_wd at h
 refine Yh Tryz.func62 ?_
 ·refine Yt ?_
  refine Yw pv_ h fun b_ w1 h=> ?_
  refine Yf P2 [1,2] (Ys (Yt ?_))
  refine YL h fun v7 h=> ?_
  refine Ym1 h fun v8 w2 h=> ?_
  refine Yf P1 [1,2,6] (Yp P2 [1,2,6,10] ?_)
  refine Yc h (fun h=> ?_) fun h=> ?_
  ·refine Yp P3 [4,5] ?_
   exact YT2 ⟨0,v8,rfl,h⟩
  ·refine zk (Ys (Yp [.plain,.plain,.plain,.plain,.plain,.plain,.pick] [1,2,18] ?_))
   refine Yc h (fun h=> ?_) fun h=> ?_
   ·refine Yp P2 [4,5] ?_
    exact YT2 ⟨0,1,rfl,h⟩
   ·refine zk (Ys ?_)
    refine zv (id:=6) (ops:=zlt) K_ K_ K_ ?_
    refine Qn P1 ?_
    obtain⟨v20,hq,h⟩:=h
    refine zZj (op:=(Op.call (Call.mk (Callee.value (Operand.func 98)) #[(Operand.tmp 19)] #[9]))) (ty:=233) (dst:=some 20) 98 #[Value.string key] (Value.int .u32 v20) K_ (fun ww=>by kernel_rfl) (fun w' he=>Calls.mono (hq w' he) (by rintro _ w'' ⟨_,rfl,rfl,hE⟩; exact⟨rfl,hE⟩)) ?_
    clear hq
    refine Qn P1 ?_
    refine Ql h fun v22 h=> ?_
    refine Qn P1 ?_
    obtain⟨h0,h⟩:=h
    refine zbd (op:=(Op.binOp BinOp.rem 233 (Operand.tmp 20) (Operand.tmp 23) 233)) (ty:=233) (dst:=some 24) (Value.int .u32 (Int.tmod v20 (IntKind.u32.wrap v22))) K_ (fun ww=>zcg K_ K_ h0 ww) ?_
    refine Qf P3 [4,5] h fun w4 h=> ?_
    exact YT2 ⟨(IntKind.i64.wrap (Int.tmod v20 (IntKind.u32.wrap v22))),0,rfl,h⟩
end
end Go.Proofs.YtofjmclceflgiaaGreat
