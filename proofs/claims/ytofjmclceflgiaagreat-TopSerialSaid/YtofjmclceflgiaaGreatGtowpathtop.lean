/- WRITTEN BY PROGRAM (dec.py): for each Go function the clean formula F, the call's contract C, and the proof S that F gives C. -/
import Derived.Test.YtofjmclceflgiaaGreatRows
import Derived.Test.YtofjmclceflgiaaGreatGF
namespace Go.Proofs.YtofjmclceflgiaaGreat
open Go
set_option linter.unusedVariables false
set_option maxRecDepth 100000
set_option maxHeartbeats 4000000
noncomputable section

/-! ### towpath/towpathtop.started (function 5) -/

theorem S_T {w_:T_g} {w:World} {R:OA→OA→WP} (h:F_6b w_ R w):C_J w_ w R:=by
 unfold F_6b at h
 refine Yh Tryz.func5 ?_
 ·refine Yt ?_
  refine Yw pv_ h fun b_ w1 h=> ?_
  refine Yf P2 [1] (Yt (Yn P1 ?_))
  refine Yl h fun v12 h=> ?_
  refine Ym2 h fun d e w2 h=> ?_
  refine Yf (Pl 5) [1,4,5] (Yt (Yn P1 ?_))
  refine Yl h fun v18 h=> ?_
  refine Ym2 h fun s f w3 h=> ?_
  refine Yf (Pl 5) [1,4,5,6,7] (Ys (Yp [.plain,.plain,.plain,.plain,.plain,.pick] [1,4,6,27] ?_))
  refine Yc h (fun h=> ?_) fun h=> ?_
  ·refine Yp P2 [2,3] ?_
   exact YT2 ⟨none,none,rfl,h⟩
  ·refine zk (Yt (Yn P1 ?_))
   refine YL h fun v30 h=> ?_
   refine Yn P2 ?_
   refine Ym2 h fun r g w4 h=> ?_
   refine Yf (Pl 5) [1,4,8,9] (Ys (Yp P2 [1,4,8,37] ?_))
   refine Yc h (fun h=> ?_) fun h=> ?_
   ·refine Yp P2 [2,3] ?_
    exact YT2 ⟨none,none,rfl,h⟩
   ·refine zk (Yt (Yn P2 ?_))
    refine Yl h fun v40 h=> ?_
    refine Ym1 h fun v41 w5 h=> ?_
    refine Yf [] [4,8] (Yp P4 [2,3] ?_)
    exact YT2 ⟨r,d,rfl,h⟩

/-! ### towpath/towpathtop.known20 (function 6) -/

theorem S_U {w:World} {R:Bool→WP} (h:F_7b R w):C_g w R:=by
 unfold F_7b at h
 refine Yh Tryz.func6 ?_
 ·refine Yp P1 [] (Yt (Yn P1 ?_))
  refine Yw (sl_ 1 1) h fun b_ w1 h=> ?_
  refine Yn P1 ?_
  refine Yw pv_ h fun b_1 w2 h=> ?_
  refine Yo h fun w3 h=> ?_
  refine Yf [] [1] (Yt (Yn P1 ?_))
  refine Yw (sl_ 1 1) h fun b_2 w4 h=> ?_
  refine Yn P1 ?_
  refine Yw pv_ h fun b_3 w5 h=> ?_
  refine Yo h fun w6 h=> ?_
  refine Yf [] [1,2] (Yt (Yn P1 ?_))
  refine YL h fun v17 h=> ?_
  refine YL h fun v18 h=> ?_
  refine Yw (sl_ 2 2) h fun b_4 w7 h=> ?_
  refine Yn P1 ?_
  refine Ym2 h fun r v21_1 w8 h=> ?_
  refine Yf (Pl 5) [3] (Ys (Yt (Yn P1 ?_)))
  refine zw (op:=(Op.binOp BinOp.eql 28 (Operand.tmp 24) (Operand.const (Vp none)) 28)) (ty:=4) (dst:=some 25) (Vo r.isNone) K_ (fun ww=>zy (p:=r) K_ K_ K_ ww) ?_
  refine Yf [] [3,25] ?_
  refine Yc h (fun h=> ?_) fun h=> ?_
  ·refine Yp P1 [0] ?_
   exact YS ⟨false,rfl,h⟩
  ·refine zk (Yp P1 [3,5] ?_)
   refine Ycut (fun l w=>∃(n_:Int),l=[(3,Vp r),(5,Vi n_)]∧F_t R r n_ w) ?_ ?_
   ·refine Yd 0 ?_
    obtain⟨I,μ,h0,hr⟩:=h
    refine znb (fun m l w=>∃(n_1:Int),l=[(3,Vp r),(5,Vi n_1)]∧I n_1 w∧μ n_1 w=m) ⟨0,rfl,h0,rfl⟩ ?_
    rintro _ _ w11 ⟨n_1,rfl,hI,rfl⟩
    obtain⟨again_,again__h,h⟩:∃ again_:Int→WP,(∀ n_1' w',again_ n_1' w'→I n_1' w'∧μ n_1' w'<μ n_1 w11)∧F_ab R r again_ n_1 w11:=⟨_,fun _ _ h=>h,hr n_1 w11 hI⟩
    clear h0 hI
    unfold F_ab at h
    refine Ys (Yp P2 [3,5,27] ?_)
    refine Yc h (fun h=> ?_) fun h=> ?_
    ·refine zk (Ys (Yd 1 (Yt (Yn P1 ?_))))
     refine Ym2 h fun v32 e w12 h=> ?_
     refine Yn P3 ?_
     refine Yw pv_ h fun b_5 w13 h=> ?_
     refine Yo h fun w14 h=> ?_
     refine Yf P1 [3,5,7] (Yp P2 [3,5,36] ?_)
     refine Yc h (fun h=> ?_) fun h=> ?_
     ·refine z3 0 ?_
      exact⟨_,Sub.mk K_,n_1,rfl,h⟩
     ·refine zk (Yr (Yf P3 [3,5] ?_))
      have hb_:=again__h _ _ h
      exact⟨_,hb_.2,_,Sub.mk K_,(IntKind.i64.wrap (n_1+1)),rfl,hb_.1,rfl⟩
    ·refine z3 0 ?_
     exact⟨_,Sub.mk K_,n_1,rfl,h⟩
   ·rintro _ w9 ⟨n_,rfl,h⟩
    unfold F_t at h
    refine Yt (Yn P1 ?_)
    refine Ym1 h fun v38 w10 h=> ?_
    refine Yf P1 [5,8] (Yt (Yn [.plain,.plain,.plain,.plain,.plain,.plain,.pick,.plain,.plain] ?_))
    refine Yspl 46 h (fun h=> ?_) fun h=> ?_
    ·obtain⟨hp_0,h⟩:=h
     refine Yu 47 (fun pp=> .slice pp v38.len v38.cap) hp_0 ?_
     refine Yi h fun h=> ?_
     refine YL h fun v49 h=> ?_
     refine Yn [.sure] ?_
     refine zw (op:=(Op.binOp BinOp.eql 74 (Operand.tmp 49) (Operand.tmp 50) 74)) (ty:=4) (dst:=some 51) (Vo ((v49.Key==(ByteArray.mk #[97]))&&(v49.Val==(ByteArray.mk #[50])))) K_ (fun ww=>zod (xs:=[Value.string v49.Key,Value.string v49.Val]) (ys:=[Value.string (ByteArray.mk #[97]),Value.string (ByteArray.mk #[50])]) K_ K_ K_ K_ K_ ww) ?_
     refine Yf P2 [0] ?_
     exact YS ⟨((v49.Key==(ByteArray.mk #[97]))&&(v49.Val==(ByteArray.mk #[50]))),rfl,h⟩
    ·refine Yf [.skip,.skip,.skip,.skip,.plain,.plain] [0] ?_
     exact YS ⟨false,rfl,h⟩

/-! ### towpath/towpathtop.pick (function 8) -/

theorem S_jb {l_:Slc} {at_:Int} {w:World} {R:Int→WP} (h:F_Gc l_ at_ R w):C_ib l_ at_ w R:=by
 unfold F_Gc at h
 refine Yh Tryz.func8 ?_
 ·refine Yp P1 [0,1] (Ys (Yp P4 [0,1,8] ?_))
  refine Yc h (fun h=> ?_) fun h=> ?_
  ·refine Yt (Yn P2 ?_)
   obtain⟨hp_1,h⟩:=h
   refine Yu 9 (fun pp=> .slice pp l_.len l_.cap) hp_1 ?_
   refine Yi1 h fun h=> ?_
   refine Yl h fun v12 h=> ?_
   refine Yf P1 [4] ?_
   exact YS ⟨v12,rfl,h⟩
  ·refine zk (Yp P2 [4] ?_)
   exact YS ⟨at_,rfl,h⟩
end
end Go.Proofs.YtofjmclceflgiaaGreat
