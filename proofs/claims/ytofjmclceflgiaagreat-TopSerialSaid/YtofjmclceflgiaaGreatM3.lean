/- TopSerial: the law. -/
import Derived.Test.YtofjmclceflgiaaGreatM2
import Derived.Test.YtofjmclceflgiaaGreatGmaps
import Derived.Shelf.SlIter.Nil
import Derived.Shelf.SortM.Plain
import Derived.Shelf.SortM.SortNone
import Derived.Ground.GgzProg
import Derived.Ground.SlgmProg
import Derived.StringKeys
import Derived.Test.YtofjmclceflgiaaGreatGreplica
import Derived.Shelf.SlSortCmp.WholeK
import Derived.Shelf.SlSortCmp.NoneTotal
import Derived.Shelf.Small.Strs
import Derived.Ground.SlsfProg
import Derived.Ground.NamesProg
import Derived.Test.YtofjmclceflgiaaGreatGfold
import Derived.Test.YtofjmclceflgiaaGreatGtowpathlaw01
import Derived.Test.YtofjmclceflgiaaGreatGtowpathtop
import Derived.Test.YtofjmclceflgiaaGreatGTopSerial
namespace Go.Proofs.YtofjmclceflgiaaGreat
open Go
set_option linter.unusedVariables false
set_option linter.unusedSimpArgs false
set_option maxHeartbeats 4000000

section
variable {W:World} {m0:List (Nat×Obj)} {w:World} {fr:List zg} {c:Cfg} {log:List Tx}
theorem zss {rb db b_ pb wm top bD:Nat} {f sp dp gt:OA} {tsl:Slc} {trow fcs dcs gcs:List zg} {tv:List Value} {fx:List zg} {fv:Base} {dm:List (Nat×Obj)} {R:OA→Int→WP}
    (hc:z8 c=0) (H:BldW rb c bD [] tv [] fx) (tro:RowC 1 tsl tv trow) (fo:FdO fv sp (some ⟨log,0,0,0,c.Window.toNat,[],none,false⟩) f fcs) (dpo:DepO dp 0 [] [] dm dcs) (go:ztd gt ⟨0,top,fun _=>false⟩ gcs)
    (hpb:(pb,List.replicate c.Shards.toNat (Vs nilS))∈fx) (hbc:(b_,cfgV c)∈fx)
    (st:St ⟨W,fv.mp++(dm++((wm,.map #[] 0)::m0))⟩ ((rb,repB c db f dp gt nilS nilS tsl wm)::(trow++(fcs++(dcs++(gcs++(fx++fr)))))) w)
    (k:∀ σ d w',σ.cfg=c→RepI σ d log 0 (s0 c.Lanes.toNat c.Shards.toNat top)→St ⟨W,d.mp σ++m0⟩ (d.cs σ++fr) w'→R (some ⟨σ.rb,0,none⟩) 0 w') :
    ∃(I:Int→WP) (μ:Int→World→Nat),I 0 w∧∀(t103:Int) w,I t103 w→F_ub R b_ (some ⟨rb,0,none⟩) ⟨some ⟨pb,0,none⟩,c.Shards.toNat,c.Shards.toNat⟩ c.Lanes (fun(t103':Int) w'=>I t103' w'∧μ t103' w'<μ t103 w) t103 w:=by
 have hck:=z1 hc
 have hlm:=hck.1
 refine⟨fun i w'=>∃(p:Nat) (lsl tsl:Slc) (lp:List (OA)) (lrow trow:List zg) (tv:List Value) (LB:List (List zg)) (fx:List zg),i=(p:Int)∧lp.length=p∧(p:Int)≤c.Lanes∧RowC 1 lsl (lp.map pP) lrow∧RowC 1 tsl tv trow∧BldW rb c bD lp tv LB fx∧(pb,List.replicate c.Shards.toNat (Vs nilS))∈fx∧(b_,cfgV c)∈fx ∧
  St ⟨W,fv.mp++(dm++((wm,.map #[] 0)::m0))⟩ ((rb,repB c db f dp gt lsl nilS tsl wm)::(lrow++(trow++(fcs++(dcs++(gcs++(fl LB++(fx++fr)))))))) w',fun i _=>c.Lanes.toNat - i.toNat,
  ⟨0,nilS,tsl,[],[],trow,tv,[],fx,rfl,rfl,O_,RowC.nil,tro,H,hpb,hbc,by simpa [zon] using st⟩,?_⟩
 clear st tro hpb hbc
 rintro i w1 ⟨p,lsl,tsl,lp,lrow,trow,tv,LB,fx,rfl,hlp,hps,lro,tro,H,hpb,hbc,st⟩
 have hll:=lro.len
 rw [List.length_map,hlp,Nat.mul_one] at hll
 have htl:=tro.len
 rw [H.tl,Nat.mul_one] at htl
 unfold F_ub
 refine⟨fun hi=> ?_,fun hi=> ?_⟩
 ·have hi:=of_decide_eq_true hi
  have wp:IntKind.i64.wrap ((p:Int)+1)=((p+1:Nat):Int):=by rw [i64_in _ O_ O_]; omega
  have hnew:newM ((p+1:Nat):Int) c=(some ⟨((p+1:Nat):Int),c,none⟩,0):=by
   unfold newM
   rw [if_neg (by simpa using hc),if_neg O_]
  rw [wp]
  refine⟨c,(st.blk (b_,cfgV c) (by simp [hbc])).all,s_sb st fun g bs w2 lo _ st=> ?_⟩
  rw [hnew] at lo ⊢
  refine⟨fun h=>(by cases h),fun _=> ?_⟩
  have st:St _ ((rb,repB c db f dp gt lsl nilS tsl wm)::(lrow++(trow++(fcs++(dcs++(gcs++(fl (LB++[bs])++(fx++fr)))))))) w2:=st.perm (za fun f_=>by simp [zMh] <;> omega)
  refine⟨rfl,lsl,st.cell 0 rfl rfl,fun b4 w3 hb4 hw3=>⟨[pP g],zwb hb4 hw3 rfl,?_⟩⟩
  have st3:St _ (lrow++((rb,repB c db f dp gt lsl nilS tsl wm)::(trow++(fcs++(dcs++(gcs++(fl (LB++[bs])++(fx++fr)))))))) w3:=((st.alloc (cs:=[pP g]) hb4 hw3).drop1).pq
  refine lro.append st3 rfl rfl rfl (by show(lsl.len+1)*8≤_; omega) fun lsl' lrow' w4 lro' st hl'=> ?_
  have st:St _ ((rb,repB c db f dp gt lsl nilS tsl wm)::(lrow'++(trow++(fcs++(dcs++(gcs++(fl (LB++[bs])++(fx++fr)))))))) w4:=st.pq
  refine⟨rfl,st.writable 0 rfl (by show 0+8+1≤18; omega),fun w5 hw5=> ?_⟩
  have st:St _ ((rb,repB c db f dp gt lsl' nilS tsl wm)::(lrow'++(trow++(fcs++(dcs++(gcs++(fl (LB++[bs])++(fx++fr)))))))) w5:=st.put0 hw5
  refine⟨rfl,tsl,st.cell 0 rfl rfl,fun b5 w6 hb5 hw6 b6 w7 hb6 hw7=>⟨[Value.iface 136 (aP b5)],zwb hb6 hw7 rfl,?_⟩⟩
  have st:=(st.alloc (cs:=[aP rb,pP g]) hb5 hw6).alloc (cs:=[Value.iface 136 (aP b5)]) hb6 hw7
  have st:St _ (trow++((rb,repB c db f dp gt lsl' nilS tsl wm)::(lrow'++(fcs++(dcs++(gcs++(fl (LB++[bs])++(((b5,[aP rb,pP g])::fx)++fr)))))))) w7:=st.drop1.pq
  refine tro.append st rfl rfl rfl (by show(tsl.len+1)*16≤_; omega) fun tsl' trow' w8 tro' st hl2=> ?_
  have st:St _ ((rb,repB c db f dp gt lsl' nilS tsl wm)::(lrow'++(trow'++(fcs++(dcs++(gcs++(fl (LB++[bs])++(((b5,[aP rb,pP g])::fx)++fr)))))))) w8:=st.pq
  refine⟨rfl,st.writable 0 rfl (by show 0+10+1≤18; omega),fun w9 hw9=> ?_⟩
  have st:=st.put0 hw9
  have hadd:=H.add (b:=b5) (p:=g) (bs:=bs) (by rw [hlp]; exact lo)
  exact⟨⟨p+1,lsl',tsl',lp++[g],lrow',trow',tv++[Value.iface 136 (aP b5)],LB++[bs],(b5,[aP rb,pP g])::fx,rfl,by simp [hlp],O_,by rw [List.map_append]; exact lro',tro',hadd,List.mem_cons_of_mem _ hpb,List.mem_cons_of_mem _ hbc,st⟩,by show c.Lanes.toNat - (((p+1:Nat):Int)).toNat<c.Lanes.toNat - ((p:Nat):Int).toNat; omega⟩
 ·have hi:=of_decide_eq_false hi
  have hpe:p=c.Lanes.toNat:=O_
  refine⟨c.Shards,(st.blk (b_,cfgV c) (by simp [hbc])).cell rfl,zAs (sp:=sp) hc O_ H lro tro fo dpo go hpb hbc st fun σ d w' e I st=>k σ d w' e ?_ st⟩
  rw [hlp,hpe] at I
  exact I
theorem zWv {win:Int} (hw:1≤win∧win≤64):zkc log 0 [] win=0:=by
 unfold zkc
 rw [if_neg O_,if_neg (fun h=>h fun i x hi=>by simp at hi),if_neg (by
  rw [show([]:List Int).length=0 from rfl,z7c]; omega)]
theorem zhn {rb db b_ b1 sb wm:Nat} {cap:Int} {dp:OA} {dcs scs:List zg} {dm:List (Nat×Obj)} {R:OA→Int→WP}
    (hc:z8 c=0) (hl:chkL 1 log=0) (so:SrcO sb log [] scs) (dpo:DepO dp 0 [] [] dm dcs)
    (st:St ⟨W,dm++((wm,.map #[] 0)::m0)⟩ ((rb,repB c db none dp none nilS nilS nilS wm)::(dcs++((b1,savV saved0)::(b_,cfgV c)::(db,zNb cap)::(scs++fr)))) w)
    (k:∀ σ d top w',σ.cfg=c→RepI σ d log 0 (s0 c.Lanes.toNat c.Shards.toNat top)→St ⟨W,d.mp σ++m0⟩ (d.cs σ++fr) w'→R (some ⟨σ.rb,0,none⟩) 0 w'):F_fb (some ⟨sb,0,none⟩) R b_ b1 (some ⟨rb,0,none⟩) w:=by
 have hck:=z1 hc
 have hwi:=hck.2.2.1
 unfold F_fb
 have cs1:∀ {w':World} {mp:List (Nat×Obj)} {L:List zg} {o:Nat} {v:Value},St ⟨W,mp⟩ L w'→(b1,savV saved0)∈L→(savV saved0)[o]? =some v→w'.cell? ⟨b1,o,none⟩=some v:=fun st hm hv=>(st.blk _ hm).cell hv
 refine⟨0,cs1 st (by simp) rfl,nilS,cs1 st (by simp) rfl,c.Window,(st.blk (b_,cfgV c) (by simp)).cell rfl,?_⟩
 have st1:St ⟨W,dm++((wm,.map #[] 0)::m0)⟩ (scs++((rb,repB c db none dp none nilS nilS nilS wm)::(dcs++((b1,savV saved0)::(b_,cfgV c)::(db,zNb cap)::fr)))) w:=st.pq
 refine s_Pb (bs:=[]) hl so st1 (fun {l' w'} _=>⟨rfl,.inl rfl⟩) (by show 0≤_; omega) D_ (fun x hx=>(by cases hx)) (fun h=>absurd (zWv hwi) h) fun _ fm fb fcs w2 fo st=> ?_
 have st:St ⟨W,fm++(dm++((wm,.map #[] 0)::m0))⟩ ((rb,repB c db none dp none nilS nilS nilS wm)::(fcs++(dcs++((b1,savV saved0)::(b_,cfgV c)::(db,zNb cap)::fr)))) w2:=st.pq
 refine⟨rfl,st.writable 0 rfl (by show 0+5+1≤18; omega),fun w3 hw3=>⟨fun h=>(by cases h),fun _=> ?_⟩⟩
 have st:St ⟨W,fm++(dm++((wm,.map #[] 0)::m0))⟩ ((rb,repB c db (some ⟨fb,0,none⟩) dp none nilS nilS nilS wm)::(fcs++(dcs++((b1,savV saved0)::(b_,cfgV c)::(db,zNb cap)::fr)))) w3:=st.put0 hw3
 refine⟨0,cs1 st (by simp) rfl,nilS,cs1 st (by simp) rfl,?_⟩
 refine s_ub (mark:=0) (xs:=[]) st (fun l' w' _=>⟨rfl,.inl rfl⟩) (by show 0≤_; omega) (fun h=> ?_) fun mk hmk _ _ g' top gcs w4 go st=> ?_
 ·rcases h with h | h | h
  ·omega
  ·omega
  ·cases h
 obtain rfl:mk=0:=O_
 have go:ztd g' ⟨0,top,fun _=>false⟩ gcs:=by
  have e:(fun j:Nat=>decide ((j:Int)∈([]:List Int)))=fun _=>false:=funext fun j=>by simp
  rw [←e]; exact go
 have st:St ⟨W,fm++(dm++((wm,.map #[] 0)::m0))⟩ ((rb,repB c db (some ⟨fb,0,none⟩) dp none nilS nilS nilS wm)::(gcs++(fcs++(dcs++((b1,savV saved0)::(b_,cfgV c)::(db,zNb cap)::fr))))) w4:=st.pq
 refine⟨rfl,st.writable 0 rfl (by show 0+7+1≤18; omega),fun w5 hw5=>⟨fun h=>(by cases h),fun _=> ?_⟩⟩
 have st:St ⟨W,fm++(dm++((wm,.map #[] 0)::m0))⟩ ((rb,repB c db (some ⟨fb,0,none⟩) dp g' nilS nilS nilS wm)::(gcs++(fcs++(dcs++((b1,savV saved0)::(b_,cfgV c)::(db,zNb cap)::fr))))) w5:=st.put0 hw5
 refine⟨c,(st.blk (b_,cfgV c) (by simp)).all,saved0,(st.blk (b1,savV saved0) (by simp)).all,s_J st hc fun pb w6 st=>⟨fun h=>(by cases h),fun _=> ?_⟩⟩
 have st:St _ ((rb,repB c db (some ⟨fb,0,none⟩) dp g' nilS nilS nilS wm)::(pb,List.replicate c.Shards.toNat (Vs nilS))::(gcs++(fcs++(dcs++((b1,savV saved0)::(b_,cfgV c)::(db,zNb cap)::fr))))) w6:=st.pq
 refine⟨rfl,nilS,st.cell 0 rfl rfl,fun b2 w7 hb2 hw7 b3 w8 hb3 hw8=>⟨[Value.iface 130 (aP b2)],zwb hb3 hw8 rfl,?_⟩⟩
 have st:=((st.alloc (cs:=[aP rb]) hb2 hw7).alloc (cs:=[Value.iface 130 (aP b2)]) hb3 hw8).drop1
 refine RowC.nil.append (l:=_) (bs:=[]) st rfl rfl rfl (by show(0+1)*16≤_; omega) fun tsl trow w9 tro st hl2=> ?_
 have st:St ⟨W,fm++(dm++((wm,.map #[] 0)::m0))⟩ ((rb,repB c db (some ⟨fb,0,none⟩) dp g' nilS nilS nilS wm)::(trow++(fcs++(dcs++(gcs++([(b2,[aP rb]),(pb,List.replicate c.Shards.toNat (Vs nilS)),(b1,savV saved0),(b_,cfgV c),(db,zNb cap)]++fr)))))) w9:=st.pq
 refine⟨rfl,st.writable 0 rfl (by show 0+10+1≤18; omega),fun w10 hw10=> ?_⟩
 have st:St ⟨W,fm++(dm++((wm,.map #[] 0)::m0))⟩ ((rb,repB c db (some ⟨fb,0,none⟩) dp g' nilS nilS tsl wm)::(trow++(fcs++(dcs++(gcs++([(b2,[aP rb]),(pb,List.replicate c.Shards.toNat (Vs nilS)),(b1,savV saved0),(b_,cfgV c),(db,zNb cap)]++fr)))))) w10:=st.put0 hw10
 refine⟨c.Lanes,(st.blk (b_,cfgV c) (by simp)).cell rfl,zss (fv:=⟨W,fm⟩) (sp:=some ⟨sb,0,none⟩) (bD:=b2) hc ⟨rfl,rfl,by simp,fun i p hp=>(by cases hp),rfl,fun i p bs hp=>(by cases hp)⟩ tro ⟨fb,sb,rfl,rfl,fo⟩ dpo go (by simp) (by simp) st fun σ d w' e I st=>k σ d top w' e I st⟩
theorem s_E {sb db:Nat} {cap:Int} {scs:List zg} {R:OA→Int→WP} (hl:chkL 1 log=0) (so:SrcO sb log [] scs) (st:St ⟨W,m0⟩ ((db,zNb cap)::(scs++fr)) w)
    (k0:z8 c≠0→∀ w',St ⟨W,m0⟩ ((db,zNb cap)::(scs++fr)) w'→R none 7 w')
    (k:z8 c=0→∀ σ d top w',σ.cfg=c→RepI σ d log 0 (s0 c.Lanes.toNat c.Shards.toNat top)→St ⟨W,d.mp σ++m0⟩ (d.cs σ++fr) w'→R (some ⟨σ.rb,0,none⟩) 0 w'):C_Rb c (some ⟨sb,0,none⟩) (some ⟨db,0,none⟩) w R:=by
 apply S_Nb
 unfold F_md
 intro b_ w1 hb hw
 have st:St ⟨W,m0⟩ ((db,zNb cap)::(b_,cfgV c)::(scs++fr)) w1:=(st.alloc (cs:=cfgV c) hb hw).pq
 refine⟨fun h=>(by cases h),fun _=> ?_⟩
 unfold F_vb
 refine⟨fun h=>(by cases h),fun _=>⟨c,(st.get 1 rfl).all,s_e fun w2 e2=> ?_⟩⟩
 have st:=st.keep e2
 refine⟨fun h=>k0 (by simpa using h) w2 (st.wq [(b_,cfgV c)]),fun h=> ?_⟩
 have hc:z8 c=0:=by simpa using h
 refine s_Mb st fun w3 st b1 w4 hb1 hw4=> ?_
 have st:=st.alloc (cs:=savV saved0) hb1 hw4
 refine⟨st.writable 0 rfl (by show 0+3≤3; omega),fun w5 hw5=>⟨fun h=>(by cases h),fun _ w6 e6=> ?_⟩⟩
 have st:St ⟨W,m0⟩ ((b1,savV saved0)::(db,zNb cap)::(b_,cfgV c)::(scs++fr)) w6:=(st.put0 hw5).drew e6
 have st:St ⟨W,m0⟩ ((b1,savV saved0)::(b_,cfgV c)::(db,zNb cap)::(scs++fr)) w6:=st.pq
 refine⟨c,(st.get 1 rfl).all,s_s st fun dp dm dcs w7 dpo st=> ?_,fun wm w7 hwm hw7=> ?_⟩
 ·have cc:∀ {w':World} {mp:List (Nat×Obj)},St ⟨W,mp⟩ (dcs++((b1,savV saved0)::(b_,cfgV c)::(db,zNb cap)::(scs++fr))) w'→zc w' b_ 0 (cfgV c):=fun st=>(st.blk (b_,cfgV c) (by simp)).all
  refine⟨cc st,fun wm w8 hwm hw8=> ?_⟩
  have st:=st.mnew hwm hw8
  refine⟨cc st,fun rb w9 hrb hw9=> ?_⟩
  have st:=st.alloc (cs:=repB c db none dp none nilS nilS nilS wm) hrb hw9
  exact zhn hc hl so dpo (st.mperm (za fun f_=>by simp <;> omega)) (k hc)
 ·have st:=st.mnew hwm hw7
  refine⟨(st.get 1 rfl).all,s_s st fun dp dm dcs w8 dpo st=>⟨(st.blk (b_,cfgV c) (by simp)).all,fun rb w9 hrb hw9=> ?_⟩⟩
  have st:=st.alloc (cs:=repB c db none dp none nilS nilS nilS wm) hrb hw9
  exact zhn hc hl so dpo st (k hc)
theorem s_Qb {σ:RS} {d:RD} {s:TS} {last:Int} {R:Int→WP} (I:RepI σ d log 0 s) (st:St ⟨W,d.mp σ++m0⟩ (d.cs σ++fr) w)
    (k:∀ e d' w',RepI σ d' log (if last<0∨last>((log.length:Nat):Int) then 0 else last.toNat) s→St ⟨W,d'.mp σ++m0⟩ (d'.cs σ++fr) w'→R e w'):C_V (some ⟨σ.rb,0,none⟩) last w R:=by
 apply S_D
 unfold F_Sb
 refine s_g st ⟨fun h=>(by cases h),fun _=>⟨rfl,false,crb (A:=[]) st rfl,fun h=>(by cases h),fun _=>⟨rfl,σ.f,crb (A:=[]) st rfl,?_⟩⟩⟩
 have st:St ⟨W,d.mp σ++m0⟩ (d.fcs++(({d with fcs:=[]}:RD).cs σ++fr)) w:=st.perm (za fun f_=>by simp [RD.cs,RD.mp] <;> omega)
 refine s_Bb (fun q hq=>fvm hq) I.feed st fun fcs' w2 fo st=>k _ {d with fcs:=fcs'} w2 { I with feed:= ?_ } (st.perm (za fun f_=>by simp [RD.cs,RD.mp] <;> omega))
 unfold zRj at fo
 simp only [Bool.false_eq_true,if_false] at fo
 by_cases h:last<0∨last>((log.length:Nat):Int)
 ·rw [if_pos h]
  rw [if_pos (show last<((0:Nat):Int)∨_ from h)] at fo
  exact fo
 ·rw [if_neg h]
  rw [if_neg (show ¬ (last<((0:Nat):Int)∨_) from h)] at fo
  exact fo
end
open Go Go.Shelf Go.RowKit Go.Maps Go.Sort
set_option maxHeartbeats 1000000
def Tryz.keys49_ren : Go.Shelf.Ren := ⟨fun | 7 => 49 | 10 => 76 | n => n, fun | 23 => 152 | 26 => 9 | 3 => 9 | 28 => 158 | 0 => 0 | 27 => 157 | 33 => 217 | 4 => 4 | n => n, fun | n => n⟩
theorem Tryz.keys49 : Go.Proofs.SlLaysZ.n7 Tryz.prog Tryz.keys49_ren := {
  mixed := by kernel_rfl
  f7 := ⟨Tryz.f49.name, by decide, Tryz.func49.trans (congrArg some (by kernel_rfl))⟩
  f10 := ⟨Tryz.f76.name, by decide, Tryz.func76.trans (congrArg some (by kernel_rfl))⟩
  t0 := Tryz.underlying0
  a0 := Tryz.isAgg0
  z0 := Tryz.sizeOf0
  v0 := Tryz.zeroValue0
  t4 := Tryz.underlying4
  a4 := Tryz.isAgg4
  z4 := Tryz.sizeOf4
  v4 := Tryz.zeroValue4
  t23 := Tryz.underlying152
  a23 := Tryz.isAgg152
  z23 := Tryz.sizeOf152
  v23 := Tryz.zeroValue152
  t26 := Tryz.underlying9
  a26 := Tryz.isAgg9
  z26 := Tryz.sizeOf9
  v26 := Tryz.zeroValue9
  t27 := Tryz.underlying157
  a27 := Tryz.isAgg157
  z27 := Tryz.sizeOf157
  v27 := Tryz.zeroValue157
  t28 := Tryz.underlying158
  a28 := Tryz.isAgg158
  z28 := Tryz.sizeOf158
  v28 := Tryz.zeroValue158
  t33 := Tryz.underlying217
  a33 := Tryz.isAgg217
  z33 := Tryz.sizeOf217
  v33 := Tryz.zeroValue217 }
def Tryz.sorted48_ren : Go.Shelf.Ren := ⟨fun | 6 => 48 | 8 => 74 | 9 => 75 | 11 => 105 | 13 => 53 | 12 => 106 | 23 => 88 | 24 => 89 | 14 => 129 | 15 => 130 | 16 => 131 | 17 => 132 | 18 => 133 | 19 => 134 | 20 => 135 | 21 => 136 | 22 => 137 | 25 => 150 | 26 => 109 | 27 => 110 | 28 => 151 | 29 => 152 | 30 => 153 | 31 => 156 | n => n, fun | 26 => 9 | 28 => 158 | 24 => 155 | 0 => 0 | 3 => 3 | 37 => 174 | 48 => 233 | 50 => 160 | 4 => 4 | 40 => 227 | 39 => 226 | 45 => 210 | 5 => 5 | 9 => 9 | 51 => 258 | 55 => 262 | 57 => 282 | 58 => 283 | 33 => 217 | n => n, fun | n => n⟩
theorem Tryz.sorted48 : Go.Proofs.SlLaysZ.n6 Tryz.prog Tryz.sorted48_ren := {
  mixed := by kernel_rfl
  f6 := ⟨Tryz.f48.name, by decide, Tryz.func48.trans (congrArg some (by kernel_rfl))⟩
  f8 := ⟨Tryz.f74.name, by decide, Tryz.func74.trans (congrArg some (by kernel_rfl))⟩
  f11 := ⟨Tryz.f105.name, by decide, Tryz.func105.trans (congrArg some (by kernel_rfl))⟩
  t0 := Tryz.underlying0
  a0 := Tryz.isAgg0
  z0 := Tryz.sizeOf0
  v0 := Tryz.zeroValue0
  t24 := Tryz.underlying155
  a24 := Tryz.isAgg155
  z24 := Tryz.sizeOf155
  v24 := Tryz.zeroValue155
  t26 := Tryz.underlying9
  a26 := Tryz.isAgg9
  z26 := Tryz.sizeOf9
  v26 := Tryz.zeroValue9
  t28 := Tryz.underlying158
  a28 := Tryz.isAgg158
  z28 := Tryz.sizeOf158
  v28 := Tryz.zeroValue158
  i26 := by kernel_rfl }
def Tryz.sort75_ren : Go.Shelf.Ren := ⟨fun | 6 => 75 | 8 => 53 | 9 => 106 | 19 => 88 | 20 => 89 | 21 => 129 | 22 => 130 | 23 => 131 | 24 => 132 | 25 => 133 | 26 => 134 | 27 => 135 | 28 => 136 | 29 => 137 | 36 => 150 | 31 => 109 | 32 => 110 | 37 => 151 | 38 => 152 | 39 => 153 | 41 => 156 | n => n, fun | 27 => 155 | 29 => 9 | 3 => 3 | 32 => 174 | 26 => 155 | 0 => 0 | 44 => 233 | 46 => 160 | 4 => 4 | 36 => 227 | 35 => 226 | 41 => 210 | 5 => 5 | 9 => 9 | 53 => 258 | 57 => 262 | 63 => 282 | 64 => 283 | n => n, fun | n => n⟩
theorem Tryz.sort75 : Go.Proofs.SlLaysM.n6 Tryz.prog Tryz.sort75_ren := {
  mixed := by kernel_rfl
  f6 := ⟨Tryz.f75.name, by decide, Tryz.func75.trans (congrArg some (by kernel_rfl))⟩
  f8 := Tryz.func53.trans (congrArg some (by kernel_rfl))
  f9 := ⟨Tryz.f106.name, by decide, Tryz.func106.trans (congrArg some (by kernel_rfl))⟩
  f19 := Tryz.func88.trans (congrArg some (by kernel_rfl))
  f20 := Tryz.func89.trans (congrArg some (by kernel_rfl))
  f21 := ⟨Tryz.f129.name, by decide, Tryz.func129.trans (congrArg some (by kernel_rfl))⟩
  f22 := ⟨Tryz.f130.name, by decide, Tryz.func130.trans (congrArg some (by kernel_rfl))⟩
  f23 := ⟨Tryz.f131.name, by decide, Tryz.func131.trans (congrArg some (by kernel_rfl))⟩
  f24 := ⟨Tryz.f132.name, by decide, Tryz.func132.trans (congrArg some (by kernel_rfl))⟩
  f25 := ⟨Tryz.f133.name, by decide, Tryz.func133.trans (congrArg some (by kernel_rfl))⟩
  f26 := ⟨Tryz.f134.name, by decide, Tryz.func134.trans (congrArg some (by kernel_rfl))⟩
  f27 := ⟨Tryz.f135.name, by decide, Tryz.func135.trans (congrArg some (by kernel_rfl))⟩
  f28 := ⟨Tryz.f136.name, by decide, Tryz.func136.trans (congrArg some (by kernel_rfl))⟩
  f29 := ⟨Tryz.f137.name, by decide, Tryz.func137.trans (congrArg some (by kernel_rfl))⟩
  f31 := Tryz.func109.trans (congrArg some (by kernel_rfl))
  f32 := Tryz.func110.trans (congrArg some (by kernel_rfl))
  f36 := ⟨Tryz.f150.name, by decide, Tryz.func150.trans (congrArg some (by kernel_rfl))⟩
  f37 := ⟨Tryz.f151.name, by decide, Tryz.func151.trans (congrArg some (by kernel_rfl))⟩
  f38 := ⟨Tryz.f152.name, by decide, Tryz.func152.trans (congrArg some (by kernel_rfl))⟩
  f39 := ⟨Tryz.f153.name, by decide, Tryz.func153.trans (congrArg some (by kernel_rfl))⟩
  f41 := ⟨Tryz.f156.name, by decide, Tryz.func156.trans (congrArg some (by kernel_rfl))⟩
  t0 := Tryz.underlying0
  a0 := Tryz.isAgg0
  z0 := Tryz.sizeOf0
  v0 := Tryz.zeroValue0
  t3 := Tryz.underlying3
  a3 := Tryz.isAgg3
  z3 := Tryz.sizeOf3
  v3 := Tryz.zeroValue3
  t4 := Tryz.underlying4
  a4 := Tryz.isAgg4
  z4 := Tryz.sizeOf4
  v4 := Tryz.zeroValue4
  t5 := Tryz.underlying5
  a5 := Tryz.isAgg5
  z5 := Tryz.sizeOf5
  v5 := Tryz.zeroValue5
  t9 := Tryz.underlying9
  a9 := Tryz.isAgg9
  z9 := Tryz.sizeOf9
  v9 := Tryz.zeroValue9
  t26 := Tryz.underlying155
  a26 := Tryz.isAgg155
  z26 := Tryz.sizeOf155
  v26 := Tryz.zeroValue155
  t27 := Tryz.underlying155
  a27 := Tryz.isAgg155
  z27 := Tryz.sizeOf155
  v27 := Tryz.zeroValue155
  t29 := Tryz.underlying9
  a29 := Tryz.isAgg9
  z29 := Tryz.sizeOf9
  v29 := Tryz.zeroValue9
  t32 := Tryz.underlying174
  a32 := Tryz.isAgg174
  z32 := Tryz.sizeOf174
  v32 := Tryz.zeroValue174
  t35 := Tryz.underlying226
  a35 := Tryz.isAgg226
  z35 := Tryz.sizeOf226
  v35 := Tryz.zeroValue226
  t36 := Tryz.underlying227
  a36 := Tryz.isAgg227
  z36 := Tryz.sizeOf227
  v36 := Tryz.zeroValue227
  t41 := Tryz.underlying210
  a41 := Tryz.isAgg210
  z41 := Tryz.sizeOf210
  v41 := Tryz.zeroValue210
  t44 := Tryz.underlying233
  a44 := Tryz.isAgg233
  z44 := Tryz.sizeOf233
  v44 := Tryz.zeroValue233
  t46 := Tryz.underlying160
  a46 := Tryz.isAgg160
  z46 := Tryz.sizeOf160
  v46 := Tryz.zeroValue160
  t53 := Tryz.underlying258
  a53 := Tryz.isAgg258
  z53 := Tryz.sizeOf258
  v53 := Tryz.zeroValue258
  t57 := Tryz.underlying262
  a57 := Tryz.isAgg262
  z57 := Tryz.sizeOf262
  v57 := Tryz.zeroValue262
  t63 := Tryz.underlying282
  a63 := Tryz.isAgg282
  z63 := Tryz.sizeOf282
  v63 := Tryz.zeroValue282
  t64 := Tryz.underlying283
  a64 := Tryz.isAgg283
  z64 := Tryz.sizeOf283
  v64 := Tryz.zeroValue283 }
def Tryz.keys138_ren : Go.Shelf.Ren := ⟨fun | 7 => 138 | 10 => 154 | n => n, fun | 23 => 220 | 26 => 9 | 3 => 87 | 28 => 158 | 0 => 0 | 27 => 157 | 33 => 217 | 4 => 4 | n => n, fun | n => n⟩
theorem Tryz.keys138 : Go.Proofs.SlLaysZ.n7 Tryz.prog Tryz.keys138_ren := {
  mixed := by kernel_rfl
  f7 := ⟨Tryz.f138.name, by decide, Tryz.func138.trans (congrArg some (by kernel_rfl))⟩
  f10 := ⟨Tryz.f154.name, by decide, Tryz.func154.trans (congrArg some (by kernel_rfl))⟩
  t0 := Tryz.underlying0
  a0 := Tryz.isAgg0
  z0 := Tryz.sizeOf0
  v0 := Tryz.zeroValue0
  t4 := Tryz.underlying4
  a4 := Tryz.isAgg4
  z4 := Tryz.sizeOf4
  v4 := Tryz.zeroValue4
  t23 := Tryz.underlying220
  a23 := Tryz.isAgg220
  z23 := Tryz.sizeOf220
  v23 := Tryz.zeroValue220
  t26 := Tryz.underlying9
  a26 := Tryz.isAgg9
  z26 := Tryz.sizeOf9
  v26 := Tryz.zeroValue9
  t27 := Tryz.underlying157
  a27 := Tryz.isAgg157
  z27 := Tryz.sizeOf157
  v27 := Tryz.zeroValue157
  t28 := Tryz.underlying158
  a28 := Tryz.isAgg158
  z28 := Tryz.sizeOf158
  v28 := Tryz.zeroValue158
  t33 := Tryz.underlying217
  a33 := Tryz.isAgg217
  z33 := Tryz.sizeOf217
  v33 := Tryz.zeroValue217 }
theorem z5j (m:Nat):AnyZ.SortsIn Tryz.prog Tryz.sorted48_ren Fence.wide m :=
 ⟨fun blk off cap ss W hH hblk hsz=>callsIn_wide.2 (AnyM.slices_Sort_string Tryz.sort75 blk off cap ss W hH hblk hsz),
  fun p cap W=>callsIn_wide.2 (AnyM.slices_Sort_string_none Tryz.sort75 p cap W)⟩
abbrev R0:Value→Option (DataW Unit×List MemPlace):=fun _=>some (.nil,[])
theorem zxm (b nn:Nat) (D0:DataW Unit) (w:World) (hown:w.ownsMap Tryz.prog 9 R0 b nn D0) (hmax:Maps.size D0≤maxLen) (hbytes:Maps.size D0*16≤140737488355328) :
    CallsIn Fence.wide 5 Tryz.prog 48 #[.func (.func 76) #[] #[.pointer (some ⟨w.heap.size,0,none⟩)]] (w.alloc (.cells #[.map (some b)] 152)) fun e w'=>∃(v:Value) (ss:List (List UInt8)),e= .returned v∧ss.Perm (strKeys D0) ∧
     w'.ownsRow (w.alloc (.cells #[.map (some b)] 152)).heap.size 9 1 v ss.length ((ss.mergeSort (fun x y=>decide (x≤y))).map encStr)∧(v= .slice none 0 0↔ss=[])∧Below (w.alloc (.cells #[.map (some b)] 152)).heap.size (w.alloc (.cells #[.map (some b)] 152)) w':=by
 have hbl:=hown.lt
 have hseq:SeqGives Fence.wide 2 Tryz.prog 76 #[.pointer (some ⟨w.heap.size,0,none⟩)] encStr (fun ss=>ss.Perm (strKeys D0)) (Maps.size D0) (w.alloc (.cells #[.map (some b)] 152)) :=
  AnyZ.keys_gives (ρ:=Tryz.keys49_ren) { Tryz.keys49 with } Fence.wide _ trivial rfl O_ w.heap.size b nn D0 _ (by simp) (by simp) (by
   obtain⟨es,clock,hb,Ft,hs,hD⟩:=hown
   exact⟨es,clock,(Below.heap_alloc _ _ b hbl).trans hb,Ft,hs,hD⟩)
 exact AnyZ.sorted_in Tryz.sorted48 Fence.wide 5 trivial trivial trivial trivial rfl O_ (z5j _) (enters_of Tryz.func75 K_ rfl) 76 #[.pointer (some ⟨w.heap.size,0,none⟩)] trivial (enters_of Tryz.func76 K_ rfl) _ _ hmax hbytes _ hseq
theorem z6j (b nn:Nat) (D0:DataW Unit) (w:World) (hown:w.ownsMap Tryz.prog 9 R0 b nn D0) (hmax:Maps.size D0≤maxLen) (hbytes:Maps.size D0*16≤140737488355328) :
    CallsIn Fence.wide 5 Tryz.prog 48 #[.func (.func 154) #[] #[.pointer (some ⟨w.heap.size,0,none⟩)]] (w.alloc (.cells #[.map (some b)] 220)) fun e w'=>∃(v:Value) (ss:List (List UInt8)),e= .returned v∧ss.Perm (strKeys D0) ∧
     w'.ownsRow (w.alloc (.cells #[.map (some b)] 220)).heap.size 9 1 v ss.length ((ss.mergeSort (fun x y=>decide (x≤y))).map encStr)∧(v= .slice none 0 0↔ss=[])∧Below (w.alloc (.cells #[.map (some b)] 220)).heap.size (w.alloc (.cells #[.map (some b)] 220)) w':=by
 have hbl:=hown.lt
 have hseq:SeqGives Fence.wide 2 Tryz.prog 154 #[.pointer (some ⟨w.heap.size,0,none⟩)] encStr (fun ss=>ss.Perm (strKeys D0)) (Maps.size D0) (w.alloc (.cells #[.map (some b)] 220)) :=
  AnyZ.keys_gives (ρ:=Tryz.keys138_ren) { Tryz.keys138 with } Fence.wide _ trivial rfl O_ w.heap.size b nn D0 _ (by simp) (by simp) (by
   obtain⟨es,clock,hb,Ft,hs,hD⟩:=hown
   exact⟨es,clock,(Below.heap_alloc _ _ b hbl).trans hb,Ft,hs,hD⟩)
 exact AnyZ.sorted_in Tryz.sorted48 Fence.wide 5 trivial trivial trivial trivial rfl O_ (z5j _) (enters_of Tryz.func75 K_ rfl) 154 #[.pointer (some ⟨w.heap.size,0,none⟩)] trivial (enters_of Tryz.func154 K_ rfl) _ _ hmax hbytes _ hseq
def ltK (a b:ByteArray):Prop:=a.data.toList<b.data.toList
theorem zQf (a:ByteArray):¬ ltK a a:=List.lt_irrefl _
theorem zym {a b:ByteArray} (h:ltK a b) (h2:ltK b a):False:=List.lt_irrefl _ (List.lt_trans h h2)
theorem z7j {a b:ByteArray} (h:a.data.toList=b.data.toList):a=b:=by
 cases a; cases b; congr; exact Array.toList_inj.1 h
theorem ztf {α:Type} {r:α→α→Prop} (irr:∀ a,¬ r a a) (asym:∀ a b,r a b→r b a→False):∀ {l m:List α},l.Pairwise r→m.Pairwise r→(∀ x,x∈l↔x∈m)→l=m
 | [],[],_,_,_=>rfl
 | [],y::m,_,_,h=>by cases (h y).2 (List.mem_cons_self ..)
 | x::l,[],_,_,h=>by cases (h x).1 (List.mem_cons_self ..)
 | x::l,y::m,hl,hm,h=>by
  obtain⟨l1,l2⟩:=List.pairwise_cons.1 hl
  obtain⟨m1,m2⟩:=List.pairwise_cons.1 hm
  have hxy:x=y:=by
   rcases List.mem_cons.1 ((h x).1 (List.mem_cons_self ..)) with e | hx
   ·exact e
   ·rcases List.mem_cons.1 ((h y).2 (List.mem_cons_self ..)) with e | hy
    ·exact e.symm
    ·exact(asym _ _ (l1 y hy) (m1 x hx)).elim
  subst hxy
  rw [ztf irr asym l2 m2 fun z=> ?_]
  have:=h z
  rw [List.mem_cons,List.mem_cons] at this
  constructor
  ·intro hz
   rcases this.1 (.inr hz) with e | e
   ·subst e; exact(irr _ (l1 _ hz)).elim
   ·exact e
  ·intro hz
   rcases this.2 (.inr hz) with e | e
   ·subst e; exact(irr _ (m1 _ hz)).elim
   ·exact e
def keyB (e:MapEntry):List UInt8:=match e.key with | .string s=>s.data.toList | _=>[]
theorem zts:Tryz.prog.underlying 9=some .string:=K_
noncomputable abbrev D0 (es:Array MapEntry):DataW Unit:= .map ((es.toList.map (Go.WideElems.rg Tryz.prog 9 R0)).foldr DataW.insert [])
section
variable {es:Array MapEntry} {c:Nat}
theorem zRf (ok:MOk isKS es c) {e:MapEntry} (he:e∈es.toList):∃ s,e.key= .string s:=ok.all e he
theorem zus (hsz:∀ e∈es.toList,∀ s,e.key= .string s→s.size≤64) (ok:MOk isKS es c) {e:MapEntry} (he:e∈es.toList):Go.WideElems.rd Tryz.prog 9 R0 e=some (.string (keyB e),.nil):=by
 obtain⟨s,hs⟩:=zRf ok he
 have h64:=hsz e he s hs
 unfold Go.WideElems.rd keyB
 rw [hs,Go.WideMaps.keyOf_string_mk zts (by show s.size≤2 ^ 63 - 1; omega)]
 simp [ByteArray.toList_eq,R0]
theorem zin {w:World} {b:Nat} (hb:w.heap[b]? =some (.map es c)) (hsz:∀ e∈es.toList,∀ s,e.key= .string s→s.size≤64) (ok:MOk isKS es c) (hn:es.size≤4294967296):w.ownsMap Tryz.prog 9 R0 b es.size (D0 es) :=
 ⟨es,c,hb,⟨by show es.size≤2 ^ 63 - 1; omega,⟨ok.lt,ok.bnodup,ok.nodup⟩,fun x hx=>⟨_,zus hsz ok hx⟩⟩,Nat.le_refl _,rfl⟩
theorem zLj (hsz:∀ e∈es.toList,∀ s,e.key= .string s→s.size≤64) (ok:MOk isKS es c):(strKeys (D0 es)).Perm (es.toList.map keyB):=by
 show(List.map (fun p=>strOf p.1) (List.foldr DataW.insert [] (es.toList.map (Go.WideElems.rg Tryz.prog 9 R0)))).Perm _
 refine((Go.WideShapes.sorted_perm _).map _).trans ?_
 rw [List.map_map]
 refine List.Perm.of_eq (List.map_congr_left fun e he=> ?_)
 have e1:Go.WideElems.rg Tryz.prog 9 R0 e=(.string (keyB e),.nil):=by
  unfold Go.WideElems.rg
  rw [zus hsz ok he,Option.getD_some]
 rw [Function.comp_apply,e1]
 simp only [strOf]
theorem zSf:Maps.size (D0 es)=es.size:=by
 show(List.foldr DataW.insert [] _).length=_
 rw [(Go.WideShapes.sorted_perm _).length_eq]; simp
theorem zDe (ok:MOk isKS es c) (hsz:∀ e∈es.toList,∀ s,e.key= .string s→s.size≤64) {ss:List (List UInt8)} (hp:ss.Perm (strKeys (D0 es))) :
    ∃ ks:List ByteArray,(ss.mergeSort fun x y=>decide (x≤y)).map encStr=ks.map Value.string∧ks.length=ss.length∧ks.Pairwise ltK∧∀ k,k∈ks↔(zK es (.string k)).isSome=true:=by
 have hpp:(ss.mergeSort fun x y=>decide (x≤y)).Perm (es.toList.map keyB):=((List.mergeSort_perm _ _).trans hp).trans (zLj hsz ok)
 have hnd:(es.toList.map keyB).Nodup:=by
  refine List.pairwise_map.2 ((List.pairwise_map.1 ok.nodup).imp_of_mem fun {a b} ha hb hab e=>hab ?_)
  obtain⟨s,hs⟩:=zRf ok ha
  obtain⟨t,ht⟩:=zRf ok hb
  unfold keyB at e
  rw [hs,ht] at e
  rw [hs,ht,z7j e]
 have hnd2:=hpp.nodup_iff.2 hnd
 have hle:=List.pairwise_mergeSort (le:=fun x y:List UInt8=>decide (x≤y)) (fun a b c h1 h2=>decide_eq_true (List.le_trans (of_decide_eq_true h1) (of_decide_eq_true h2))) (fun a b=>by simpa using List.le_total a b) ss
 refine⟨(ss.mergeSort fun x y=>decide (x≤y)).map fun l=>⟨l.toArray⟩,by rw [List.map_map]; rfl,by simp,?_,fun k=> ?_⟩
 ·refine List.pairwise_map.2 ((hle.and hnd2).imp fun {a b} h=> ?_)
  obtain⟨h1,h2⟩:=h
  show a.toArray.toList<b.toArray.toList
  refine Classical.byContradiction fun hlt=>h2 ?_
  exact List.le_antisymm (of_decide_eq_true h1) (List.not_lt.1 hlt)
 ·rw [List.mem_map,Option.isSome_iff_exists]
  constructor
  ·rintro⟨l,hl,rfl⟩
   obtain⟨e,he,rfl⟩:=List.mem_map.1 (hpp.mem_iff.1 hl)
   obtain⟨s,hs⟩:=zRf ok he
   have:=ok.mem_lk he
   refine⟨e.val,?_⟩
   rw [←this,hs]
   congr 2
   unfold keyB
   rw [hs]
  ·rintro⟨u,hu⟩
   obtain⟨e,he,hk,_⟩:=MOk.lk_mem hu
   refine⟨keyB e,hpp.mem_iff.2 (List.mem_map.2 ⟨e,he,rfl⟩),?_⟩
   unfold keyB
   rw [hk]
end
section
variable {W:World} {w w1 w':World} {l:List zg} {mp:List (Nat×Obj)}
theorem z8j (h:Below w.heap.size w w'):Ext w w':=h
theorem z9j {ks:List ByteArray} {v:Value} {n:Nat} (st:St ⟨W,mp⟩ l w) (ho:w'.ownsRow w.heap.size 9 1 v n (ks.map Value.string)) (hb:Below w.heap.size w w'):∃ sl bs,v=Vs sl∧sl.len=n∧RowC 1 sl (ks.map Value.string) bs∧St ⟨W,mp⟩ (bs++l) w':=by
 obtain⟨h1,h2⟩:=ho
 have st':=st.keep (z8j hb)
 rcases h2 with ⟨rfl,rfl⟩ | ⟨g,cap,cur,rfl,hg,hc,hn,hm,hcs,ht⟩
 ·have:ks.map Value.string=[]:=List.eq_nil_of_length_eq_zero O_
  rw [this]
  exact⟨⟨none,0,0⟩,[],rfl,rfl,RowC.nil,st'⟩
 ·refine⟨⟨some ⟨g,0,none⟩,n,cap⟩,[(g,cur.toList)],rfl,rfl,.inr ⟨g,[],cur.toList.drop (n*1),[],rfl,?_,h1,?_,hn⟩,⟨st'.ext,fun p hp=> ?_,fun p hp=> ?_,?_,st'.mps⟩⟩
  ·rw [←ht]; simp
  ·rw [h1,List.length_drop]
   show n*1+(cur.size - n*1)=cap*1
   omega
  ·rcases List.mem_cons.1 hp with rfl | hp
   ·exact⟨9,0,0,by simpa using hc,.inl rfl⟩
   ·exact st'.blk p hp
  ·rcases List.mem_cons.1 hp with rfl | hp
   ·have:=st.ext.size
    show W.heap.size≤g
    have this:W.heap.size≤w.heap.size:=this
    omega
   ·exact st'.own p hp
  ·show(g::l.map (·.1)).Nodup
   refine List.nodup_cons.2 ⟨fun hm=> ?_,st.nodup⟩
   obtain⟨p,hp,he⟩:=List.mem_map.1 hm
   have:=(st.blk p hp).lt
   omega
theorem s_U {r c:Nat} {es:Array MapEntry} {R:Slc→WP} (ok:MOk isKS es c) (hsz:∀ e∈es.toList,∀ s,e.key= .string s→s.size≤64) (hn:es.size≤4294967296) (st:St ⟨W,(r,.map es c)::mp⟩ l w)
    (k:∀ sl (ks:List ByteArray) bs w',RowC 1 sl (ks.map Value.string) bs→sl.len=ks.length→ks.Pairwise ltK→(∀ k,k∈ks↔(zK es (.string k)).isSome=true)→St ⟨W,(r,.map es c)::mp⟩ (bs++l) w'→R sl w'):C_d (some r) w (fun v w1=>C_A v w1 R):=by
 apply S_c
 intro b w1 hb hw
 have st1:=(st.alloc (cs:=[Value.map (some r)]) hb hw).drop1
 subst hb
 have hc:=callsIn_wide.1 (z6j r es.size (D0 es) w (zin (st.objAt 0 rfl) hsz ok hn) (by rw [zSf]; show es.size≤2 ^ 63 - 1; omega) (by rw [zSf]; omega))
 subst hw
 refine Calls.mono hc ?_
 rintro e w2 ⟨v,ss,rfl,hp,ho,_,hbl⟩
 obtain⟨ks,h1,h2,h3,h4⟩:=zDe ok hsz hp
 rw [h1] at ho
 obtain⟨sl,bs,rfl,hsl,ro,st2⟩:=z9j st1 ho hbl
 exact⟨sl,rfl,k sl ks bs w2 ro O_ h3 h4 st2⟩
theorem s_jb {r c:Nat} {es:Array MapEntry} {R:Slc→WP} (ok:MOk isKS es c) (hsz:∀ e∈es.toList,∀ s,e.key= .string s→s.size≤64) (hn:es.size≤4294967296) (st:St ⟨W,(r,.map es c)::mp⟩ l w)
    (k:∀ sl (ks:List ByteArray) bs w',RowC 1 sl (ks.map Value.string) bs→sl.len=ks.length→ks.Pairwise ltK→(∀ k,k∈ks↔(zK es (.string k)).isSome=true)→St ⟨W,(r,.map es c)::mp⟩ (bs++l) w'→R sl w'):C_f (some r) w (fun v w1=>C_A v w1 R):=by
 apply S_d
 intro b w1 hb hw
 have st1:=(st.alloc (cs:=[Value.map (some r)]) hb hw).drop1
 subst hb
 have hc:=callsIn_wide.1 (zxm r es.size (D0 es) w (zin (st.objAt 0 rfl) hsz ok hn) (by rw [zSf]; show es.size≤2 ^ 63 - 1; omega) (by rw [zSf]; omega))
 subst hw
 refine Calls.mono hc ?_
 rintro e w2 ⟨v,ss,rfl,hp,ho,_,hbl⟩
 obtain⟨ks,h1,h2,h3,h4⟩:=zDe ok hsz hp
 rw [h1] at ho
 obtain⟨sl,bs,rfl,hsl,ro,st2⟩:=z9j st1 ho hbl
 exact⟨sl,rfl,k sl ks bs w2 ro O_ h3 h4 st2⟩
end
def hdC (z:ByteArray×Slc):List Value:=[Value.string z.1,Vs z.2]
theorem zZb (z:ByteArray×Slc):(hdC z).length=2:=rfl
section
variable {W:World} {m0 sm:List (Nat×Obj)} {w:World} {fr bs:List zg} {s:OA} {M:SM}
theorem zzm {m c:Nat} {es:Array MapEntry} {vb:List zg} (ok:MOk isKS es c) (hM:∀ k,KeyV es vb k (M k)) {n:Nat} {K:List ByteArray} (hK:∀ k,M k≠[]→k∈K∧k.size≤64):(∀ e∈es.toList,∀ s,e.key= .string s→s.size≤64)∧es.size≤K.length:=by
 have hne:∀ e∈es.toList,∀ s,e.key= .string s→M s≠[]:=fun e he s hs=>by
  have h1:=ok.mem_lk he
  rw [hs] at h1
  rcases hM s with ⟨h2,_⟩ | ⟨_,_,h3,_⟩
  ·rw [h2] at h1; cases h1
  ·exact h3
 refine⟨fun e he s hs=>(hK s (hne e he s hs)).2,?_⟩
 have hl:(es.toList.map (·.key)).length≤(K.map Value.string).length:=List.Nodup.length_le_of_subset ok.nodup fun v hv=>by
  obtain⟨e,he,rfl⟩:=List.mem_map.1 hv
  obtain⟨s,hs⟩:=ok.all e he
  rw [hs]
  exact List.mem_map.2 ⟨s,(hK s (hne e he s hs)).1,rfl⟩
 simpa using hl
theorem s_kb {m c b:Nat} {es:Array MapEntry} {vb l:List zg} {key:ByteArray} {vs:List Ver} {R:Slc→WP} (ok:MOk isKS es c) (hM:KeyV es vb key vs) (hl:vs.length≤1099511627776) (st:St ⟨W,(m,.map es c)::m0⟩ (l++((b,[Value.map (some m)])::(vb++fr))) w)
    (k:∀ s' rb w',RowC 3 s' (vs.flatMap verC) rb→s'.len=vs.length→St ⟨W,(m,.map es c)::m0⟩ (rb++(l++((b,[Value.map (some m)])::(vb++fr)))) w'→R s' w'):C_E (some ⟨b,0,none⟩) key w R:=by
 apply S_I
 unfold F_0b
 obtain⟨sl,lok,hlk,hin⟩:=hM.lk
 refine⟨rfl,some m,(st.blk (b,[Value.map (some m)]) (by simp)).cell rfl,es,sl,lok,.inr ⟨m,c,rfl,st.objAt 0 rfl⟩,ok.all,ok.nodup,⟨_,rfl⟩,hlk,?_⟩
 have src:=hin.src (fun q hq=>by simp [hq]) st
 have hlen:=zrd src
 exact s_k st src O_ fun s' rb w' ro st _ hl'=>k s' rb w' ro hl' st
theorem s_V {K:List ByteArray} {R:Slc→WP} (o:zde s M sm bs) (st:St ⟨W,sm++m0⟩ (bs++fr) w) (hK:∀ k,M k≠[]→k∈K∧k.size≤64) (hKl:K.length≤16777216) (hml:∀ k,(M k).length≤1099511627776)
    (k:∀ sl (hs:List (ByteArray×Slc)) ob vx w',RowC 2 sl (hs.flatMap hdC) ob→hs.length≤K.length→(hs.map (·.1)).Pairwise ltK→(∀ k,k∈hs.map (·.1)↔M k≠[])→(∀ z∈hs,InC vx z.2 (M z.1))→St ⟨W,sm++m0⟩ (ob++(vx++(bs++fr))) w'→R sl w'):C_kb s w R:=by
 apply S_fb
 unfold F_Ic
 refine s_i o st ⟨fun h=>(by cases h),fun _=> ?_⟩
 have o':=o
 obtain⟨b,m,es,c,vb,rfl,rfl,rfl,ok,hM⟩:=o
 refine⟨rfl,?_⟩
 apply S_V
 unfold F_pc
 refine s_i o' st ⟨fun h=>(by cases h),fun _=>⟨rfl,?_⟩⟩
 apply S_W
 unfold F_qc
 obtain⟨hsz,hes⟩:=zzm (m:=m) (n:=0) ok hM hK
 refine⟨rfl,some m,st.cell 0 rfl rfl,s_U ok hsz O_ st fun ksl ks kb w1 kro hkl hks hkm st=> ?_⟩
 have hkM:∀ k,k∈ks↔M k≠[]:=fun k=>by
  rw [hkm]
  rcases hM k with ⟨h1,h2⟩ | ⟨s,h1,h2,_⟩
  ·rw [h1,h2]; simp
  ·rw [h1]; simpa using h2
 have hknd:ks.Nodup:=List.Pairwise.imp (fun {a b} (hab:ltK a b) (e:a=b)=>zQf b (e ▸ hab)) hks
 have hksl:ks.length≤K.length:=List.Nodup.length_le_of_subset hknd fun k hk=>(hK k ((hkM k).1 hk)).1
 have st:St ⟨W,(m,.map es c)::m0⟩ ([]++([]++(kb++((b,[Value.map (some m)])::(vb++fr))))) w1:=st
 refine⟨fun out i w'=>∃(p:Nat) (hs:List (ByteArray×Slc)) (ob vx:List zg),i=(p:Int)∧p≤ks.length∧hs.map (·.1)=ks.take p∧RowC 2 out (hs.flatMap hdC) ob∧(∀ z∈hs,InC vx z.2 (M z.1))∧St ⟨W,(m,.map es c)::m0⟩ (ob++(vx++(kb++((b,[Value.map (some m)])::(vb++fr))))) w',fun _ i _=>ks.length - i.toNat,
  ⟨0,[],[],[],rfl,O_,rfl,RowC.nil,fun z hz=>(by cases hz),st⟩,?_⟩
 clear st
 rintro out i w2 ⟨p,hs,ob,vx,rfl,hp,hsk,ro,hin,st⟩
 have hsl:hs.length=p:=by
  have:=congrArg List.length hsk
  rw [List.length_map,List.length_take] at this
  omega
 have hol:=ro.len
 rw [zl zZb] at hol
 unfold F_kb
 refine⟨fun hi=> ?_,fun hi=> ?_⟩
 ·have hi:=of_decide_eq_true hi
  obtain⟨key,hy⟩:∃ y,ks[p]? =some y:=⟨_,List.getElem?_eq_getElem O_⟩
  have hky:=(hkM key).1 (List.mem_of_getElem? hy)
  obtain⟨a1,_,a3⟩:=(kro.srcM (fun c hc=>by simp [hc]) st).at1 (i:=p) (v:=Value.string key) (by rw [List.getElem?_map,hy]; rfl)
  refine⟨a1,O_,hi,key,by rw [Int.toNat_natCast]; exact a3,zbb.mk (all:=#[Vp (some ⟨b,0,none⟩),Value.string key]) K_ rfl ?_⟩
  have wp:IntKind.i64.wrap ((p:Int)+1)=((p+1:Nat):Int):=by rw [i64_in _ O_ O_]; omega
  have key1:C_E (some ⟨b,0,none⟩) key w2 (fun s' w'=>∃ rb,RowC 3 s' ((M key).flatMap verC) rb∧s'.len=(M key).length∧St ⟨W,(m,.map es c)::m0⟩ (rb++((ob++(vx++kb))++((b,[Value.map (some m)])::(vb++fr)))) w') :=
   s_kb (l:=ob++(vx++kb)) ok (hM key) (hml key) (st.pq) fun s' rb w' a b c=>⟨rb,a,b,c⟩
  refine Calls.mono key1 ?_
  rintro e' w3 ⟨s',rfl,rb,rro,hsl',st⟩
  have hpos:(M key).length≠0:=fun e=>hky (List.eq_nil_of_length_eq_zero e)
  refine⟨s',rfl,fun _=>fun b1 w4 hb1 hw4=>⟨hdC (key,s'),zob hb1 hw4 rfl,?_⟩,fun hh=>(by have:=of_decide_eq_false hh; omega)⟩
  have st:St ⟨W,(m,.map es c)::m0⟩ (ob++((rb++vx)++(kb++((b,[Value.map (some m)])::(vb++fr))))) w4:=(st.alloc (cs:=hdC (key,s')) hb1 hw4).drop1.pq
  refine ro.append st rfl rfl rfl (by show(out.len+1)*40≤_; omega) fun out' ob' w5 ro' st hl'=> ?_
  unfold F_T
  rw [wp]
  refine⟨⟨p+1,hs++[(key,s')],ob',rb++vx,rfl,O_,by rw [List.map_append,hsk,List.take_add_one,hy]; rfl,?_,fun z hz=> ?_,st⟩,by show _ - _<_ - _; omega⟩
  ·rw [List.flatMap_append,List.flatMap_cons,List.flatMap_nil,List.append_nil]; exact ro'
  ·rcases List.mem_append.1 hz with hz | hz
   ·exact(hin z hz).mono fun q hq=>List.mem_append_right _ hq
   ·have:z=(key,s'):=by simpa using hz
    rw [this]
    exact⟨rb,rro,fun q hq=>List.mem_append_left _ hq⟩
 ·have hi:=of_decide_eq_false hi
  have hpe:p=ks.length:=O_
  rw [hpe,List.take_length] at hsk
  exact k out hs ob vx w2 ro O_ (by rw [hsk]; exact hks) (fun k=>by rw [hsk]; exact hkM k) hin (st.wq kb)
theorem s_W {o_:OA} {cap:Nat} {q:List Rq} {K:List ByteArray} {R:Slc→WP} (o:z6b o_ M cap q sm bs) (st:St ⟨W,sm++m0⟩ (bs++fr) w) (hK:∀ k,M k≠[]→k∈K∧k.size≤64) (hKl:K.length≤16777216) (hml:∀ k,(M k).length≤1099511627776)
    (k:∀ sl (hs:List (ByteArray×Slc)) ob vx w',RowC 2 sl (hs.flatMap hdC) ob→hs.length≤K.length→(hs.map (·.1)).Pairwise ltK→(∀ k,k∈hs.map (·.1)↔M k≠[])→(∀ z∈hs,InC vx z.2 (M z.1))→St ⟨W,sm++m0⟩ (ob++(vx++(bs++fr))) w'→R sl w'):C_jb o_ w R:=by
 apply S_gb
 unfold F_Hc
 refine s_d o st ⟨fun h=>(by cases h),fun _=> ?_⟩
 obtain⟨b,sp,rp,sbs,rbs,rfl,rfl,so,ro⟩:=o
 refine⟨rfl,sp,st.cell 0 rfl rfl,?_⟩
 have st':St ⟨W,sm++m0⟩ (sbs++((b,[Vp sp,Vp rp])::(rbs++fr))) w:=st.pq
 exact s_V so st' hK hKl hml fun sl hs ob vx w' a b c d e st=>k sl hs ob vx w' a b c d e (st.pq)
end
open Go Go.Shelf Go.RowKit Go.Lib Go.Sort
set_option maxHeartbeats 1000000
def Tryz.sortH_ren : Go.Shelf.Ren := ⟨fun | 6 => 31 | 15 => 53 | 14 => 52 | 28 => 88 | 29 => 89 | 20 => 80 | 21 => 81 | 22 => 82 | 23 => 83 | 24 => 84 | 25 => 85 | 26 => 86 | 27 => 87 | 46 => 108 | 47 => 109 | 48 => 110 | 49 => 111 | 50 => 112 | 57 => 139 | n => n, fun | 22 => 57 | 24 => 89 | 25 => 108 | 3 => 3 | 39 => 174 | 0 => 0 | 53 => 233 | 55 => 160 | 4 => 4 | 46 => 227 | 45 => 226 | 50 => 210 | 5 => 5 | 9 => 9 | 66 => 258 | 70 => 262 | 76 => 282 | 77 => 283 | n => n, fun | n => n⟩
theorem Tryz.sortH : Go.Proofs.SlLaysF0.n6 Tryz.prog Tryz.sortH_ren := {
  mixed := by kernel_rfl
  f6 := ⟨Tryz.f31.name, by decide, Tryz.func31.trans (congrArg some (by kernel_rfl))⟩
  f14 := ⟨Tryz.f52.name, by decide, Tryz.func52.trans (congrArg some (by kernel_rfl))⟩
  f15 := Tryz.func53.trans (congrArg some (by kernel_rfl))
  f20 := ⟨Tryz.f80.name, by decide, Tryz.func80.trans (congrArg some (by kernel_rfl))⟩
  f21 := ⟨Tryz.f81.name, by decide, Tryz.func81.trans (congrArg some (by kernel_rfl))⟩
  f22 := ⟨Tryz.f82.name, by decide, Tryz.func82.trans (congrArg some (by kernel_rfl))⟩
  f23 := ⟨Tryz.f83.name, by decide, Tryz.func83.trans (congrArg some (by kernel_rfl))⟩
  f24 := ⟨Tryz.f84.name, by decide, Tryz.func84.trans (congrArg some (by kernel_rfl))⟩
  f25 := ⟨Tryz.f85.name, by decide, Tryz.func85.trans (congrArg some (by kernel_rfl))⟩
  f26 := ⟨Tryz.f86.name, by decide, Tryz.func86.trans (congrArg some (by kernel_rfl))⟩
  f27 := ⟨Tryz.f87.name, by decide, Tryz.func87.trans (congrArg some (by kernel_rfl))⟩
  f28 := Tryz.func88.trans (congrArg some (by kernel_rfl))
  f29 := Tryz.func89.trans (congrArg some (by kernel_rfl))
  f46 := ⟨Tryz.f108.name, by decide, Tryz.func108.trans (congrArg some (by kernel_rfl))⟩
  f47 := Tryz.func109.trans (congrArg some (by kernel_rfl))
  f48 := Tryz.func110.trans (congrArg some (by kernel_rfl))
  f49 := ⟨Tryz.f111.name, by decide, Tryz.func111.trans (congrArg some (by kernel_rfl))⟩
  f50 := ⟨Tryz.f112.name, by decide, Tryz.func112.trans (congrArg some (by kernel_rfl))⟩
  f57 := ⟨Tryz.f139.name, by decide, Tryz.func139.trans (congrArg some (by kernel_rfl))⟩
  t0 := Tryz.underlying0
  a0 := Tryz.isAgg0
  z0 := Tryz.sizeOf0
  v0 := Tryz.zeroValue0
  t3 := Tryz.underlying3
  a3 := Tryz.isAgg3
  z3 := Tryz.sizeOf3
  v3 := Tryz.zeroValue3
  t4 := Tryz.underlying4
  a4 := Tryz.isAgg4
  z4 := Tryz.sizeOf4
  v4 := Tryz.zeroValue4
  t5 := Tryz.underlying5
  a5 := Tryz.isAgg5
  z5 := Tryz.sizeOf5
  v5 := Tryz.zeroValue5
  t9 := Tryz.underlying9
  a9 := Tryz.isAgg9
  z9 := Tryz.sizeOf9
  v9 := Tryz.zeroValue9
  t22 := Tryz.underlying57
  a22 := Tryz.isAgg57
  z22 := Tryz.sizeOf57
  v22 := Tryz.zeroValue57
  t25 := Tryz.underlying108
  a25 := Tryz.isAgg108
  z25 := Tryz.sizeOf108
  v25 := Tryz.zeroValue108
  t39 := Tryz.underlying174
  a39 := Tryz.isAgg174
  z39 := Tryz.sizeOf174
  v39 := Tryz.zeroValue174
  t45 := Tryz.underlying226
  a45 := Tryz.isAgg226
  z45 := Tryz.sizeOf226
  v45 := Tryz.zeroValue226
  t46 := Tryz.underlying227
  a46 := Tryz.isAgg227
  z46 := Tryz.sizeOf227
  v46 := Tryz.zeroValue227
  t50 := Tryz.underlying210
  a50 := Tryz.isAgg210
  z50 := Tryz.sizeOf210
  v50 := Tryz.zeroValue210
  t53 := Tryz.underlying233
  a53 := Tryz.isAgg233
  z53 := Tryz.sizeOf233
  v53 := Tryz.zeroValue233
  t55 := Tryz.underlying160
  a55 := Tryz.isAgg160
  z55 := Tryz.sizeOf160
  v55 := Tryz.zeroValue160
  t66 := Tryz.underlying258
  a66 := Tryz.isAgg258
  z66 := Tryz.sizeOf258
  v66 := Tryz.zeroValue258
  t70 := Tryz.underlying262
  a70 := Tryz.isAgg262
  z70 := Tryz.sizeOf262
  v70 := Tryz.zeroValue262
  t76 := Tryz.underlying282
  a76 := Tryz.isAgg282
  z76 := Tryz.sizeOf282
  v76 := Tryz.zeroValue282
  t77 := Tryz.underlying283
  a77 := Tryz.isAgg283
  z77 := Tryz.sizeOf283
  v77 := Tryz.zeroValue283 }
def Tryz.laysCompare_ren : Go.Shelf.Ren := ⟨fun | 106 => 33 | 213 => 54 | 265 => 90 | n => n, fun | 9 => 9 | 3 => 3 | n => n, fun | n => n⟩
theorem Tryz.laysCompare : Go.Proofs.Lays.n106 Tryz.prog Tryz.laysCompare_ren := {
  mixed := by kernel_rfl
  f106 := Tryz.func33.trans (congrArg some (by kernel_rfl))
  f213 := Tryz.func54.trans (congrArg some (by kernel_rfl))
  f265 := Tryz.func90.trans (congrArg some (by kernel_rfl))
  t3 := Tryz.underlying3
  a3 := Tryz.isAgg3
  z3 := Tryz.sizeOf3
  v3 := Tryz.zeroValue3
  t9 := Tryz.underlying9
  a9 := Tryz.isAgg9
  z9 := Tryz.sizeOf9
  v9 := Tryz.zeroValue9 }
instance:Inhabited (ByteArray×Slc):=⟨(ByteArray.empty,⟨none,0,0⟩)⟩
abbrev Hs:=ByteArray×Slc
def cfH (x y:Hs):Int:=Lib.compareBytes x.1.data.toList y.1.data.toList
theorem zak:∀ x y:List UInt8,decide (Lib.compareBytes x y<0)=decide (x<y)
 | [],[]=>by simp [Lib.compareBytes]
 | [],_::_=>by simp [Lib.compareBytes]
 | _::_,[]=>by simp [Lib.compareBytes]
 | a::x,b::y=>by
  unfold Lib.compareBytes
  by_cases h1:a<b
  ·simp [h1,List.cons_lt_cons_iff]
  ·by_cases h2:b<a
   ·have hne:a≠b:=fun e=>by subst e; exact h1 h2
    simp [h1,h2,List.cons_lt_cons_iff,hne]
   ·have he:a=b:=by
      have e1:¬ a.toNat<b.toNat:=h1
      have e2:¬ b.toNat<a.toNat:=h2
      exact UInt8.toNat_inj.1 O_
    subst he
    simp [h1,List.cons_lt_cons_iff,zak x y]
theorem zAm (x y:Hs):ltOf cfH x y=decide (x.1.data.toList<y.1.data.toList):=zak _ _
theorem swoH:SWO (ltOf cfH) where
 irrefl x:=by rw [zAm]; exact decide_eq_false (List.lt_irrefl _)
 trans x y z h1 h2:=by rw [zAm] at *; exact decide_eq_true (List.lt_trans (of_decide_eq_true h1) (of_decide_eq_true h2))
 ntrans x y z h1 h2:=by
  rw [zAm] at *
  have h1:=List.not_lt.1 (of_decide_eq_false h1)
  have h2:=List.not_lt.1 (of_decide_eq_false h2)
  exact decide_eq_false (List.not_lt.2 (List.le_trans h2 h1))
theorem cmpH (x y:Hs) (w:World):Calls Tryz.prog 32 #[.agg (hdC x).toArray,.agg (hdC y).toArray] w fun e w'=>e= .returned (.int .i64 (cfH x y))∧∃ q os',w'=Go.Sort.grow (w.drewN q) os':=by
 have key:C_2 ⟨x.1,x.2⟩ ⟨y.1,y.2⟩ w (fun r w'=>r=cfH x y∧∃ q os',w'=Go.Sort.grow (w.drewN q) os'):=by
  apply S_j
  unfold F_gb
  intro b1 w1 hb1 hw1 b2 w2 hb2 hw2
  have st:=((St.start w).alloc (cs:=hdC x) hb1 hw1).alloc (cs:=hdC y) hb2 hw2
  refine⟨x.1,st.cell 1 rfl rfl,y.1,st.cell 0 rfl rfl,?_⟩
  refine Calls.mono (Any.strings_Compare Tryz.laysCompare x.1 y.1 w2) ?_
  rintro e w' ⟨rfl,rfl⟩
  subst hw2
  subst hw1
  exact⟨_,rfl,rfl,0,_,by rw [alloc_eq_grow,alloc_eq_grow,grow_grow]; rfl⟩
 refine Calls.mono key ?_
 rintro e w' ⟨r,rfl,rfl,h⟩
 exact⟨rfl,h⟩
theorem zYi:∀(l:List Hs) (t:Nat),t<l.length*2→(l.flatMap hdC)[t]? =some ((hdC l[t / 2]!)[t % 2]!)
 | [],t,h=>by simp at h
 | x::l,0,_=>rfl
 | x::l,1,_=>rfl
 | x::l,t+2,h=>by
  rw [List.flatMap_cons,List.getElem?_append_right (by show 2≤t+2; omega)]
  have:=zYi l t (by rw [List.length_cons] at h; omega)
  rw [show t+2 - (hdC x).length=t from rfl,this,show(t+2) / 2=t / 2+1 from by omega,show(t+2) % 2=t % 2 from by omega]
  rfl
theorem zuf (l:List Hs):flatK hdC 2 l.toArray=(l.flatMap hdC).toArray:=by
 have hl:=zl zZb l
 refine Array.ext (by simp [hl]) fun t h1 h2=> ?_
 have ht:t<l.length*2:=by simpa using h1
 have g1:=get_flatK hdC 2 l.toArray t (by simpa using ht)
 rw [getElem!_pos _ t h1] at g1
 rw [g1]
 have g2:=zYi l t ht
 rw [List.getElem?_eq_getElem O_] at g2
 have g2:=Option.some.inj g2
 simp only [List.getElem_toArray]
 rw [g2]
 simp
theorem s_Rb {W:World} {mp:List (Nat×Obj)} {w:World} {sl:Slc} {hs:List Hs} {bs l:List zg} {R:WP} (ro:RowC 2 sl (hs.flatMap hdC) bs) (st:St ⟨W,mp⟩ (bs++l) w) (hl:sl.len<4611686018427387904)
    (k:∀(hs':List Hs) bs' w',hs'.Perm hs→hs'.Pairwise (fun x y=>¬ y.1.data.toList<x.1.data.toList)→RowC 2 sl (hs'.flatMap hdC) bs'→St ⟨W,mp⟩ (bs'++l) w'→R w'):C_C sl (Value.func (.func 32) #[] #[]) w R:=by
 have hlen:=ro.len
 rw [zl zZb] at hlen
 have hlen2:hs.length=sl.len:=O_
 clear hlen
 rcases ro with ⟨hp,h0,hc,hx,rfl⟩ | ⟨b,pre,rest,suf,hp,rfl,h1,h2,h3⟩
 ·obtain⟨sp,sn,sc⟩:=sl
  simp only at hp h0 hc hlen2
  subst hp; subst h0; subst hc
  have hs0:hs=[]:=List.eq_nil_of_length_eq_zero hlen2
  subst hs0
  refine(AnyF.slices_SortFunc_none Tryz.sortH none 0 _ w).mono ?_
  rintro e w' ⟨rfl,rfl⟩
  exact⟨rfl,k [] [] _ (List.Perm.refl _) List.Pairwise.nil (.inl ⟨rfl,rfl,rfl,rfl,rfl⟩) st⟩
 ·obtain⟨sp,sn,sc⟩:=sl
  simp only at hp hlen2 h3 hl h2 h1
  subst hp; subst hlen2
  have hfl:=zl zZb hs
  have hH:HoldsK hdC 2 w b pre.length hs.toArray:=by
   unfold HoldsK
   rw [zuf]
   intro j hj
   have hj:j<(hs.flatMap hdC).length:=by simpa using hj
   refine⟨?_,(st.get 0 rfl).unfrozen (by simp only [List.length_append]; omega)⟩
   refine st.cell 0 rfl ?_
   rw [List.getElem?_append_right O_,show pre.length+j - pre.length=j from by omega,List.getElem?_append_left hj,List.getElem?_eq_getElem hj]
   rw [getElem!_pos _ j (by simpa using hj)]
   simp
  have hcon:=AnyQ.slices_SortFunc Tryz.sortH 2 Tryz.isAgg89 Tryz.sizeOf89 hdC zZb (fun x v hv=>by simp [hdC] at hv; rcases hv with rfl | rfl <;> rfl) cfH swoH 32 #[] b pre.length sc hs.toArray w (enters_of Tryz.func32 K_ rfl) (fun _ _ _ _ x y=>cmpH x y _) hH (st.lt 0 rfl) (by simpa using hl)
  have hsz:hs.toArray.size=hs.length:=by simp
  rw [hsz] at hcon
  refine hcon.mono ?_
  rintro e w' ⟨rfl,d',n,os,⟨p1,_,p3⟩,hsort,rfl⟩
  refine⟨rfl,?_⟩
  rw [hsz] at p1
  have pp:d'.toList.Perm hs:=by
   have e1:d'.extract 0 hs.length=d':=by rw [←p1]; simp
   have e2:hs.toArray.extract 0 hs.length=hs.toArray:=by simp
   rw [e1,e2] at p3
   simpa using p3
  have hd:d'=d'.toList.toArray:=by simp
  have hfl':=zl zZb d'.toList
  have hdl:d'.toList.length=hs.length:=pp.length_eq
  have hw:sortWorldK hdC 2 w b pre.length n d' os=Go.Sort.grow (World.puts b pre.length (d'.toList.flatMap hdC) (w.drewN n)) os:=by
   unfold sortWorldK putRowK
   rw [hd,zuf]
   have:=putRow_eq_setCells id w b pre.length (flatK hdC 2 hs.toArray) (d'.toList.flatMap hdC) n hH (by rw [size_flatK,hsz,hfl',hdl])
   rw [List.map_id] at this
   rw [this,zBc]
  rw [hw]
  have st1:=(st.drew ⟨n,rfl⟩).put0 (o:=pre.length) (vs:=d'.toList.flatMap hdC) rfl
  have e1:pre++(hs.flatMap hdC++(rest++suf))=pre++hs.flatMap hdC++(rest++suf):=by simp only [List.append_assoc]
  rw [e1,zlb _ _ _ _ O_] at st1
  refine k d'.toList [(b,pre++(d'.toList.flatMap hdC++(rest++suf)))] _ pp ?_ (.inr ⟨b,pre,rest,suf,rfl,rfl,by show(d'.toList.flatMap hdC).length=hs.length*2; omega,by show(d'.toList.flatMap hdC).length+rest.length=sc*2; omega,h3⟩) ?_
  ·refine List.pairwise_iff_getElem.2 fun i j hi hj hij=> ?_
   have:=hsort i j (Nat.zero_le _) hij O_
   rw [zAm] at this
   have:=of_decide_eq_false this
   rw [getElem!_pos d' j (by rw [p1]; omega),getElem!_pos d' i (by rw [p1]; omega)] at this
   simpa using this
  ·have st2:=st1.keep (zZi _ os)
   rw [List.append_assoc] at st2
   exact st2
def MM (σ:RS) (s:TS) (k:ByteArray):List Ver:=match s.inst[shN σ.cfg k]? with
 | some l=>zKd l k
 | none=>[]
section
variable {W:World} {m0:List (Nat×Obj)} {w:World} {fr:List zg} {σ:RS} {d:RD} {log:List Tx} {fed:Nat} {s:TS}
theorem zBm (h:TInv log fed σ.cfg.Queue.toNat (shN σ.cfg) s) {i:Nat} {l:List IW} (hl:s.inst[i]? =some l) {k:ByteArray}:(zKd l k≠[]→shN σ.cfg k=i)∧(shN σ.cfg k=i→MM σ s k=zKd l k):=by
 refine⟨fun hne=> ?_,fun e=> ?_⟩
 ·obtain⟨y,hy⟩:=List.exists_mem_of_ne_nil _ hne
  obtain⟨z,hz,rfl,_⟩:=(zic l).1 hy
  exact h.ish i l hl z hz
 ·unfold MM
  rw [e,hl]
theorem s_lb {R:Slc→WP} (S:SO W m0 fr σ log fed d s w)
    (k:∀ sl (hs:List Hs) ob vx w',RowC 2 sl (hs.flatMap hdC) ob→hs.length≤100000000→(hs.map (·.1)).Pairwise ltK→(∀ k,k∈hs.map (·.1)↔MM σ s k≠[])→(∀ z∈hs,InC vx z.2 (MM σ s z.1))→St ⟨W,d.mp σ++m0⟩ (ob++(vx++(d.cs σ++fr))) w'→R sl w'):C_I (some ⟨σ.rb,0,none⟩) w R:=by
 obtain⟨I,h,st,L,hb2⟩:=S
 apply S_k
 unfold F_nb
 refine s_g st ⟨fun _=>⟨rfl,σ.osl,crb (A:=[]) st rfl,?_⟩,fun h=>(by cases h)⟩
 obtain⟨rb,hor,hof⟩:=I.ok.orow
 have hol:=hor.len
 rw [List.length_map,Nat.mul_one] at hol
 have hon:σ.op.length≤16:=by have:=I.ok.on; have:=(z1 I.ok.cfg).2.1; omega
 have hmm:∀ k,MM σ s k≠[]→shN σ.cfg k<σ.op.length:=fun k hk=>by
  unfold MM at hk
  cases hi:s.inst[shN σ.cfg k]? with
  | none=>rw [hi] at hk; exact absurd rfl hk
  | some l=>have:=(List.getElem?_eq_some_iff.1 hi).1; have:=I.il; have:=I.ol; omega
 refine⟨fun out i w'=>∃(p:Nat) (hs:List Hs) (ob vx:List zg),i=(p:Int)∧p≤σ.op.length∧hs.length≤p*4521984∧RowC 2 out (hs.flatMap hdC) ob∧(hs.map (·.1)).Nodup∧(∀ k,k∈hs.map (·.1)↔(shN σ.cfg k<p∧MM σ s k≠[]))∧(∀ z∈hs,InC vx z.2 (MM σ s z.1))∧St ⟨W,d.mp σ++m0⟩ (ob++(vx++(d.cs σ++fr))) w',fun _ i _=>σ.op.length - i.toNat,
  ⟨0,[],[],[],rfl,O_,by simp,RowC.nil,List.nodup_nil,fun k=>by simp,fun z hz=>(by cases hz),st⟩,?_⟩
 clear st
 rintro out i w1 ⟨p,hs,ob,vx,rfl,hp,hlen,ro,hnd,hmem,hin,st⟩
 have hrl:=ro.len
 rw [zl zZb] at hrl
 unfold F_G
 refine⟨fun hi=> ?_,fun hi=> ?_⟩
 ·have hi:=of_decide_eq_true hi
  have wp:IntKind.i64.wrap ((p:Int)+1)=((p+1:Nat):Int):=by rw [i64_in _ O_ O_]; omega
  obtain⟨q,hq⟩:∃ q,s.qs[p]? =some q:=⟨_,List.getElem?_eq_getElem (by have:=I.ol; omega)⟩
  obtain⟨l,hl⟩:∃ l,s.inst[p]? =some l:=⟨_,List.getElem?_eq_getElem (by have:=I.ol; have:=I.il; omega)⟩
  obtain⟨po,obs,sm,hpo,hobs,hsm,oo⟩:=I.own p q l hq hl
  obtain⟨a1,a2,a3⟩:=(hor.srcM (fun c hc=>List.mem_append_right _ (List.mem_append_right _ (RD.fxm (hof c hc)))) st).at1 (i:=p) (v:=pP po) (by rw [List.getElem?_map,hpo]; rfl)
  have hll:=zXf L h hl
  have hga:=I.igood l (List.mem_of_getElem? hl)
  have hap:=z2d L h hl
  have stm:St ⟨W,sm++(({d with SB:=d.SB.eraseIdx p}:RD).mp σ++m0)⟩ (ob++(vx++(d.cs σ++fr))) w1:=st.mperm (za fun f_=>by have h1_:=zR f_ hsm; simp [RD.cs,RD.mp] <;> omega)
  have sto:St _ (obs++(ob++(vx++(({d with OB:=d.OB.eraseIdx p}:RD).cs σ++fr)))) w1:=stm.perm (za fun f_=>by have h1_:=zR f_ hobs; simp [RD.cs,RD.mp] <;> omega)
  refine⟨a1,O_,hi,po,by rw [Int.toNat_natCast]; exact a3,s_W (K:=l.map (·.2.Key)) oo sto (fun k hk=> ?_) (by rw [List.length_map]; omega) (fun k=>by have:=(zWf (k:=k) l hap hga).2; omega) fun sl hs2 ob2 vx2 w2 ro2 hl2 hk2 hm2 hi2 st=> ?_⟩
  ·obtain⟨y,hy⟩:=List.exists_mem_of_ne_nil _ hk
   obtain⟨z,hz,rfl,_⟩:=(zic l).1 hy
   exact⟨List.mem_map.2 ⟨z,hz,rfl⟩,(hga z hz).1.2.1⟩
  rw [List.length_map] at hl2
  have hr2:=ro2.len
  rw [zl zZb] at hr2
  have st:St ⟨W,d.mp σ++m0⟩ (ob++((ob2++(vx2++vx))++(d.cs σ++fr))) w2:=(st.perm (List.Perm.symm (za fun f_=>by have h1_:=zR f_ hobs; simp [RD.cs,RD.mp] <;> omega))).mperm (List.Perm.symm (za fun f_=>by have h1_:=zR f_ hsm; simp [RD.cs,RD.mp] <;> omega))
  refine⟨hs2.flatMap hdC,ro2.srcM (fun c hc=>by simp [hc]) st,?_⟩
  have hone:zI (hs2.flatMap hdC)=true:=by
   have:∀ l:List Hs,zI (l.flatMap hdC)=true:=fun l=>by
    induction l with
    | nil=>rfl
    | cons x l ih=>rw [List.flatMap_cons]; show zI (Value.string x.1::Vs x.2::l.flatMap hdC)=true; unfold zI at ih ⊢; rw [List.all_cons,List.all_cons,ih]; rfl
   exact this hs2
  refine ro.append st (by rw [zl zZb]; omega) hone rfl O_ fun out' ob' w3 ro' st hl'=> ?_
  rw [wp]
  have hdis:∀ k,k∈hs2.map (·.1)→shN σ.cfg k=p∧MM σ s k=zKd l k:=fun k hk=>by
   have h1:=(zBm h hl).1 ((hm2 k).1 hk)
   exact⟨h1,(zBm h hl).2 h1⟩
  refine⟨⟨p+1,hs++hs2,ob',ob2++(vx2++vx),rfl,O_,by rw [List.length_append]; omega,by rw [List.flatMap_append]; exact ro',?_,fun k=> ?_,fun z hz=> ?_,st⟩,by show σ.op.length - ((p+1:Nat):Int).toNat<σ.op.length - (p:Int).toNat; omega⟩
  ·rw [List.map_append]
   refine List.nodup_append.2 ⟨hnd,List.Pairwise.imp (fun {a b} (hab:ltK a b) (e:a=b)=>zQf b (e ▸ hab)) hk2,fun a ha b hb e=> ?_⟩
   have h1:=((hmem a).1 ha).1
   have h2:=(hdis b hb).1
   rw [e] at h1
   omega
  ·rw [List.map_append,List.mem_append,hmem,hm2]
   constructor
   ·rintro(⟨a,b⟩ | hk)
    ·exact⟨O_,b⟩
    ·obtain⟨e1,e2⟩:=hdis k ((hm2 k).2 hk)
     exact⟨O_,by rw [e2]; exact hk⟩
   ·rintro⟨a,b⟩
    by_cases hkp:shN σ.cfg k=p
    ·right
     rw [←(zBm h hl).2 hkp]; exact b
    ·exact .inl ⟨O_,b⟩
  ·rcases List.mem_append.1 hz with hz | hz
   ·exact(hin z hz).mono fun q hq=>by simp [hq]
   ·rw [(hdis z.1 (List.mem_map.2 ⟨z,hz,rfl⟩)).2]
    exact(hi2 z hz).mono fun q hq=>by simp [hq]
 ·have hi:=of_decide_eq_false hi
  obtain rfl:p=σ.op.length:=O_
  unfold F_o
  refine s_Rb ro st O_ fun hs' ob' w2 hpm hso ro' st=>k out hs' ob' vx w2 ro' (by rw [hpm.length_eq]; omega) ?_ (fun k=> ?_) (fun z hz=>hin z (hpm.mem_iff.1 hz)) st
  ·have hnd':=(hpm.map (·.1)).nodup_iff.2 hnd
   refine List.pairwise_map.2 ((hso.and (List.pairwise_map.1 hnd')).imp fun {a b} hab=> ?_)
   refine Classical.byContradiction fun hlt=>hab.2 ?_
   exact z7j (List.le_antisymm (List.not_lt.1 hab.1) (List.not_lt.1 hlt))
  ·rw [(hpm.map (·.1)).mem_iff,hmem]
   exact⟨fun hh=>hh.2,fun hh=>⟨hmm k hh,hh⟩⟩
end
abbrev En:=T_m
def enC (e:En):List Value:=[Value.string e.Key,Value.string e.Val]
theorem zTf (e:En):(enC e).length=2:=rfl
/-- What a key comes to: its last version, if that drops nothing. -/
def zZd (k:ByteArray) (vs:List Ver):Option En:=match vs.getLast? with
 | some v=>if v.Drop=true then none else some ⟨k,v.Val⟩
 | none=>none
section
variable {W:World} {m0:List (Nat×Obj)} {w:World} {fr:List zg} {σ:RS} {d:RD} {log:List Tx} {fed:Nat} {s:TS}
theorem s_X {R:Slc→WP} (S:SO W m0 fr σ log fed d s w) (hmk:∀ k,∀ v∈MM σ s k,v.Number≤(s.g.mark:Int)) (hml:∀ k,(MM σ s k).length≤1099511627776)
    (k:∀ sl (ks:List ByteArray) ob w',ks.Pairwise ltK→(∀ k,k∈ks↔MM σ s k≠[])→RowC 2 sl ((ks.filterMap fun k=>zZd k (MM σ s k)).flatMap enC) ob→ks.length≤100000000→SO W m0 (ob++fr) σ log fed d s w'→R sl w'):C_u (some ⟨σ.rb,0,none⟩) w R:=by
 apply S_v
 unfold F_Fb
 refine s_cb S (s_lb S fun vsl hs ob vx w1 vro hhl hks hkm hin st=> ?_)
 obtain⟨I,h,_,L,hb2⟩:=S
 have hvl:=vro.len
 rw [zl zZb] at hvl
 refine⟨fun out i w'=>∃(p:Nat) (ob':List zg),i=(p:Int)∧p≤hs.length∧out.len≤p∧RowC 2 out ((((hs.map (·.1)).take p).filterMap fun k=>zZd k (MM σ s k)).flatMap enC) ob'∧St ⟨W,d.mp σ++m0⟩ (ob'++(ob++(vx++(d.cs σ++fr)))) w',fun _ i _=>hs.length - i.toNat,
  ⟨0,[],rfl,O_,by show 0≤0; omega,RowC.nil,st⟩,?_⟩
 clear st
 rintro out i w2 ⟨p,ob',rfl,hp,hol,ro,st⟩
 unfold F_V
 refine⟨fun hi=> ?_,fun hi=> ?_⟩
 ·have hi:=of_decide_eq_true hi
  have wp:IntKind.i64.wrap ((p:Int)+1)=((p+1:Nat):Int):=by rw [i64_in _ O_ O_]; omega
  have src:zr w2 vsl 2 (hs.flatMap hdC):=vro.srcM (fun c hc=>by simp [hc]) st
  obtain⟨a1,z,hz,hc⟩:=src.getN zZb O_ (i:=(p:Int)) O_ hi
  rw [Int.toNat_natCast] at hz
  obtain⟨key,sl⟩:=z
  have hzm:=List.mem_of_getElem? hz
  have hinz:=hin _ hzm
  have hne:MM σ s key≠[]:=(hkm key).1 (List.mem_map.2 ⟨_,hzm,rfl⟩)
  refine⟨a1,O_,hi,⟨key,sl⟩,hc,fun b1 w3 hb1 hw3=> ?_⟩
  have st:=st.alloc (cs:=hdC (ByteArray.empty,⟨none,0,0⟩)) hb1 hw3
  refine⟨st.writable 0 rfl (by show 0+2≤2; omega),fun w4 hw4=> ?_⟩
  have st:St ⟨W,d.mp σ++m0⟩ ((b1,hdC (key,sl))::(ob'++(ob++(vx++(d.cs σ++fr))))) w4:=st.put0 hw4
  have vsrc:zr w4 sl 3 ((MM σ s key).flatMap verC):=hinz.src (fun q hq=>by simp [hq]) st
  have hsl:=zrd vsrc
  have hvlen:=hml key
  refine⟨sl,st.cell 0 rfl rfl,fun last i w'=>∃ q:Nat,i=(q:Int)∧q≤sl.len∧last=(if q=0 then none else some ⟨pblk sl.ptr,poff sl.ptr+(q - 1)*3,none⟩)∧w'=w4,fun _ i _=>sl.len - i.toNat,⟨0,rfl,O_,rfl,rfl⟩,?_⟩
  rintro last i _ ⟨q,rfl,hq,rfl,rfl⟩
  unfold F_U
  refine⟨fun hi2=> ?_,fun hi2=> ?_⟩
  ·have hi2:=of_decide_eq_true hi2
   have wq:IntKind.i64.wrap ((q:Int)+1)=((q+1:Nat):Int):=by rw [i64_in _ O_ O_]; omega
   obtain⟨a,v,hv,hvc⟩:=zIe vsrc (i:=q) O_
   refine⟨sl,st.cell 0 rfl rfl,a,O_,hi2,v.Number,by rw [Int.toNat_natCast]; exact zJm hvc,fun _=>⟨sl,st.cell 0 rfl rfl,a,O_,hi2,?_⟩,fun hh=> ?_⟩
   ·unfold F_x
    rw [wq]
    exact⟨⟨q+1,rfl,O_,by rw [if_neg O_,Int.toNat_natCast,Nat.add_sub_cancel],rfl⟩,by show sl.len - ((q+1:Nat):Int).toNat<sl.len - (q:Int).toNat; omega⟩
   ·have:=of_decide_eq_false hh
    exact absurd (hmk key v (List.mem_of_getElem? hv)) this
  ·have hi2:=of_decide_eq_false hi2
   have hqe:q=(MM σ s key).length:=O_
   have hpos:(MM σ s key).length≠0:=fun e=>hne (List.eq_nil_of_length_eq_zero e)
   rw [if_neg O_]
   obtain⟨a,v,hv,hvc⟩:=zIe vsrc (i:=q - 1) O_
   have hlast:(MM σ s key).getLast? =some v:=by rw [List.getLast?_eq_getElem?,←hqe]; exact hv
   have htk:(hs.map (·.1)).take (p+1)=(hs.map (·.1)).take p++[key]:=by rw [List.take_add_one,List.getElem?_map,hz]; rfl
   refine⟨fun _=>⟨rfl,v.Drop,zz.1 hvc 2 _ rfl,?_⟩,fun hh=>(by cases hh)⟩
   unfold F_y F_w
   rw [wp]
   refine⟨fun hd=>fun w5 e5=> ?_,fun hd=> ?_⟩
   ·have hd:v.Drop=false:=by simpa using hd
    have st:=st.drew e5
    have vsrc5:zr w5 sl 3 ((MM σ s key).flatMap verC):=hinz.src (fun q hq=>by simp [hq]) st
    obtain⟨a',v',hv',hvc'⟩:=zIe vsrc5 (i:=q - 1) O_
    obtain rfl:v=v':=Option.some.inj (hv.symm.trans hv')
    refine⟨key,st.cell 0 rfl rfl,rfl,v.Val,zz.1 hvc' 1 _ rfl,fun b2 w6 hb2 hw6=>⟨enC ⟨key,v.Val⟩,zob hb2 hw6 rfl,?_⟩⟩
    refine ro.append (St.drop1 (St.drop1 (st.alloc (cs:=enC ⟨key,v.Val⟩) hb2 hw6))) rfl rfl rfl (by show(out.len+1)*32≤_; omega) fun out' ob2 w7 ro' st hl'=> ?_
    refine⟨⟨p+1,ob2,rfl,O_,O_,?_,st⟩,by show hs.length - ((p+1:Nat):Int).toNat<hs.length - (p:Int).toNat; omega⟩
    rw [htk,List.filterMap_append,List.flatMap_append]
    have e:([key].filterMap fun k=>zZd k (MM σ s k)).flatMap enC=enC ⟨key,v.Val⟩:=by
     have:zZd key (MM σ s key)=some ⟨key,v.Val⟩:=by unfold zZd; rw [hlast]; simp [hd]
     simp [this]
    rw [e]; exact ro'
   ·have hd:v.Drop=true:=by simpa using hd
    refine⟨⟨p+1,ob',rfl,O_,O_,?_,st.drop1⟩,by show hs.length - ((p+1:Nat):Int).toNat<hs.length - (p:Int).toNat; omega⟩
    rw [htk,List.filterMap_append,List.flatMap_append]
    have e:([key].filterMap fun k=>zZd k (MM σ s k)).flatMap enC=[]:=by
     have:zZd key (MM σ s key)=none:=by unfold zZd; rw [hlast]; simp [hd]
     simp [this]
    rw [e,List.append_nil]; exact ro
 ·have hi:=of_decide_eq_false hi
  obtain rfl:p=hs.length:=O_
  rw [List.take_of_length_le (by rw [List.length_map]; exact Nat.le_refl _)] at ro
  exact k out (hs.map (·.1)) ob' w2 hks hkm ro (by rw [List.length_map]; exact hhl) ⟨I,h,st.weak (ob++vx) (za fun f_=>by simp [RD.cs,RD.mp] <;> omega),L,hb2⟩
end
abbrev FM:=ByteArray→Option ByteArray
def zfd (m:FM) (x:Wr):FM:=fun k=>if k=x.Key then(if x.Drop=true then none else some x.Val) else m k
def zEe (ws:List Wr) (m:FM):FM:=ws.foldl zfd m
def zMb (ts:List Tx):FM:=ts.foldl (fun m t=>zEe t.2 m) fun _=>none
theorem z0d (ts:List Tx) (t:Tx):zMb (ts++[t])=zEe t.2 (zMb ts):=by unfold zMb; rw [List.foldl_append]; rfl
theorem zvf (ws:List Wr) (x:Wr) (m:FM):zEe (ws++[x]) m=zfd (zEe ws m) x:=by unfold zEe; rw [List.foldl_append]; rfl
theorem zbk {ws:List Wr} {m:FM} {k:ByteArray}:zEe ws m k≠none→m k≠none∨∃ x∈ws,x.Key=k:=by
 revert m
 induction ws with
 | nil=>exact fun h=> .inl h
 | cons x ws ih =>
  intro m h
  rcases ih (m:=zfd m x) h with h | ⟨y,hy,e⟩
  ·unfold zfd at h
   by_cases hk:k=x.Key
   ·exact .inr ⟨x,List.mem_cons_self ..,hk.symm⟩
   ·rw [if_neg hk] at h; exact .inl h
  ·exact .inr ⟨y,List.mem_cons_of_mem _ hy,e⟩
theorem zck {k:ByteArray}:∀ ts:List Tx,zMb ts k≠none→∃ t∈ts,∃ x∈t.2,x.Key=k :=
 zVf (fun h=>absurd rfl h) fun ts t ih h=>by
  rw [z0d] at h
  rcases zbk h with h | ⟨x,hx,e⟩
  ·obtain⟨t',ht,x,hx,e⟩:=ih h
   exact⟨t',List.mem_append_left _ ht,x,hx,e⟩
  ·exact⟨t,by simp,x,hx,e⟩
def zCm (es:Array MapEntry) (m:FM):Prop:=∀ k,zK es (.string k)=(m k).map Value.string
section
variable {W:World} {m0:List (Nat×Obj)} {w:World} {fr:List zg} {sl:Slc} {sls:List Slc} {ts:List Tx}
theorem s_P {R:Int→WP} (L:zcc ts) (ha:LAt w sl ts sls) (k:∀ w',Ext w w'→R 0 w'):C_Zb sl w R:=by
 apply S_Wb
 unfold F_yd
 have hlen:=ha.slen
 have hl:=L.len
 refine⟨fun i w'=>∃ p:Nat,i=(p:Int)∧p≤ts.length∧Ext w w',fun i _=>ts.length - i.toNat,⟨0,rfl,O_,Ext.refl _⟩,?_⟩
 rintro i w1 ⟨p,rfl,hp,e⟩
 unfold F_zc
 refine⟨fun hi=> ?_,fun hi=>k w1 e⟩
 have hi:=of_decide_eq_true hi
 have wp:IntKind.i64.wrap ((p:Int)+1)=((p+1:Nat):Int):=by rw [i64_in _ O_ O_]; omega
 obtain⟨a,t,s,ht,hs0,hct,hsr,hcp1,hcp2⟩:=(ha.ext e).get (p:=p) O_
 refine⟨a,O_,hi,⟨t.1,s⟩,by rw [Int.toNat_natCast]; exact hct,fun b w2 hb hw=> ?_⟩
 have st:=(St.start w1).alloc (cs:=txW 0 ⟨none,0,0⟩) hb hw
 refine⟨st.writable 0 rfl (by show 0+2≤2; omega),fun w3 hw3=> ?_⟩
 have st:St ⟨w1,[]⟩ [(b,txW t.1 s)] w3:=st.put0 hw3
 have hok:=L.ok t (List.mem_of_getElem? ht)
 have hsl:=zkd hsr
 refine⟨⟨t.1,s⟩,(st.get 0 rfl).all,s_m (t:=⟨t.1,s⟩) (ws:=t.2) (st.ext.src hsr) (by show s.len≤_; have:=hok.2.2.1; omega) fun w4 e4=> ?_⟩
 rw [if_pos hok]
 have st:=st.keep e4
 refine⟨fun h=>(by cases h),fun _=>⟨t.1,st.cell 0 rfl rfl,fun hne=> ?_,fun _=> ?_⟩⟩
 ·rw [wp,L.num p t ht] at hne
  simp at hne
 ·rw [wp]
  exact⟨⟨p+1,rfl,O_,e.trans st.ext⟩,by show ts.length - ((p+1:Nat):Int).toNat<ts.length - (p:Int).toNat; omega⟩
theorem s_F {first:Nat} {R:Option Nat→Int→WP} (L:zcc ts) (ha:LAt W sl ts sls) (hc:sl.len≤sl.cap) (hf:first≤ts.length) (st:St ⟨W,m0⟩ fr w)
    (k:∀ r es c w',MOk isKS es c→zCm es (zMb (ts.take first))→St ⟨W,(r,.map es c)::m0⟩ fr w'→R (some r) 0 w'):C_Sb sl (first:Int) w R:=by
 apply S_Pb
 unfold F_nd
 have hlen:=ha.slen
 have hl:=L.len
 refine s_P L (ha.ext st.ext) fun w1 e1=>⟨fun h=>(by cases h),fun _=>⟨fun h=>(by simp only [Bool.or_eq_true,decide_eq_true_eq] at h; omega),fun _ b w2 hb hw=> ?_⟩⟩
 have st:=(st.keep e1).mnew hb hw
 refine⟨O_,O_,fun i w'=>∃(p:Nat) (es:Array MapEntry) (c:Nat),i=(p:Int)∧p≤first∧MOk isKS es c∧zCm es (zMb (ts.take p))∧St ⟨W,(b,.map es c)::m0⟩ fr w',fun i _=>first - i.toNat,⟨0,#[],0,rfl,O_,MOk.empty,fun k=>zuc fun e he=>(by cases he),st⟩,?_⟩
 clear st
 rintro i w3 ⟨p,es,c,rfl,hp,ok,hm,st⟩
 unfold F_bc
 rw [Int.toNat_natCast]
 refine⟨fun hi=> ?_,fun hi=> ?_⟩
 ·have hi:=of_decide_eq_true hi
  have wp:IntKind.i64.wrap ((p:Int)+1)=((p+1:Nat):Int):=by rw [i64_in _ O_ O_]; omega
  obtain⟨a,t,s,ht,hs0,hct,hsr,hcp1,hcp2⟩:=(ha.ext st.ext).get (p:=p) O_
  refine⟨a,O_,hi,⟨t.1,s⟩,by rw [Int.toNat_natCast]; exact hct,fun b1 w4 hb1 hw4=> ?_⟩
  have st4:=st.alloc (cs:=txW 0 ⟨none,0,0⟩) hb1 hw4
  refine⟨st4.writable 0 rfl (by show 0+2≤2; omega),fun w5 hw5=> ?_⟩
  have st5:St _ ((b1,txW t.1 s)::fr) w5:=st4.put0 hw5
  have hok:=L.ok t (List.mem_of_getElem? ht)
  have hsl:=zkd hsr
  have hw32:=hok.2.2.1
  have htk:ts.take (p+1)=ts.take p++[t]:=by rw [List.take_add_one,ht]; rfl
  have srcW:∀ {mp:List (Nat×Obj)} {L:List zg} {w':World},St ⟨W,mp⟩ L w'→zr w' s 3 (t.2.flatMap wV):=fun st=>(ha.ext st.ext).wr p t s ht hs0
  refine⟨s,st5.cell 0 rfl rfl,fun i w'=>∃(q:Nat) (es:Array MapEntry) (c:Nat),i=(q:Int)∧q≤t.2.length∧MOk isKS es c∧zCm es (zEe (t.2.take q) (zMb (ts.take p)))∧St ⟨W,(b,.map es c)::m0⟩ fr w',fun i _=>t.2.length - i.toNat,⟨0,es,c,rfl,O_,ok,hm,st5.drop1⟩,?_⟩
  clear st5 st4 st
  rintro i w6 ⟨q,es,c,rfl,hq,ok,hm,st⟩
  unfold F_ac
  refine⟨fun hi2=> ?_,fun hi2=> ?_⟩
  ·have hi2:=of_decide_eq_true hi2
   have wq:IntKind.i64.wrap ((q:Int)+1)=((q+1:Nat):Int):=by rw [i64_in _ O_ O_]; omega
   obtain⟨a2,x,hx,hxc⟩:=zwf (srcW st) (i:=q) O_
   have hqk:t.2.take (q+1)=t.2.take q++[x]:=by rw [List.take_add_one,hx]; rfl
   refine⟨a2,O_,hi2,x,by rw [Int.toNat_natCast]; exact hxc,fun b2 w7 hb2 hw7=> ?_⟩
   have st:=st.alloc hb2 hw7
   refine⟨st.writable 0 rfl (by simp),fun w8 hw8=> ?_⟩
   have st:St _ ((b2,wV x)::fr) w8:=st.put0 hw8
   unfold F_wb
   rw [wq]
   refine⟨x.Drop,st.cell 0 rfl rfl,fun hd=>⟨x.Key,st.cell 0 rfl rfl,b,es,c,rfl,st.objAt 0 rfl,ok.all,⟨_,rfl⟩,fun es1 w9 hdel hw9=> ?_⟩,fun hd=>⟨x.Key,st.cell 0 rfl rfl,x.Val,st.cell 0 rfl rfl,b,es,c,rfl,st.objAt 0 rfl,ok.all,ok.nodup,⟨_,rfl⟩,fun es1 c1 w9 hset hw9=> ?_⟩⟩
   ·obtain⟨ok1,va,vb,_,_⟩:=ok.del hdel
    refine⟨⟨q+1,es1,c,rfl,O_,ok1,fun k=> ?_,(st.mset0 hw9).drop1⟩,by show t.2.length - ((q+1:Nat):Int).toNat<t.2.length - (q:Int).toNat; omega⟩
    rw [hqk,zvf]
    unfold zfd
    by_cases hk:k=x.Key
    ·rw [if_pos hk,if_pos hd,hk,va]; rfl
    ·rw [if_neg hk,vb _ (fun e=>hk (by injection e)),hm k]
   ·obtain⟨ok1,va,vb⟩:=ok.set ⟨_,rfl⟩ hset
    refine⟨⟨q+1,es1,c1,rfl,O_,ok1,fun k=> ?_,(st.mset0 hw9).drop1⟩,by show t.2.length - ((q+1:Nat):Int).toNat<t.2.length - (q:Int).toNat; omega⟩
    rw [hqk,zvf]
    unfold zfd
    by_cases hk:k=x.Key
    ·rw [if_pos hk,if_neg (by rw [hd]; decide),hk,va]; rfl
    ·rw [if_neg hk,vb _ (fun e=>hk (by injection e)),hm k]
  ·have hi2:=of_decide_eq_false hi2
   have hqe:q=t.2.length:=O_
   rw [hqe,List.take_length] at hm
   rw [wp]
   refine⟨⟨p+1,es,c,rfl,O_,ok,?_,st⟩,by show first - ((p+1:Nat):Int).toNat<first - (p:Int).toNat; omega⟩
   rw [htk,z0d]; exact hm
 ·have hi:=of_decide_eq_false hi
  obtain rfl:p=first:=O_
  exact k b es c w3 ok hm st
end
theorem zvs (x:List UInt8):Op.bytesLess x []=false:=by cases x <;> rfl
def zOc (m:FM) (k:ByteArray):Option En:=(m k).map fun v=>⟨k,v⟩
section
variable {W:World} {m0:List (Nat×Obj)} {w:World} {fr:List zg} {sl:Slc} {sls:List Slc} {ts:List Tx}
theorem zao {es:Array MapEntry} {c first:Nat} (L:zcc ts) (ok:MOk isKS es c) (hm:zCm es (zMb (ts.take first))):(∀ e∈es.toList,∀ s,e.key= .string s→s.size≤64)∧es.size≤4294967296:=by
 have hk:∀ e∈es.toList,∀ s,e.key= .string s→∃ t∈ts,∃ x∈t.2,x.Key=s:=fun e he s hs=>by
  have h1:=ok.mem_lk he
  rw [hs,hm s] at h1
  obtain⟨t,ht,x,hx,e⟩:=zck (k:=s) (ts.take first) fun h0=>by rw [h0] at h1; cases h1
  exact⟨t,List.mem_of_mem_take ht,x,hx,e⟩
 refine⟨fun e he s hs=> ?_,?_⟩
 ·obtain⟨t,ht,x,hx,rfl⟩:=hk e he s hs
  exact((L.ok t ht).2.2.2 x hx).2.1
 ·have hl:(es.toList.map (·.key)).length≤((ts.flatMap (·.2)).map fun x=>Value.string x.Key).length:=List.Nodup.length_le_of_subset ok.nodup fun v hv=>by
    obtain⟨e,he,rfl⟩:=List.mem_map.1 hv
    obtain⟨s,hs⟩:=ok.all e he
    obtain⟨t,ht,x,hx,e2⟩:=hk e he s hs
    rw [hs,←e2]
    exact List.mem_map.2 ⟨x,List.mem_flatMap.2 ⟨t,ht,hx⟩,rfl⟩
  have hb:∀ l:List Tx,(∀ t∈l,t∈ts)→(l.flatMap (·.2)).length≤l.length*32:=fun l=>by
   induction l with
   | nil=>intro _; exact Nat.zero_le _
   | cons t l ih =>
    intro hl
    have h1:=(L.ok t (hl t (List.mem_cons_self ..))).2.2.1
    have h2:=ih fun x hx=>hl x (List.mem_cons_of_mem _ hx)
    rw [List.flatMap_cons,List.length_append,List.length_cons]
    omega
  have h2:=hb ts fun _ h=>h
  have h3:=L.len
  rw [List.length_map,List.length_map] at hl
  have:es.toList.length=es.size:=by simp
  omega
theorem s_Q {first:Nat} {R:Slc→Int→WP} (L:zcc ts) (ha:LAt W sl ts sls) (hc:sl.len≤sl.cap) (hf:first≤ts.length) (st:St ⟨W,m0⟩ fr w)
    (k:∀ s2 (ks:List ByteArray) ob w',ks.Pairwise ltK→(∀ k,k∈ks↔zMb (ts.take first) k≠none)→RowC 2 s2 ((ks.filterMap (zOc (zMb (ts.take first)))).flatMap enC) ob→St ⟨W,m0⟩ (ob++fr) w'→R s2 0 w'):C_Wb sl (first:Int) w R:=by
 apply S_Vb
 unfold F_sd
 apply S_2b
 unfold F_Cd
 refine s_F L ha hc hf st fun r es c w1 ok hm st=>⟨fun h=>(by cases h),fun _=> ?_⟩
 obtain⟨hsz,hes⟩:=zao L ok hm
 refine s_jb ok hsz hes st fun ksl ks kb w2 kro hkl hks hkm st=> ?_
 have hkM:∀ k,k∈ks↔zMb (ts.take first) k≠none:=fun k=>by
  rw [hkm,hm k]
  cases zMb (ts.take first) k <;> simp
 have hknd:ks.Nodup:=List.Pairwise.imp (fun {a b} (hab:ltK a b) (e:a=b)=>zQf b (e ▸ hab)) hks
 have hksl:ks.length≤es.size:=by
  have:(ks.map Value.string).length≤(es.toList.map (·.key)).length:=List.Nodup.length_le_of_subset (List.pairwise_map.2 (hknd.imp fun {a b} hab e=>hab (by injection e))) fun v hv=>by
   obtain⟨k,hk,rfl⟩:=List.mem_map.1 hv
   obtain⟨u,hu⟩:=Option.isSome_iff_exists.1 ((hkm k).1 hk)
   obtain⟨e,he,h1,_⟩:=MOk.lk_mem hu
   exact List.mem_map.2 ⟨e,he,h1⟩
  simpa using this
 refine⟨fun out i w'=>∃(p:Nat) (ob:List zg),i=(p:Int)∧p≤ks.length∧out.len≤p∧RowC 2 out (((ks.take p).filterMap (zOc (zMb (ts.take first)))).flatMap enC) ob∧St ⟨W,(r,.map es c)::m0⟩ (ob++(kb++fr)) w',fun _ i _=>ks.length - i.toNat,
  ⟨0,[],rfl,O_,by show 0≤0; omega,RowC.nil,st⟩,?_⟩
 clear st
 rintro out i w3 ⟨p,ob,rfl,hp,hol,ro,st⟩
 unfold F_Fc
 refine⟨fun hi=> ?_,fun hi=> ?_⟩
 ·have hi:=of_decide_eq_true hi
  have wp:IntKind.i64.wrap ((p:Int)+1)=((p+1:Nat):Int):=by rw [i64_in _ O_ O_]; omega
  obtain⟨key,hy⟩:∃ y,ks[p]? =some y:=⟨_,List.getElem?_eq_getElem O_⟩
  obtain⟨a1,_,a3⟩:=(kro.srcM (fun c hc=>by simp [hc]) st).at1 (i:=p) (v:=Value.string key) (by rw [List.getElem?_map,hy]; rfl)
  have hne:=(hkM key).1 (List.mem_of_getElem? hy)
  obtain⟨v,hv⟩:=Option.ne_none_iff_exists'.1 hne
  have hlk:zK es (.string key)=some (.string v):=by rw [hm key,hv]; rfl
  have htk:ks.take (p+1)=ks.take p++[key]:=by rw [List.take_add_one,hy]; rfl
  have hcond:((!(Op.bytesLess key.toList ByteArray.empty.toList))&&((ByteArray.empty.toList==ByteArray.empty.toList)||(Op.bytesLess key.toList ByteArray.empty.toList)))=true:=by
   rw [zId,show ByteArray.empty.toList=[] from by rw [ByteArray.toList_eq]; rfl,zvs]; rfl
  refine⟨a1,O_,hi,key,by rw [Int.toNat_natCast]; exact a3,fun _=>⟨es,v,true,.inr ⟨r,c,rfl,st.objAt 0 rfl⟩,ok.all,ok.nodup,⟨_,rfl⟩,MOk.lkIs' (by rw [hlk]; rfl) (by rw [hlk]; rfl),fun b w4 hb hw=>⟨enC ⟨key,v⟩,zob hb hw rfl,?_⟩⟩,fun h=>(by rw [hcond] at h; cases h)⟩
  refine ro.append ((st.alloc (cs:=enC ⟨key,v⟩) hb hw).drop1) rfl rfl rfl (by show(out.len+1)*32≤_; omega) fun out' ob' w5 ro' st hl'=> ?_
  unfold F_Yb
  rw [wp]
  refine⟨⟨p+1,ob',rfl,O_,O_,?_,st⟩,by show ks.length - ((p+1:Nat):Int).toNat<ks.length - (p:Int).toNat; omega⟩
  rw [htk,List.filterMap_append,List.flatMap_append]
  have e:([key].filterMap (zOc (zMb (ts.take first)))).flatMap enC=enC ⟨key,v⟩:=by
   have:zOc (zMb (ts.take first)) key=some ⟨key,v⟩:=by unfold zOc; rw [hv]; rfl
   simp [this]
  rw [e]; exact ro'
 ·have hi:=of_decide_eq_false hi
  obtain rfl:p=ks.length:=O_
  rw [List.take_length] at ro
  exact k out ks ob w3 hks hkM ro (St.weak (St.forget (a:=[(r,.map es c)]) st) kb (za fun f_=>by simp <;> omega))
theorem zbo (x:En):((x.Key==x.Key)&&(x.Val==x.Val))=true:=by rw [ba_eqV,ba_eqV,decide_eq_true rfl,decide_eq_true rfl]; rfl
theorem s_G {a b:Slc} {xs:List En} {R:Bool→WP} (ha:zr w a 2 (xs.flatMap enC)) (hb:zr w b 2 (xs.flatMap enC)) (hl:xs.length≤4611686018427387904) (k:∀ w',Ext w w'→R true w'):C_H a b w R:=by
 apply S_l
 unfold F_mb
 have la:=ha.1
 have lb:=hb.1
 rw [zl zTf] at la lb
 refine⟨fun h=> ?_,fun _=> ?_⟩
 ·have h:((a.len:Nat):Int)≠((b.len:Nat):Int):=by simpa using h
  omega
 refine⟨fun i w'=>∃ p:Nat,i=(p:Int)∧p≤a.len∧Ext w w',fun i _=>a.len - i.toNat,⟨0,rfl,O_,Ext.refl _⟩,?_⟩
 rintro i w1 ⟨p,rfl,hp,e⟩
 unfold F_F
 refine⟨fun hi=> ?_,fun hi=>k w1 e⟩
 have hi:=of_decide_eq_true hi
 have wp:IntKind.i64.wrap ((p:Int)+1)=((p+1:Nat):Int):=by rw [i64_in _ O_ O_]; omega
 obtain⟨pa,x,hx,hc⟩:=(e.src ha).getN zTf O_ (i:=(p:Int)) O_ hi
 obtain⟨pb,y,hy,hd⟩:=(e.src hb).getN zTf O_ (i:=(p:Int)) O_ O_
 obtain rfl:=Option.some.inj (hx.symm.trans hy)
 refine⟨pa,O_,hi,x,hc,pb,O_,O_,x,hd,fun w2 e2=>⟨fun h=> ?_,fun _=> ?_⟩⟩
 ·rw [zbo] at h; cases h
 ·rw [wp]
  exact⟨⟨p+1,rfl,O_,e.trans e2⟩,by show a.len - ((p+1:Nat):Int).toNat<a.len - (p:Int).toNat; omega⟩
end
set_option maxHeartbeats 1000000
/-- Of a transaction's writes of a key the last one counts. -/
theorem zDm (ws:List Wr) (k:ByteArray) (m:FM):zEe ws m k=match (z9 ws).find? (fun x=>decide (x.Key=k)) with
    | some x=>if x.Drop=true then none else some x.Val
    | none=>m k:=by
 have key:∀(ws:List Wr) (m:FM),zEe ws m k=match (cntP ws ws.length).find? (fun x=>decide (x.Key=k)) with
     | some x=>if x.Drop=true then none else some x.Val
     | none=>m k:=fun ws=>by
  induction ws with
  | nil=>intro m; rfl
  | cons y r ih =>
   intro m
   have e:cntP (y::r) (y::r).length=(if zRc y r=true then [y] else [])++cntP r r.length:=rfl
   rw [e]
   have e2:zEe (y::r) m=zEe r (zfd m y):=rfl
   rw [e2,ih]
   by_cases hk:zRc y r=true
   ·rw [if_pos hk,List.singleton_append]
    by_cases hy:y.Key=k
    ·rw [List.find?_cons_of_pos (by simpa using hy)]
     have hn:(cntP r r.length).find? (fun x=>decide (x.Key=k))=none:=by
      rw [List.find?_eq_none]
      intro x hx hxk
      have hx:=zLd hx
      unfold zRc at hk
      have:(r.any fun z=>decide (z.Key=y.Key))=true:=List.any_eq_true.2 ⟨x,hx,by rw [hy]; exact hxk⟩
      rw [this] at hk; cases hk
     rw [hn]
     show zfd m y k=_
     unfold zfd
     rw [if_pos hy.symm]
    ·rw [List.find?_cons_of_neg (by simpa using hy)]
     cases (cntP r r.length).find? (fun x=>decide (x.Key=k)) with
     | some x=>rfl
     | none=>show zfd m y k=m k; unfold zfd; rw [if_neg fun e=>hy e.symm]
   ·rw [if_neg hk,List.nil_append]
    cases hf:(cntP r r.length).find? (fun x=>decide (x.Key=k)) with
    | some x=>rfl
    | none =>
     show zfd m y k=m k
     unfold zfd
     rw [if_neg]
     intro e
     have hk:(r.any fun z=>decide (z.Key=y.Key))=true:=by
      unfold zRc at hk
      simpa using hk
     obtain⟨z,hz,hzk⟩:=List.any_eq_true.1 hk
     have hzk:z.Key=y.Key:=of_decide_eq_true hzk
     -- some write of that key counts
     have ex:∀(r:List Wr) (z:Wr),z∈r→∃ x∈cntP r r.length,x.Key=z.Key:=fun r=>by
      induction r with
      | nil=>intro z hz; cases hz
      | cons a r ih2 =>
       intro z hz
       have e:cntP (a::r) (a::r).length=(if zRc a r=true then [a] else [])++cntP r r.length:=rfl
       rw [e]
       rcases List.mem_cons.1 hz with rfl | hz
       ·by_cases hka:zRc z r=true
        ·exact⟨z,by rw [if_pos hka]; simp,rfl⟩
        ·have:(r.any fun y=>decide (y.Key=z.Key))=true:=by unfold zRc at hka; simpa using hka
         obtain⟨y',hy',hye⟩:=List.any_eq_true.1 this
         obtain⟨x,hx,hxe⟩:=ih2 y' hy'
         exact⟨x,List.mem_append_right _ hx,hxe.trans (of_decide_eq_true hye)⟩
       ·obtain⟨x,hx,hxe⟩:=ih2 z hz
        exact⟨x,List.mem_append_right _ hx,hxe⟩
     obtain⟨x,hx,hxe⟩:=ex r z hz
     have:=List.find?_eq_none.1 hf x hx
     exact this (by rw [hxe,hzk,e]; exact decide_eq_true rfl)
 exact key ws m
def VsOf (k:ByteArray) (ts:List Tx) (vs:List Ver):Prop:=∀ y,y∈vs↔∃ t∈ts,∃ x∈z9 t.2,x.Key=k∧y=zJd (t.1,x)
theorem zdk {k:ByteArray}:∀ ts:List Tx,ts.Pairwise (fun a b=>a.1<b.1)→∀ vs:List Ver,z1d vs→VsOf k ts vs→zZd k vs=zOc (zMb ts) k :=
 zVf (fun _ vs _ hv=>by
  have:vs=[]:=List.eq_nil_iff_forall_not_mem.2 fun y hy=>by
   obtain⟨t,ht,_⟩:=(hv y).1 hy
   cases ht
  rw [this]; rfl) fun ts t ih hp vs hr hv=>by
  obtain⟨p1,_,p3⟩:=List.pairwise_append.1 hp
  rw [z0d]
  unfold zOc
  rw [zDm]
  cases hf:(z9 t.2).find? (fun x=>decide (x.Key=k)) with
  | none =>
   refine ih p1 vs hr fun y=> ?_
   rw [hv y]
   constructor
   ·rintro⟨t',ht',x,hx,hk,e⟩
    rcases List.mem_append.1 ht' with ht' | ht'
    ·exact⟨t',ht',x,hx,hk,e⟩
    ·have:t'=t:=by simpa using ht'
     subst this
     exact absurd (decide_eq_true hk) (List.find?_eq_none.1 hf x hx)
   ·rintro⟨t',ht',h⟩
    exact⟨t',List.mem_append_left _ ht',h⟩
  | some x =>
   have hx:=List.mem_of_find?_eq_some hf
   have hk:x.Key=k:=by simpa using List.find?_some hf
   have hy:=(hv (zJd (t.1,x))).2 ⟨t,by simp,x,hx,hk,rfl⟩
   have hne:vs≠[]:=fun e=>by rw [e] at hy; cases hy
   have hlast:vs.getLast? =some (zJd (t.1,x)):=by
    rw [List.getLast?_eq_some_getLast hne]
    congr 1
    obtain⟨i,hi⟩:=List.mem_iff_getElem?.1 hy
    obtain⟨hi1,hi2⟩:=List.getElem?_eq_some_iff.1 hi
    have hln:vs.getLast hne=vs[vs.length - 1]'O_:=List.getLast_eq_getElem hne
    by_cases hil:i=vs.length - 1
    ·subst hil; rw [hln,hi2]
    ·exfalso
     have h1:=List.pairwise_iff_getElem.1 hr i (vs.length - 1) hi1 O_ O_
     rw [hi2,←hln] at h1
     obtain⟨t',ht',x',_,_,e⟩:=(hv _).1 (List.getLast_mem hne)
     rw [e] at h1
     have h1:t.1<t'.1:=h1
     rcases List.mem_append.1 ht' with ht' | ht'
     ·have:=p3 t' ht' t (by simp); omega
     ·have:t'=t:=by simpa using ht'
      subst this; omega
   unfold zZd
   rw [hlast]
   show(if x.Drop=true then none else some (⟨k,x.Val⟩:En))=_
   by_cases hd:x.Drop=true
   ·simp [hd]
   ·simp [hd]
set_option maxHeartbeats 1000000
section
variable {W:World} {m0:List (Nat×Obj)} {w:World} {fr:List zg} {σ:RS} {d:RD} {log:List Tx} {fed:Nat} {s:TS}
theorem zek (hall:∀ f,sm (fun l=>sm f l) s.inst=zQe log fed f) (z:IW):(∃ l∈s.inst,z∈l)↔∃ t∈log.take fed,z.1=t.1∧z.2∈z9 t.2:=by
 classical
 have hf:=hall fun y=>if y=z then 1 else 0
 have pos:∀ {l:List IW},z∈l→1≤sm (fun y=>if y=z then 1 else 0) l:=fun {l} hz=>by
  have:=zpb (f:=fun y:IW=>if y=z then 1 else 0) hz
  simpa using this
 have inv:∀ {l:List IW},sm (fun y=>if y=z then 1 else 0) l≠0→z∈l:=fun {l} h=>by
  obtain⟨y,hy,hne⟩:=zAf h
  by_cases e:y=z
  ·rw [←e]; exact hy
  ·exact absurd (if_neg e) hne
 have hp:∀ t:Tx,z∈prs t↔z.1=t.1∧z.2∈z9 t.2:=fun t=>by
  unfold prs
  rw [List.mem_map]
  constructor
  ·rintro⟨x,hx,rfl⟩; exact⟨rfl,hx⟩
  ·rintro⟨h1,h2⟩; exact⟨z.2,h2,by rw [←h1]⟩
 constructor
 ·rintro⟨l,hl,hz⟩
  have h1:=zpb (f:=fun l:List IW=>sm (fun y=>if y=z then 1 else 0) l) hl
  have h2:=pos hz
  have h3:zQe log fed (fun y=>if y=z then 1 else 0)≠0:=O_
  obtain⟨t,ht,hne⟩:=zAf h3
  exact⟨t,ht,(hp t).1 (inv hne)⟩
 ·rintro⟨t,ht,hz⟩
  have h1:=zpb (f:=fun t:Tx=>sm (fun y=>if y=z then 1 else 0) (prs t)) ht
  have h2:=pos ((hp t).2 hz)
  have h3:sm (fun l=>sm (fun y=>if y=z then 1 else 0) l) s.inst≠0:=by
   rw [hf]
   unfold zQe
   omega
  obtain⟨l,hl,hne⟩:=zAf h3
  exact⟨l,hl,inv hne⟩
theorem zws (h:TInv log fed σ.cfg.Queue.toNat (shN σ.cfg) s) (hall:∀ f,sm (fun l=>sm f l) s.inst=zQe log fed f) (k:ByteArray):VsOf k (log.take fed) (MM σ s k):=fun y=>by
 constructor
 ·intro hy
  unfold MM at hy
  cases hi:s.inst[shN σ.cfg k]? with
  | none=>rw [hi] at hy; cases hy
  | some l =>
   rw [hi] at hy
   obtain⟨z,hz,hk,rfl⟩:=(zic l).1 hy
   obtain⟨t,ht,h1,h2⟩:=(zek hall z).1 ⟨l,List.mem_of_getElem? hi,hz⟩
   exact⟨t,ht,z.2,h2,hk,by rw [←h1]⟩
 ·rintro⟨t,ht,x,hx,hk,rfl⟩
  obtain⟨l,hl,hz⟩:=(zek hall (t.1,x)).2 ⟨t,ht,rfl,hx⟩
  obtain⟨i,hi⟩:=List.mem_iff_getElem?.1 hl
  have hs:=h.ish i l hi _ hz
  have hs:shN σ.cfg x.Key=i:=hs
  rw [hk] at hs
  rw [(zBm h hi).2 hs]
  exact(zic l).2 ⟨_,hz,hk,rfl⟩
theorem zco (S:SO W m0 fr σ log fed d s w) (k:ByteArray):z1d (MM σ s k)∧(MM σ s k).length≤4521984:=by
 unfold MM
 cases hi:s.inst[shN σ.cfg k]? with
 | none=>exact⟨List.Pairwise.nil,Nat.zero_le _⟩
 | some l =>
  have h1:=zWf (k:=k) l (z2d S.L S.h hi) (S.I.igood l (List.mem_of_getElem? hi))
  have h2:=zXf S.L S.h hi
  exact⟨(zHe.1 h1.1).1,Nat.le_trans h1.2 h2⟩
theorem zfk (L:zcc log):(log.take fed).Pairwise fun a b=>a.1<b.1 :=
 List.pairwise_iff_getElem.2 fun i j hi hj hij=>by
  rw [List.length_take] at hi hj
  have h1:=L.num i _ (List.getElem?_eq_getElem (l:=log) O_)
  have h2:=L.num j _ (List.getElem?_eq_getElem (l:=log) O_)
  rw [List.getElem_take,List.getElem_take,h1,h2]
  omega
theorem zjn (S:SO W m0 fr σ log fed d s w) (hall:∀ f,sm (fun l=>sm f l) s.inst=zQe log fed f) (k:ByteArray):∀ v∈MM σ s k,v.Number≤(fed:Int):=fun v hv=>by
 obtain⟨t,ht,x,_,_,rfl⟩:=(zws S.h hall k v).1 hv
 obtain⟨i,hi⟩:=List.mem_iff_getElem?.1 ht
 rw [List.getElem?_take] at hi
 split at hi
 ·have:=S.L.num i t hi
  show t.1≤_
  omega
 ·cases hi
theorem zIh (S:SO W m0 fr σ log fed d s w) (hall:∀ f,sm (fun l=>sm f l) s.inst=zQe log fed f) {ks ks2:List ByteArray} (h1:ks.Pairwise ltK) (h2:∀ k,k∈ks↔MM σ s k≠[]) (h3:ks2.Pairwise ltK) (h4:∀ k,k∈ks2↔zMb (log.take fed) k≠none) :
    (ks.filterMap fun k=>zZd k (MM σ s k))=ks2.filterMap (zOc (zMb (log.take fed))):=by
 have hg:∀ k,zZd k (MM σ s k)=zOc (zMb (log.take fed)) k:=fun k=>zdk _ (zfk S.L) _ (zco S k).1 (zws S.h hall k)
 have hgf:(fun k=>zZd k (MM σ s k))=zOc (zMb (log.take fed)):=funext hg
 rw [hgf]
 have hkey:∀ {k:ByteArray} {e:En},zOc (zMb (log.take fed)) k=some e→e.Key=k:=fun {k e} he=>by
  unfold zOc at he
  obtain⟨v,_,rfl⟩:=Option.map_eq_some_iff.1 he
  rfl
 have hpw:∀ {ks:List ByteArray},ks.Pairwise ltK→(ks.filterMap (zOc (zMb (log.take fed)))).Pairwise fun a b=>ltK a.Key b.Key:=fun {ks} hp =>
  List.pairwise_filterMap.2 (hp.imp fun {a b} hab x hx y hy=>by rw [hkey hx,hkey hy]; exact hab)
 refine ztf (r:=fun a b:En=>ltK a.Key b.Key) (fun a=>zQf _) (fun a b=>zym) (hpw h1) (hpw h3) fun e=> ?_
 rw [List.mem_filterMap,List.mem_filterMap]
 constructor
 ·rintro⟨k,_,he⟩
  exact⟨k,(h4 k).2 fun h0=>(by unfold zOc at he; rw [h0] at he; cases he),he⟩
 ·rintro⟨k,_,he⟩
  refine⟨k,(h2 k).2 fun h0=> ?_,he⟩
  rw [←hg k,h0] at he
  cases he
end
set_option maxHeartbeats 1000000
def wldV (x:T_g):List Value:=[Vi x.Config.Lanes,Vi x.Config.Shards,Vi x.Config.Window,Vi x.Config.Queue,Vs x.Log,Vi x.Capacity,Vi x.Fed,Vs x.Picks]
theorem zEm {ts:List Tx} (h:chkL 1 ts=0):zcc ts:=by
 refine⟨fun i t ht=> ?_,fun t ht=> ?_,z8i h⟩
 ·obtain⟨_,c⟩:=zjc h ht
  rw [c]; omega
 ·obtain⟨i,hi⟩:=List.mem_iff_getElem?.1 ht
  exact(zjc h hi).1
abbrev fedN (fed:Int) (n:Nat):Nat:=if fed<0∨fed>((n:Nat):Int) then 0 else fed.toNat
section
variable {W:World} {m0:List (Nat×Obj)} {w:World} {fr:List zg} {x:T_g} {ts:List Tx} {sls:List Slc}
theorem s_w {R:OA→OA→WP} (st:St ⟨W,m0⟩ fr w) (ha:∀ mp l' w',St ⟨W,mp⟩ (l'++fr) w'→LAt w' x.Log ts sls) (hl:x.Log.len≤4398046511104)
    (k0:(x.Capacity<0∨x.Capacity>16777216∨chkL 1 ts≠0∨z8 x.Config≠0)→∀ w',St ⟨W,m0⟩ fr w'→R none none w')
    (k1:zcc ts→∀ σ d top db w',σ.cfg=x.Config→SO W m0 fr σ ts (fedN x.Fed ts.length) d (s0 x.Config.Lanes.toNat x.Config.Shards.toNat top) w'→R (some ⟨σ.rb,0,none⟩) db w'):C_J x w R:=by
 apply S_T
 unfold F_6b
 intro b_ w1 hb hw
 have st:St ⟨W,m0⟩ ((b_,wldV x)::fr) w1:=st.alloc (cs:=wldV x) hb hw
 refine⟨x.Capacity,st.cell 0 rfl rfl,s_nb st (fun hcap=> ?_) fun db w2 st=> ?_⟩
 ·refine⟨x.Log,st.cell 0 rfl rfl,s_A st (fun l w' st=>ha m0 (l++[(b_,wldV x)]) w' (by simpa using st)) hl (fun hc w' st=>⟨fun _=>k0 O_ w' st.drop1,fun h=>(by simp at h)⟩) fun hc b cs w' so st=>⟨fun _=>k0 O_ w' (St.drop (a:=cs) st).drop1,fun h=>(by simp at h)⟩⟩
 ·refine⟨x.Log,st.cell 1 rfl rfl,s_A st (fun l w' st=>ha m0 (l++[(db,zNb x.Capacity),(b_,wldV x)]) w' (by simpa using st)) hl (fun hc w' st=>⟨fun _=>k0 O_ w' st.drop1.drop1,fun h=> ?_⟩) fun hc sb scs w3 so st=>⟨fun h=>(by simp at h),fun _=> ?_⟩⟩
  ·have:chkL 1 ts=0:=by simpa using h
   exact absurd this hc
  ·have L:=zEm hc
   have st:St ⟨W,m0⟩ ((db,zNb x.Capacity)::(scs++((b_,wldV x)::fr))) w3:=st.pq
   refine⟨x.Config,(?_:zc w3 b_ 0 _),?_⟩
   ·have kb:=st.blk (b_,wldV x) (by simp)
    exact⟨kb.cell rfl,kb.cell rfl,kb.cell rfl,kb.cell rfl,trivial⟩
   refine s_E hc so st (fun hcf w' st=>⟨fun _=>k0 (.inr (.inr (.inr hcf))) w' (st.wq ((db,zNb x.Capacity)::(scs++[(b_,wldV x)]))),fun h=>(by cases h)⟩) fun hcf σ d top w' e I st=>⟨fun h=>(by cases h),fun _=> ?_⟩
   have hbc:w'.cell? ⟨b_,6,none⟩=some (Vi x.Fed):=(st.blk (b_,wldV x) (by simp)).cell rfl
   refine⟨x.Fed,hbc,s_Qb I st fun e2 d' w4 I' st=> ?_⟩
   have hfed:fedN x.Fed ts.length≤ts.length:=by
    unfold fedN
    split
    ·exact Nat.zero_le _
    ·omega
   obtain⟨hi,hph⟩:=zSe (fed:=fedN x.Fed ts.length) (cap:=σ.cfg.Queue.toNat) (sh:=shN σ.cfg) L hfed x.Config.Lanes.toNat x.Config.Shards.toNat top
   have hpl:=zvk L (fedN x.Fed ts.length)
   have hll:=L.len
   exact k1 L σ d' top _ w4 e ⟨I',hi,st.weak [(b_,wldV x)] (za fun f_=>by simp [RD.cs,RD.mp] <;> omega),L,by rw [hph]; omega⟩
end
theorem zFm {w:World} {s:Slc} {sz by_:Nat} {E:List Value→Prop} (h:OkSl w s sz by_ E):s.len≤s.cap:=by
 rcases h with ⟨h1,h2,h3⟩ | ⟨h1,_⟩ <;> omega
theorem zdo {W w:World} {b_:Nat} {x:T_g} {ts:List Tx} {sls:List Slc} {σ:RS} {d:RD} {s:TS} {fed:Nat} {R:Bool→WP} (ha:LAt W x.Log ts sls) (hc:x.Log.len≤x.Log.cap) (hf:fed≤ts.length)
    (S:SO W [] [(b_,wldV x)] σ ts fed d s w) (hz:∀ i,i<ntk σ→canK σ fed s i=0) (K:∀ {w1},RowKit.Below W.heap.size W w1→C_g w1 R):F_j R b_ (some ⟨σ.rb,0,none⟩) (fed:Int) w:=by
 unfold F_j
 have hck:=z1 S.I.ok.cfg
 have hlp:1≤s.lanes.length:=by have:=S.I.ok.ln; have:=hck.1; have:=S.I.ll; omega
 have hq1:1≤σ.cfg.Queue.toNat:=by have:=hck.2.2.2; omega
 have hw1:1≤(σ.cfg.Window.toNat:Int):=by have:=hck.2.2.1; omega
 have hsh:∀ k,shN σ.cfg k<s.qs.length:=fun k=>by
  have h1:=S.I.ok.on
  have h2:=S.I.ol
  have h3:=hck.2.1
  have:(zvb σ.cfg k).1<σ.cfg.Shards:=by
   unfold zvb
   rw [if_neg (by simpa using S.I.ok.cfg)]
   split
   ·show(0:Int)<_; omega
   ·exact Int.tmod_lt_of_pos _ O_
  unfold shN
  omega
 obtain⟨_,hmark,hall⟩:=zhh S.L S.h hw1 hq1 hlp hsh (z6i S.I hz)
 refine⟨x.Log,(S.st.blk (b_,wldV x) (by simp)).cell rfl,s_Q S.L ha hc hf S.st fun s2 ks2 ob2 w1 h3 h4 r2 st=>⟨fun _=> ?_,fun h=>(by cases h)⟩⟩
 have S1:SO W [] (ob2++[(b_,wldV x)]) σ ts fed d s w1:=⟨S.I,S.h,st.perm (za fun f_=>by simp [RD.cs,RD.mp] <;> omega),S.L,S.b⟩
 refine s_Xb S1 hz fun w2 S2=>⟨fun _=> ?_,fun h=>(by cases h)⟩
 refine s_cb S2 ⟨fun _=> ?_,fun h=> ?_⟩
 ·refine s_X S2 (fun k v hv=>by rw [hmark]; exact zjn S2 hall k v hv) (fun k=>by have:=(zco S2 k).2; omega) fun s1 ks1 ob1 w3 h1 h2 r1 hkl S3=> ?_
  rw [zIh S2 hall h1 h2 h3 h4] at r1
  have hl1:(ks2.filterMap (zOc (zMb (ts.take fed)))).length≤4611686018427387904:=by
   rw [←zIh S2 hall h1 h2 h3 h4]
   exact Nat.le_trans (List.length_filterMap_le _ _) O_
  refine s_G (r1.srcM (fun c hc=>by simp [hc]) S3.st) (r2.srcM (fun c hc=>by simp [hc]) S3.st) hl1 fun w4 e4=>⟨fun _=>K (S3.st.keep e4).below |> fun hK=>Calls.mono hK fun e w' hh=>hh,fun h=>(by cases h)⟩
 ·rw [hmark] at h
  simp at h
theorem s_Ub {w:World} {sl:Slc} {ps:List Int} {i:Int} {R:Int→WP} (hp:zr w sl 1 (ps.map Vi)) (h0:0≤i) (k:∀ v,R v w):C_ib sl i w R:=by
 apply S_jb
 unfold F_Gc
 refine⟨fun hi=> ?_,fun _=>k i⟩
 have hi:=of_decide_eq_true hi
 obtain⟨a,v,hv,hc⟩:=hp.get h0 hi
 exact⟨a,h0,hi,v,hc,k v⟩
theorem zeo (x:T_g) {w:World} {ts:List Tx} {sls:List Slc} {ps:List Int} {R:Bool→WP} (ha:LAt w x.Log ts sls) (hl:x.Log.len≤4398046511104) (hc:x.Log.len≤x.Log.cap) (hp:zr w x.Picks 1 (ps.map Vi))
    (K:∀ {w1},RowKit.Below w.heap.size w w1→C_g w1 R):C_T x w R:=by
 apply S_G
 unfold F_Ob
 intro b_ w1 hb hw
 have st:St ⟨w,[]⟩ [(b_,wldV x)] w1:=(St.start w).alloc (cs:=wldV x) hb hw
 have hlen:=ha.slen
 have known:∀ {L:List zg} {mp:List (Nat×Obj)} {w'},St ⟨w,mp⟩ L w'→C_g w' R:=fun st=>K st.below
 have cx:∀ {mp:List (Nat×Obj)} {L:List zg} {w':World} {o:Nat} {v:Value},St ⟨w,mp⟩ (L++[(b_,wldV x)]) w'→(wldV x)[o]? =some v→w'.cell? ⟨b_,o,none⟩=some v:=fun st hv=>(st.blk (b_,wldV x) (by simp)).cell hv
 refine⟨x,(st.get 0 rfl).all,s_w st (fun mp l' w' st=>ha.ext st.ext) hl (fun _ w2 st=>⟨fun _=> ?_,fun h=>(by cases h)⟩) fun L σ d top db w2 e S=>⟨fun h=>(by cases h),fun _=>⟨x.Log,cx S.st rfl,?_⟩⟩⟩
 ·unfold F_m
  exact⟨fun _=>known st,fun h=>(by cases h)⟩
 unfold F_m
 refine⟨fun _=>known S.st,fun h100=> ?_⟩
 have h100:=of_decide_eq_false h100
 have hfl:fedN x.Fed ts.length≤ts.length:=by
  unfold fedN
  split
  ·exact Nat.zero_le _
  ·omega
 have hphi:phi ts (fedN x.Fed ts.length) (s0 x.Config.Lanes.toNat x.Config.Shards.toNat top)≤69*ts.length:=by
  rw [(zSe (cap:=0) (sh:=fun _=>0) L hfl x.Config.Lanes.toNat x.Config.Shards.toNat top).2]
  exact zvk L _
 have main:F_k R b_ (some ⟨σ.rb,0,none⟩) ((fedN x.Fed ts.length:Nat):Int) w2:=by
  unfold F_k
  refine⟨fun i w'=>∃(p:Nat) (d:RD) (s:TS),i=(p:Int)∧p≤70*ts.length+1∧SO w [] [(b_,wldV x)] σ ts (fedN x.Fed ts.length) d s w'∧phi ts (fedN x.Fed ts.length) s+p≤69*ts.length,fun i _=>70*ts.length+1 - i.toNat,⟨0,d,_,rfl,O_,S,O_⟩,?_⟩
  rintro i w3 ⟨p,d,s,rfl,hp70,S,hph⟩
  unfold F_5
  have w70:IntKind.i64.wrap (70*((x.Log.len:Nat):Int))=70*(ts.length:Int):=by rw [i64_in _ O_ O_]; omega
  refine⟨x.Log,cx S.st rfl,fun hi=> ?_,fun hi=> ?_⟩
  ·refine⟨x.Picks,cx S.st rfl,s_Ub (S.st.ext.src hp) O_ fun v=>s_vb S (fun hz ev w4 S=> ?_) fun ev d' s' w4 S hp1=> ?_⟩
   ·intro b1 w5 hb1 hw5
    have st:=S.st.alloc (cs:=evV ev0) hb1 hw5
    refine⟨st.writable 0 rfl (by show 0+6≤6; omega),fun w6 hw6=>⟨fun _=> ?_,fun h=>(by cases h)⟩⟩
    exact zdo ha hc hfl ⟨S.I,S.h,(st.put0 hw6).drop1,S.L,S.b⟩ hz K
   ·intro b1 w5 hb1 hw5
    have st:=S.st.alloc (cs:=evV ev0) hb1 hw5
    refine⟨st.writable 0 rfl (by show 0+6≤6; omega),fun w6 hw6=>⟨fun h=>(by cases h),fun _=>⟨fun h=>(by cases h),fun _=> ?_⟩⟩⟩
    have wp:IntKind.i64.wrap ((p:Int)+1)=((p+1:Nat):Int):=by rw [i64_in _ O_ O_]; omega
    rw [wp]
    exact⟨⟨p+1,d',s',rfl,O_,⟨S.I,S.h,(st.put0 hw6).drop1,S.L,S.b⟩,O_⟩,by show 70*ts.length+1 - ((p+1:Nat):Int).toNat<70*ts.length+1 - (p:Int).toNat; omega⟩
  ·rw [w70] at hi
   have:=of_decide_eq_false hi
   omega
 refine⟨x.Fed,cx S.st rfl,fun hneg=> ?_,fun hneg=>⟨x.Log,cx S.st rfl,?_⟩⟩
 ·have hneg:=of_decide_eq_true hneg
  have e0:fedN x.Fed ts.length=0:=if_pos (.inl hneg)
  rw [e0] at main
  unfold F_l
  exact⟨fun _=>main,fun h=>(by cases h)⟩
 ·have hneg:=of_decide_eq_false hneg
  unfold F_l
  refine⟨fun h=> ?_,fun h=> ?_⟩
  ·have h:=of_decide_eq_true h
   have e0:fedN x.Fed ts.length=0:=if_pos (.inr O_)
   rw [e0] at main
   exact main
  ·have h:=of_decide_eq_false h
   have e0:((fedN x.Fed ts.length:Nat):Int)=x.Fed:=by
    unfold fedN
    rw [if_neg O_]; omega
   rw [e0] at main
   exact main
def kA:ByteArray:=ByteArray.mk #[97]
def w1k:Wr:=⟨kA,ByteArray.mk #[49],false⟩
def w2k:Wr:=⟨kA,ByteArray.mk #[50],false⟩
def ts20:List Tx:=[(1,[w1k]),(2,[w2k])]
def cfg20:Cfg:=⟨2,1,2,1⟩
theorem zXv:chkL 1 ts20=0:=D_
theorem zGm:z8 cfg20=0:=by unfold z8; rw [if_pos]; unfold zQh cfg20; simp
theorem zYv (L:zcc ts20) (top:Nat):phi ts20 2 (s0 2 1 top)=14:=by
 rw [(zSe (cap:=0) (sh:=fun _=>0) L (show 2≤ts20.length by decide) 2 1 top).2]
 rfl
theorem zkn (k:ByteArray):zMb (ts20.take 2) k=if k=kA then some (ByteArray.mk #[50]) else none:=by
 show zfd (zfd (fun _=>none) w1k) w2k k=_
 unfold zfd
 by_cases h:k=kA
 ·rw [if_pos (show k=w2k.Key from h),if_pos h]; rfl
 ·rw [if_neg (show ¬ k=w2k.Key from h),if_neg (show ¬ k=w1k.Key from h),if_neg h]
section
variable {W:World} {w:World}
theorem zgk {fr:List zg} {σ:RS} {d:RD} {s:TS} {n:Nat} {R:Bool→WP} (hR:∀ w',RowKit.Below W.heap.size W w'→R true w')
    (S:SO W [] fr σ ts20 2 d s w) (hz:∀ i,i<ntk σ→canK σ 2 s i=0) (hn:phi ts20 2 s+n=14):F_t R (some ⟨σ.rb,0,none⟩) (n:Int) w:=by
 unfold F_t
 have hck:=z1 S.I.ok.cfg
 have hlp:1≤s.lanes.length:=by have:=S.I.ok.ln; have:=hck.1; have:=S.I.ll; omega
 have hq1:1≤σ.cfg.Queue.toNat:=by have:=hck.2.2.2; omega
 have hw1:1≤(σ.cfg.Window.toNat:Int):=by have:=hck.2.2.1; omega
 have hsh:∀ k,shN σ.cfg k<s.qs.length:=fun k=>by
  have h1:=S.I.ok.on
  have h2:=S.I.ol
  have h3:=hck.2.1
  have:(zvb σ.cfg k).1<σ.cfg.Shards:=by
   unfold zvb
   rw [if_neg (by simpa using S.I.ok.cfg)]
   split
   ·show(0:Int)<_; omega
   ·exact Int.tmod_lt_of_pos _ O_
  unfold shN
  omega
 obtain⟨hp0,hmark,hall⟩:=zhh S.L S.h hw1 hq1 hlp hsh (z6i S.I hz)
 have hn14:n=14:=O_
 subst hn14
 refine s_X S (fun k v hv=>by rw [hmark]; exact zjn S hall k v hv) (fun k=>by have:=(zco S k).2; omega) fun sl ks ob w1 h1 h2 ro hkl S1=> ?_
 rw [zIh (ks2:=[kA]) S hall h1 h2 (List.pairwise_singleton _ _) (fun k=>by rw [zkn,List.mem_singleton]; by_cases h:k=kA <;> simp [h])] at ro
 have he:[kA].filterMap (zOc (zMb (ts20.take 2)))=[(⟨kA,ByteArray.mk #[50]⟩:En)]:=by
  have:zOc (zMb (ts20.take 2)) kA=some ⟨kA,ByteArray.mk #[50]⟩:=by unfold zOc; rw [zkn,if_pos rfl]; rfl
  simp [this]
 rw [he] at ro
 have hl:=ro.len
 have hl:sl.len=1:=by
  have hl:2=sl.len*2:=hl
  omega
 have src:zr w1 sl 2 ([(⟨kA,ByteArray.mk #[50]⟩:En)].flatMap enC):=ro.srcM (fun c hc=>by simp [hc]) S1.st
 obtain⟨a,y,hy,hc⟩:=src.getN zTf O_ (i:=0) O_ O_
 obtain rfl:=Option.some.inj hy
 rw [hl]
 refine⟨fun _=>⟨a,O_,O_,_,hc,?_⟩,fun h=>(by cases h)⟩
 have e:((kA==ByteArray.mk #[97])&&(ByteArray.mk #[50]==ByteArray.mk #[50]))=true:=by rw [ba_eqV,ba_eqV,decide_eq_true (show kA=ByteArray.mk #[97] from rfl),decide_eq_true (show ByteArray.mk #[50]=ByteArray.mk #[50] from rfl)]; rfl
 show R ((kA==ByteArray.mk #[97])&&(ByteArray.mk #[50]==ByteArray.mk #[50])) w1
 rw [e]
 exact hR _ S1.st.below
theorem s_wb {R:Bool→WP} (st:St ⟨W,[]⟩ [] w) (hR:∀ w',RowKit.Below W.heap.size W w'→R true w'):C_g w R:=by
 apply S_U
 unfold F_7b
 intro b w1 hb hw1 b1 w2 hb1 hw2
 have st:=(st.alloc (cs:=wV w1k) hb hw1).alloc (cs:=txW 0 ⟨none,0,0⟩) hb1 hw2
 refine⟨st.writable 0 rfl (by show 0+2≤2; omega),fun w3 hw3 b2 w4 hb2 hw4 b3 w5 hb3 hw5=> ?_⟩
 have st:=((st.put0 hw3).alloc (cs:=wV w2k) hb2 hw4).alloc (cs:=txW 0 ⟨none,0,0⟩) hb3 hw5
 refine⟨st.writable 0 rfl (by show 0+2≤2; omega),fun w6 hw6=> ?_⟩
 have st:St ⟨W,[]⟩ [(b3,txW 2 ⟨some ⟨b2,0,none⟩,1,1⟩),(b2,wV w2k),(b1,txW 1 ⟨some ⟨b,0,none⟩,1,1⟩),(b,wV w1k)] w6:=st.put0 hw6
 refine⟨⟨1,⟨some ⟨b,0,none⟩,1,1⟩⟩,(st.get 2 rfl).all,⟨2,⟨some ⟨b2,0,none⟩,1,1⟩⟩,(st.get 0 rfl).all,fun b4 w7 hb4 hw7=> ?_⟩
 have st:St ⟨W,[]⟩ [(b4,txW 1 ⟨some ⟨b,0,none⟩,1,1⟩++txW 2 ⟨some ⟨b2,0,none⟩,1,1⟩),(b3,txW 2 ⟨some ⟨b2,0,none⟩,1,1⟩),(b2,wV w2k),(b1,txW 1 ⟨some ⟨b,0,none⟩,1,1⟩),(b,wV w1k)] w7:=st.alloc hb4 hw7
 generalize hfr:[(b4,txW 1 ⟨some ⟨b,0,none⟩,1,1⟩++txW 2 ⟨some ⟨b2,0,none⟩,1,1⟩),(b3,txW 2 ⟨some ⟨b2,0,none⟩,1,1⟩),(b2,wV w2k),(b1,txW 1 ⟨some ⟨b,0,none⟩,1,1⟩),(b,wV w1k)]=fr at st
 have lat:∀(mp:List (Nat×Obj)) (l':List zg) (w':World),St ⟨W,mp⟩ (l'++fr) w'→LAt w' ⟨some ⟨b4,0,none⟩,2,2⟩ ts20 [⟨some ⟨b,0,none⟩,1,1⟩,⟨some ⟨b2,0,none⟩,1,1⟩]:=fun mp l' w' st=>by
  subst hfr
  refine⟨rfl,⟨rfl,.inr ⟨rfl,(st.blk (b4,_) (by simp)).all⟩⟩,fun i t s ht hs=> ?_,fun s hs=> ?_⟩
  ·match i,ht,hs with
   | 0,ht,hs=>obtain rfl:=Option.some.inj ht; obtain rfl:=Option.some.inj hs; exact⟨rfl,.inr ⟨rfl,(st.blk (b,wV w1k) (by simp)).all⟩⟩
   | 1,ht,hs=>obtain rfl:=Option.some.inj ht; obtain rfl:=Option.some.inj hs; exact⟨rfl,.inr ⟨rfl,(st.blk (b2,wV w2k) (by simp)).all⟩⟩
   | n+2,ht,hs=>simp [ts20] at ht
  ·simp at hs
   rcases hs with rfl | rfl <;> exact⟨by show 1≤1; omega,by show 1*40≤_; omega⟩
 refine s_w (x:=⟨cfg20,⟨some ⟨b4,0,none⟩,2,2⟩,0,2,⟨none,0,0⟩⟩) (ts:=ts20) st lat (by show 2≤_; omega) (fun h=> ?_) fun L σ d top db w8 e S=>⟨fun h=>(by cases h),fun _=> ?_⟩
 ·exfalso
  rcases h with h | h | h | h
  ·exact absurd h (by show ¬ (0:Int)<0; omega)
  ·exact absurd h (by show ¬ (0:Int)>16777216; omega)
  ·exact h zXv
  ·exact h zGm
 have S:SO W [] fr σ ts20 2 d (s0 2 1 top) w8:=S
 refine⟨fun n w'=>∃(p:Nat) (d:RD) (s:TS),n=(p:Int)∧SO W [] fr σ ts20 2 d s w'∧phi ts20 2 s+p=14,fun n _=>50 - n.toNat,⟨0,d,_,rfl,S,zYv L top⟩,?_⟩
 rintro n w9 ⟨p,d,s,rfl,S,hph⟩
 unfold F_ab
 refine⟨fun hi=> ?_,fun hi=>(by have:=of_decide_eq_false hi; omega)⟩
 refine s_vb S (fun hz ev w4 S=> ?_) fun ev d' s' w4 S hp1=> ?_
 ·intro b5 w5 hb5 hw5
  have st:=S.st.alloc (cs:=evV ev0) hb5 hw5
  refine⟨st.writable 0 rfl (by show 0+6≤6; omega),fun w6 hw6=>⟨fun _=> ?_,fun h=>(by cases h)⟩⟩
  exact zgk hR ⟨S.I,S.h,(st.put0 hw6).drop1,S.L,S.b⟩ hz hph
 ·intro b5 w5 hb5 hw5
  have st:=S.st.alloc (cs:=evV ev0) hb5 hw5
  refine⟨st.writable 0 rfl (by show 0+6≤6; omega),fun w6 hw6=>⟨fun h=>(by cases h),fun _=> ?_⟩⟩
  have wp:IntKind.i64.wrap ((p:Int)+1)=((p+1:Nat):Int):=by rw [i64_in _ O_ O_]; omega
  rw [wp]
  exact⟨⟨p+1,d',s',rfl,⟨S.I,S.h,(st.put0 hw6).drop1,S.L,S.b⟩,O_⟩,by show 50 - ((p+1:Nat):Int).toNat<50 - (p:Int).toNat; omega⟩
end
theorem zHm {w:World} {s:Slc} (h:OkSl w s 1 8 (fun es=>∃ e_:Int,es=[Vi e_]∧((-9223372036854775808)≤e_∧e_≤9223372036854775807))) :
    ∃ l:List Int,zr w s 1 (l.map Vi)∧s.len≤s.cap∧s.cap*8≤140737488351232∧l.length=s.len∧∀ x∈l,-9223372036854775808≤x∧x≤9223372036854775807:=by
 obtain⟨l,h1,h2,h3,h4,h5⟩:=zNh (f:=fun x:Int=>[Vi x]) (Pr:=fun e_:Int=> -9223372036854775808≤e_∧e_≤9223372036854775807) h (fun es ⟨e,he,hb⟩=>⟨e,he,hb⟩) (fun _=>rfl) D_
 have e:∀ l:List Int,(l.flatMap fun x:Int=>[Vi x])=l.map Vi:=fun l=>by
  induction l with
  | nil=>rfl
  | cons x l ih=>rw [List.flatMap_cons,ih]; rfl
 rw [e] at h1
 exact⟨l,h1,h2,h3,h4,h5⟩
theorem zUf (x0:T_g) (w:World) (h0:O_b w x0):C_T x0 w (fun b w'=>b=true∧RowKit.Below w.heap.size w w'):=by
 obtain⟨_,hlog,_,_,hpk⟩:=h0
 obtain⟨ts,sls,ha,hl⟩:=zCs hlog
 obtain⟨ps,hp,_⟩:=zHm hpk
 exact zeo x0 ha hl (zFm hlog) hp fun {w1} hb=>s_wb ((St.start w).keep hb) fun w' hb'=>⟨rfl,hb'⟩
end Go.Proofs.YtofjmclceflgiaaGreat
