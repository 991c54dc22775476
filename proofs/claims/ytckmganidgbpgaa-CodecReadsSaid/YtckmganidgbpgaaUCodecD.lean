/- Chapter 02: the codec's reader and the law's own go in step. -/
import Derived.Test.YtckmganidgbpgaaUCodecV
import Derived.Test.YtckmganidgbpgaaUCodecL
import Derived.Test.YtckmganidgbpgaaUTwinO
import Derived.Test.YtckmganidgbpgaaGCodecReads
namespace Go.Proofs.Ytckmganidgbpgaa
open Go
set_option linter.unusedVariables false

theorem RvP.short {B : Slc} {xs : List UInt8} {r : Rd} {s : RS} (o : RvP B xs r s) : s.rest.length ≤ xs.length := by
  rcases o with o | ⟨rfl, _⟩
  · obtain ⟨p, _, _, hr⟩ := o.place
    rw [hr, List.length_drop]; omega
  · show 0 ≤ _; omega

section
variable {w0 w : World} {fr bs : List Chunk} {rd : Option Addr} {s : RS} {B : Slc} {xs : List UInt8} {x : Rd} {o_ : Op2}
theorem sp_takes {R : Rd → Bool → World → Prop} (st : St w0 (bs ++ fr) w) (od : RdP rd s bs) (ov : RvP B xs x s) (hs : ∀ l' w', St w0 (l' ++ fr) w' → SrcAt w' B 1 (xs.map bV)) (hl : B.len ≤ 140737488351232) (hcap : B.len ≤ B.cap) (hok : opOk o_)
    (k : ∀ x' s' bs' w', RdP rd s' bs' → RvP B xs x' s' → St w0 (bs' ++ fr) w' → R x' true w') : C_towpathlaw02_takes rd x o_ w R := by
  apply S_towpathlaw02_takes
  intro b w1 hb hw b1 w2 hb1 hw1 b2 w3 hb2 hw2
  have hbl := (hs bs w st).len_eq
  have hsh := ov.short
  have st : St w0 ((b2, zR) :: (b1, opV o_) :: (b, rdV x) :: (bs ++ fr)) w3 := ((st.alloc hb hw).alloc hb1 hw1).alloc hb2 hw2
  have sB : ∀ {w' : World}, St w0 ((b2, zR) :: (b1, opV o_) :: (b, rdV x) :: (bs ++ fr)) w' → SrcAt w' B 1 (xs.map bV) := fun st => hs ([_, _, _] ++ bs) _ (by rw [List.append_assoc]; exact st)
  have pre : ∀ {x1 : Rd} {w4 w5 : World} {b3 : Nat}, Ext w3 w4 → b3 = w4.heap.size → w5 = w4.alloc (Obj.cells zR.toArray ty_towpathref02_Reader (0, 0)) → Writable w5 b3 0 4 ∧ ∀ w6, w6 = World.puts b3 0 (rdV x1) w5 → ∀ w7, (∃ k, w7 = w6.drewN k) →
      St w0 (bs ++ ((b3, rdV x1) :: (b2, zR) :: (b1, opV o_) :: (b, rdV x) :: fr)) w7 := by
    intro x1 w4 w5 b3 e hb3 hw5
    have st := (st.keep e).alloc hb3 hw5
    refine ⟨st.writable 0 rfl (by simp), fun w6 hw6 w7 e7 => ?_⟩
    have st : St w0 ([(b3, rdV x1), (b2, zR), (b1, opV o_), (b, rdV x)] ++ (bs ++ fr)) w6 := st.put0 hw6
    exact (st.swap).drew e7
  have post : ∀ {x1 : Rd} {s' : RS} {bs' : List Chunk} {b3 : Nat} {v : Bool} {w8 : World}, v = true → RdP rd s' bs' → RvP B xs x1 s' → St w0 (bs' ++ ((b3, rdV x1) :: (b2, zR) :: (b1, opV o_) :: (b, rdV x) :: fr)) w8 →
      (CellsAt w8 b3 0 (rdV x1) ∧ (Writable w8 b2 0 4 ∧ ∀ w9, w9 = World.puts b2 0 (rdV x1) w8 → (∃ res : Rd, CellsAt w9 b2 0 (rdV res) ∧ R res v w9))) := by
    intro x1 s' bs' b3 v w8 hv od' ov' st
    subst hv
    have st : St w0 ([(b3, rdV x1), (b2, zR), (b1, opV o_), (b, rdV x)] ++ (bs' ++ fr)) w8 := st.swap (b := [_, _, _, _])
    refine ⟨(st.get 0 rfl).all, ?_⟩
    exact ref_end (α := Unit) (R := fun r' w' => R r' true w') (St.sw st) rfl fun w' st => k x1 s' bs' w' od' ov' st.drop1.drop1.drop1
  refine ⟨o_.Kind, st.cell 1 rfl rfl, fun hk => ⟨x, (st.get 2 rfl).all, o_.Width, st.cell 1 rfl rfl, ?_⟩, fun hk => ⟨fun hk3 => ⟨x, (st.get 2 rfl).all, ?_⟩, fun hk3 => ⟨fun hk4 => ⟨x, (st.get 2 rfl).all, o_.Most, st.cell 1 rfl rfl, ?_⟩, fun hk4 => ⟨x, (st.get 2 rfl).all, ?_⟩⟩⟩⟩
  · refine sp_RvP_Fixed ov (sB st) hl fun x1 w4 o1 e4 b3 w5 hb3 hw5 => ?_
    obtain ⟨p1, p2⟩ := pre (x1 := x1) e4 hb3 hw5
    refine ⟨p1, fun w6 hw6 w7 e7 => ?_⟩
    have st := p2 w6 hw6 w7 e7
    refine ⟨x1, (st.drop.get 0 rfl).all, o_.Width, st.drop.cell 2 rfl rfl, sp_RdP_Fixed st od fun bs' w8 od' st => post (by simp) od' o1 st⟩
  · refine sp_RvP_Int ov (sB st) hl fun x1 w4 o1 e4 b3 w5 hb3 hw5 => ?_
    obtain ⟨p1, p2⟩ := pre (x1 := x1) e4 hb3 hw5
    refine ⟨p1, fun w6 hw6 w7 e7 => ?_⟩
    have st := p2 w6 hw6 w7 e7
    refine ⟨x1, (st.drop.get 0 rfl).all, sp_RdP_Int st od fun bs' w8 od' st => post (by simp) od' o1 st⟩
  · refine sp_RvP_Text ov (sB st) hl hcap hok.2.2.2.2.1 hok.2.2.2.2.2 fun x1 w4 o1 e4 b3 w5 hb3 hw5 => ?_
    obtain ⟨p1, p2⟩ := pre (x1 := x1) e4 hb3 hw5
    refine ⟨p1, fun w6 hw6 w7 e7 => ?_⟩
    have st := p2 w6 hw6 w7 e7
    refine ⟨x1, (st.drop.get 0 rfl).all, o_.Most, st.drop.cell 2 rfl rfl, sp_RdP_Text st od hok.2.2.2.2.1 hok.2.2.2.2.2 (by omega) fun bs' w8 od' st => post (by simp) od' o1 st⟩
  · refine sp_RvP_Var ov (sB st) hl fun x1 w4 o1 e4 b3 w5 hb3 hw5 => ?_
    obtain ⟨p1, p2⟩ := pre (x1 := x1) e4 hb3 hw5
    refine ⟨p1, fun w6 hw6 w7 e7 => ?_⟩
    have st := p2 w6 hw6 w7 e7
    refine ⟨x1, (st.drop.get 0 rfl).all, sp_RdP_Var st od fun bs' w8 od' st => post (by simp) od' o1 st⟩
end

abbrev gR : Rd := ⟨true, ⟨none, 0, 0⟩, 0, 0⟩
theorem gone_ok : RvP ⟨none, 0, 0⟩ [] gR deadS := .inr ⟨rfl, rfl⟩
theorem gone_src {w : World} : SrcAt w ⟨none, 0, 0⟩ 1 (([] : List UInt8).map bV) := ⟨rfl, .inl rfl⟩
abbrev zC : List Value := [Value.bool false, Value.slice none 0 0, iV 0]

set_option maxHeartbeats 2000000 in
theorem law_CodecReads (x0 x1 : Slc) (w : World) (h0 : OkSl w x0 1 1 (fun es => ∃ e_ : Int, es = [Value.int .u8 e_] ∧ (0 ≤ e_ ∧ e_ ≤ 255))) (h1 : OkSl w x1 5 48 (fun es => ∃ e_ : T_towpathlaw02_Op, es = opV e_ ∧ (Ok_T_towpathlaw02_Op w e_))) :
    C_towpathlaw02_CodecReads x0 x1 w (fun b w' => b = true ∧ RowKit.Below w.heap.size w w') := by
  apply S_towpathlaw02_CodecReads
  unfold F_towpathlaw02_CodecReads
  obtain ⟨xs, hs, hcl, hcap, hl⟩ := ok_bytes h0
  obtain ⟨ops, hs1, hl1, hlen1, hok⟩ := ops_in h1 fun es ⟨e, h, h'⟩ => ⟨e, h, h'⟩
  have st := St.start w
  refine sp_towpathlaw02_beyond hs1 hl1 hlen1 hok ⟨fun _ => ?_, fun _ => fun b13 w60 hb13 hw60 => ?_⟩
  · unfold F_towpathlaw02_CodecReads_k0
    exact ⟨fun _ => ⟨rfl, st.below⟩, fun h => by cases h⟩
  have st := st.alloc hb13 hw60
  refine beyond1 hb13 hw60 (by omega) ?_
  have st : St w [] w60 := st.drop1
  unfold F_towpathlaw02_CodecReads_k0
  refine ⟨fun _ => ⟨rfl, st.below⟩, fun hbe => ?_⟩
  have hbe := of_decide_eq_false hbe
  refine sp_TwinO st (st.ext.src hs) (by omega) (.inr fun l w' st => st.ext.src hs) fun t rbt w2 ot st => ?_
  have htl := ot.len
  refine sp_NewReader st (ot.src st) (by omega) fun rd bsR w3 oR st => ?_
  refine sp_LeftO ot (st.swap) (by omega) (fun w' st => st.ext.src hs) fun w4 st => ⟨fun h => by simp at h, fun _ => ?_⟩
  refine ⟨fun i w' => 0 ≤ i ∧ i ≤ t.len ∧ ∃ (zs : List Value) (rbt : List Chunk), RowC 1 t zs rbt ∧ St w (rbt ++ (bsR ++ [])) w', fun i _ => t.len - i.toNat, ⟨by omega, by omega, _, _, ot.row, st⟩, ?_⟩
  rintro i w5 ⟨h0, h1, zs, rbt', rt, st⟩
  unfold F_towpathlaw02_CodecReads_L1
  refine ⟨fun hi => ?_, fun hi => ?_⟩
  · have hi := of_decide_eq_true hi
    obtain ⟨a, hw, k2⟩ := rt.set (v := Value.int .u8 238) st (i := i.toNat) (by omega)
    refine ⟨a, h0, hi, hw, fun w6 hw6 => ?_⟩
    obtain ⟨bs', r', st'⟩ := k2 w6 hw6
    rw [wrap_next h0 hi (by omega)]
    exact ⟨⟨by omega, by omega, _, _, r', st'⟩, by show t.len - (i + 1).toNat < t.len - i.toNat; omega⟩
  have st : St w (bsR ++ []) w5 := st.drop
  refine sp_TwinO st (st.ext.src hs) (by omega) (.inr fun l w' st => st.ext.src hs) fun t2 rb2 w7 ot2 st b1 w8 hb1 hw8 => ?_
  have htl2 := ot2.len
  have hcap2 := ot2.row.cap_le
  have st := st.alloc hb1 hw8
  refine ⟨st.writable 0 rfl (by simp), fun w9 hw9 b2 w10 hb2 hw10 => ?_⟩
  have st : St w ((b1, rdV ⟨false, t2, 0, 0⟩) :: (rb2 ++ (bsR ++ []))) w9 := st.put0 hw9
  have st := st.alloc hb2 hw10
  refine ⟨st.writable 0 rfl (by simp), fun w11 hw11 => ?_⟩
  have st : St w ((b2, rdV gR) :: (b1, rdV ⟨false, t2, 0, 0⟩) :: (rb2 ++ (bsR ++ []))) w11 := st.put0 hw11
  have st : St w (bsR ++ ((b1, rdV ⟨false, t2, 0, 0⟩) :: (b2, rdV gR) :: (rb2 ++ []))) w11 := by
    have a : St w (([(b1, rdV ⟨false, t2, 0, 0⟩), (b2, rdV gR)] ++ rb2) ++ (bsR ++ [])) w11 := by rw [List.append_assoc]; exact st.sw
    have b := a.swap
    rw [List.append_assoc] at b
    exact b
  have o0 : RvP t2 xs ⟨false, t2, 0, 0⟩ ⟨xs, 0⟩ := .inl ⟨rfl, rfl, rfl, 0, rfl, by omega, by simp⟩
  have hsT : ∀ {l' : List Chunk} {w' : World}, St w (l' ++ (rb2 ++ [])) w' → SrcAt w' t2 1 (xs.map bV) := fun st => ot2.src st.drop
  have ht2 : t2.len ≤ 140737488351232 := by omega
  refine ⟨fun i w' => 0 ≤ i ∧ i ≤ x1.len ∧ ∃ (x : Rd) (s : RS) (bsR : List Chunk), RdP rd s bsR ∧ RvP t2 xs x s ∧ St w (bsR ++ ((b1, rdV x) :: (b2, rdV gR) :: (rb2 ++ []))) w', fun i _ => x1.len - i.toNat, ⟨by omega, by omega, _, _, bsR, .inl oR, o0, st⟩, ?_⟩
  rintro i w12 ⟨h0, h1, x, s, bsR, od, ov, st⟩
  unfold F_towpathlaw02_CodecReads_L2
  refine ⟨fun hi => fun w42 e42 => ?_, fun hi => fun b12 w49 hb12 hw49 w50 e50 => ?_⟩
  · have hi := of_decide_eq_true hi
    have st := st.drew e42
    obtain ⟨ia, o, ho, hoc⟩ := op_at (st.ext.src hs1) h0 hi
    have hoo := hok o (List.mem_of_getElem? ho)
    have opc : ∀ {l' : List Chunk} {w' : World}, St w l' w' → CellsAt w' (pblk x1.ptr) (poff x1.ptr + i.toNat * 5) (opV o) := fun st => by
      obtain ⟨_, o', ho', hc'⟩ := op_at (st.ext.src hs1) h0 hi
      obtain rfl : o = o' := by rw [ho] at ho'; exact Option.some.inj ho'
      exact hc'
    -- the end of a round
    have k5 : ∀ {bn : Nat} {x1' : Rd} {s1 : RS} {bsR : List Chunk} {w' : World}, RdP rd s1 bsR → RvP t2 xs x1' s1 → St w (bsR ++ ((bn, rdV x1') :: (b1, rdV x) :: (b2, rdV gR) :: (rb2 ++ []))) w' →
        F_towpathlaw02_CodecReads_k5 (fun b w' => b = true ∧ RowKit.Below w.heap.size w w') rd b1 i (fun i' w' => (0 ≤ i' ∧ i' ≤ x1.len ∧ ∃ (x : Rd) (s : RS) (bsR : List Chunk), RdP rd s bsR ∧ RvP t2 xs x s ∧ St w (bsR ++ ((b1, rdV x) :: (b2, rdV gR) :: (rb2 ++ []))) w') ∧ x1.len - i'.toNat < x1.len - i.toNat) (some ⟨bn, 0, none⟩) true true true w' := by
      intro bn x1' s1 bsR w' od ov st
      unfold F_towpathlaw02_CodecReads_k5
      have st1 : St w ((b1, rdV x) :: (bsR ++ ((bn, rdV x1') :: (b2, rdV gR) :: (rb2 ++ [])))) w' := by
        have := List.perm_middle (a := (b1, rdV x)) (l₁ := bsR ++ [(bn, rdV x1')]) (l₂ := (b2, rdV gR) :: (rb2 ++ []))
        rw [List.append_assoc, List.append_assoc] at this
        exact st.perm this
      refine ⟨rfl, x1', (st.drop.get 0 rfl).all, st1.writable 0 rfl (by simp), fun w16 hw16 w18 e18 => ⟨fun h => by simp at h, fun _ => ?_⟩⟩
      have st1 : St w ((b1, rdV x1') :: (bsR ++ ((bn, rdV x1') :: (b2, rdV gR) :: (rb2 ++ [])))) w18 := (st1.put0 hw16 : St w ((b1, rdV x1') :: _) w16).drew e18
      have st : St w (bsR ++ ((b1, rdV x1') :: (b2, rdV gR) :: (rb2 ++ []))) w18 := (St.unmid (St.mid st1 : St w (bsR ++ ((b1, rdV x1') :: ((bn, rdV x1') :: (b2, rdV gR) :: (rb2 ++ [])))) w18)).mid.sub (List.Sublist.append (List.Sublist.refl _) (List.Sublist.cons_cons _ (List.sublist_cons_self _ _)))
      have c1 : ∀ {w' : World}, St w (bsR ++ ((b1, rdV x1') :: (b2, rdV gR) :: (rb2 ++ []))) w' → CellsAt w' b1 0 (rdV x1') := fun st => (st.drop.get 0 rfl).all
      refine ⟨x1', c1 st, sp_RdP_Left st od ⟨c1 st, sp_RvP_Left ov htl2 ht2 fun w20 e20 => ⟨fun h => by simp at h, fun _ => ?_⟩⟩⟩
      have st := st.keep e20
      refine ⟨x1', c1 st, sp_RdP_End st od ⟨c1 st, sp_RvP_End ov htl2 fun w22 e22 => ?_⟩⟩
      have st := st.keep e22
      unfold F_towpathlaw02_CodecReads_k6
      refine ⟨fun h => by simp at h, fun _ => ?_⟩
      rw [wrap_next h0 hi (by omega)]
      exact ⟨⟨by omega, by omega, x1', s1, bsR, od, ov, st⟩, by omega⟩
    -- the reader that nobody made
    have k4 : ∀ {bn : Nat} {x1' : Rd} {s1 : RS} {bsR : List Chunk} {w' : World}, RdP rd s1 bsR → RvP t2 xs x1' s1 → St w (bsR ++ ((bn, rdV x1') :: (b1, rdV x) :: (b2, rdV gR) :: (rb2 ++ []))) w' →
        F_towpathlaw02_CodecReads_k4 x1 (fun b w' => b = true ∧ RowKit.Below w.heap.size w w') rd b1 b2 i (fun i' w' => (0 ≤ i' ∧ i' ≤ x1.len ∧ ∃ (x : Rd) (s : RS) (bsR : List Chunk), RdP rd s bsR ∧ RvP t2 xs x s ∧ St w (bsR ++ ((b1, rdV x) :: (b2, rdV gR) :: (rb2 ++ []))) w') ∧ x1.len - i'.toNat < x1.len - i.toNat) (some ⟨bn, 0, none⟩) true true w' := by
      intro bn x1' s1 bsR w' od ov st
      unfold F_towpathlaw02_CodecReads_k4
      intro w23 e23
      have st := st.drew e23
      generalize hL : bsR ++ ((bn, rdV x1') :: (b1, rdV x) :: (b2, rdV gR) :: (rb2 ++ [])) = L at st
      have cg : ∀ {l' : List Chunk} {w' : World}, St w (l' ++ L) w' → CellsAt w' b2 0 (rdV gR) := fun st => by
        have := st.drop
        rw [← hL] at this
        exact (this.drop.get 2 rfl).all
      have go : ∀ {w' : World}, St w L w' → F_towpathlaw02_CodecReads_k5 (fun b w' => b = true ∧ RowKit.Below w.heap.size w w') rd b1 i (fun i' w' => (0 ≤ i' ∧ i' ≤ x1.len ∧ ∃ (x : Rd) (s : RS) (bsR : List Chunk), RdP rd s bsR ∧ RvP t2 xs x s ∧ St w (bsR ++ ((b1, rdV x) :: (b2, rdV gR) :: (rb2 ++ []))) w') ∧ x1.len - i'.toNat < x1.len - i.toNat) (some ⟨bn, 0, none⟩) true true true w' := fun st => k5 od ov (by rw [hL]; exact st)
      refine ⟨gR, cg (l' := []) st, ia, h0, hi, o, opc st, fun b3 w24 hb3 hw24 => ?_, fun b6 w31 hb6 hw31 => ?_⟩
      · have st : St w ([(b3, zC)] ++ L) w24 := st.alloc hb3 hw24
        have od3 : RdP (some ⟨b3, 0, none⟩) deadS [(b3, zC)] := .inr ⟨rfl, .inr ⟨b3, rfl, rfl⟩⟩
        refine ⟨opc st, cg st, ?_, fun b5 w28 hb5 hw28 => ?_⟩
        · refine sp_takes (B := ⟨none, 0, 0⟩) (xs := []) st od3 gone_ok (fun _ _ _ => gone_src) (by show 0 ≤ _; omega) (by show 0 ≤ 0; omega) hoo fun x' s' bs' w25 _ _ st b4 w26 hb4 hw26 => ?_
          have st := st.alloc hb4 hw26
          exact ⟨st.writable 0 rfl (by simp), fun w27 hw27 => go (st.put0 hw27).drop1.drop⟩
        · have st : St w ([(b3, zC)] ++ ((b5, zR) :: L)) w28 := St.sw (st.alloc hb5 hw28)
          refine ⟨opc st, cg (l' := [_, _]) st, ?_⟩
          refine sp_takes (B := ⟨none, 0, 0⟩) (xs := []) st od3 gone_ok (fun _ _ _ => gone_src) (by show 0 ≤ _; omega) (by show 0 ≤ 0; omega) hoo fun x' s' bs' w29 _ _ st => ?_
          exact ⟨st.unmid.writable 0 rfl (by simp), fun w30 hw30 => go (st.unmid.put0 hw30).drop1.drop⟩
      · have st : St w ([(b6, zR)] ++ L) w31 := st.alloc hb6 hw31
        refine ⟨opc st, cg st, fun b7 w32 hb7 hw32 => ?_⟩
        have st : St w ([(b7, zC)] ++ ((b6, zR) :: L)) w32 := st.alloc hb7 hw32
        refine ⟨opc st, cg (l' := [_, _]) st, ?_⟩
        refine sp_takes (B := ⟨none, 0, 0⟩) (xs := []) st (.inr ⟨rfl, .inr ⟨b7, rfl, rfl⟩⟩) gone_ok (fun _ _ _ => gone_src) (by show 0 ≤ _; omega) (by show 0 ≤ 0; omega) hoo fun x' s' bs' w33 _ _ st => ?_
        exact ⟨st.unmid.writable 0 rfl (by simp), fun w34 hw34 => go (st.unmid.put0 hw34).drop1.drop⟩
    -- the reader that is none
    have k3 : ∀ {bn : Nat} {x1' : Rd} {s1 : RS} {bsR : List Chunk} {w' : World}, RdP rd s1 bsR → RvP t2 xs x1' s1 → St w (bsR ++ ((bn, rdV x1') :: (b1, rdV x) :: (b2, rdV gR) :: (rb2 ++ []))) w' →
        F_towpathlaw02_CodecReads_k3 x1 (fun b w' => b = true ∧ RowKit.Below w.heap.size w w') rd b1 b2 i (fun i' w' => (0 ≤ i' ∧ i' ≤ x1.len ∧ ∃ (x : Rd) (s : RS) (bsR : List Chunk), RdP rd s bsR ∧ RvP t2 xs x s ∧ St w (bsR ++ ((b1, rdV x) :: (b2, rdV gR) :: (rb2 ++ []))) w') ∧ x1.len - i'.toNat < x1.len - i.toNat) (some ⟨bn, 0, none⟩) true w' := by
      intro bn x1' s1 bsR w' od ov st
      unfold F_towpathlaw02_CodecReads_k3
      intro w35 e35
      have st := st.drew e35
      have odn : RdP none deadS [] := .inr ⟨rfl, .inl ⟨rfl, rfl⟩⟩
      generalize hL : bsR ++ ((bn, rdV x1') :: (b1, rdV x) :: (b2, rdV gR) :: (rb2 ++ [])) = L at st
      have cg : ∀ {l' : List Chunk} {w' : World}, St w (l' ++ L) w' → CellsAt w' b2 0 (rdV gR) := fun st => by
        have := st.drop
        rw [← hL] at this
        exact (this.drop.get 2 rfl).all
      have go : ∀ {w' : World}, St w L w' → _ := fun {w'} st => k4 (bn := bn) (w' := w') od ov (by rw [hL]; exact st)
      refine ⟨gR, cg (l' := []) st, ia, h0, hi, o, opc st, ?_, fun b9 w39 hb9 hw39 => ?_⟩
      · refine sp_takes (B := ⟨none, 0, 0⟩) (xs := []) (bs := []) st odn gone_ok (fun _ _ _ => gone_src) (by show 0 ≤ _; omega) (by show 0 ≤ 0; omega) hoo fun x' s' bs' w36 _ _ st b8 w37 hb8 hw37 => ?_
        have st := st.alloc hb8 hw37
        exact ⟨st.writable 0 rfl (by simp), fun w38 hw38 => go (st.put0 hw38).drop1.drop⟩
      · have st : St w ([(b9, zR)] ++ L) w39 := st.alloc hb9 hw39
        refine ⟨opc st, cg st, ?_⟩
        refine sp_takes (B := ⟨none, 0, 0⟩) (xs := []) (bs := []) st odn gone_ok (fun _ _ _ => gone_src) (by show 0 ≤ _; omega) (by show 0 ≤ 0; omega) hoo fun x' s' bs' w40 _ _ st => ?_
        have st : St w (bs' ++ ((b9, zR) :: L)) w40 := st
        exact ⟨st.unmid.writable 0 rfl (by simp), fun w41 hw41 => go (st.unmid.put0 hw41).drop1.drop⟩
    refine ⟨x, (st.drop.get 0 rfl).all, ia, h0, hi, o, opc st, ?_, fun b11 w46 hb11 hw46 => ?_⟩
    · refine sp_takes st od ov (fun l' w' st => hsT (l' := l' ++ [_, _]) (by rw [List.append_assoc]; exact st)) ht2 hcap2 hoo fun x' s' bs' w43 od' ov' st b10 w44 hb10 hw44 => ?_
      have st := st.alloc hb10 hw44
      exact ⟨st.writable 0 rfl (by simp), fun w45 hw45 => k3 od' ov' (st.put0 hw45).mid⟩
    · have st : St w (bsR ++ ((b11, zR) :: (b1, rdV x) :: (b2, rdV gR) :: (rb2 ++ []))) w46 := (st.alloc hb11 hw46).mid
      refine ⟨opc st, (st.drop.get 1 rfl).all, ?_⟩
      refine sp_takes st od ov (fun l' w' st => hsT (l' := l' ++ [_, _, _]) (by rw [List.append_assoc]; exact st)) ht2 hcap2 hoo fun x' s' bs' w47 od' ov' st => ?_
      exact ⟨st.unmid.writable 0 rfl (by simp), fun w48 hw48 => k3 od' ov' (st.unmid.put0 hw48).mid⟩
  · have st : St w (bsR ++ ((b12, zC) :: (b1, rdV x) :: (b2, rdV gR) :: (rb2 ++ []))) w50 := (st.alloc hb12 hw49).mid.drew e50
    have c1 : ∀ {w' : World}, St w (bsR ++ ((b12, zC) :: (b1, rdV x) :: (b2, rdV gR) :: (rb2 ++ []))) w' → CellsAt w' b1 0 (rdV x) := fun st => (st.drop.get 1 rfl).all
    refine ⟨x, c1 st, sp_RdP_Left st od ⟨c1 st, sp_RvP_Left ov htl2 ht2 fun w52 e52 => ⟨fun _ => ?_, fun h => by simp at h⟩⟩⟩
    have st := st.keep e52
    refine ⟨x, c1 st, sp_RdP_End st od ⟨c1 st, sp_RvP_End ov htl2 fun w54 e54 => ⟨fun _ => ?_, fun h => by simp at h⟩⟩⟩
    have st := st.keep e54
    have odn : RdP none deadS [] := .inr ⟨rfl, .inl ⟨rfl, rfl⟩⟩
    have odz : RdP (some ⟨b12, 0, none⟩) deadS [(b12, zC)] := .inr ⟨rfl, .inr ⟨b12, rfl, rfl⟩⟩
    refine sp_RdP_Left (bs := []) st odn ⟨fun _ => ?_, fun h => by simp [deadS] at h⟩
    refine sp_RdP_End (bs := []) st odn ⟨fun _ => ?_, fun h => by simp [deadS, RS.end_] at h⟩
    have stz : St w ([(b12, zC)] ++ (bsR ++ ((b1, rdV x) :: (b2, rdV gR) :: (rb2 ++ [])))) w54 := st.unmid
    refine sp_RdP_Left stz odz ⟨fun _ => ?_, fun h => by simp [deadS] at h⟩
    exact sp_RdP_End stz odz ⟨rfl, stz.below⟩

end Go.Proofs.Ytckmganidgbpgaa
