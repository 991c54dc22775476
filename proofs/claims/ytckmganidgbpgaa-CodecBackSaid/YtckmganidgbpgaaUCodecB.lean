/- Chapter 02: whatever a writer wrote, a reader reads back. -/
import Derived.Test.YtckmganidgbpgaaUCodecL
import Derived.Test.YtckmganidgbpgaaGCodecBack
namespace Go.Proofs.Ytckmganidgbpgaa
open Go
set_option linter.unusedVariables false

def enc (o : Op2) : List UInt8 := if o.Kind = 1 then fixB o.Width.toNat o.N.toNat else if o.Kind = 3 then varF (zz (IntKind.i64.wrap o.N)) else if o.Kind = 4 then varF o.Text.size ++ o.Text.data.toList else varF o.N.toNat
def okE (o : Op2) : Prop := o.Kind = 1 → 1 ≤ o.Width ∧ o.Width ≤ 8 ∧ o.N.toNat < 256 ^ o.Width.toNat
theorem i64_rng (n : Int) : -9223372036854775808 ≤ IntKind.i64.wrap n ∧ IntKind.i64.wrap n ≤ 9223372036854775807 := by rw [wrap_i64]; omega
theorem enc_len {o : Op2} (h : okE o) : (enc o).length ≤ 10 + o.Text.size := by
  unfold enc
  split
  · rename_i h1; have := h h1; rw [fixB_len]; omega
  · split
    · have := varB_len 10 (zz (IntKind.i64.wrap o.N)); unfold varF; omega
    · split
      · have := varB_len 10 o.Text.size
        have h2 : o.Text.data.toList.length = o.Text.size := by simp
        rw [List.length_append, h2]; unfold varF; omega
      · have := varB_len 10 o.N.toNat; unfold varF; omega
theorem cost_take (l : List Op2) (i : Nat) : cost (l.take i) ≤ cost l := by
  have : cost l = cost (l.take i) + cost (l.drop i) := by
    unfold cost
    rw [← List.sum_append, ← List.map_append, List.take_append_drop]
  omega
theorem cost_len : ∀ l : List Op2, 10 * l.length ≤ cost l
  | [] => by simp
  | x :: l => by
    have := cost_len l
    unfold cost at this ⊢
    rw [List.map_cons, List.sum_cons, List.length_cons]
    omega
theorem cost_next {l : List Op2} {i : Nat} {x : Op2} (h : l[i]? = some x) : cost (l.take (i + 1)) = cost (l.take i) + (10 + x.Text.size) := by
  unfold cost
  rw [List.take_add_one, h, List.map_append, List.sum_append]
  simp

set_option maxHeartbeats 2000000 in
theorem law_CodecBack (x0 : Slc) (w : World) (h0 : OkSl w x0 5 48 (fun es => ∃ e_ : T_towpathlaw02_Op, es = opV e_ ∧ (Ok_T_towpathlaw02_Op w e_))) :
    C_towpathlaw02_CodecBack x0 w (fun b w' => b = true ∧ RowKit.Below w.heap.size w w') := by
  apply S_towpathlaw02_CodecBack
  unfold F_towpathlaw02_CodecBack
  obtain ⟨ops, hs, hl, hlen, hok⟩ := ops_in h0 fun es ⟨e, h, h'⟩ => ⟨e, h, h'⟩
  have st := St.start w
  refine sp_towpathlaw02_alive st fun w1 st => ⟨fun h => by simp at h, fun _ => ?_⟩
  refine sp_towpathlaw02_beyond (st.ext.src hs) hl hlen hok ?_
  unfold F_towpathlaw02_CodecBack_k0
  refine ⟨fun _ => sp_towpathlaw02_alive st fun w2 st => ⟨rfl, st.below⟩, fun hby => ?_⟩
  have hcost := byS_cost ops 0 (by omega) hby
  have hcl := cost_len ops
  refine sp_NewWriter st fun wr bsW w3 oW st => ?_
  refine ⟨fun put i w' => 0 ≤ i ∧ i ≤ x0.len ∧ ∃ (pl : List Op2) (bsW bsP : List Chunk), (∀ o ∈ pl, opOk o ∧ okE o) ∧ (pl.flatMap enc).length ≤ cost (ops.take i.toNat) ∧ WrO wr (pl.flatMap enc) bsW ∧ RowC 5 put (pl.flatMap opV) bsP ∧
      put.len = pl.length ∧ pl.length ≤ i.toNat ∧ St w (bsP ++ (bsW ++ [])) w', fun _ i _ => x0.len - i.toNat, ⟨by omega, by omega, [], bsW, [], fun o ho => (by cases ho), by simp, oW, RowC.nil, rfl, by simp, st⟩, ?_⟩
  rintro put i w4 ⟨hi0, hi1, pl, bsW, bsP, hpl, hpc, oW, ro, hput, hpi, st⟩
  have hct := cost_take ops i.toNat
  unfold F_towpathlaw02_CodecBack_L1
  refine ⟨fun hi => ?_, fun hi => ?_⟩
  · have hi := of_decide_eq_true hi
    have wi : IntKind.i64.wrap (i + 1) = i + 1 := wrap_next hi0 hi (by omega)
    obtain ⟨a, x, hx, hcell⟩ := op_at (st.ext.src hs) hi0 hi
    have hxo := hok x (List.mem_of_getElem? hx)
    have hcn := cost_next hx
    refine ⟨a, hi0, hi, x, hcell, fun b w6 hb hw => ?_⟩
    have st6 := st.alloc hb hw
    refine ⟨st6.writable 0 rfl (by simp), fun w7 hw7 => ?_⟩
    have st7 : St w ((b, opV x) :: (bsP ++ (bsW ++ []))) w7 := st6.put0 hw7
    have stW : St w (bsW ++ ((b, opV x) :: (bsP ++ []))) w7 := st7.perm (((List.perm_append_comm_assoc bsP bsW []).cons _).trans List.perm_middle.symm)
    have hpc2 : (pl.flatMap enc).length ≤ 1048576 := by omega
    -- the op is put into the list
    have k3 : ∀ {bsW : List Chunk} {w8 : World}, okE x → WrO wr (pl.flatMap enc ++ enc x) bsW → St w (bsW ++ ((b, opV x) :: (bsP ++ []))) w8 →
        F_towpathlaw02_CodecBack_k3 put i (fun put' i' w' => (0 ≤ i' ∧ i' ≤ x0.len ∧ ∃ (pl : List Op2) (bsW bsP : List Chunk), (∀ o ∈ pl, opOk o ∧ okE o) ∧ (pl.flatMap enc).length ≤ cost (ops.take i'.toNat) ∧ WrO wr (pl.flatMap enc) bsW ∧ RowC 5 put' (pl.flatMap opV) bsP ∧
          put'.len = pl.length ∧ pl.length ≤ i'.toNat ∧ St w (bsP ++ (bsW ++ [])) w') ∧ x0.len - i'.toNat < x0.len - i.toNat) b w8 := by
      intro bsW w8 he oW st
      unfold F_towpathlaw02_CodecBack_k3 F_towpathlaw02_CodecBack_k2
      refine ⟨x, (st.unmid.get 0 rfl).all, fun b1 w9 hb1 hw1 => ⟨_, ⟨rfl, .inr ⟨rfl, (Blk.new hb1 hw1).all⟩⟩, ?_⟩⟩
      have st9 : St w (bsP ++ (bsW ++ [])) w9 := ((st.alloc hb1 hw1).drop1.unmid.drop1).swap
      refine ro.append st9 rfl (by simp [oneCells, oneCell]) rfl (by omega) fun s' bsP' w10 ro' st10 hl' => ?_
      rw [wi]
      refine ⟨⟨by omega, by omega, pl ++ [x], bsW, bsP', fun o ho => ?_, ?_, by simpa using oW, by simpa using ro', by simp; omega, by simp; omega, st10⟩, by omega⟩
      · rcases List.mem_append.1 ho with ho | ho
        · exact hpl o ho
        · rw [List.mem_singleton.1 ho]; exact ⟨hxo, he⟩
      · have := enc_len he
        rw [toNat_next hi0, hcn, List.flatMap_append, List.length_append]
        simp only [List.flatMap_cons, List.flatMap_nil, List.append_nil]
        omega
    obtain ⟨N, hN⟩ := toN hxo.2.1.1
    refine ⟨x.Kind, st7.cell 0 rfl rfl, fun hk => ?_, fun hk => ⟨fun hk3 => ?_, fun hk3 => ⟨fun hk4 => ?_, fun hk4 => ?_⟩⟩⟩
    · have hk : x.Kind = 1 := by simpa using hk
      refine ⟨x.N, st7.cell 0 rfl rfl, x.Width, st7.cell 0 rfl rfl, ?_⟩
      rw [hN]
      have skip : ∀ {v : Int} {w11 : World}, v ≠ 0 → St w (bsW ++ ((b, opV x) :: (bsP ++ []))) w11 → ((v != 0) = true → F_towpathlaw02_CodecBack_k2 i (fun put' i' w' => (0 ≤ i' ∧ i' ≤ x0.len ∧ ∃ (pl : List Op2) (bsW bsP : List Chunk), (∀ o ∈ pl, opOk o ∧ okE o) ∧ (pl.flatMap enc).length ≤ cost (ops.take i'.toNat) ∧ WrO wr (pl.flatMap enc) bsW ∧ RowC 5 put' (pl.flatMap opV) bsP ∧
          put'.len = pl.length ∧ pl.length ≤ i'.toNat ∧ St w (bsP ++ (bsW ++ [])) w') ∧ x0.len - i'.toNat < x0.len - i.toNat) put w11) ∧ ((v != 0) = false → F_towpathlaw02_CodecBack_k3 put i (fun put' i' w' => (0 ≤ i' ∧ i' ≤ x0.len ∧ ∃ (pl : List Op2) (bsW bsP : List Chunk), (∀ o ∈ pl, opOk o ∧ okE o) ∧ (pl.flatMap enc).length ≤ cost (ops.take i'.toNat) ∧ WrO wr (pl.flatMap enc) bsW ∧ RowC 5 put' (pl.flatMap opV) bsP ∧
          put'.len = pl.length ∧ pl.length ≤ i'.toNat ∧ St w (bsP ++ (bsW ++ [])) w') ∧ x0.len - i'.toNat < x0.len - i.toNat) b w11) := by
        intro v w11 hv st
        refine ⟨fun _ => ?_, fun hh => absurd (by simpa using hh) hv⟩
        unfold F_towpathlaw02_CodecBack_k2
        rw [wi]
        exact ⟨⟨by omega, by omega, pl, bsW, bsP, hpl, by rw [toNat_next hi0, hcn]; omega, oW, ro, hput, by omega, st.unmid.drop1.swap⟩, by omega⟩
      refine sp_Writer_Fixed stW oW (by omega) (by omega) (fun _ => skip (by decide) stW) (fun _ _ _ => skip (by decide) stW) fun h1 h8 h256 bsW w11 oW st => ⟨fun hh => by simp at hh, fun _ => ?_⟩
      have he : okE x := fun _ => ⟨h1, h8, by rw [hN]; exact h256⟩
      refine k3 he ?_ st
      have : enc x = fixB x.Width.toNat N := by unfold enc; rw [if_pos hk, hN]; rfl
      rw [this]; exact oW
    · have hk : x.Kind ≠ 1 := by simpa using hk
      have hk3 : x.Kind = 3 := by simpa using hk3
      refine ⟨x.N, st7.cell 0 rfl rfl, ?_⟩
      have hz := i64_rng x.N
      refine sp_Writer_Int stW oW hz.1 hz.2 (by omega) fun bsW w12 oW st => k3 (fun h => absurd h hk) ?_ st
      have : enc x = varF (zz (IntKind.i64.wrap x.N)) := by unfold enc; rw [if_neg hk, if_pos hk3]
      rw [this]; exact oW
    · have hk : x.Kind ≠ 1 := by simpa using hk
      have hk3 : x.Kind ≠ 3 := by simpa using hk3
      have hk4 : x.Kind = 4 := by simpa using hk4
      refine ⟨x.Text, st7.cell 0 rfl rfl, ?_⟩
      have hct2 := cost_take ops (i.toNat + 1)
      refine sp_Writer_Text stW oW (by omega) fun bsW w12 oW st => k3 (fun h => absurd h hk) ?_ st
      have : enc x = varF x.Text.size ++ x.Text.data.toList := by unfold enc; rw [if_neg hk, if_neg hk3, if_pos hk4]
      rw [this]; exact oW
    · have hk : x.Kind ≠ 1 := by simpa using hk
      have hk3 : x.Kind ≠ 3 := by simpa using hk3
      have hk4 : x.Kind ≠ 4 := by simpa using hk4
      refine ⟨x.N, st7.cell 0 rfl rfl, ?_⟩
      rw [hN]
      refine sp_Writer_Var stW oW (by omega) (by omega) fun bsW w12 oW st => k3 (fun h => absurd h hk) ?_ st
      have : enc x = varF N := by unfold enc; rw [if_neg hk, if_neg hk3, if_neg hk4, hN]; rfl
      rw [this]; exact oW
  · refine sp_Writer_Done st.swap oW (by omega) fun s rb w15 rs st hsl => ?_
    refine sp_NewReader st (rs.src st) (by omega) fun rd bsR w16 oR st => ?_
    have st : St w (bsR ++ (bsP ++ [])) w16 := by
      have a : St w (bsR ++ (bsW ++ (bsP ++ []))) w16 := (st.swap (a := bsR) (b := rb)).drop
      exact a.swap.drop
    refine ⟨fun i w' => 0 ≤ i ∧ i ≤ put.len ∧ ∃ bsR, RdO rd ⟨(pl.drop i.toNat).flatMap enc, 0⟩ bsR ∧ St w (bsR ++ (bsP ++ [])) w', fun i _ => put.len - i.toNat, ⟨by omega, by omega, bsR, oR, st⟩, ?_⟩
    rintro i1 w17 ⟨hj0, hj1, bsR, oR, st⟩
    unfold F_towpathlaw02_CodecBack_L4
    refine ⟨fun hj => ?_, fun hj => ?_⟩
    · have hj := of_decide_eq_true hj
      have wj : IntKind.i64.wrap (i1 + 1) = i1 + 1 := wrap_next hj0 hj (by omega)
      obtain ⟨a, x, hx, hcell⟩ := op_at (ro.src st.swap) hj0 hj
      obtain ⟨hxo, hxe⟩ := hpl x (List.mem_of_getElem? hx)
      have hdr : (pl.drop i1.toNat).flatMap enc = enc x ++ (pl.drop (i1.toNat + 1)).flatMap enc := by rw [drop_get hx, List.flatMap_cons]
      rw [hdr] at oR
      have htl : (enc x).length + ((pl.drop (i1.toNat + 1)).flatMap enc).length ≤ 1048576 := by
        have e0 : pl.flatMap enc = (pl.take i1.toNat).flatMap enc ++ (pl.drop i1.toNat).flatMap enc := by rw [← List.flatMap_append, List.take_append_drop]
        have := congrArg List.length e0
        rw [List.length_append, hdr, List.length_append] at this
        omega
      have htl0 : True := by
        have e : pl.flatMap enc = (pl.take (i1.toNat + 1)).flatMap enc ++ (pl.drop (i1.toNat + 1)).flatMap enc := by rw [← List.flatMap_append, List.take_append_drop]
        trivial
      generalize hT : (pl.drop (i1.toNat + 1)).flatMap enc = T at *
      have hel := enc_len hxe
      have hts := hxo.2.2.2.1
      refine ⟨a, hj0, hj, x, hcell, fun b w18 hb hw => ?_⟩
      have st18 := st.alloc hb hw
      refine ⟨st18.writable 0 rfl (by simp), fun w19 hw19 => ?_⟩
      have st19 : St w (bsR ++ ((b, opV x) :: (bsP ++ []))) w19 := (st18.put0 hw19 : St w ((b, opV x) :: (bsR ++ (bsP ++ []))) w19).mid
      have cb : ∀ {o : Nat} {v : Value} {bsR : List Chunk} {w' : World}, (opV x)[o]? = some v → St w (bsR ++ ((b, opV x) :: (bsP ++ []))) w' → w'.cell? ⟨b, o, none⟩ = some v := fun hv st => st.unmid.cell 0 rfl hv
      have k5 : ∀ {bsR : List Chunk} {w' : World} {ok : Bool}, ok = true → RdO rd ⟨T, 0⟩ bsR → St w (bsR ++ ((b, opV x) :: (bsP ++ []))) w' →
          F_towpathlaw02_CodecBack_k5 (fun b w' => b = true ∧ RowKit.Below w.heap.size w w') rd i1 (fun i1' w' => (0 ≤ i1' ∧ i1' ≤ put.len ∧ ∃ bsR, RdO rd ⟨(pl.drop i1'.toNat).flatMap enc, 0⟩ bsR ∧ St w (bsR ++ (bsP ++ [])) w') ∧ put.len - i1'.toNat < put.len - i1.toNat) ok w' := by
        intro bsR w' ok hok oR st
        subst hok
        have st' : St w (bsR ++ (bsP ++ [])) w' := st.unmid.drop1
        unfold F_towpathlaw02_CodecBack_k5 F_towpathlaw02_CodecBack_k6
        refine ⟨fun hh => by simp at hh, fun _ => sp_Reader_End st oR ⟨fun he => sp_Reader_Left st oR ⟨fun hh => ?_, fun _ => ?_⟩, fun _ => ⟨fun hh => (by cases hh), fun _ => ?_⟩⟩⟩
        · exfalso
          have hz : T = [] := by simpa using hh
          rw [hz] at he; simp [RS.end_] at he
        · rw [wj]
          exact ⟨⟨by omega, by omega, bsR, by rw [toNat_next hj0, hT]; exact oR, st'⟩, by omega⟩
        · rw [wj]
          exact ⟨⟨by omega, by omega, bsR, by rw [toNat_next hj0, hT]; exact oR, st'⟩, by omega⟩
      obtain ⟨N, hN⟩ := toN hxo.2.1.1
      refine ⟨x.Kind, cb rfl st19, fun hk => ?_, fun hk => ⟨fun hk3 => ?_, fun hk3 => ⟨fun hk4 => ?_, fun hk4 => ?_⟩⟩⟩
      · have hk : x.Kind = 1 := by simpa using hk
        intro w24 e24
        have st := st19.drew e24
        refine ⟨x.Width, cb rfl st, x.N, cb rfl st, ?_⟩
        have hx1 := hxe hk
        obtain ⟨W, hW⟩ := toN (show 0 ≤ x.Width by omega)
        have he : enc x = fixB W N := by unfold enc; rw [if_pos hk, hN, hW]; rfl
        rw [he] at oR
        refine sp_Reader_Fixed st oR fun bsR w25 oR st => ⟨cb rfl st, ?_⟩
        have hf : fixR x.Width ⟨fixB W N ++ T, 0⟩ = (⟨T, 0⟩, N) := by rw [hW]; exact fixR_put (by omega) (by omega) (by rw [hN, hW] at hx1; simpa using hx1.2.2) T
        rw [hf] at oR ⊢
        exact k5 (by rw [hN]; simp) oR st
      · have hk : x.Kind ≠ 1 := by simpa using hk
        have hk3 : x.Kind = 3 := by simpa using hk3
        intro w24 e24
        have st := st19.drew e24
        refine ⟨x.N, cb rfl st, ?_⟩
        have he : enc x = varF (zz (IntKind.i64.wrap x.N)) := by unfold enc; rw [if_neg hk, if_pos hk3]
        rw [he] at oR
        have hz := i64_rng x.N
        refine sp_Reader_Int st oR fun bsR w25 oR st => ⟨cb rfl st, ?_⟩
        rw [varR_put (zz_lt hz.1 hz.2)] at oR ⊢
        exact k5 (by simp only; rw [za_zz]; simp) oR st
      · have hk : x.Kind ≠ 1 := by simpa using hk
        have hk3 : x.Kind ≠ 3 := by simpa using hk3
        have hk4 : x.Kind = 4 := by simpa using hk4
        intro w24 e24
        have st := st19.drew e24
        refine ⟨x.Text, cb rfl st, x.Text, cb rfl st, ?_⟩
        have hsz : x.Text.data.toList.length = x.Text.size := by simp
        have he : enc x = varF x.Text.data.toList.length ++ x.Text.data.toList := by unfold enc; rw [if_neg hk, if_neg hk3, if_pos hk4, hsz]
        rw [he, List.append_assoc] at oR
        have hvl := varB_len 10 x.Text.data.toList.length
        refine sp_Reader_Text st oR (by omega) (by omega) (by rw [he] at htl; simp only [List.length_append] at htl ⊢; omega) fun bsR w25 oR st => ⟨cb rfl st, ?_⟩
        rw [textR_put (by omega) (by omega)] at oR ⊢
        exact k5 (by simp only; rw [mkS_data]; simp) oR st
      · have hk : x.Kind ≠ 1 := by simpa using hk
        have hk3 : x.Kind ≠ 3 := by simpa using hk3
        have hk4 : x.Kind ≠ 4 := by simpa using hk4
        intro w24 e24
        have st := st19.drew e24
        refine ⟨x.N, cb rfl st, ?_⟩
        have he : enc x = varF N := by unfold enc; rw [if_neg hk, if_neg hk3, if_neg hk4, hN]; rfl
        rw [he] at oR
        refine sp_Reader_Var st oR fun bsR w25 oR st => ⟨cb rfl st, ?_⟩
        rw [varR_put (by omega)] at oR ⊢
        exact k5 (by rw [hN]; simp) oR st
    · have hj := of_decide_eq_false hj
      have hz : pl.drop i1.toNat = [] := drop_end (by omega)
      rw [hz] at oR
      refine sp_Reader_End st oR ⟨fun _ => sp_Reader_Left st oR ⟨by simp, st.below⟩, fun hh => by simp [RS.end_] at hh⟩

end Go.Proofs.Ytckmganidgbpgaa
