/- Chapter 06: law: a source gives what is asked for. -/
import Derived.Test.YtpdegdnigcnjiaaGreatDoorM1
import Derived.Test.YtpdegdnigcnjiaaGreatDoorGLogfileSources
namespace Go.Proofs.YtpdegdnigcnjiaaGreatDoor
open Go
set_option linter.unusedVariables false
set_option linter.unusedSimpArgs false

theorem ok_intsB {w : World} {s : Slc} (h : OkSl w s 1 8 (fun es => ∃ e_ : Int, es = [Value.int .i64 e_] ∧ ((-9223372036854775808) ≤ e_ ∧ e_ ≤ 9223372036854775807))) :
    ∃ l : List Int, SrcAt w s 1 (l.map iV) ∧ s.len ≤ s.cap ∧ s.cap * 8 ≤ 140737488351232 ∧ l.length = s.len ∧ ∀ x ∈ l, -9223372036854775808 ≤ x ∧ x ≤ 9223372036854775807 := by
  obtain ⟨l, h1, h2, h3, h4, h5⟩ := ok_list (f := fun x : Int => [iV x]) (Pr := fun e_ : Int => -9223372036854775808 ≤ e_ ∧ e_ ≤ 9223372036854775807) h (fun es ⟨e, he, hb⟩ => ⟨e, he, hb⟩) (fun _ => rfl) (by decide)
  have e : ∀ l : List Int, (l.flatMap fun x : Int => [iV x]) = l.map iV := fun l => by
    induction l with
    | nil => rfl
    | cons x l ih => rw [List.flatMap_cons, ih]; rfl
  rw [e] at h1
  exact ⟨l, h1, h2, h3, h4, h5⟩
theorem atI {w : World} {s : Slc} {xs : List Int} {p : Nat} (hs : SrcAt w s 1 (xs.map iV)) (hp : p < s.len) : IsAt s.ptr ∧ ∃ x, xs[p]? = some x ∧ w.cell? ⟨pblk s.ptr, poff s.ptr + p, none⟩ = some (iV x) := by
  obtain ⟨a, c⟩ := SrcAtN.at_ hs (by omega) (by decide)
  have hl := hs.len_eq
  have hx : xs[p]? = some (xs[p]'(by omega)) := List.getElem?_eq_getElem (by omega)
  exact ⟨a, _, hx, cellsAt_iff.1 c p _ (by rw [List.getElem?_map, hx]; rfl)⟩

section
variable {w : World} {x1 : Slc} {xs : List Int} {ts : List Tx} {th : Bool} {s r : Option Addr} {b2 : Nat}
/-- What holds ahead of each ask. -/
def SoI (w : World) (x1 : Slc) (ts : List Tx) (th : Bool) (s r : Option Addr) (b2 : Nat) (i : Int) (w' : World) : Prop :=
  ∃ (p : Nat) (ask : List Int) (csS csR : List Chunk) (n : Int) (tI tW : Slc) (itsI itsW : List Item) (csI csW d : List Chunk), i = (p : Int) ∧ p ≤ x1.len ∧ ask.length ≤ p ∧ SrcP th s ts ask csS ∧ RsP th r ts ask csR ∧ KindO tI itsI Kept_Int csI ∧ KindO tW itsW Kept_Write csW ∧
    itsI.length ≤ p ∧ itsW.length ≤ p ∧ 0 ≤ n ∧ n ≤ 2 * p ∧ St ⟨w, []⟩ ((b2, bookC n tI tW ⟨none, 0, 0⟩) :: (csI ++ (csW ++ (csS ++ (csR ++ d))))) w'
end

theorem law_LogfileSources (x0 x1 : Slc) (w : World) (h0 : OkSl w x0 2 32 (fun es => ∃ e_ : T_api_Txn, es = txW e_.Number e_.Writes ∧ (Ok_T_api_Txn w e_)))
    (h1 : OkSl w x1 1 8 (fun es => ∃ e_ : Int, es = [Value.int .i64 e_] ∧ ((-9223372036854775808) ≤ e_ ∧ e_ ≤ 9223372036854775807))) (hT : Tab w) : C_towpathlaw06_LogfileSources x0 x1 w (fun b w' => b = true ∧ RowKit.Below w.heap.size w w') := by
  obtain ⟨ts, sls, ha, hl, hcp0, hsm⟩ := lat_inS h0
  obtain ⟨xs, hxs, hxcl, hxcap, hxl, hxb⟩ := ok_intsB h1
  have hsl := ha.slen
  apply S_towpathlaw06_LogfileSources
  unfold F_towpathlaw06_LogfileSources
  have st := St.start w
  refine sp_TxnsSizeX ha hl hsm fun v w2 e2 hv0 hv1 hv2 b w3 hb hw => ?_
  have st := (st.keep e2).alloc (cs := [iV v, iV ((x1.len : Nat) : Int)]) hb hw
  refine sp_BeyondS2 hb hw hv0 hv1 (by omega) (by omega) fun bb hbb => ⟨fun _ => ⟨rfl, st.below⟩, fun hbf => ?_⟩
  have hbf := hbb hbf
  have hsz := hv2 (by omega)
  have hts : ts.length ≤ 1048576 := by unfold szL at hsz; omega
  have hone : ∀ t ∈ ts, t.2.length ≤ 1099511627776 := fun t ht => by have := szW_one ht; omega
  have st : St ⟨w, []⟩ [] w3 := st.drop1
  refine sp_TwinTxns st ha (by omega) hone fun s0 sls1 tb wb w4 o st4 => ?_
  have hla : ∀ (l : List Chunk) (w' : World), St ⟨w, []⟩ (l ++ (tb ++ (wb ++ []))) w' → LAt w' s0 ts sls1 := fun l w' st' => by
    have st' : St ⟨w, []⟩ (tb ++ (wb ++ l)) w' := st'.perm (perm_of_sum fun f_ => by simp <;> omega)
    exact o.lat hone st'
  have hsl1 := (hla [] w4 st4).slen
  -- the loop, of sources that are there or not
  have main : ∀ (th : Bool) (s r : Option Addr) (csS csR : List Chunk) (w7 : World), s.isNone = !th → SrcP th s ts [] csS → RsP th r ts [] csR → St ⟨w, []⟩ (tb ++ (wb ++ (csS ++ csR))) w7 → F_towpathlaw06_LogfileSources_k0 x1 (fun b w' => b = true ∧ RowKit.Below w.heap.size w w') s0 s r false w7 := by
    intro th s r csS csR w7 hth oS oR st7
    unfold F_towpathlaw06_LogfileSources_k0
    refine ⟨fun h => by simp at h, fun _ b4 w12 hb4 hw12 => ?_⟩
    have st12 : St ⟨w, []⟩ ((b4, bookC 0 ⟨none, 0, 0⟩ ⟨none, 0, 0⟩ ⟨none, 0, 0⟩) :: (tb ++ (wb ++ (csS ++ csR)))) w12 := st7.alloc hb4 hw12
    refine ⟨st12.writable 0 rfl (by decide), fun w13 hw13 => ?_⟩
    have st13 : St ⟨w, []⟩ ((b4, bookC 0 ⟨none, 0, 0⟩ ⟨none, 0, 0⟩ ⟨none, 0, 0⟩) :: ([] ++ ([] ++ (tb ++ (wb ++ (csS ++ csR)))))) w13 := st12.put0 hw13
    refine sp_Book_Txns kind_new kind_new o.row o.partsR st13 (by omega) (by simp; omega) (by decide) hone fun t1 its1 cs1 t2 its2 cs2 w14 o1 hl1 o2 hl2 st14 => ?_
    have st14 : St ⟨w, []⟩ ((b4, bookC (0 + ts.length + 1) ⟨none, 0, 0⟩ t1 t2) :: ([] ++ (cs1 ++ (cs2 ++ (csS ++ csR))))) w14 := st14
    refine sp_Apart hT (kind_new (Ph := Kept_Int)) (by decide) o1 (by simp at hl1; omega) o2 (by rw [hl2]; decide) st14 fun c0 c1 c2 w15 st15 => ⟨fun h => by simp at h, fun _ b2 w16 hb2 hw16 => ?_⟩
    have st15 : St ⟨w, []⟩ (csS ++ csR) w15 := st15.weak ((b4, bookC (0 + ts.length + 1) ⟨none, 0, 0⟩ t1 t2) :: (c0 ++ (c1 ++ c2))) (perm_of_sum fun f_ => by simp <;> omega)
    have st16 : St ⟨w, []⟩ ((b2, bookC 0 ⟨none, 0, 0⟩ ⟨none, 0, 0⟩ ⟨none, 0, 0⟩) :: (csS ++ csR)) w16 := st15.alloc hb2 hw16
    refine ⟨st16.writable 0 rfl (by decide), fun w17 hw17 => ?_⟩
    have st17 : St ⟨w, []⟩ ((b2, bookC 0 ⟨none, 0, 0⟩ ⟨none, 0, 0⟩ ⟨none, 0, 0⟩) :: (csS ++ csR)) w17 := st16.put0 hw17
    have st17 : St ⟨w, []⟩ ((b2, bookC 0 ⟨none, 0, 0⟩ ⟨none, 0, 0⟩ ⟨none, 0, 0⟩) :: ([] ++ ([] ++ (csS ++ (csR ++ []))))) w17 := by simpa using st17
    refine ⟨fun i w' => SoI w x1 ts th s r b2 i w', fun i _ => x1.len - i.toNat, ⟨0, [], csS, csR, 0, _, _, [], [], [], [], [], rfl, by omega, by simp, oS, oR, kind_new, kind_new, by simp, by simp, by omega, by omega, st17⟩, ?_⟩
    clear st17 st16 st15 st14 st13 st12 st7 oS oR o1 o2
    rintro i w5 ⟨p, ask, csS, csR, n, tI, tW, itsI, itsW, csI, csW, d, rfl, hp, hal, oS, oR, oI, oW, hI, hW, hn0, hn, st⟩
    unfold F_towpathlaw06_LogfileSources_L1
    refine ⟨fun hi => ?_, fun hi => ?_⟩
    · have hi := of_decide_eq_true hi
      have wp : IntKind.i64.wrap ((p : Int) + 1) = ((p + 1 : Nat) : Int) := by rw [i64_in _ (by omega) (by omega)]; omega
      obtain ⟨a, y, hy, hc⟩ := atI (st.ext.src hxs) (p := p) (by omega)
      have hyb := hxb y (List.mem_of_getElem? hy)
      refine ⟨a, by omega, hi, y, by rw [Int.toNat_natCast]; exact hc, ?_⟩
      have st : St ⟨w, []⟩ (csS ++ ((b2, bookC n tI tW ⟨none, 0, 0⟩) :: (csI ++ (csW ++ (csR ++ d))))) w5 := st.perm (perm_of_sum fun f_ => by simp <;> omega)
      refine sp_GetP oS st (by omega) hyb fun sl rb csS' w6 r1 hsl1 oS' st6 b3 w7 hb3 hw7 => ?_
      have st7 : St ⟨w, []⟩ ((b3, txW 0 ⟨none, 0, 0⟩) :: (rb ++ (csS' ++ ((b2, bookC n tI tW ⟨none, 0, 0⟩) :: (csI ++ (csW ++ (csR ++ d))))))) w7 := st6.alloc hb3 hw7
      refine ⟨st7.writable 0 rfl (by decide), fun w8 hw8 => ?_⟩
      have st8 : St ⟨w, []⟩ ((b3, txW (gotT th ts y).1 sl) :: (rb ++ (csS' ++ ((b2, bookC n tI tW ⟨none, 0, 0⟩) :: (csI ++ (csW ++ (csR ++ d))))))) w8 := st7.put0 hw8
      obtain ⟨a2, y2, hy2, hc2⟩ := atI (st8.ext.src hxs) (p := p) (by omega)
      obtain rfl : y = y2 := by rw [hy] at hy2; exact Option.some.inj hy2
      refine ⟨a2, by omega, hi, y, by rw [Int.toNat_natCast]; exact hc2, ?_⟩
      have st8 : St ⟨w, []⟩ (csR ++ ((b3, txW (gotT th ts y).1 sl) :: (rb ++ (csS' ++ ((b2, bookC n tI tW ⟨none, 0, 0⟩) :: (csI ++ (csW ++ d))))))) w8 := st8.perm (perm_of_sum fun f_ => by simp <;> omega)
      refine sp_ref_GetP oR st8 (by omega) hyb fun sl2 rb2 csR' w9 r2 hsl2 oR' st9 b4 w10 hb4 hw10 => ?_
      have st10 : St ⟨w, []⟩ ((b4, txW 0 ⟨none, 0, 0⟩) :: (rb2 ++ (csR' ++ ((b3, txW (gotT th ts y).1 sl) :: (rb ++ (csS' ++ ((b2, bookC n tI tW ⟨none, 0, 0⟩) :: (csI ++ (csW ++ d))))))))) w10 := st9.alloc hb4 hw10
      refine ⟨st10.writable 0 rfl (by decide), fun w11 hw11 => ⟨fun h => by simp at h, fun _ => ?_⟩⟩
      have st11 : St ⟨w, []⟩ ((b4, txW (gotT th ts y).1 sl2) :: (rb2 ++ (csR' ++ ((b3, txW (gotT th ts y).1 sl) :: (rb ++ (csS' ++ ((b2, bookC n tI tW ⟨none, 0, 0⟩) :: (csI ++ (csW ++ d))))))))) w11 := st10.put0 hw11
      have st11 : St ⟨w, []⟩ ((b4, txW (gotT th ts y).1 sl2) :: (b3, txW (gotT th ts y).1 sl) :: (rb ++ (rb2 ++ (csR' ++ (csS' ++ ((b2, bookC n tI tW ⟨none, 0, 0⟩) :: (csI ++ (csW ++ d)))))))) w11 := st11.perm (perm_of_sum fun f_ => by simp <;> omega)
      have hm : (gotT th ts y).2.length ≤ 1099511627776 := by
        unfold gotT
        split
        · cases hg : ts[(y - 1).toNat]? with
          | none => simp
          | some t => exact hone t (List.mem_of_getElem? hg)
        · simp
      refine ⟨⟨(gotT th ts y).1, sl⟩, ⟨st11.cell 1 rfl rfl, st11.cell 1 rfl rfl, trivial⟩, ⟨(gotT th ts y).1, sl2⟩, ⟨st11.cell 0 rfl rfl, st11.cell 0 rfl rfl, trivial⟩, ?_⟩
      have src1 := r1.src (l := rb2 ++ (csR' ++ (csS' ++ ((b2, bookC n tI tW ⟨none, 0, 0⟩) :: (csI ++ (csW ++ d)))))) st11.drop1.drop1
      have src2 := r2.src (l := rb ++ (csR' ++ (csS' ++ ((b2, bookC n tI tW ⟨none, 0, 0⟩) :: (csI ++ (csW ++ d)))))) (st11.drop1.drop1.perm (perm_of_sum fun f_ => by simp <;> omega))
      refine sp_SameTxn (a := ⟨(gotT th ts y).1, sl⟩) (b := ⟨(gotT th ts y).1, sl2⟩) (ws := (gotT th ts y).2) (us := (gotT th ts y).2) src1 src2 (by show sl.len ≤ _; omega) fun w12 e12 => ?_
      have hd : decide ((⟨(gotT th ts y).1, sl⟩ : T_api_Txn).Number = (⟨(gotT th ts y).1, sl2⟩ : T_api_Txn).Number ∧ (gotT th ts y).2 = (gotT th ts y).2) = true := decide_eq_true ⟨rfl, rfl⟩
      rw [hd]
      refine ⟨fun h => by simp at h, fun _ => ?_⟩
      have st12 : St ⟨w, []⟩ (csS' ++ ((b4, txW (gotT th ts y).1 sl2) :: (b3, txW (gotT th ts y).1 sl) :: (rb ++ (rb2 ++ (csR' ++ ((b2, bookC n tI tW ⟨none, 0, 0⟩) :: (csI ++ (csW ++ d)))))))) w12 := (st11.keep e12).perm (perm_of_sum fun f_ => by simp <;> omega)
      refine sp_LastP oS' st12 ?_
      have st12 : St ⟨w, []⟩ (csR' ++ ((b4, txW (gotT th ts y).1 sl2) :: (b3, txW (gotT th ts y).1 sl) :: (rb ++ (rb2 ++ (csS' ++ ((b2, bookC n tI tW ⟨none, 0, 0⟩) :: (csI ++ (csW ++ d)))))))) w12 := st12.perm (perm_of_sum fun f_ => by simp <;> omega)
      refine sp_ref_LastP oR' st12 ?_
      unfold F_towpathlaw06_LogfileSources_k3
      refine ⟨fun h => by simp at h, fun _ => ⟨fun h30 => ?_, fun h30 => ?_⟩⟩
      · have h30 := of_decide_eq_true h30
        have st12 : St ⟨w, []⟩ ((b3, txW (gotT th ts y).1 sl) :: ((b2, bookC n tI tW ⟨none, 0, 0⟩) :: (csW ++ (rb ++ (csI ++ (csS' ++ (csR' ++ ((b4, txW (gotT th ts y).1 sl2) :: (rb2 ++ d))))))))) w12 := st12.perm (perm_of_sum fun f_ => by simp <;> omega)
        refine ⟨⟨(gotT th ts y).1, sl⟩, ⟨st12.cell 0 rfl rfl, st12.cell 0 rfl rfl, trivial⟩, ?_⟩
        refine sp_Book_Txn1 oW r1 st12.drop1 rfl rfl (by omega) (by omega) (by omega) fun tW' itsW' csW' w13 oW' hlW st13 => ?_
        have st13 : St ⟨w, []⟩ ((b2, bookC (n + 1) tI tW' ⟨none, 0, 0⟩) :: (csW' ++ (csI ++ (csS' ++ (csR' ++ ((b4, txW (gotT th ts y).1 sl2) :: (rb2 ++ d))))))) w13 := st13
        have st13 : St ⟨w, []⟩ (csS' ++ ((b2, bookC (n + 1) tI tW' ⟨none, 0, 0⟩) :: (csW' ++ (csI ++ (csR' ++ ((b4, txW (gotT th ts y).1 sl2) :: (rb2 ++ d))))))) w13 := st13.perm (perm_of_sum fun f_ => by simp <;> omega)
        have hga := gotA_len th ts ask y
        refine sp_AskedP oS' st13 (by omega) fun sa rba w14 ra st14 hla2 => ?_
        have hak : (askN th (gotA th ts ask y)).length ≤ (gotA th ts ask y).length := by unfold askN; split <;> simp
        have st14 : St ⟨w, []⟩ ((b2, bookC (n + 1) tI tW' ⟨none, 0, 0⟩) :: (csI ++ (rba ++ (csW' ++ (csS' ++ (csR' ++ ((b4, txW (gotT th ts y).1 sl2) :: (rb2 ++ d)))))))) w14 := st14.perm (perm_of_sum fun f_ => by simp <;> omega)
        refine sp_KINDs_Int oI ra st14 rfl rfl (by omega) (by omega) (by omega) fun tI' itsI' csI' w15 oI' hlI st15 => ?_
        have st15 : St ⟨w, []⟩ ((b2, bookC (n + 1 + 1) tI' tW' ⟨none, 0, 0⟩) :: (csI' ++ (csW' ++ (csS' ++ (csR' ++ ((b4, txW (gotT th ts y).1 sl2) :: (rb2 ++ d))))))) w15 := st15
        unfold F_towpathlaw06_LogfileSources_k2
        rw [wp]
        exact ⟨⟨p + 1, _, csS', csR', n + 1 + 1, tI', tW', itsI', itsW', csI', csW', _, rfl, by omega, by omega, oS', oR', oI', oW', by omega, by omega, by omega, by omega, st15⟩, by show _ - _ < _ - _; omega⟩
      · unfold F_towpathlaw06_LogfileSources_k2
        rw [wp]
        have hga := gotA_len th ts ask y
        exact ⟨⟨p + 1, _, csS', csR', n, tI, tW, itsI, itsW, csI, csW, (b4, txW (gotT th ts y).1 sl2) :: (b3, txW (gotT th ts y).1 sl) :: (rb ++ (rb2 ++ d)), rfl, by omega, by omega, oS', oR', oI, oW, by omega, by omega, by omega, by omega, st12.perm (perm_of_sum fun f_ => by simp <;> omega)⟩, by show _ - _ < _ - _; omega⟩
    · intro b5 w6 hb5 hw6
      have st6 : St ⟨w, []⟩ ((b5, [Value.bool false, slV ⟨none, 0, 0⟩, slV ⟨none, 0, 0⟩]) :: ((b2, bookC n tI tW ⟨none, 0, 0⟩) :: (csI ++ (csW ++ (csS ++ (csR ++ d)))))) w6 := st.alloc hb5 hw6
      refine sp_GetZ st6 fun w7 st7 b6 w8 hb6 hw8 => ?_
      have st8 := st7.alloc (cs := txW 0 ⟨none, 0, 0⟩) hb6 hw8
      refine ⟨st8.writable 0 rfl (by decide), fun w9 hw9 => ?_⟩
      have st9 : St ⟨w, []⟩ ((b6, txW 0 ⟨none, 0, 0⟩) :: (b5, [Value.bool false, slV ⟨none, 0, 0⟩, slV ⟨none, 0, 0⟩]) :: ((b2, bookC n tI tW ⟨none, 0, 0⟩) :: (csI ++ (csW ++ (csS ++ (csR ++ d)))))) w9 := st8.put0 hw9
      have st9 : St ⟨w, []⟩ ((b2, bookC n tI tW ⟨none, 0, 0⟩) :: (csI ++ (csW ++ ([] ++ ((b5, [Value.bool false, slV ⟨none, 0, 0⟩, slV ⟨none, 0, 0⟩]) :: (csS ++ (csR ++ d))))))) w9 := st9.weak [(b6, txW 0 ⟨none, 0, 0⟩)] (perm_of_sum fun f_ => by simp <;> omega)
      refine sp_Apart hT oI (by omega) oW (by omega) (kind_new (Ph := Kept_Txn)) (by decide) st9 fun c0 c1 c2 w10 st10 => ⟨fun _ => ?_, fun h => (by cases h)⟩
      have st10 : St ⟨w, []⟩ (csS ++ ((b5, [Value.bool false, slV ⟨none, 0, 0⟩, slV ⟨none, 0, 0⟩]) :: (csR ++ d))) w10 := st10.weak ((b2, bookC n tI tW ⟨none, 0, 0⟩) :: (c0 ++ (c1 ++ c2))) (perm_of_sum fun f_ => by simp <;> omega)
      refine sp_AskedP oS st10 (by omega) fun sa rba w11 ra st11 hla2 => ?_
      have hak : (askN th ask).length ≤ ask.length := by unfold askN; split <;> simp
      have st11b : St ⟨w, []⟩ (csR ++ ((b5, [Value.bool false, slV ⟨none, 0, 0⟩, slV ⟨none, 0, 0⟩]) :: (rba ++ (csS ++ d)))) w11 := st11.perm (perm_of_sum fun f_ => by simp <;> omega)
      refine sp_ref_AskedP oR st11b fun sr hsr => ?_
      refine sp_SameInts (ra.src st11) hsr (by omega) fun w12 e12 => ⟨fun _ => ?_, fun h => (by cases h)⟩
      have st12 : St ⟨w, []⟩ (csS ++ ((b5, [Value.bool false, slV ⟨none, 0, 0⟩, slV ⟨none, 0, 0⟩]) :: (rba ++ (csR ++ d)))) w12 := (st11.keep e12).perm (perm_of_sum fun f_ => by simp <;> omega)
      refine sp_LastP oS st12 ?_
      have st12 : St ⟨w, []⟩ (csR ++ ((b5, [Value.bool false, slV ⟨none, 0, 0⟩, slV ⟨none, 0, 0⟩]) :: (rba ++ (csS ++ d)))) w12 := st12.perm (perm_of_sum fun f_ => by simp <;> omega)
      refine sp_ref_LastP oR st12 ⟨fun _ => ?_, fun h => by simp at h⟩
      have st12 : St ⟨w, []⟩ ((b5, [Value.bool false, slV ⟨none, 0, 0⟩, slV ⟨none, 0, 0⟩]) :: (csR ++ (rba ++ (csS ++ d)))) w12 := st12.perm (perm_of_sum fun f_ => by simp <;> omega)
      apply S_logfile_Source_Last
      refine ⟨fun h => (by cases h), fun _ => ⟨rfl, ⟨none, 0, 0⟩, st12.cell 0 rfl rfl, fun _ => ?_, fun h => by simp at h⟩⟩
      apply S_logfile_Source_Asked
      refine ⟨fun h => (by cases h), fun _ => ⟨rfl, ⟨none, 0, 0⟩, st12.cell 0 rfl rfl, ?_⟩⟩
      apply S_slices_Clone_int_int
      exact ⟨fun _ => ⟨rfl, st12.below⟩, fun h => (by cases h)⟩
  refine sp_lf_NewP st4 hla (by omega) (fun hc w5 st5 => ?_) fun hc bS csS w5 oS st5 => ?_
  · refine sp_ref06_New st5 ha hl (fun hc' w6 st6 => ?_) (fun hc' => absurd hc' hc)
    refine ⟨fun h => by simp at h, fun _ => ⟨fun h => by simp at h, fun _ => ?_⟩⟩
    have st6 : St ⟨w, []⟩ (tb ++ (wb ++ [])) w6 := st6
    refine sp_LeftTxns (o.at_ st6) (ha.ext st6.ext) (by omega) hone fun w7 e7 => ?_
    exact main false none none [] [] w7 rfl (.inl ⟨rfl, rfl, rfl⟩) (.inl ⟨rfl, rfl, rfl⟩) (st6.keep e7)
  · refine sp_ref06_New st5 ha hl (fun hc' => absurd hc hc') (fun hc' bR csR w6 oR st6 => ?_)
    refine ⟨fun h => by simp at h, fun _ => ⟨fun h => by simp at h, fun _ => ?_⟩⟩
    have st6 : St ⟨w, []⟩ (tb ++ (wb ++ (csS ++ csR))) w6 := st6.perm (perm_of_sum fun f_ => by simp <;> omega)
    refine sp_LeftTxns (o.at_ st6) (ha.ext st6.ext) (by omega) hone fun w7 e7 => ?_
    exact main true _ _ csS csR w7 rfl (.inr ⟨rfl, bS, rfl, oS⟩) (.inr ⟨rfl, bR, rfl, oR⟩) (st6.keep e7)
end Go.Proofs.YtpdegdnigcnjiaaGreatDoor

