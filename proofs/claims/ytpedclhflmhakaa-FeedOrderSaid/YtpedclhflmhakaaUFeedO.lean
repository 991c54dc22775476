/- Chapter 16: the law FeedOrder. -/
import Derived.Test.YtpedclhflmhakaaULogI
import Derived.Test.YtpedclhflmhakaaUFeedH
import Derived.Test.YtpedclhflmhakaaUFeedYS
import Derived.Test.YtpedclhflmhakaaUFeedT
import Derived.Test.YtpedclhflmhakaaGFeedOrder
namespace Go.Proofs.Ytpedclhflmhakaa
open Go
set_option linter.unusedVariables false
set_option linter.unusedSimpArgs false

section
variable {w0 : Base} {w : World} {fr : List Chunk}
theorem sp_in {l_ : Slc} {bs : List Int} {n : Int} {R : Bool → World → Prop} (hb : SrcAt w l_ 1 (bs.map iV)) (hl : l_.len ≤ 17592186043904) (k : R (decide (n ∈ bs)) w) : C_towpathlaw16_in l_ n w R := by
  apply S_towpathlaw16_in
  have hln := hb.len_eq
  refine ⟨fun i w' => ∃ p : Nat, i = (p : Int) ∧ p ≤ l_.len ∧ (∀ x ∈ bs.take p, x ≠ n) ∧ w' = w, fun i _ => l_.len - i.toNat, ⟨0, rfl, by omega, fun x hx => (by simp at hx), rfl⟩, ?_⟩
  rintro i w1 ⟨p, rfl, hp, hg, rfl⟩
  unfold F_towpathlaw16_in_L0
  refine ⟨fun hi => ?_, fun hi => ?_⟩
  · have hi := of_decide_eq_true hi
    obtain ⟨a, x, hx, hc⟩ := SrcAt.get hb (i := (p : Int)) (by omega) hi
    rw [Int.toNat_natCast] at hx
    have wp : IntKind.i64.wrap ((p : Int) + 1) = ((p + 1 : Nat) : Int) := by rw [i64_in _ (by omega) (by omega)]; omega
    refine ⟨a, by omega, hi, x, hc, fun h => ?_, fun h => ?_⟩
    · have h : x = n := by simpa using h
      rw [decide_eq_true (h ▸ List.mem_of_getElem? hx)] at k; exact k
    · have h : x ≠ n := by simpa using h
      rw [wp]
      refine ⟨⟨p + 1, rfl, by omega, fun y hy => ?_, rfl⟩, by show _ - _ < _ - _; omega⟩
      rw [List.take_add_one, hx] at hy
      rcases List.mem_append.1 hy with hy | hy
      · exact hg y hy
      · have : y = x := by simpa using hy
        subst this; exact h
  · have hi := of_decide_eq_false hi
    rw [List.take_of_length_le (by omega)] at hg
    rw [decide_eq_false (fun h => hg _ h rfl)] at k; exact k

/-- What stands at each round. -/
structure OrdI (ts : List Tx) (bs : List Int) (M W : Nat) (m : FdM) (mark next reads : Int) : Prop where
  e : m.ts = ts ∧ m.m0 = M ∧ m.fed = ts.length ∧ m.win = W ∧ m.bey = bs ∧ m.closed = false
  mk0 : 0 ≤ mark ∧ mark ≤ ((ts.length : Nat) : Int)
  nx : next = if m.held.isSome then ((m.at_ : Nat) : Int) else ((m.at_ + 1 : Nat) : Int)
  rd : reads = ((m.at_ - M : Nat) : Int)

theorem ord_step {l_ : Slc} {ts : List Tx} {sls : List Slc} {bsl : Slc} {bs : List Int} {M W : Nat} {m : FdM} {mark next reads v i : Int} {b : Nat} {s f : Option Addr} {cs : List Chunk} {R : Bool → World → Prop} {again_ : Int → Int → Int → Int → World → Prop}
    (ha : LAt w0.w l_ ts sls) (hb : SrcAt w0.w bsl 1 (bs.map iV)) (hbl : bsl.len ≤ 17592186043904) (kb : Blk w0.w b [iV (M : Int), slV bsl, iV (W : Int)]) (hv : 0 ≤ v ∧ v ≤ 255)
    (o : FdO w0 s (some m) f cs) (st : St w0 (cs ++ fr) w) (hI : OrdI ts bs M W m mark next reads)
    (k : ∀ m' mark' next' reads' cs' w', FdO w0 s (some m') f cs' → St w0 (cs' ++ fr) w' → OrdI ts bs M W m' mark' next' reads' → again_ mark' next' reads' (IntKind.i64.wrap (i + 1)) w') :
    C_feed_Feed_Can f (if ((l_.len : Nat) : Int) < (IntKind.i64.wrap (mark + (IntKind.i64.wrap (Int.tmod v 4)))) then ((l_.len : Nat) : Int) else (IntKind.i64.wrap (mark + (IntKind.i64.wrap (Int.tmod v 4))))) w (fun (v68 : Int) w7 => ((v68 == 1) = true → (C_feed_Feed_Read f w7 (fun (n_ : Int) (e : Int) w8 => (((e != 0) || (n_ != next)) = true → (R false w8)) ∧
  (((e != 0) || (n_ != next)) = false → (F_towpathlaw16_FeedOrder_k1 i again_ (if ((l_.len : Nat) : Int) < (IntKind.i64.wrap (mark + (IntKind.i64.wrap (Int.tmod v 4)))) then ((l_.len : Nat) : Int) else (IntKind.i64.wrap (mark + (IntKind.i64.wrap (Int.tmod v 4))))) next (IntKind.i64.wrap (reads + 1)) w8))))) ∧
  ((v68 == 1) = false → (((v68 == 2) = true → (C_feed_Feed_Skip f w7 (fun (n_1 : Int) (e1 : Int) w9 => (((e1 != 0) || (n_1 != next)) = true → (F_towpathlaw16_FeedOrder_k2 l_ R mark next reads i again_ v true w9)) ∧
  (((e1 != 0) || (n_1 != next)) = false → (∃ (v101 : Slc), w9.cell? ⟨b, 1, none⟩ = some (Value.slice v101.ptr v101.len v101.cap) ∧ (C_towpathlaw16_in v101 n_1 w9 (fun (v103 : Bool) w11 => F_towpathlaw16_FeedOrder_k2 l_ R mark next reads i again_ v (!v103) w11))))))) ∧
  ((v68 == 2) = false → (((v68 == 3) = true → (C_feed_Feed_Dispatch f (if ((l_.len : Nat) : Int) < (IntKind.i64.wrap (mark + (IntKind.i64.wrap (Int.tmod v 4)))) then ((l_.len : Nat) : Int) else (IntKind.i64.wrap (mark + (IntKind.i64.wrap (Int.tmod v 4))))) w7 (fun (v113 : T_api_Txn) (e2 : Int) w12 => ∀ b_1 w13, b_1 = w12.heap.size → w13 = w12.alloc (Obj.cells ([Value.int .i64 0, Value.slice none 0 0]).toArray ty_api_Txn (0, 0)) → (Writable w13 b_1 0 2 ∧ (∀ w14, w14 = World.puts b_1 0 [Value.int .i64 v113.Number, Value.slice v113.Writes.ptr v113.Writes.len v113.Writes.cap] w13 → (∀ w16, (∃ k, w16 = w14.drewN k) → (((e2 != 0) = true → (F_towpathlaw16_FeedOrder_k3 l_ R mark next reads i again_ v true w16)) ∧
  ((e2 != 0) = false → (∃ (v120 : Int), w16.cell? ⟨b_1, 0, none⟩ = some (Value.int .i64 v120) ∧ (((v120 != next) = true → (F_towpathlaw16_FeedOrder_k3 l_ R mark next reads i again_ v true w16)) ∧
  ((v120 != next) = false → (∃ (v126 : Slc), w16.cell? ⟨b, 1, none⟩ = some (Value.slice v126.ptr v126.len v126.cap) ∧ (C_towpathlaw16_in v126 next w16 (fun (v128 : Bool) w17 => ((v128 = true → (F_towpathlaw16_FeedOrder_k3 l_ R mark next reads i again_ v true w17)) ∧
  (v128 = false → (∃ (v135 : Int), w17.cell? ⟨b, 2, none⟩ = some (Value.int .i64 v135) ∧ (((decide ((IntKind.i64.wrap (next - (if ((l_.len : Nat) : Int) < (IntKind.i64.wrap (mark + (IntKind.i64.wrap (Int.tmod v 4)))) then ((l_.len : Nat) : Int) else (IntKind.i64.wrap (mark + (IntKind.i64.wrap (Int.tmod v 4))))))) > v135)) = true → (F_towpathlaw16_FeedOrder_k3 l_ R mark next reads i again_ v true w17)) ∧
  ((decide ((IntKind.i64.wrap (next - (if ((l_.len : Nat) : Int) < (IntKind.i64.wrap (mark + (IntKind.i64.wrap (Int.tmod v 4)))) then ((l_.len : Nat) : Int) else (IntKind.i64.wrap (mark + (IntKind.i64.wrap (Int.tmod v 4))))))) > v135)) = false → (∃ (v139 : T_api_Txn), CellsAt w17 b_1 0 [Value.int .i64 v139.Number, Value.slice v139.Writes.ptr v139.Writes.len v139.Writes.cap] ∧ (IsAt l_.ptr ∧ (0 ≤ IntKind.i64.wrap (next - 1) ∧ IntKind.i64.wrap (next - 1) < ((l_.len : Nat) : Int) ∧ (∃ (v144 : T_api_Txn), CellsAt w17 (pblk l_.ptr) ((poff l_.ptr) + (IntKind.i64.wrap (next - 1)).toNat * 2) [Value.int .i64 v144.Number, Value.slice v144.Writes.ptr v144.Writes.len v144.Writes.cap] ∧ (C_towpathlaw01_SameTxn v139 v144 w17 (fun (v145 : Bool) w18 => (F_towpathlaw16_FeedOrder_k3 l_ R mark next reads i again_ v (!v145) w18)))))))))))))))))))))))))) ∧
  ((v68 == 3) = false → (F_towpathlaw16_FeedOrder_k1 i again_ (if ((l_.len : Nat) : Int) < (IntKind.i64.wrap (mark + (IntKind.i64.wrap (Int.tmod v 4)))) then ((l_.len : Nat) : Int) else (IntKind.i64.wrap (mark + (IntKind.i64.wrap (Int.tmod v 4))))) next reads w7))))))) := by
  unfold F_towpathlaw16_FeedOrder_k1 F_towpathlaw16_FeedOrder_k2 F_towpathlaw16_FeedOrder_k3 F_towpathlaw16_FeedOrder_k1
  have ok : m.Ok := by obtain ⟨_, _, _, _, _, _, _, _, ok, _⟩ := o; exact ok
  have hlen := ok.len
  have haf := ok.af
  have hma := ok.ma
  have hch := ok.chk
  obtain ⟨⟨ets, em0, efed, ewin, ebey, ecl⟩, hmk, hnx, hrd⟩ := hI
  rw [ets] at hlen hch
  have hsl := ha.slen
  have ht0 := Int.tmod_nonneg 4 hv.1
  have ht1 := Int.tmod_lt_of_pos v (show (0 : Int) < 4 by decide)
  have wt : IntKind.i64.wrap (Int.tmod v 4) = Int.tmod v 4 := i64_in _ (by omega) (by omega)
  have wm : IntKind.i64.wrap (mark + Int.tmod v 4) = mark + Int.tmod v 4 := i64_in _ (by omega) (by omega)
  rw [wt, wm]
  obtain ⟨mk, hmk'⟩ : ∃ z, z = (if ((l_.len : Nat) : Int) < mark + Int.tmod v 4 then ((l_.len : Nat) : Int) else mark + Int.tmod v 4) := ⟨_, rfl⟩
  rw [← hmk']
  have hmk2 : 0 ≤ mk ∧ mk ≤ ((ts.length : Nat) : Int) := by
    rw [hmk']
    split <;> omega
  clear hmk' wt wm ht0 ht1
  refine sp_fd_Can o st fun w1 st => ?_
  cases ht : m.held with
  | none =>
    have hn : next = ((m.at_ + 1 : Nat) : Int) := by rw [hnx, ht]; rfl
    by_cases hlt : m.at_ < m.fed
    · have eC : canM (some m) mk = 1 := by unfold canM; simp only [ht]; rw [if_neg (by rw [ecl]; decide), if_pos hlt]
      rw [eC]
      refine ⟨fun _ => ?_, fun h => absurd h (by decide)⟩
      obtain ⟨t, hts⟩ : ∃ t, m.ts[m.at_]? = some t := ⟨_, List.getElem?_eq_getElem (by rw [ets]; omega)⟩
      have eR : readM (some m) = (((m.at_ + 1 : Nat) : Int), 0, some { m with at_ := m.at_ + 1, held := some t }) := by unfold readM; simp only [ht]; rw [if_neg (by rw [ecl]; decide), if_pos hlt, hts]
      refine sp_fd_Read o st fun cs w2 o st => ?_
      rw [eR] at o ⊢
      refine ⟨fun h => by simp [hn] at h, fun _ => ?_⟩
      have wr : IntKind.i64.wrap (reads + 1) = ((m.at_ + 1 - M : Nat) : Int) := by rw [hrd, i64_in _ (by omega) (by omega)]; omega
      rw [wr]
      exact k _ mk next _ cs w2 o st ⟨⟨ets, em0, efed, ewin, ebey, ecl⟩, hmk2, hn, rfl⟩
    · have eC : canM (some m) mk = 0 := by unfold canM; simp only [ht]; rw [if_neg (by rw [ecl]; decide), if_neg hlt]
      rw [eC]
      refine ⟨fun h => absurd h (by decide), fun _ => ⟨fun h => absurd h (by decide), fun _ => ⟨fun h => absurd h (by decide), fun _ => ?_⟩⟩⟩
      exact k m mk next reads cs w1 o st ⟨⟨ets, em0, efed, ewin, ebey, ecl⟩, hmk2, hnx, hrd⟩
  | some t =>
    obtain ⟨hnum, hge⟩ := ok.num ht
    have hn : next = ((m.at_ : Nat) : Int) := by rw [hnx, ht]; rfl
    have htn : t.1 = next := by rw [hnum, hn]
    have wn : IntKind.i64.wrap (next + 1) = ((m.at_ + 1 : Nat) : Int) := by rw [hn, i64_in _ (by omega) (by omega)]; omega
    have hbw : ∀ {l : List Chunk} {w' : World}, St w0 l w' → SrcAt w' bsl 1 (bs.map iV) ∧ w'.cell? ⟨b, 1, none⟩ = some (slV bsl) ∧ w'.cell? ⟨b, 2, none⟩ = some (iV (W : Int)) := fun st => ⟨st.ext.src hb, st.ext.cell (kb.cell rfl), st.ext.cell (kb.cell rfl)⟩
    by_cases hin : t.1 ∈ m.bey
    · have eC : canM (some m) mk = 2 := by unfold canM; simp only [ht]; rw [if_pos hin]
      have eS : skipM (some m) = (t.1, 0, some { m with held := none }) := by unfold skipM; simp only [ht]; rw [if_pos hin]
      rw [eC]
      refine ⟨fun h => absurd h (by decide), fun _ => ⟨fun _ => sp_fd_Skip o st fun cs w2 o st => ?_, fun h => absurd h (by decide)⟩⟩
      rw [eS] at o ⊢
      obtain ⟨g1, g2, g3⟩ := hbw st
      refine ⟨fun h => by simp [htn] at h, fun _ => ⟨bsl, g2, sp_in g1 hbl ?_⟩⟩
      rw [decide_eq_true (by rw [← ebey]; exact hin), wn]
      refine ⟨fun h => absurd h (by decide), fun _ => ?_⟩
      exact k _ mk _ reads cs w2 o st ⟨⟨ets, em0, efed, ewin, ebey, ecl⟩, hmk2, rfl, hrd⟩
    · by_cases hnr : nearP m t mk
      · have eC : canM (some m) mk = 3 := by unfold canM; simp only [ht]; rw [if_neg hin, if_pos hnr]
        have eD : dispM (some m) mk = (t, 0, some { m with held := none }) := by unfold dispM; simp only [ht]; rw [if_neg (fun h => h.elim hin fun h => h hnr)]
        rw [eC]
        refine ⟨fun h => absurd h (by decide), fun _ => ⟨fun h => absurd h (by decide), fun _ => ⟨fun _ => sp_fd_Dispatch o st fun s2 rb cs w2 rs hsl2 o st b1 w3 hb1 hw3 => ?_, fun h => absurd h (by decide)⟩⟩⟩
        rw [eD] at o rs hsl2 ⊢
        have st3 := st.alloc (cs := txW 0 ⟨none, 0, 0⟩) hb1 hw3
        refine ⟨st3.writable 0 rfl (by decide), fun w4 hw4 w5 hw5 => ⟨fun h => by simp at h, fun _ => ?_⟩⟩
        have st5 : St w0 ((b1, txW t.1 s2) :: (rb ++ (cs ++ fr))) w5 := (st3.put0 hw4).drew hw5
        obtain ⟨g1, g2, g3⟩ := hbw st5
        refine ⟨t.1, st5.cell 0 rfl rfl, fun h => by simp [htn] at h, fun _ => ⟨bsl, g2, sp_in g1 hbl ?_⟩⟩
        rw [decide_eq_false (by rw [← ebey, ← htn]; exact hin), wn]
        have hnr : t.1 - (m.win : Int) ≤ mk := hnr
        have wx : IntKind.i64.wrap (next - mk) = next - mk := i64_in _ (by omega) (by omega)
        refine ⟨fun h => (by cases h), fun _ => ⟨(W : Int), g3, fun h => ?_, fun _ => ?_⟩⟩
        · have h := of_decide_eq_true h
          omega
        obtain ⟨hh1, hh2⟩ := ok.held t ht
        obtain ⟨a, t2, s3, ht2, hs3, hct, hsr, hcp1, hcp2⟩ := (ha.ext st5.ext).get (p := m.at_ - 1) (by omega)
        rw [ets] at hh2
        rw [ht2] at hh2
        obtain rfl := Option.some.inj hh2
        have wl : IntKind.i64.wrap (next - 1) = ((m.at_ - 1 : Nat) : Int) := by rw [hn, i64_in _ (by omega) (by omega)]; omega
        rw [wl]
        refine ⟨⟨t2.1, s2⟩, ⟨st5.cell 0 rfl rfl, st5.cell 0 rfl rfl, trivial⟩, a, by omega, by omega, ⟨t2.1, s3⟩, by rw [Int.toNat_natCast]; exact hct, ?_⟩
        have g4 := rs.src (l := (b1, txW t2.1 s2) :: (cs ++ fr)) (st5.perm (perm_of_sum fun f_ => by simp only [List.map_append, List.map_cons, List.map_nil, List.sum_append, List.sum_cons, List.sum_nil, List.append_nil]; omega))
        have h32 : t2.2.length ≤ 32 := (chkL_zero hch ht2).1.2.2.1
        have hs2 : s2.len = t2.2.length := hsl2
        refine sp_SameTxn g4 hsr (by omega) fun w6 e6 => ⟨fun h => absurd h (by decide), fun _ => ?_⟩
        exact k _ mk _ reads cs w6 o ((st5.keep e6).weak ((b1, txW t2.1 s2) :: rb) (perm_of_sum fun f_ => by simp only [List.map_append, List.map_cons, List.map_nil, List.sum_append, List.sum_cons, List.sum_nil, List.append_nil]; omega)) ⟨⟨ets, em0, efed, ewin, ebey, ecl⟩, hmk2, rfl, hrd⟩
      · have eC : canM (some m) mk = 0 := by unfold canM; simp only [ht]; rw [if_neg hin, if_neg hnr]
        rw [eC]
        refine ⟨fun h => absurd h (by decide), fun _ => ⟨fun h => absurd h (by decide), fun _ => ⟨fun h => absurd h (by decide), fun _ => ?_⟩⟩⟩
        exact k m mk next reads cs w1 o st ⟨⟨ets, em0, efed, ewin, ebey, ecl⟩, hmk2, hnx, hrd⟩
end

theorem law_FeedOrder (x0 : Slc) (x1 : T_towpathlaw16_Made) (x2 : Slc) (w : World) (h0 : OkSl w x0 2 32 (fun es => ∃ e_ : T_api_Txn, es = txW e_.Number e_.Writes ∧ (Ok_T_api_Txn w e_))) (h1 : Ok_T_towpathlaw16_Made w x1) (h2 : OkSl w x2 1 1 (fun es => ∃ e_ : Int, es = [Value.int .u8 e_] ∧ (0 ≤ e_ ∧ e_ ≤ 255))) :
    C_towpathlaw16_FeedOrder x0 x1 x2 w (fun b w' => b = true ∧ RowKit.Below w.heap.size w w') := by
  apply S_towpathlaw16_FeedOrder
  unfold F_towpathlaw16_FeedOrder
  obtain ⟨ts, sls, ha, hl⟩ := lat_in h0
  obtain ⟨us, hus, hul, huc, hun⟩ := ok_bytes h2
  obtain ⟨bs, hb, hbl, hbc, hbn, hbk⟩ := ok_list (f := fun n : Int => [iV n]) h1.2.1 (fun es ⟨e, h, h'⟩ => ⟨e, h, h'⟩) (fun _ => rfl) (by decide)
  have hb : SrcAt w x1.Beyond 1 (bs.map iV) := by rw [← flatMap_oneI]; exact hb
  have hsl := ha.slen
  intro b w1 hb1 hw1
  have e1 : Ext w w1 := Ext.new hw1
  have kb : Blk w1 b (madeV x1) := Blk.new hb1 hw1
  refine ⟨x1, kb.all, sp_made e1 ha hl hb (by omega) h1.1 hbk (fun s w2 e2 => ⟨fun h => (by cases h), fun _ => ⟨fun _ => sp_lives fun w' e => ⟨rfl, e1.trans (e2.trans e)⟩, fun h => (by cases h)⟩⟩) fun hn hc w0' f x s fcs xcs w2 hw0 o r st => ⟨fun h => (by cases h), fun _ => ⟨fun h => ?_, fun _ => ?_⟩⟩⟩
  · obtain ⟨bb, sb, hf, _⟩ := o
    rw [hf] at h; cases h
  obtain ⟨hm0, hw1', hw64, hup, hml⟩ := newF_zero hn
  have ebw : Ext w w0'.w := by rw [hw0]; exact e1
  obtain ⟨M, hM⟩ := toN hm0
  obtain ⟨W, hW⟩ := toN (show 0 ≤ x1.Window by omega)
  have hme : newM ts x1.Mark bs x1.Window = ⟨ts, M, M, M, W, bs, none, false⟩ := by unfold newM; rw [hM, hW, Int.toNat_natCast, Int.toNat_natCast]
  rw [hme] at o
  rw [hM] at hml hup
  have kb : Blk w0'.w b [iV (M : Int), slV x1.Beyond, iV (W : Int)] := by rw [hw0]; rw [← hM, ← hW]; exact kb
  have eM : moreM (some ⟨ts, M, M, M, W, bs, none, false⟩) ((x0.len : Nat) : Int) = (0, some ⟨ts, M, M, ts.length, W, bs, none, false⟩) := by
    rw [hsl]
    exact moreM_ok (m := ⟨ts, M, M, M, W, bs, none, false⟩) rfl (by show M ≤ ts.length; omega) (Nat.le_refl _)
  refine sp_fd_More o st fun cs w4 o st => ?_
  rw [eM] at o
  have okm := (show FdM.Ok _ from by obtain ⟨_, _, _, _, _, _, _, _, ok, _⟩ := o; exact ok).len
  have okm : ts.length ≤ 65536 := okm
  have wM : IntKind.i64.wrap ((M : Int) + 1) = ((M + 1 : Nat) : Int) := by rw [i64_in _ (by omega) (by omega)]; omega
  refine ⟨(M : Int), st.ext.cell (kb.cell rfl), (M : Int), st.ext.cell (kb.cell rfl), ?_⟩
  rw [wM]
  refine ⟨fun mark next reads i w' => ∃ (p : Nat) (m : FdM) (cs : List Chunk), i = (p : Int) ∧ p ≤ x2.len ∧ FdO w0' s (some m) f cs ∧ St w0' (cs ++ xcs) w' ∧ OrdI ts bs M W m mark next reads, fun _ _ _ i _ => x2.len - i.toNat, ⟨0, _, cs, rfl, by omega, o, st, ⟨rfl, rfl, rfl, rfl, rfl, rfl⟩, by omega, rfl, by show (0 : Int) = ((M - M : Nat) : Int); omega⟩, ?_⟩
  clear o st eM
  rintro mark next reads i w5 ⟨p, m, cs, rfl, hp, o, st, hI⟩
  unfold F_towpathlaw16_FeedOrder_L0
  refine ⟨fun hi => ?_, fun hi => ?_⟩
  · simp only [Bool.and_eq_true, decide_eq_true_eq] at hi
    obtain ⟨a, u, hu, hvc⟩ := SrcAt.get ((ebw.trans st.ext).src hus) (i := (p : Int)) (by omega) hi.1
    have hv : (0 : Int) ≤ (u.toNat : Int) ∧ (u.toNat : Int) ≤ 255 := by have := u.toNat_lt; omega
    have wp : IntKind.i64.wrap ((p : Int) + 1) = ((p + 1 : Nat) : Int) := by rw [i64_in _ (by omega) (by omega)]; omega
    refine ⟨a, by omega, hi.1, (u.toNat : Int), hvc, ?_⟩
    refine ord_step (R := fun b w' => b = true ∧ RowKit.Below w.heap.size w w') (ha.ext ebw) (ebw.src hb) (by omega) kb hv o st hI fun m' mark' next' reads' cs' w' o' st' hI' => ?_
    rw [wp]
    exact ⟨⟨p + 1, m', cs', rfl, by omega, o', st', hI'⟩, by show _ - _ < _ - _; omega⟩
  · have ok : m.Ok := by obtain ⟨_, _, _, _, _, _, _, _, ok, _⟩ := o; exact ok
    have h1 := ok.len
    have h2 := ok.af
    have h3 := ok.fl
    have h4 := ok.ma
    obtain ⟨⟨ets, em0, efed, ewin, ebey, ecl⟩, hmk, hnx, hrd⟩ := hI
    refine sp_askedF o st fun t rb w6 ra st ht => ?_
    refine ⟨fun i w' => ∃ p : Nat, i = (p : Int) ∧ p ≤ t.len ∧ St w0' (rb ++ (cs ++ xcs)) w', fun i _ => t.len - i.toNat, ⟨0, rfl, by omega, st⟩, ?_⟩
    rintro i w7 ⟨q, rfl, hq, st⟩
    unfold F_towpathlaw16_FeedOrder_L4
    refine ⟨fun hi => ?_, fun hi => ⟨fun _ => sp_lives fun w' e => ⟨rfl, ebw.trans (st.ext.trans e)⟩, fun h => ?_⟩⟩
    · have hi := of_decide_eq_true hi
      obtain ⟨a, y, hy, hyc⟩ := SrcAt.get (ra.src st) (i := (q : Int)) (by omega) hi
      rw [Int.toNat_natCast] at hy hyc
      have hyv : y = ((M + 1 + q : Nat) : Int) := by
        unfold askL at hy
        rw [List.getElem?_map, List.getElem?_range (by omega), em0] at hy
        exact (Option.some.inj hy).symm
      have wp : IntKind.i64.wrap ((q : Int) + 1) = ((q + 1 : Nat) : Int) := by rw [i64_in _ (by omega) (by omega)]; omega
      have wq : IntKind.i64.wrap (((M + 1 : Nat) : Int) + (q : Int)) = ((M + 1 + q : Nat) : Int) := by rw [i64_in _ (by omega) (by omega)]; omega
      refine ⟨a, by omega, hi, y, by rw [Int.toNat_natCast]; exact hyc, (M : Int), st.ext.cell (kb.cell rfl), fun w8 e8 => ?_⟩
      rw [wM, wq, hyv, wp]
      refine ⟨fun h => by simp at h, fun _ => ⟨⟨q + 1, rfl, by omega, st.keep e8⟩, by show _ - _ < _ - _; omega⟩⟩
    · have h : ¬ ((t.len : Nat) : Int) = reads := by simpa using h
      rw [hrd, ht, em0] at h
      exact absurd rfl h
end Go.Proofs.Ytpedclhflmhakaa
