/- Chapter 08: the law ChainPuts. -/
import Derived.Test.YtcgfmkpddhhmgaaDoorURefChainP
import Derived.Test.YtcgfmkpddhhmgaaDoorUChainR
import Derived.Test.YtcgfmkpddhhmgaaDoorUTwinV
import Derived.Test.YtcgfmkpddhhmgaaDoorUBookV
import Derived.Test.YtcgfmkpddhhmgaaDoorUChainQ
import Derived.Test.YtcgfmkpddhhmgaaDoorGChainPuts
namespace Go.Proofs.YtcgfmkpddhhmgaaDoor
open Go
set_option linter.unusedVariables false

theorem book_two {w0 w : World} {b : Nat} {t x : Slc} {ts xs : List Value} {rb xb l : List Chunk} {R : Bool → World → Prop} (rt : RowC 3 t ts rb) (rx : RowC 3 x xs xb) (ht : t.len ≤ 1099511627776) (hx : x.len ≤ 1099511627776) (st : St w0 ((b, bookC 0 ⟨none, 0, 0⟩) :: (rb ++ (xb ++ l))) w) (k : ∀ w', St w0 l w' → R true w') :
    C_towpathlaw01_Book_Versions (some ⟨b, 0, none⟩) t w (fun w16 => C_towpathlaw01_Book_Versions (some ⟨b, 0, none⟩) x w16 (fun w17 => C_towpathlaw01_Book_Apart (some ⟨b, 0, none⟩) w17 (fun (v95 : Bool) w18 => R v95 w18))) := by
  refine sp_KINDs_Version (cs := []) (n := 0) kind_new rt st rfl rfl ⟨by omega, by omega⟩ (by simp) ht fun t1 its1 cs1 w1 o1 hl1 st => ?_
  have hl1 : its1.length = 1 := hl1
  refine sp_KINDs_Version (n := 0 + 1) o1 rx st rfl rfl ⟨by omega, by omega⟩ (by omega) hx fun t2 its2 cs2 w2 o2 hl2 st => ?_
  have st : St w0 ((b, bookC (0 + 1 + 1) t2) :: (cs2 ++ l)) w2 := st
  exact sp_Apart o2 (by omega) st fun cs3 w3 st => k w3 st.drop1.drop

theorem beyond_any2 {w w1 : World} {b : Nat} {T : TypeId} {x y : Nat} {R : Bool → World → Prop} (hb : b = w.heap.size) (hw : w1 = w.alloc (Obj.cells ([Value.int .i64 ((x : Nat) : Int), Value.int .i64 ((y : Nat) : Int)]).toArray T (0, 0)))
    (hx : x ≤ 1125899906842624) (hy : y ≤ 1125899906842624) (h : R (decide ((x : Int) + y > 1048576)) w1) : C_towpathlaw01_Beyond (Slc.mk (some ⟨b, 0, none⟩) 2 2) w1 R :=
  sp_towpathlaw01_Beyond (xs := [(x : Int), (y : Int)]) (srcAt_new hb hw rfl) (by show 2 ≤ _; omega) (by
    have : beyondF 0 [(x : Int), (y : Int)] = decide ((x : Int) + y > 1048576) := by
      unfold beyondF
      rw [i64_in (0 + (x : Int)) (by omega) (by omega), Int.zero_add]
      by_cases h : (x : Int) > 1048576
      · rw [if_pos h]; exact (decide_eq_true (by omega)).symm
      · rw [if_neg h]
        unfold beyondF
        rw [i64_in _ (by omega) (by omega)]
        by_cases h' : (x : Int) + y > 1048576
        · rw [if_pos h']; exact (decide_eq_true h').symm
        · rw [if_neg h']; exact (decide_eq_false h').symm
    rw [this]; exact h)

theorem puts_rest {w0 w : World} {x0 t x want : Slc} {vs xs : List Ver} {rb xb wb : List Chunk} {ok : Bool} {e : Int} (src : ∀ {l' : List Chunk} {w' : World}, St w0 l' w' → SrcAt w' x0 3 (vs.flatMap verC)) (hl : x0.len ≤ 1048576) (tw : TwV t vs rb) (htl : t.len = x0.len) (rx : RowC 3 x (xs.flatMap verC) xb) (hx : x.len ≤ 1048577)
    (lsrc : ∀ {w' : World}, St w0 (xb ++ (wb ++ (rb ++ []))) w' → SrcAt w' want 3 (xs.flatMap verC)) (st : St w0 (xb ++ (wb ++ (rb ++ []))) w) :
    (((e != e) || (!(ok == ok))) = true → F_towpathlaw08_ChainPuts_k0 (fun b w' => b = true ∧ RowKit.Below w0.heap.size w0 w') t x true w) ∧ (((e != e) || (!(ok == ok))) = false → (C_chain_Check t w (fun (v46 : Int) w15 => C_towpathref08_Check x0 w15 (fun (v48 : Int) w16 => ((v46 != v48) = true → (F_towpathlaw08_ChainPuts_k0 (fun b w' => b = true ∧ RowKit.Below w0.heap.size w0 w') t x true w16)) ∧ ((v46 != v48) = false → (C_towpathlaw01_SameVersions x want w16 (fun (v54 : Bool) w17 => ((!v54) = true → (F_towpathlaw08_ChainPuts_k0 (fun b w' => b = true ∧ RowKit.Below w0.heap.size w0 w') t x true w17)) ∧ ((!v54) = false → (C_towpathlaw01_LeftVersions t x0 w17 (fun (v60 : Bool) w18 => F_towpathlaw08_ChainPuts_k0 (fun b w' => b = true ∧ RowKit.Below w0.heap.size w0 w') t x (!v60) w18)))))))))) := by
  refine ⟨fun h => by simp at h, fun _ => ?_⟩
  refine sp_chain_Check (tw.src st.drop.drop) (by omega) fun w2 e2 => ?_
  have st := st.keep e2
  refine sp_ref_Check (src st) (by omega) fun w3 e3 => ⟨fun h => by simp at h, fun _ => ?_⟩
  have st := st.keep e3
  refine sp_SameVersions (rx.src st) (lsrc st) (by omega) fun w4 e4 => ?_
  rw [decide_eq_true rfl]
  have st := st.keep e4
  refine ⟨fun h => (by cases h), fun _ => ?_⟩
  have st : St w0 (rb ++ (xb ++ [])) w4 := (St.skip2 st).swap
  refine sp_LeftV (fr := xb ++ []) tw st (by omega) (fun {l' w'} st => src st) fun w14 st => ?_
  unfold F_towpathlaw08_ChainPuts_k0
  refine ⟨fun h => (by cases h), fun _ b3 w15 hb3 hw15 => ?_⟩
  have st := st.alloc hb3 hw15
  refine ⟨st.writable 0 rfl (by simp), fun w16 hw16 => ?_⟩
  have st : St w0 ((b3, bookC 0 ⟨none, 0, 0⟩) :: (rb ++ (xb ++ []))) w16 := st.put0 hw16
  exact book_two tw.row rx (by omega) (by omega) st fun w17 st => ⟨rfl, st.below⟩

theorem law_ChainPuts (x0 : Slc) (x1 : T_api_Version) (w : World) (h0 : OkSl w x0 3 32 (fun es => ∃ e_ : T_api_Version, es = verC e_ ∧ (Ok_T_api_Version w e_))) (h1 : Ok_T_api_Version w x1) :
    C_towpathlaw08_ChainPuts x0 x1 w (fun b w' => b = true ∧ RowKit.Below w.heap.size w w') := by
  apply S_towpathlaw08_ChainPuts
  unfold F_towpathlaw08_ChainPuts
  obtain ⟨vs, hs, hcl, hcap, hlen, hok⟩ := ok_vers h0
  have src : ∀ {l' : List Chunk} {w' : World}, St w l' w' → SrcAt w' x0 3 (vs.flatMap verC) := fun st => st.ext.src hs
  have hvs := h1.2.1
  intro b w1 hb hw1 w2 hd
  have st : St w ([(b, verC x1)] ++ []) w1 := (St.start w).alloc hb hw1
  have st := st.keep (Qt.ext hd)
  refine ⟨x1.Val, st.cell 0 rfl rfl, sp_VersionsSize (src st) (by omega) (fun v hv => (hok v hv).2.1) fun n hn hn2 => ⟨st.cell 0 rfl rfl, fun b1 w4 hb1 hw4 => ?_⟩⟩
  have st : St w ([(b, verC x1)] ++ []) w4 := (st.alloc hb1 hw4).drop1
  refine beyond_any2 hb1 hw4 (by omega) (by omega) ⟨fun _ => ⟨rfl, st.below⟩, fun hbe => ?_⟩
  have hbe := of_decide_eq_false hbe
  refine sp_TwinV st (fun {l' w'} st => src st) (by omega) fun t rb w6 tw st => ?_
  have htl := tw.len
  have st : St w ([(b, verC x1)] ++ (rb ++ [])) w6 := st.swap
  have tsrc : ∀ {l' : List Chunk} {w' : World}, St w (l' ++ ([(b, verC x1)] ++ (rb ++ []))) w' → SrcAt w' t 3 (vs.flatMap verC) := fun st => tw.src st.drop.drop
  refine ⟨x1, (st.get 0 rfl).all, ?_⟩
  have hvl := ver_len (src st)
  refine sp_chain_Put st tsrc (by omega) (fun hc w7 st => ?_) (fun ho hm hex x xb w7 rx st hxl => ?_) fun ho hm hno x xb w7 rx st hxl => ?_
  · refine ⟨x1, (st.get 0 rfl).all, sp_ref_Put st (fun {l' w'} st => src st) (by omega) (fun _ w8 st => ?_) (fun h h' _ => by rw [h, h'] at hc; cases hc) fun h h' _ => by rw [h, h'] at hc; cases hc⟩
    exact puts_rest (xb := []) (wb := []) (xs := []) src (by omega) tw (by omega) RowC.nil (by show 0 ≤ _; omega) (fun _ => ⟨rfl, .inl rfl⟩) st.drop
  · refine ⟨x1, (st.drop.get 0 rfl).all, sp_ref_Put st (fun {l' w'} st => src st) (by omega) (fun h => by rw [ho, hm] at h; cases h) (fun _ _ _ w8 st => ?_) fun _ _ h => by obtain ⟨y, hy, he⟩ := hex; exact absurd he (h y hy)⟩
    exact puts_rest (wb := []) src (by omega) tw (by omega) rx (by omega) (fun st => src st) st.skip2
  · refine ⟨x1, (st.drop.get 0 rfl).all, sp_ref_Put st (fun {l' w'} st => src st) (by omega) (fun h => by rw [ho, hm] at h; cases h) (fun _ _ h => by obtain ⟨y, hy, he⟩ := h; exact absurd he (hno y hy)) fun _ _ _ want wb w8 rw_ st hwl => ?_⟩
    exact puts_rest (wb := wb) src (by omega) tw (by omega) rx (by omega) (fun st => rw_.src st.drop) (St.skip3 st.swap)
end Go.Proofs.YtcgfmkpddhhmgaaDoor
