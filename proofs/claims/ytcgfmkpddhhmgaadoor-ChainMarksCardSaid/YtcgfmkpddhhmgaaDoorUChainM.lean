/- Chapter 08: the law ChainMarks. -/
import Derived.Test.YtcgfmkpddhhmgaaDoorURefChain
import Derived.Test.YtcgfmkpddhhmgaaDoorUTwinV
import Derived.Test.YtcgfmkpddhhmgaaDoorUBookV
import Derived.Test.YtcgfmkpddhhmgaaDoorUChainQ
import Derived.Test.YtcgfmkpddhhmgaaDoorGChainMarks
namespace Go.Proofs.YtcgfmkpddhhmgaaDoor
open Go
set_option linter.unusedVariables false

theorem book_two {w0 w : World} {b : Nat} {t x : Slc} {ts xs : List Value} {rb xb l : List Chunk} {R : Bool → World → Prop} (rt : RowC 3 t ts rb) (rx : RowC 3 x xs xb) (ht : t.len ≤ 1099511627776) (hx : x.len ≤ 1099511627776) (st : St w0 ((b, bookC 0 ⟨none, 0, 0⟩) :: (rb ++ (xb ++ l))) w) (k : ∀ w', St w0 l w' → R true w') :
    C_towpathlaw01_Book_Versions (some ⟨b, 0, none⟩) t w (fun w16 => C_towpathlaw01_Book_Versions (some ⟨b, 0, none⟩) x w16 (fun w17 => C_towpathlaw01_Book_Apart (some ⟨b, 0, none⟩) w17 (fun (v95 : Bool) w18 => R v95 w18))) := by
  refine sp_KINDs_Version (cs := []) (n := 0) kind_new rt st rfl rfl ⟨by omega, by omega⟩ (by simp) ht fun t1 its1 cs1 w1 o1 hl1 st => ?_
  have hl1 : its1.length = 1 := hl1
  refine sp_KINDs_Version (n := 0 + 1) o1 rx st rfl rfl ⟨by omega, by omega⟩ (by omega) hx fun t2 its2 cs2 w2 o2 hl2 st => ?_
  have st : St w0 ((b, bookC (0 + 1 + 1) t2) :: (cs2 ++ l)) w2 := st
  exact sp_Apart o2 (by omega) st fun cs3 w3 st => k w3 st.drop1.drop

theorem marks_rest {w0 w : World} {x0 t : Slc} {least : Int} {vs : List Ver} {rb : List Chunk} {b1 b2 : Nat} {v : Ver} {ok : Bool} {e : Int} (src : ∀ {l' : List Chunk} {w' : World}, St w0 l' w' → SrcAt w' x0 3 (vs.flatMap verC)) (hl : x0.len ≤ 1048576) (hlc : x0.len ≤ x0.cap) (tw : TwV t vs rb) (htl : t.len = x0.len)
    (st : St w0 ([(b2, verC v)] ++ ([(b1, verC v)] ++ (rb ++ []))) w) : C_chain_Collect t least w (fun (x : Slc) (n_ : Int) (g : Int) w11 => C_towpathref08_Collect x0 least w11 (fun (left : Slc) (gone : Int) (h_ : Int) w12 => ∃ (v55 : T_api_Version), CellsAt w12 b1 0 [Value.int .i64 v55.Number, Value.string v55.Val, Value.bool v55.Drop] ∧ (∃ (v56 : T_api_Version), CellsAt w12 b2 0 [Value.int .i64 v56.Number, Value.string v56.Val, Value.bool v56.Drop] ∧ (((((((!(((v55.Number == v56.Number) && (v55.Val == v56.Val)) && (v55.Drop == v56.Drop))) || (!(ok == ok))) || (e != e)) || (n_ != gone)) || (g != h_)) = true → (F_towpathlaw08_ChainMarks_k0 (fun b w' => b = true ∧ RowKit.Below w0.heap.size w0 w') t x true w12)) ∧
  ((((((!(((v55.Number == v56.Number) && (v55.Val == v56.Val)) && (v55.Drop == v56.Drop))) || (!(ok == ok))) || (e != e)) || (n_ != gone)) || (g != h_)) = false → (C_towpathlaw01_SameVersions x left w12 (fun (v81 : Bool) w19 => ((!v81) = true → (F_towpathlaw08_ChainMarks_k0 (fun b w' => b = true ∧ RowKit.Below w0.heap.size w0 w') t x true w19)) ∧
  ((!v81) = false → (C_towpathlaw01_LeftVersions t x0 w19 (fun (v87 : Bool) w20 => F_towpathlaw08_ChainMarks_k0 (fun b w' => b = true ∧ RowKit.Below w0.heap.size w0 w') t x (!v87) w20)))))))))) := by
  have tsrc : ∀ {l' : List Chunk} {w' : World}, St w0 (l' ++ ([(b2, verC v)] ++ ([(b1, verC v)] ++ (rb ++ [])))) w' → SrcAt w' t 3 (vs.flatMap verC) := fun st => tw.src st.drop.drop.drop
  have hvl := ver_len (src st)
  have fin : ∀ (x left : Slc) (xs : List Ver) (xb : List Chunk) (n g : Int) (w12 : World), RowC 3 x (xs.flatMap verC) xb → x.len ≤ 1048576 → (∀ {w' : World}, St w0 (xb ++ ([(b2, verC v)] ++ ([(b1, verC v)] ++ (rb ++ [])))) w' → SrcAt w' left 3 (xs.flatMap verC)) → St w0 (xb ++ ([(b2, verC v)] ++ ([(b1, verC v)] ++ (rb ++ [])))) w12 →
      ∃ (v55 : T_api_Version), CellsAt w12 b1 0 [Value.int .i64 v55.Number, Value.string v55.Val, Value.bool v55.Drop] ∧ (∃ (v56 : T_api_Version), CellsAt w12 b2 0 [Value.int .i64 v56.Number, Value.string v56.Val, Value.bool v56.Drop] ∧ (((((((!(((v55.Number == v56.Number) && (v55.Val == v56.Val)) && (v55.Drop == v56.Drop))) || (!(ok == ok))) || (e != e)) || (n != n)) || (g != g)) = true → (F_towpathlaw08_ChainMarks_k0 (fun b w' => b = true ∧ RowKit.Below w0.heap.size w0 w') t x true w12)) ∧
  ((((((!(((v55.Number == v56.Number) && (v55.Val == v56.Val)) && (v55.Drop == v56.Drop))) || (!(ok == ok))) || (e != e)) || (n != n)) || (g != g)) = false → (C_towpathlaw01_SameVersions x left w12 (fun (v81 : Bool) w19 => ((!v81) = true → (F_towpathlaw08_ChainMarks_k0 (fun b w' => b = true ∧ RowKit.Below w0.heap.size w0 w') t x true w19)) ∧
  ((!v81) = false → (C_towpathlaw01_LeftVersions t x0 w19 (fun (v87 : Bool) w20 => F_towpathlaw08_ChainMarks_k0 (fun b w' => b = true ∧ RowKit.Below w0.heap.size w0 w') t x (!v87) w20)))))))) := by
    intro x left xs xb n g w12 rx hxl lsrc st
    refine ⟨v, (st.drop.drop.get 0 rfl).all, v, (st.drop.get 0 rfl).all, fun h => ?_, fun _ => ?_⟩
    · rw [ver_eq] at h; simp at h
    refine sp_SameVersions (rx.src st) (lsrc st) (by omega) fun w13 e13 => ?_
    rw [decide_eq_true rfl]
    have st := st.keep e13
    refine ⟨fun h => (by cases h), fun _ => ?_⟩
    have st : St w0 (rb ++ (xb ++ [])) w13 := by
      have h := St.skip2 (St.skip2 (b := [(b2, verC v)]) st)
      exact h.swap
    refine sp_LeftV (fr := xb ++ []) tw st (by omega) (fun {l' w'} st => src st) fun w14 st => ?_
    unfold F_towpathlaw08_ChainMarks_k0
    refine ⟨fun h => (by cases h), fun _ b3 w15 hb3 hw15 => ?_⟩
    have st := st.alloc hb3 hw15
    refine ⟨st.writable 0 rfl (by simp), fun w16 hw16 => ?_⟩
    have st : St w0 ((b3, bookC 0 ⟨none, 0, 0⟩) :: (rb ++ (xb ++ []))) w16 := st.put0 hw16
    exact book_two tw.row rx (by omega) (by omega) st fun w17 st => ⟨rfl, st.below⟩
  refine sp_chain_Collect st tsrc (by omega) (fun hc w11 st => ?_) fun hc x xb w11 rx st hxl => ?_
  · refine sp_ref_Collect st (fun {l' w'} st => src st) (by omega) hlc (fun _ w12 st => ?_) fun h => by rw [hc] at h; cases h
    exact fin ⟨none, 0, 0⟩ ⟨none, 0, 0⟩ [] [] 0 1 w12 RowC.nil (by show 0 ≤ _; omega) (fun _ => ⟨rfl, .inl rfl⟩) st
  · refine sp_ref_Collect st (fun {l' w'} st => src st) (by omega) hlc (fun h => by rw [hc] at h; cases h) fun _ left w12 lsrc st => ?_
    have hxs := rx.len
    refine fin x left _ xb _ 0 w12 rx (by omega) (fun {w'} st' => lsrc (l' := []) st') st

theorem law_ChainMarks (x0 : Slc) (x1 x2 : Int) (w : World) (h0 : OkSl w x0 3 32 (fun es => ∃ e_ : T_api_Version, es = verC e_ ∧ (Ok_T_api_Version w e_))) (h1 : (-9223372036854775808) ≤ x1 ∧ x1 ≤ 9223372036854775807) (h2 : (-9223372036854775808) ≤ x2 ∧ x2 ≤ 9223372036854775807) :
    C_towpathlaw08_ChainMarks x0 x1 x2 w (fun b w' => b = true ∧ RowKit.Below w.heap.size w w') := by
  apply S_towpathlaw08_ChainMarks
  unfold F_towpathlaw08_ChainMarks
  obtain ⟨vs, hs, hcl, hcap, hlen, hok⟩ := ok_vers h0
  have src : ∀ {l' : List Chunk} {w' : World}, St w l' w' → SrcAt w' x0 3 (vs.flatMap verC) := fun st => st.ext.src hs
  have st := St.start w
  refine sp_VersionsSize (src st) (by omega) (fun v hv => (hok v hv).2.1) fun n hn hn2 => fun b w2 hb hw => ?_
  have st : St w [] w2 := (st.alloc hb hw).drop1
  refine beyond_any hb hw (by omega) ⟨fun _ => ⟨rfl, st.below⟩, fun hbe => ?_⟩
  have hbe := of_decide_eq_false hbe
  refine sp_TwinV st (fun {l' w'} st => src st) (by omega) fun t rb w4 tw st => ?_
  have htl := tw.len
  have tsrc : ∀ {l' : List Chunk} {w' : World}, St w (l' ++ (rb ++ [])) w' → SrcAt w' t 3 (vs.flatMap verC) := fun st => tw.src st.drop
  refine sp_chain_At st tsrc (by omega) (fun hc w5 st => ?_) fun hc w5 st => ?_
  · intro b1 w6 hb1 hw6
    have st := st.alloc hb1 hw6
    refine ⟨st.writable 0 rfl (by simp), fun w7 hw7 => ?_⟩
    have st : St w ([(b1, verC zeroV)] ++ (rb ++ [])) w7 := st.put0 hw7
    refine sp_ref_At st (fun {l' w'} st => src st) (by omega) (fun _ w8 st b2 w9 hb2 hw9 => ?_) fun h => by rw [hc] at h; cases h
    have st := st.alloc hb2 hw9
    refine ⟨st.writable 0 rfl (by simp), fun w10 hw10 => ?_⟩
    have st : St w ([(b2, verC zeroV)] ++ ([(b1, verC zeroV)] ++ (rb ++ []))) w10 := st.put0 hw10
    exact marks_rest src (by omega) hcl tw (by omega) st
  · intro b1 w6 hb1 hw6
    have st := st.alloc hb1 hw6
    refine ⟨st.writable 0 rfl (by simp), fun w7 hw7 => ?_⟩
    have st : St w ([(b1, verC ((atV x1 vs).getD zeroV))] ++ (rb ++ [])) w7 := st.put0 hw7
    refine sp_ref_At st (fun {l' w'} st => src st) (by omega) (fun h => by rw [hc] at h; cases h) fun _ w8 st b2 w9 hb2 hw9 => ?_
    have st := st.alloc hb2 hw9
    refine ⟨st.writable 0 rfl (by simp), fun w10 hw10 => ?_⟩
    have st : St w ([(b2, verC ((atV x1 vs).getD zeroV))] ++ ([(b1, verC ((atV x1 vs).getD zeroV))] ++ (rb ++ []))) w10 := st.put0 hw10
    exact marks_rest src (by omega) hcl tw (by omega) st
end Go.Proofs.YtcgfmkpddhhmgaaDoor
