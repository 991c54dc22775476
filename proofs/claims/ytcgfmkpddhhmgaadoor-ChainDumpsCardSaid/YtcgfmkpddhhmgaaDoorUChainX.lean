/- Chapter 08: the law ChainDumps. -/
import Derived.Test.YtcgfmkpddhhmgaaDoorURefChainD
import Derived.Test.YtcgfmkpddhhmgaaDoorUTwinV
import Derived.Test.YtcgfmkpddhhmgaaDoorUTwinI
import Derived.Test.YtcgfmkpddhhmgaaDoorUBookVI
import Derived.Test.YtcgfmkpddhhmgaaDoorUChainQ
import Derived.Test.YtcgfmkpddhhmgaaDoorGChainDumps
namespace Go.Proofs.YtcgfmkpddhhmgaaDoor
open Go
set_option linter.unusedVariables false

theorem flatMap_one {l : List Int} : l.flatMap (fun x => [iV x]) = l.map iV := by
  induction l with
  | nil => rfl
  | cons x r ih => rw [List.flatMap_cons, ih]; rfl
theorem ok_ints {w : World} {s : Slc} (h : OkSl w s 1 8 (fun es => ∃ e_ : Int, es = [Value.int .i64 e_] ∧ ((-9223372036854775808) ≤ e_ ∧ e_ ≤ 9223372036854775807))) :
    ∃ l : List Int, SrcAt w s 1 (l.map iV) ∧ s.len ≤ s.cap ∧ s.cap * 8 ≤ 140737488351232 ∧ l.length = s.len := by
  obtain ⟨l, h1, h2, h3, h4, _⟩ := ok_list (f := fun x : Int => [iV x]) (Pr := fun _ => True) h (fun es ⟨e, he, _⟩ => ⟨e, he, trivial⟩) (fun _ => rfl) (by decide)
  rw [flatMap_one] at h1
  exact ⟨l, h1, h2, h3, h4⟩

theorem book_three {w0 w : World} {b : Nat} {t i x : Slc} {ts is xs : List Value} {rb ib xb l : List Chunk} {R : Bool → World → Prop} (rt : RowC 3 t ts rb) (ri : RowC 1 i is ib) (rx : RowC 3 x xs xb) (ht : t.len ≤ 1099511627776) (hi : i.len ≤ 1099511627776) (hx : x.len ≤ 1099511627776) (st : St w0 ((b, bookC 0 ⟨none, 0, 0⟩ ⟨none, 0, 0⟩) :: (rb ++ (ib ++ (xb ++ l)))) w) (k : ∀ w', St w0 l w' → R true w') :
    C_towpathlaw01_Book_Versions (some ⟨b, 0, none⟩) t w (fun w11 => C_towpathlaw01_Book_Ints (some ⟨b, 0, none⟩) i w11 (fun w12 => C_towpathlaw01_Book_Versions (some ⟨b, 0, none⟩) x w12 (fun w13 => C_towpathlaw01_Book_Apart (some ⟨b, 0, none⟩) w13 (fun (v66 : Bool) w14 => R v66 w14)))) := by
  refine sp_KINDs_Version (cs := []) (n := 0) kind_new rt st rfl rfl ⟨by omega, by omega⟩ (by simp) ht fun t1 its1 cs1 w1 o1 hl1 st => ?_
  have hl1 : its1.length = 1 := hl1
  have st := St.swapB st
  refine sp_KINDs_Int (cs := []) (n := 0 + 1) kind_new ri st rfl rfl ⟨by omega, by omega⟩ (by simp) hi fun i1 iit1 is1 w2 oi hli st => ?_
  have hli : iit1.length = 1 := hli
  have st := St.swapB st
  have st := St.inner (c := _ :: cs1) st
  refine sp_KINDs_Version (n := 0 + 1 + 1) o1 rx st rfl rfl ⟨by omega, by omega⟩ (by omega) hx fun t2 its2 cs2 w3 o2 hl2 st => ?_
  have st : St w0 ((b, bookC (0 + 1 + 1 + 1) t2 i1) :: (cs2 ++ (is1 ++ l))) w3 := st
  exact sp_Apart o2 (by omega) oi (by omega) st fun cs3 is3 w4 st => k w4 st.drop1.drop.drop

theorem beyond_any2 {w w1 : World} {b : Nat} {T : TypeId} {x y : Nat} {R : Bool → World → Prop} (hb : b = w.heap.size) (hw : w1 = w.alloc (Obj.cells ([Value.int .i64 ((x : Nat) : Int), Value.int .i64 ((y : Nat) : Int)]).toArray T (0, 0)))
    (hx : x ≤ 1125899906842624) (hy : y ≤ 1125899906842624) (h : R (decide ((x : Int) + y > 1048576)) w1) : C_towpathlaw01_Beyond (Slc.mk (some ⟨b, 0, none⟩) 2 2) w1 R :=
  sp_towpathlaw01_Beyond (xs := [(x : Int), (y : Int)]) (srcAt_new hb hw rfl) (by show 2 ≤ _; omega) (by
    have : beyondF 0 [(x : Int), (y : Int)] = decide ((x : Int) + y > 1048576) := by
      unfold beyondF
      rw [i64_in (0 + (x : Int)) (by omega) (by omega), Int.zero_add]
      by_cases h : (x : Int) > 1048576
      · rw [if_pos h]; exact (decide_eq_true (by omega)).symm
      · rw [if_neg h]
        unfold beyondF
        rw [i64_in _ (by omega) (by omega)]
        by_cases h' : (x : Int) + y > 1048576
        · rw [if_pos h']; exact (decide_eq_true h').symm
        · rw [if_neg h']; exact (decide_eq_false h').symm
    rw [this]; exact h)


theorem dumps_rest {w0 w : World} {x0 bey t bt x want : Slc} {vs xs : List Ver} {ys : List Int} {rb ib xb wb : List Chunk} {e : Int} (src : ∀ {l' : List Chunk} {w' : World}, St w0 l' w' → SrcAt w' x0 3 (vs.flatMap verC)) (bsrc : ∀ {l' : List Chunk} {w' : World}, St w0 l' w' → SrcAt w' bey 1 (ys.map iV)) (hl : x0.len ≤ 1048576) (hbl : bey.len ≤ 1048576) (tw : TwV t vs rb) (ti : TwI bt ys ib) (rx : RowC 3 x (xs.flatMap verC) xb) (hx : x.len ≤ 1048577)
    (rw_ : RowC 3 want (xs.flatMap verC) wb) (st : St w0 (wb ++ (xb ++ (ib ++ (rb ++ [])))) w) :
    ((e != e) = true → F_towpathlaw08_ChainDumps_k0 (fun b w' => b = true ∧ RowKit.Below w0.heap.size w0 w') t bt x true w) ∧ ((e != e) = false → (C_towpathlaw01_SameVersions x want w (fun (v44 : Bool) w15 => ((!v44) = true → (F_towpathlaw08_ChainDumps_k0 (fun b w' => b = true ∧ RowKit.Below w0.heap.size w0 w') t bt x true w15)) ∧ ((!v44) = false → (C_towpathlaw01_LeftVersions t x0 w15 (fun (v50 : Bool) w16 => ((!v50) = true → (F_towpathlaw08_ChainDumps_k0 (fun b w' => b = true ∧ RowKit.Below w0.heap.size w0 w') t bt x true w16)) ∧ ((!v50) = false → (C_towpathlaw01_LeftInts bt bey w16 (fun (v56 : Bool) w17 => F_towpathlaw08_ChainDumps_k0 (fun b w' => b = true ∧ RowKit.Below w0.heap.size w0 w') t bt x (!v56) w17))))))))) := by
  have htl := tw.len
  have hbt := ti.len
  have hvl := ver_len (src st)
  have hyl := (bsrc st).len_eq
  refine ⟨fun h => by simp at h, fun _ => ?_⟩
  refine sp_SameVersions (rx.src st.drop) (rw_.src st) (by omega) fun w4 e4 => ?_
  rw [decide_eq_true rfl]
  have st := (st.keep e4).drop
  refine ⟨fun h => (by cases h), fun _ => ?_⟩
  have st : St w0 (rb ++ (ib ++ (xb ++ []))) w4 := by
    refine st.perm ?_
    simp only [List.append_nil]
    refine (List.perm_append_comm_assoc xb ib rb).trans ?_
    refine (List.Perm.append_left ib List.perm_append_comm).trans ?_
    exact List.perm_append_comm_assoc ib rb xb
  refine sp_LeftV (fr := ib ++ (xb ++ [])) tw st (by omega) (fun {l' w'} st => src st) fun w5 st => ⟨fun h => (by cases h), fun _ => ?_⟩
  refine sp_LeftI ti st.swap (by omega) (fun w' st => bsrc st) fun w14 st => ?_
  have st := st.swap
  unfold F_towpathlaw08_ChainDumps_k0
  refine ⟨fun h => (by cases h), fun _ b3 w15 hb3 hw15 => ?_⟩
  have st := st.alloc hb3 hw15
  refine ⟨st.writable 0 rfl (by simp), fun w16 hw16 => ?_⟩
  have st : St w0 ((b3, bookC 0 ⟨none, 0, 0⟩ ⟨none, 0, 0⟩) :: (rb ++ (ib ++ (xb ++ [])))) w16 := st.put0 hw16
  exact book_three tw.row ti.row rx (by omega) (by omega) (by omega) st fun w17 st => ⟨rfl, st.below⟩

theorem law_ChainDumps (x0 : Slc) (x1 : Int) (x2 : Slc) (w : World) (h0 : OkSl w x0 3 32 (fun es => ∃ e_ : T_api_Version, es = verC e_ ∧ (Ok_T_api_Version w e_))) (h1 : (-9223372036854775808) ≤ x1 ∧ x1 ≤ 9223372036854775807) (h2 : OkSl w x2 1 8 (fun es => ∃ e_ : Int, es = [Value.int .i64 e_] ∧ ((-9223372036854775808) ≤ e_ ∧ e_ ≤ 9223372036854775807))) :
    C_towpathlaw08_ChainDumps x0 x1 x2 w (fun b w' => b = true ∧ RowKit.Below w.heap.size w w') := by
  apply S_towpathlaw08_ChainDumps
  unfold F_towpathlaw08_ChainDumps
  obtain ⟨vs, hs, hcl, hcap, hlen, hok⟩ := ok_vers h0
  obtain ⟨ys, hys, hbc, hbcap, hyl⟩ := ok_ints h2
  have src : ∀ {l' : List Chunk} {w' : World}, St w l' w' → SrcAt w' x0 3 (vs.flatMap verC) := fun st => st.ext.src hs
  have bsrc : ∀ {l' : List Chunk} {w' : World}, St w l' w' → SrcAt w' x2 1 (ys.map iV) := fun st => st.ext.src hys
  have st := St.start w
  refine sp_VersionsSize (src st) (by omega) (fun v hv => (hok v hv).2.1) fun n hn hn2 => fun b1 w4 hb1 hw4 => ?_
  have st : St w [] w4 := (st.alloc hb1 hw4).drop1
  refine beyond_any2 hb1 hw4 (by omega) (by omega) ⟨fun _ => ⟨rfl, st.below⟩, fun hbe => ?_⟩
  have hbe := of_decide_eq_false hbe
  refine sp_TwinV st (fun {l' w'} st => src st) (by omega) fun t rb w6 tw st => ?_
  have htl := tw.len
  have htc := tw.cap
  have hvl := ver_len (src st)
  refine sp_TwinI st (bsrc st) (by omega) (.inr fun l w' st => bsrc st) fun bt ib w7 ti st => ?_
  have hbt := ti.len
  have tsrc : ∀ {l' : List Chunk} {w' : World}, St w (l' ++ (ib ++ (rb ++ []))) w' → SrcAt w' t 3 (vs.flatMap verC) := fun st => tw.src st.drop.drop
  have isrc : ∀ {l' : List Chunk} {w' : World}, St w (l' ++ (ib ++ (rb ++ []))) w' → SrcAt w' bt 1 (ys.map iV) := fun st => ti.src st.drop
  refine sp_chain_Dump st (by omega) (by omega) (by omega) tsrc isrc (fun hc w8 st => ?_) fun hc x xb w8 rx st hxl => ?_
  · refine sp_ref_Dump st (by omega) (by omega) (fun {l' w'} st => src st) (fun {l' w'} st => bsrc st) (fun _ w9 st => ?_) fun h => by rw [hc] at h; cases h
    exact dumps_rest (wb := []) (xb := []) (xs := []) src bsrc (by omega) (by omega) tw ti RowC.nil (by show 0 ≤ _; omega) RowC.nil st
  · refine sp_ref_Dump st (by omega) (by omega) (fun {l' w'} st => src st) (fun {l' w'} st => bsrc st) (fun h => by rw [hc] at h; cases h) fun _ want wb w9 rw_ st hwl => ?_
    exact dumps_rest src bsrc (by omega) (by omega) tw ti rx (by omega) rw_ st
end Go.Proofs.YtcgfmkpddhhmgaaDoor
