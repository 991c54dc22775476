/- Chapter 10: the law RingPlays. -/
import Derived.Test.YtchcljkflklddaaURingU
import Derived.Test.YtchcljkflklddaaGRingPlays
namespace Go.Proofs.Ytchcljkflklddaa
open Go
set_option linter.unusedVariables false
set_option linter.unusedSimpArgs false

theorem sp_Beyond1 {w : World} {b : Nat} {n : Int} {R : Bool → World → Prop} (hc : w.cell? ⟨b, 0, none⟩ = some (iV n)) (k : ∀ v, R v w) : C_towpathlaw01_Beyond ⟨some ⟨b, 0, none⟩, 1, 1⟩ w R := by
  apply S_towpathlaw01_Beyond
  unfold F_towpathlaw01_Beyond
  refine ⟨fun m i w' => w' = w ∧ (i = 0 ∨ i = 1), fun _ i _ => 1 - i.toNat, ⟨rfl, .inl rfl⟩, ?_⟩
  rintro m i w1 ⟨rfl, hi⟩
  unfold F_towpathlaw01_Beyond_L0
  refine ⟨fun h => ?_, fun _ => k false⟩
  have h : i < 1 := of_decide_eq_true h
  obtain rfl : i = 0 := by omega
  exact ⟨rfl, by omega, by omega, n, hc, fun _ => k true, fun _ => ⟨⟨rfl, .inr rfl⟩, by show 1 - (1 : Int).toNat < 1 - (0 : Int).toNat; decide⟩⟩

abbrev opV (o : T_towpathlaw10_Op) : List Value := [Value.int .u8 o.Kind, Value.int .i64 o.X]
theorem play_k0 {w0 : Base} {w : World} {script : Slc} {ops : List T_towpathlaw10_Op} {m : Option RM} {r x : Option Addr} {bs xs : List Chunk} {R : Bool → World → Prop} (hs : SrcAt w0.w script 2 (ops.flatMap opV)) (hl : script.len ≤ 17592186043904) (hok : ∀ o ∈ ops, -9223372036854775808 ≤ o.X ∧ o.X ≤ 9223372036854775807)
    (o : RiO m r bs) (p : RxO m x xs) (st : St w0 (bs ++ xs) w) (k : ∀ w', Ext w0.w w' → R true w') : F_towpathlaw10_RingPlays_k0 script R r x false w := by
  unfold F_towpathlaw10_RingPlays_k0
  refine ⟨fun h => (by cases h), fun _ b1 w1 hb1 hw1 => ?_⟩
  have st1 : St w0 ((b1, [slV ⟨none, 0, 0⟩, iV 0, iV 0, Value.bool false]) :: (bs ++ xs)) w1 := st.alloc hb1 hw1
  refine ⟨fun i w' => ∃ (p : Nat) (m : Option RM) (bs xs zs : List Chunk), i = (p : Int) ∧ p ≤ script.len ∧ RiO m r bs ∧ RxO m x xs ∧ RiO none (some ⟨b1, 0, none⟩) zs ∧ St w0 (bs ++ (xs ++ zs)) w', fun i _ => script.len - i.toNat, ⟨0, m, bs, xs, _, rfl, by omega, o, p, .inr ⟨b1, rfl, rfl⟩, st1.perm (perm_of_sum fun f_ => by simp only [List.map_append, List.map_cons, List.map_nil, List.sum_append, List.sum_cons, List.sum_nil, List.append_nil]; omega)⟩, ?_⟩
  clear st st1 o p hb1 hw1
  rintro i w2 ⟨n, m, bs, xs, zs, rfl, hn, o, p, z, st⟩
  unfold F_towpathlaw10_RingPlays_L1
  refine ⟨fun hi => ?_, fun hi => ?_⟩
  · have hi := of_decide_eq_true hi
    obtain ⟨a, op, hop, hc⟩ := SrcAt.getN (st.ext.src hs) (fun _ => rfl) (by decide) (i := (n : Int)) (by omega) hi
    have hx := hok op (List.mem_of_getElem? hop)
    have wp : IntKind.i64.wrap ((n : Int) + 1) = ((n + 1 : Nat) : Int) := by rw [i64_in _ (by omega) (by omega)]; omega
    unfold F_towpathlaw10_RingPlays_k2
    rw [wp]
    refine ⟨a, by omega, hi, op, hc, sp_asked hx o p st fun m' bs' xs' w3 o' p' hm st => ⟨fun h => (by cases h), fun _ => ?_⟩⟩
    obtain ⟨a2, op2, hop2, hc2⟩ := SrcAt.getN (st.ext.src hs) (fun _ => rfl) (by decide) (i := (n : Int)) (by omega) hi
    have hx2 := hok op2 (List.mem_of_getElem? hop2)
    refine ⟨a2, by omega, hi, op2, hc2, sp_asked (m := none) (x := none) (bs := zs) (xs := []) (fr := bs' ++ xs') hx2 z ⟨rfl, rfl⟩ (st.perm (perm_of_sum fun f_ => by simp only [List.map_append, List.map_cons, List.map_nil, List.sum_append, List.sum_cons, List.sum_nil, List.append_nil]; omega)) fun m2 zs' ys' w4 z' y' hm2 st => ⟨fun h => (by cases h), fun _ => ?_⟩⟩
    have := hm2 rfl
    subst this
    exact ⟨⟨n + 1, m', bs', xs', zs', rfl, by omega, o', p', z', st.weak ys' (perm_of_sum fun f_ => by simp only [List.map_append, List.map_cons, List.map_nil, List.sum_append, List.sum_cons, List.sum_nil, List.append_nil]; omega)⟩, by show _ - _ < _ - _; omega⟩
  · refine sp_gone (fr := xs ++ zs) o st (by decide) fun s rb w3 rs st => ?_
    have st5 : St w0 (xs ++ (rb ++ (bs ++ zs))) w3 := st.perm (perm_of_sum fun f_ => by simp only [List.map_append, List.map_cons, List.map_nil, List.sum_append, List.sum_cons, List.sum_nil, List.append_nil]; omega)
    refine sp_rx_All p st5 fun s2 rb2 cs2 hcs rs2 => ?_
    have hq : (allR m).length ≤ 65536 := by
      cases m with
      | none => show 0 ≤ 65536; omega
      | some m => obtain ⟨_, _, _, _, _, _, _, _, h2, _, h3, _⟩ := o
                  show m.q.length ≤ 65536; omega
    rw [List.take_of_length_le (by show (allR m).length ≤ 1048576; omega)] at rs
    have g1 := rs.src (l := bs ++ (xs ++ zs)) st
    have g2 := rs2.src (l := cs2 ++ (rb ++ (bs ++ zs))) (by rw [hcs] at st5; exact st5.perm (perm_of_sum fun f_ => by simp only [List.map_append, List.map_cons, List.map_nil, List.sum_append, List.sum_cons, List.sum_nil, List.append_nil]; omega))
    exact sp_SameInts g1 g2 (by rw [rs.ilen]; omega) fun w4 e4 => k w4 (st.keep e4).ext

theorem law_RingPlays (x0 : Int) (x1 : Slc) (w : World) (h0 : (-9223372036854775808) ≤ x0 ∧ x0 ≤ 9223372036854775807) (h1 : OkSl w x1 2 16 (fun es => ∃ e_ : T_towpathlaw10_Op, es = opV e_ ∧ (Ok_T_towpathlaw10_Op w e_))) :
    C_towpathlaw10_RingPlays x0 x1 w (fun b w' => b = true ∧ RowKit.Below w.heap.size w w') := by
  apply S_towpathlaw10_RingPlays
  unfold F_towpathlaw10_RingPlays
  obtain ⟨ops, hs, hcl, hcap, hlen, hok⟩ := ok_list (f := opV) h1 (fun es ⟨e, h, h'⟩ => ⟨e, h, h'⟩) (fun _ => rfl) (by decide)
  intro b w1 hb hw
  have st : St ⟨w, []⟩ [(b, [iV ((x1.len : Nat) : Int)])] w1 := (St.start w).alloc hb hw
  refine sp_Beyond1 (st.cell 0 rfl rfl) fun v => ⟨fun _ => ⟨rfl, st.ext⟩, fun _ => ?_⟩
  have st : St ⟨w, []⟩ [] w1 := st.drop1
  have fin : ∀ {w' : World}, Ext w w' → (true = true ∧ RowKit.Below w.heap.size w w') := fun e => ⟨rfl, e⟩
  refine sp_ring_New st (fun hbad => ?_) fun h2 h3 r bs w2 o st => ?_
  · refine sp_rx_New st (fun _ => ⟨fun h => by simp at h, fun _ => ?_⟩) fun h2 h3 => by omega
    exact play_k0 (m := none) (bs := []) (xs := []) hs (by omega) (fun o ho => (hok o ho).2) (.inl ⟨rfl, rfl⟩) ⟨rfl, rfl⟩ st fun w' e => fin e
  · refine sp_rx_New st (fun hbad => by omega) fun _ _ x xs w3 p hxn st => ⟨fun h => by simp at h, fun _ => ?_⟩
    have hrn : r.isNone = false := by obtain ⟨b, _, _, _, rfl, _⟩ := o; rfl
    rw [hrn, hxn]
    exact play_k0 (m := some ⟨[], x0.toNat, false⟩) (bs := bs) (xs := xs) hs (by omega) (fun o ho => (hok o ho).2) o p (st.perm (perm_of_sum fun f_ => by simp only [List.map_append, List.map_cons, List.map_nil, List.sum_append, List.sum_cons, List.sum_nil, List.append_nil]; omega)) fun w' e => fin e
end Go.Proofs.Ytchcljkflklddaa
