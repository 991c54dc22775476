/- Chapter 18: law: what decodes is the one encoding of what it says. -/
import Derived.Test.YtpdegdnigcnjiaaM1
import Derived.Test.YtpdegdnigcnjiaaGtowpathlaw18
import Derived.Test.YtpdegdnigcnjiaaGtowpathlaw01
import Derived.Test.YtpdegdnigcnjiaaLib
import Derived.Test.YtpdegdnigcnjiaaGDumpOne
namespace Go.Proofs.Ytpdegdnigcnjiaa
open Go
set_option linter.unusedVariables false
set_option linter.unusedSimpArgs false

theorem blkSrc {w0 : Base} {w : World} {b n sz : Nat} {vs : List Value} {l : List Chunk} (st : St w0 ((b, vs) :: l) w) (h : vs.length = n * sz) : SrcAt w ⟨some ⟨b, 0, none⟩, n, n⟩ sz vs := (RowC.new (b := b) (n := n) h : RowC sz ⟨some ⟨b, 0, none⟩, n, n⟩ vs [(b, vs)]).src st
def kA : ByteArray := ByteArray.mk #[97]
def kB : ByteArray := ByteArray.mk #[98]
def vsA : List Ver := [⟨2, ByteArray.mk #[120], false⟩, ⟨5, ByteArray.empty, true⟩]
def vsB : List Ver := [⟨5, ByteArray.empty, false⟩]
def smp : SvM := ⟨3, [5], [(kA, vsA), (kB, vsB)]⟩
theorem smp_ok : ckOk smp := by
  have hl : lessK (kA, vsA) (kB, vsB) := by
    show Op.bytesLess kA.toList kB.toList = true
    rw [ByteArray.toList_eq, ByteArray.toList_eq]
    decide
  have hA : okC 0 vsA = true := by decide +kernel
  have hB : okC 0 vsB = true := by decide +kernel
  refine ⟨⟨by decide, by decide⟩, ⟨by decide, by decide, trivial⟩, ⟨fun h hh => ?_, List.pairwise_cons.2 ⟨fun x hx => ?_, List.pairwise_singleton ..⟩⟩, fun h hh => ?_⟩
  · have hh : h ∈ [(kA, vsA), (kB, vsB)] := hh
    rcases List.mem_cons.1 hh with rfl | hh
    · exact ⟨⟨by decide, by decide⟩, by simp [vsA], hA⟩
    · rw [List.mem_singleton.1 hh]
      exact ⟨⟨by decide, by decide⟩, by simp [vsB], hB⟩
  · rw [List.mem_singleton.1 hx]; exact hl
  · have hh : h ∈ [(kA, vsA), (kB, vsB)] := hh
    rcases List.mem_cons.1 hh with rfl | hh
    · intro i v hv
      have hv : vsA[i]? = some v := hv
      match i, hv with
      | 0, hv => obtain rfl := Option.some.inj hv; exact ⟨fun _ => ⟨rfl, rfl⟩, fun h => absurd h (by decide)⟩
      | 1, hv => obtain rfl := Option.some.inj hv; exact ⟨fun h => absurd h (by decide), fun _ => List.mem_singleton.2 rfl⟩
      | i + 2, hv => cases hv
    · rw [List.mem_singleton.1 hh]
      intro i v hv
      have hv : vsB[i]? = some v := hv
      match i, hv with
      | 0, hv => obtain rfl := Option.some.inj hv; exact ⟨fun h => absurd h (by decide), fun _ => List.mem_singleton.2 rfl⟩
      | i + 1, hv => cases hv
def smpB : List UInt8 := [3, 1, 5, 2, 1, 97, 2, 2, 0, 1, 120, 5, 1, 1, 98, 1, 5, 0, 0]
theorem smp_enc : encS smp = smpB := by decide +kernel
theorem dec_00 : decM [0, 0] = (zSv, 5) := by
  have h : (allD [0, 0]).2.e = 5 := by decide +kernel
  unfold decM
  rw [if_pos (by rw [h]; decide), h]
section
variable {w : World}
theorem sp_sample {R : T_api_Saved → World → Prop} (k : ∀ s os w', SvAt w' s smp os → Ext w w' → R s w') : C_towpathlaw18_sample w R := by
  apply S_towpathlaw18_sample
  unfold F_towpathlaw18_sample
  intro b w1 hb hw1 b1 w2 hb1 hw2 b2 w3 hb2 hw3 b3 w4 hb3 hw4 b4 w5 hb4 hw5
  have st1 : St ⟨w, []⟩ [(b, svT ⟨0, ⟨none, 0, 0⟩, ⟨none, 0, 0⟩⟩)] w1 := (St.start w).alloc hb hw1
  have st2 : St ⟨w, []⟩ [(b1, [iV 5]), (b, svT ⟨0, ⟨none, 0, 0⟩, ⟨none, 0, 0⟩⟩)] w2 := st1.alloc hb1 hw2
  have st3 : St ⟨w, []⟩ [(b2, vsA.flatMap verT), (b1, [iV 5]), (b, svT ⟨0, ⟨none, 0, 0⟩, ⟨none, 0, 0⟩⟩)] w3 := st2.alloc hb2 hw3
  have st4 : St ⟨w, []⟩ [(b3, vsB.flatMap verT), (b2, vsA.flatMap verT), (b1, [iV 5]), (b, svT ⟨0, ⟨none, 0, 0⟩, ⟨none, 0, 0⟩⟩)] w4 := st3.alloc hb3 hw4
  have st5 := st4.alloc hb4 hw5
  obtain ⟨os, hos⟩ : ∃ os : List HO, os = [(kA, vsA, ⟨some ⟨b2, 0, none⟩, 2, 2⟩), (kB, vsB, ⟨some ⟨b3, 0, none⟩, 1, 1⟩)] := ⟨_, rfl⟩
  have st5 : St ⟨w, []⟩ [(b4, os.flatMap hoT), (b3, vsB.flatMap verT), (b2, vsA.flatMap verT), (b1, [iV 5]), (b, svT ⟨0, ⟨none, 0, 0⟩, ⟨none, 0, 0⟩⟩)] w5 := by rw [hos]; exact st5
  have st5b : St ⟨w, []⟩ [(b, svT ⟨0, ⟨none, 0, 0⟩, ⟨none, 0, 0⟩⟩), (b4, os.flatMap hoT), (b3, vsB.flatMap verT), (b2, vsA.flatMap verT), (b1, [iV 5])] w5 := st5.perm (perm_of_sum fun f_ => by simp <;> omega)
  refine ⟨st5b.writable 0 rfl (Nat.le_of_ble_eq_true rfl), fun w6 hw6 => ?_⟩
  have st6 : St ⟨w, []⟩ [(b, svT ⟨3, ⟨some ⟨b1, 0, none⟩, 1, 1⟩, ⟨some ⟨b4, 0, none⟩, 2, 2⟩⟩), (b4, os.flatMap hoT), (b3, vsB.flatMap verT), (b2, vsA.flatMap verT), (b1, [iV 5])] w6 := st5b.put0 hw6
  refine ⟨⟨3, ⟨some ⟨b1, 0, none⟩, 1, 1⟩, ⟨some ⟨b4, 0, none⟩, 2, 2⟩⟩, (st6.get 0 rfl).all, k _ os w6 ⟨rfl, ?_, ⟨?_, fun o ho => ?_⟩, by rw [hos]; rfl, Nat.le_of_ble_eq_true rfl, Nat.le_of_ble_eq_true rfl, fun o ho => ?_⟩ st6.ext⟩
  · have s : St ⟨w, []⟩ ((b1, [iV 5]) :: [(b, svT ⟨3, ⟨some ⟨b1, 0, none⟩, 1, 1⟩, ⟨some ⟨b4, 0, none⟩, 2, 2⟩⟩), (b4, os.flatMap hoT), (b3, vsB.flatMap verT), (b2, vsA.flatMap verT)]) w6 := st6.perm (perm_of_sum fun f_ => by simp <;> omega)
    exact blkSrc s rfl
  · have s : St ⟨w, []⟩ ((b4, os.flatMap hoT) :: [(b, svT ⟨3, ⟨some ⟨b1, 0, none⟩, 1, 1⟩, ⟨some ⟨b4, 0, none⟩, 2, 2⟩⟩), (b3, vsB.flatMap verT), (b2, vsA.flatMap verT), (b1, [iV 5])]) w6 := st6.perm (perm_of_sum fun f_ => by simp <;> omega)
    exact blkSrc s (by rw [hos]; rfl)
  · rw [hos] at ho
    rcases List.mem_cons.1 ho with rfl | ho
    · have s : St ⟨w, []⟩ ((b2, vsA.flatMap verT) :: [(b, svT ⟨3, ⟨some ⟨b1, 0, none⟩, 1, 1⟩, ⟨some ⟨b4, 0, none⟩, 2, 2⟩⟩), (b4, os.flatMap hoT), (b3, vsB.flatMap verT), (b1, [iV 5])]) w6 := st6.perm (perm_of_sum fun f_ => by simp <;> omega)
      exact ⟨blkSrc s rfl, by show 2 * 32 ≤ _; omega⟩
    · rw [List.mem_singleton.1 ho]
      have s : St ⟨w, []⟩ ((b3, vsB.flatMap verT) :: [(b, svT ⟨3, ⟨some ⟨b1, 0, none⟩, 1, 1⟩, ⟨some ⟨b4, 0, none⟩, 2, 2⟩⟩), (b4, os.flatMap hoT), (b2, vsA.flatMap verT), (b1, [iV 5])]) w6 := st6.perm (perm_of_sum fun f_ => by simp <;> omega)
      exact ⟨blkSrc s rfl, by show 1 * 32 ≤ _; omega⟩
  · rw [hos] at ho
    rcases List.mem_cons.1 ho with rfl | ho
    · show 2 ≤ _; omega
    · rw [List.mem_singleton.1 ho]; show 1 ≤ _; omega
theorem sp_dAlive {R : Bool → World → Prop} (k : ∀ w', Ext w w' → R true w') : C_towpathlaw18_alive w R := by
  apply S_towpathlaw18_alive
  unfold F_towpathlaw18_alive
  refine sp_sample fun s os w1 ha e1 => ?_
  refine sp_dump_Encode ha (by rw [smp_enc]; decide) (fun hn => absurd smp_ok hn) fun _ c rb w2 rc st2 hcl => ?_
  rw [smp_enc] at rc hcl
  intro b1 w3 hb1 hw3
  have st3 : St ⟨w1, []⟩ ((b1, [bV 0, bV 0]) :: rb) w3 := st2.alloc hb1 hw3
  refine sp_dump_Decode (xs := [0, 0]) st3 (blkSrc st3 rfl) (Nat.le_of_ble_eq_true rfl) fun s' eb' hc' w4 hs' st4 b2 w5 hb2 hw5 => ?_
  rw [dec_00] at hs' ⊢
  have st5 := st4.alloc (cs := svT ⟨0, ⟨none, 0, 0⟩, ⟨none, 0, 0⟩⟩) hb2 hw5
  refine ⟨st5.writable 0 rfl (Nat.le_of_ble_eq_true rfl), fun w6 hw6 => ⟨fun _ b3 w7 hb3 hw7 => ?_, fun h => (by simp at h)⟩⟩
  have st6 : St ⟨w1, []⟩ ((b2, svT s') :: (eb' ++ (hc' ++ ((b1, [bV 0, bV 0]) :: rb)))) w6 := st5.put0 hw6
  have st7 : St ⟨w1, []⟩ ((b3, [iV 4]) :: (b2, svT s') :: (eb' ++ (hc' ++ ((b1, [bV 0, bV 0]) :: rb)))) w7 := st6.alloc hb3 hw7
  have hat : SvAt w7 (T_api_Saved.mk 3 (Slc.mk (some ⟨b3, 0, none⟩) 1 1) (Slc.mk none 0 0)) ⟨3, [4], []⟩ [] := by
    refine ⟨rfl, blkSrc st7 rfl, ⟨RowC.nil.src (l := _) st7, fun o ho => (by cases ho)⟩, rfl, Nat.le_of_ble_eq_true rfl, Nat.le_of_ble_eq_true rfl, fun o ho => (by cases ho)⟩
  refine sp_dump_Check hat fun w8 e8 => ?_
  have hno : ¬ ckOk ⟨3, [4], []⟩ := fun h => by have : (3 : Int) + 1 < 4 := h.2.1.1; omega
  rw [ckE_no hno]
  refine ⟨fun _ b4 w9 hb4 hw9 => ?_, fun h => (by simp at h)⟩
  have st8 := st7.keep e8
  have st9 : St ⟨w1, []⟩ ((b4, smpB.map bV) :: (b3, [iV 4]) :: (b2, svT s') :: (eb' ++ (hc' ++ ((b1, [bV 0, bV 0]) :: rb)))) w9 := st8.alloc hb4 hw9
  have st9b : St ⟨w1, []⟩ (rb ++ ((b4, smpB.map bV) :: (b3, [iV 4]) :: (b2, svT s') :: (eb' ++ (hc' ++ [(b1, [bV 0, bV 0])])))) w9 := st9.perm (perm_of_sum fun f_ => by simp <;> omega)
  refine sp_SameBytes (rc.src st9b) (blkSrc (n := 19) st9 rfl) (by rw [hcl]; decide) fun w10 e10 => ?_
  rw [decide_eq_true rfl]
  exact k w10 (e1.trans (st9.keep e10).ext)
end
end Go.Proofs.Ytpdegdnigcnjiaa

namespace Go.Proofs.Ytpdegdnigcnjiaa
open Go
set_option linter.unusedVariables false
set_option linter.unusedSimpArgs false

def beyondF : Int → List Int → Bool
  | _, [] => false
  | n, x :: r => if IntKind.i64.wrap (n + x) > 1048576 then true else beyondF (IntKind.i64.wrap (n + x)) r

theorem sp_towpathlaw01_Beyond {s : Slc} {w : World} {R : Bool → World → Prop} {xs : List Int} (hs : SrcAt w s 1 (xs.map (Value.int .i64))) (hl : s.len ≤ 4611686018427387904)
    (h : R (beyondF 0 xs) w) : C_towpathlaw01_Beyond s w R := by
  apply S_towpathlaw01_Beyond
  unfold F_towpathlaw01_Beyond
  have hlen := hs.len_eq
  refine ⟨fun n i w' => w' = w ∧ 0 ≤ i ∧ i ≤ s.len ∧ beyondF n (xs.drop i.toNat) = beyondF 0 xs, fun n i w' => s.len - i.toNat, ⟨rfl, by omega, by omega, by simp⟩, ?_⟩
  rintro n i _ ⟨rfl, h0, h1, hb⟩
  unfold F_towpathlaw01_Beyond_L0
  refine ⟨fun hi => ?_, fun hi => ?_⟩
  · have hi := of_decide_eq_true hi
    obtain ⟨ha, x, hx, hc⟩ := hs.get h0 hi
    rw [drop_get hx, beyondF] at hb
    refine ⟨ha, h0, hi, x, hc, fun hg => ?_, fun hg => ?_⟩
    · rw [if_pos (of_decide_eq_true hg)] at hb
      rw [← hb] at h; exact h
    · rw [if_neg (of_decide_eq_false hg)] at hb
      have hw := wrap_next h0 hi hl
      refine ⟨⟨rfl, by omega, by omega, ?_⟩, by simp only [hw]; omega⟩
      rw [hw, toNat_next h0]; exact hb
  · have hi := of_decide_eq_false hi
    rw [drop_end (by omega), beyondF] at hb
    rw [← hb] at h; exact h

end Go.Proofs.Ytpdegdnigcnjiaa

namespace Go.Proofs.Ytpdegdnigcnjiaa
open Go
set_option linter.unusedVariables false
set_option linter.unusedSimpArgs false

theorem beyond_s1 {v : Int} (h0 : 0 ≤ v) (h1 : v ≤ 400000000000000) (h : beyondF 0 [v] = false) : v ≤ 1048576 := by
  unfold beyondF at h
  rw [i64_in _ (by omega) (by omega), Int.zero_add] at h
  by_cases hv : v > 1048576
  · rw [if_pos hv] at h; cases h
  · omega
section
variable {w w1 : World} {b : Nat} {T : TypeId} {x y : Int}
theorem sp_BeyondS1 {R : Bool → World → Prop} (hb : b = w.heap.size) (hw : w1 = w.alloc (Obj.cells ([Value.int .i64 x]).toArray T (0, 0))) (h0 : 0 ≤ x) (h1 : x ≤ 400000000000000) (k : ∀ v, (v = false → x ≤ 1048576) → R v w1) :
    C_towpathlaw01_Beyond (Slc.mk (some ⟨b, 0, none⟩) 1 1) w1 R :=
  sp_towpathlaw01_Beyond (xs := [x]) (srcAt_new hb hw rfl) (by show 1 ≤ _; omega) (k _ (beyond_s1 h0 h1))
end
end Go.Proofs.Ytpdegdnigcnjiaa

namespace Go.Proofs.Ytpdegdnigcnjiaa
open Go
set_option linter.unusedVariables false
set_option linter.unusedSimpArgs false

theorem len_pos {α : Type} {l : List α} (h : l ≠ []) : 1 ≤ l.length := by
  cases l with
  | nil => exact absurd rfl h
  | cons a r => rw [List.length_cons]; omega
theorem encVr_pos (v : Ver) : 1 ≤ (encVr v).length := by
  unfold encVr
  rw [List.length_append]
  have := len_pos (varF_ne v.Number.toNat)
  omega
theorem encHd_pos (h : Hd) : 1 ≤ (encHd h).length := by
  unfold encHd
  simp only [List.length_append]
  have := len_pos (varF_ne h.1.size)
  omega
theorem flat_pos {α : Type} {f : α → List UInt8} (hf : ∀ x, 1 ≤ (f x).length) : ∀ l : List α, l.length ≤ (l.flatMap f).length
  | [] => Nat.zero_le _
  | x :: r => by
    have h1 := flat_pos hf r
    have h2 := hf x
    rw [List.flatMap_cons, List.length_append, List.length_cons]; omega
theorem flat_mem {α : Type} {f : α → List UInt8} {x : α} : ∀ {l : List α}, x ∈ l → (f x).length ≤ (l.flatMap f).length
  | [], h => (by cases h)
  | y :: r, h => by
    rw [List.flatMap_cons, List.length_append]
    rcases List.mem_cons.1 h with rfl | h
    · omega
    · have := flat_mem (f := f) h; omega
/-- What is said in few bytes is small. -/
theorem encS_small {m : SvM} : m.held.length ≤ (encS m).length ∧ m.bey.length ≤ (encS m).length ∧ ∀ h ∈ m.held, h.2.length ≤ (encS m).length := by
  have h1 := flat_pos encHd_pos m.held
  have h2 := flat_pos (f := encB) (fun x => len_pos (varF_ne _)) m.bey
  have hL : (encS m).length = (varF m.mark.toNat).length + ((varF m.bey.length).length + ((m.bey.flatMap encB).length + ((varF m.held.length).length + (m.held.flatMap encHd).length))) := by unfold encS; simp only [List.length_append]
  refine ⟨by omega, by omega, fun h hh => ?_⟩
  have h3 := flat_mem (f := encHd) hh
  have h4 := flat_pos encVr_pos h.2
  have h5 : (encHd h).length = ((varF h.1.size).length + h.1.data.toList.length) + ((varF h.2.length).length + (h.2.flatMap encVr).length) := by unfold encHd; simp only [List.length_append]
  omega
theorem decM_bad {xs : List UInt8} (h : (decM xs).2 ≠ 0) : (decM xs).1 = zSv := by
  unfold decM at h ⊢
  by_cases h1 : (allD xs).2.e ≠ 0
  · rw [if_pos h1]
  rw [if_neg h1] at h ⊢
  by_cases h2 : (allD xs).2.r.rest.length > 0
  · rw [if_pos h2]
  rw [if_neg h2] at h ⊢
  by_cases h3 : ckOk (allD xs).1
  · rw [if_pos h3] at h; exact absurd rfl h
  · rw [if_neg h3]
theorem law_DumpOne (x0 : Slc) (w : World) (h0 : OkSl w x0 1 1 (fun es => ∃ e_ : Int, es = [Value.int .u8 e_] ∧ (0 ≤ e_ ∧ e_ ≤ 255))) :
    C_towpathlaw18_DumpOne x0 w (fun b w' => b = true ∧ RowKit.Below w.heap.size w w') := by
  apply S_towpathlaw18_DumpOne
  unfold F_towpathlaw18_DumpOne
  obtain ⟨xs, hs, hcl, hcap, hl⟩ := ok_bytes h0
  have st := St.start w
  refine sp_dAlive fun w1 e1 => ⟨fun h => (by simp at h), fun _ b w2 hb hw => ?_⟩
  have st1 := st.keep e1
  have st2 := st1.alloc hb hw
  refine sp_BeyondS1 hb hw (by omega) (by omega) fun v hv => ?_
  unfold F_towpathlaw18_DumpOne_k0
  refine ⟨fun _ => sp_dAlive fun w3 e3 => ⟨rfl, (st2.keep e3).below⟩, fun hv0 => ?_⟩
  have hxl := hv hv0
  have hlen := hs.len_eq
  refine sp_dump_Decode (xs := xs) st2 (st2.ext.src hs) (by omega) fun s eb hc w4 hS st4 b1 w5 hb1 hw5 => ?_
  have st5 := st4.alloc (cs := svT ⟨0, ⟨none, 0, 0⟩, ⟨none, 0, 0⟩⟩) hb1 hw5
  refine ⟨st5.writable 0 rfl (Nat.le_of_ble_eq_true rfl), fun w6 hw6 => ?_⟩
  have st6 : St ⟨w, []⟩ ((b1, svT s) :: (eb ++ (hc ++ [(b, [iV ((x0.len : Nat) : Int)])]))) w6 := st5.put0 hw6
  refine ⟨fun he => ⟨s.Mark, st6.cell 0 rfl rfl, fun h => ⟨s.Beyond, st6.cell 0 rfl rfl, s.Held, st6.cell 0 rfl rfl, ?_⟩, fun h => ?_⟩, fun he => ⟨s, (st6.get 0 rfl).all, ?_⟩⟩
  · have he : (decM xs).2 ≠ 0 := by simpa using he
    rw [decM_bad he] at hS
    obtain ⟨_, g2, g3⟩ := hS
    have l1 := g2.len
    obtain ⟨vsl, tb, pb, _, r, ps⟩ := g3
    have l2 := r.len
    rw [zipRow_len (sz := 2) (fun _ => rfl) ps.len] at l2
    have l1 : s.Beyond.len = 0 := by have l1 : (([] : List Int).map iV).length = s.Beyond.len * 1 := l1; simp at l1; omega
    have l2 : s.Held.len = 0 := by have l2 : ([] : List Hd).length * 2 = s.Held.len * 2 := l2; simp at l2; omega
    rw [l1, l2]
    exact ⟨by decide, st6.below⟩
  · have he : (decM xs).2 ≠ 0 := by simpa using he
    rw [decM_bad he] at hS
    have : s.Mark = 0 := hS.1
    rw [this] at h; simp at h
  have he : (decM xs).2 = 0 := by simpa using he
  obtain ⟨hk, henc⟩ := decM_ok (by omega) he
  obtain ⟨a1, a2, a3⟩ := encS_small (m := (decM xs).1)
  rw [henc] at a1 a2 a3
  obtain ⟨os, hat⟩ := hS.at_ (fun x hx => by have := a3 x hx; omega) (by omega) (by omega)
  have at_ : ∀ {w' : World} {cs : List Chunk}, St ⟨w, []⟩ (cs ++ ((b1, svT s) :: (eb ++ (hc ++ [(b, [iV ((x0.len : Nat) : Int)])])))) w' → SvAt w' s (decM xs).1 os := fun {w' cs} st' => hat (fr := cs ++ [(b1, svT s), (b, [iV ((x0.len : Nat) : Int)])]) (st'.perm (perm_of_sum fun f_ => by simp <;> omega))
  refine sp_dump_Encode (at_ (cs := []) st6) (by rw [henc]; omega) (fun hn => absurd hk hn) fun _ c rb w7 rc st7 hcl => ?_
  have st7 := st6.more st7
  refine ⟨fun _ => ?_, fun h => (by simp at h)⟩
  have st7b : St ⟨w, []⟩ ((b1, svT s) :: (rb ++ (eb ++ (hc ++ [(b, [iV ((x0.len : Nat) : Int)])])))) w7 := st7.perm (perm_of_sum fun f_ => by simp <;> omega)
  refine ⟨s, (st7b.get 0 rfl).all, sp_dump_Check (at_ st7) fun w8 e8 => ?_⟩
  rw [ckE_ok hk]
  refine ⟨fun _ => ?_, fun h => (by simp at h)⟩
  have st8 := st7.keep e8
  rw [henc] at rc
  refine sp_SameBytes (st8.ext.src hs) (rc.src st8) (by omega) fun w9 e9 => ?_
  rw [decide_eq_true rfl]
  exact ⟨rfl, (st8.keep e9).below⟩
end Go.Proofs.Ytpdegdnigcnjiaa

