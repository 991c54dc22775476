/- Chapter 06: the fixed answers. -/
import Derived.Test.YtpdegdnigcnjiaaULogRd
import Derived.Test.YtpdegdnigcnjiaaGtowpathlaw06
namespace Go.Proofs.Ytpdegdnigcnjiaa
open Go
set_option linter.unusedVariables false
set_option linter.unusedSimpArgs false

section
variable {w0 : Base} {w : World} {fr : List Chunk}
abbrev lfA : List Tx := [(1, [⟨ByteArray.mk #[97], ByteArray.mk #[120], false⟩]), (2, [])]
theorem lfA_chk : chkL 1 lfA = 0 := by decide
theorem lfA_len : (encL lfA).length = 19 := by decide +kernel
theorem lfA_0 : (encL lfA)[0]? = some 7 := by decide +kernel
theorem lfA_12 : (encL lfA)[12]? = some 2 := by decide +kernel
theorem rec0 : recR [0] = .inr 5 := by rfl
theorem rd0 {ts : List Tx} {rem : List UInt8} {e : Int} (h : Rd 1 [0] ts rem e) : e = 5 := by
  generalize hL : ([0] : List UInt8) = L at h
  have hr := rec0
  rw [hL] at hr
  cases h with
  | nil => cases hL
  | bad g1 g2 g3 => rw [hr] at g2; cases g2; rfl
  | turn g1 g2 g3 => rw [hr] at g2; cases g2
  | step g1 g2 g3 g4 => rw [hr] at g2; cases g2

theorem sp_towpathlaw06_alive {R : Bool → World → Prop} (st : St w0 fr w) (k : ∀ w', St w0 fr w' → R true w') : C_towpathlaw06_alive w R := by
  apply S_towpathlaw06_alive
  unfold F_towpathlaw06_alive
  intro b w1 hb hw1 b1 w2 hb1 hw2
  have st2 : St w0 ((b1, txW 1 ⟨some ⟨b, 0, none⟩, 1, 1⟩ ++ txW 2 ⟨none, 0, 0⟩) :: (b, wV ⟨ByteArray.mk #[97], ByteArray.mk #[120], false⟩) :: fr) w2 := (st.alloc hb hw1).alloc hb1 hw2
  have hla : ∀ l w', St w0 (l ++ ((b1, txW 1 ⟨some ⟨b, 0, none⟩, 1, 1⟩ ++ txW 2 ⟨none, 0, 0⟩) :: (b, wV ⟨ByteArray.mk #[97], ByteArray.mk #[120], false⟩) :: fr)) w' → LAt w' (Slc.mk (some ⟨b1, 0, none⟩) 2 2) lfA [⟨some ⟨b, 0, none⟩, 1, 1⟩, ⟨none, 0, 0⟩] := by
    intro l w' st'
    have st2 := st'.drop
    refine ⟨rfl, ?_, fun i t s h1 h2 => ?_, fun s hs => ?_⟩
    · have r : RowC 2 ⟨some ⟨b1, 0, none⟩, 2, 2⟩ (txW 1 ⟨some ⟨b, 0, none⟩, 1, 1⟩ ++ txW 2 ⟨none, 0, 0⟩) [(b1, txW 1 ⟨some ⟨b, 0, none⟩, 1, 1⟩ ++ txW 2 ⟨none, 0, 0⟩)] := RowC.new (n := 2) (sz := 2) rfl
      exact r.src st2
    · match i, h1, h2 with
      | 0, h1, h2 =>
        have a : ((1, [⟨ByteArray.mk #[97], ByteArray.mk #[120], false⟩]) : Tx) = t := by simpa using h1
        have b' : (⟨some ⟨b, 0, none⟩, 1, 1⟩ : Slc) = s := by simpa using h2
        subst a; subst b'
        have r : RowC 3 ⟨some ⟨b, 0, none⟩, 1, 1⟩ (wV ⟨ByteArray.mk #[97], ByteArray.mk #[120], false⟩) [(b, wV ⟨ByteArray.mk #[97], ByteArray.mk #[120], false⟩)] := RowC.new (n := 1) (sz := 3) rfl
        exact r.src st2.drop1
      | 1, h1, h2 =>
        have a : ((2, []) : Tx) = t := by simpa using h1
        have b' : (⟨none, 0, 0⟩ : Slc) = s := by simpa using h2
        subst a; subst b'
        exact ⟨rfl, .inl rfl⟩
      | n + 2, h1, h2 => simp at h1
    · rcases List.mem_cons.1 hs with rfl | hs
      · exact ⟨Nat.le_refl _, by show 1 * 40 ≤ _; omega⟩
      · have : s = ⟨none, 0, 0⟩ := by simpa using hs
        subst this; exact ⟨Nat.le_refl _, by decide⟩
  refine sp_lf_Encode (sl := Slc.mk (some ⟨b1, 0, none⟩) 2 2) (ts := lfA) st2 hla (by show 2 ≤ _; omega) (fun h => absurd lfA_chk h) fun _ s rb w3 ro st3 hsl b3 w4 hb3 hw4 => ?_
  have st4 := st3.alloc (cs := [Value.int .u8 0]) hb3 hw4
  have r4 : RowC 1 ⟨some ⟨b3, 0, none⟩, 1, 1⟩ ([(0 : UInt8)].map bV) [(b3, [Value.int .u8 0])] := RowC.new (n := 1) (sz := 1) rfl
  refine sp_lf_Read (xs := [0]) st4 (fun B l w' hB st' => ?_) (by show 1 ≤ _; omega) fun ts rem e sl sls cs w5 hrd hlo hcp st5 => ?_
  · exact r4.src (st'.drop)
  obtain rfl := rd0 hrd
  rw [hsl, lfA_len]
  have st5 : St w0 (rb ++ ((b3, [Value.int .u8 0]) :: (b1, txW 1 ⟨some ⟨b, 0, none⟩, 1, 1⟩ ++ txW 2 ⟨none, 0, 0⟩) :: (b, wV ⟨ByteArray.mk #[97], ByteArray.mk #[120], false⟩) :: fr)) w5 := st5.weak cs (perm_of_sum fun f_ => by simp only [List.map_append, List.map_cons, List.map_nil, List.sum_append, List.sum_cons, List.sum_nil, List.append_nil]; omega)
  have hsr := ro.src st5
  obtain ⟨a0, x0, hx0, hc0⟩ := SrcAt.get hsr (i := 0) (by omega) (by rw [hsl, lfA_len]; decide)
  obtain ⟨a1, x1, hx1, hc1⟩ := SrcAt.get hsr (i := 12) (by omega) (by rw [hsl, lfA_len]; decide)
  have hx0 : (encL lfA)[0]? = some x0 := hx0
  have hx1 : (encL lfA)[12]? = some x1 := hx1
  rw [lfA_0] at hx0
  rw [lfA_12] at hx1
  obtain rfl := Option.some.inj hx0
  obtain rfl := Option.some.inj hx1
  refine ⟨fun _ => ⟨a0, by omega, by decide, _, hc0, fun _ => ⟨a1, by omega, by decide, _, hc1, fun _ b4 w6 hb4 hw6 => ?_, fun h => by simp at h⟩, fun h => by simp at h⟩, fun h => by simp at h⟩
  have st6 : St w0 ((b4, txW 2 ⟨none, 0, 0⟩) :: (rb ++ ((b3, [Value.int .u8 0]) :: (b1, txW 1 ⟨some ⟨b, 0, none⟩, 1, 1⟩ ++ txW 2 ⟨none, 0, 0⟩) :: (b, wV ⟨ByteArray.mk #[97], ByteArray.mk #[120], false⟩) :: fr))) w6 := st5.alloc hb4 hw6
  have r6 : RowC 2 ⟨some ⟨b4, 0, none⟩, 1, 1⟩ (txW 2 ⟨none, 0, 0⟩) [(b4, txW 2 ⟨none, 0, 0⟩)] := RowC.new (n := 1) (sz := 2) rfl
  have ha6 : LAt w6 ⟨some ⟨b4, 0, none⟩, 1, 1⟩ [(2, [])] [⟨none, 0, 0⟩] := ⟨rfl, r6.src st6, fun i t s h1 h2 => by
    match i, h1, h2 with
    | 0, h1, h2 =>
      have a : ((2, []) : Tx) = t := by simpa using h1
      have b' : (⟨none, 0, 0⟩ : Slc) = s := by simpa using h2
      subst a; subst b'
      exact ⟨rfl, .inl rfl⟩
    | n + 1, h1, h2 => simp at h1, fun s hs => by
    have : s = ⟨none, 0, 0⟩ := by simpa using hs
    subst this; exact ⟨Nat.le_refl _, by decide⟩⟩
  refine sp_lf_Check ha6 (by show 1 ≤ _; omega) fun w7 e7 => ?_
  have : chkL 1 [((2 : Int), ([] : List Wr))] = 6 := by decide
  rw [this]
  exact k w7 ((st6.keep e7).weak ((b4, txW 2 ⟨none, 0, 0⟩) :: (rb ++ [(b3, [Value.int .u8 0]), (b1, txW 1 ⟨some ⟨b, 0, none⟩, 1, 1⟩ ++ txW 2 ⟨none, 0, 0⟩), (b, wV ⟨ByteArray.mk #[97], ByteArray.mk #[120], false⟩)])) (perm_of_sum fun f_ => by simp only [List.map_append, List.map_cons, List.map_nil, List.sum_append, List.sum_cons, List.sum_nil, List.append_nil]; omega))
end
end Go.Proofs.Ytpdegdnigcnjiaa
