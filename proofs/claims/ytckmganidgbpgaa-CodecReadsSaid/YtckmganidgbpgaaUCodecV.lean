/- Chapter 02: readers that are none, that nobody made, and the law's own, in step. -/
import Derived.Test.YtckmganidgbpgaaURefR
import Derived.Test.YtckmganidgbpgaaUCodecI
import Derived.Test.YtckmganidgbpgaaGtowpathlaw02
namespace Go.Proofs.Ytckmganidgbpgaa
open Go
set_option linter.unusedVariables false

def deadS : RS := ⟨[], 2⟩
def DeadO (r : Option Addr) (bs : List Chunk) : Prop := (r = none ∧ bs = []) ∨ ∃ b, r = some ⟨b, 0, none⟩ ∧ bs = [(b, [Value.bool false, Value.slice none 0 0, iV 0])]
/-- The codec's reader stands at s, be it one at all or none. -/
def RdP (r : Option Addr) (s : RS) (bs : List Chunk) : Prop := RdO r s bs ∨ (s = deadS ∧ DeadO r bs)
/-- The law's own reader stands at s, be it one at all or none. -/
def RvP (B : Slc) (xs : List UInt8) (r : Rd) (s : RS) : Prop := RV B xs r s ∨ (s = deadS ∧ r.Gone = true)

section
variable {w0 w : World} {fr bs : List Chunk} {r : Option Addr} {s : RS}
theorem sp_takeD {next : Value} {R : Bool → World → Prop} (st : St w0 (bs ++ fr) w) (o : DeadO r bs) (k : R false w) : C_codec_Reader_take r next w R := by
  apply S_codec_Reader_take
  rcases o with ⟨rfl, rfl⟩ | ⟨b, rfl, rfl⟩
  · exact ⟨fun _ => ⟨fun _ => k, fun h => (by cases h)⟩, fun h => (by cases h)⟩
  · exact ⟨fun h => (by cases h), fun _ => ⟨rfl, false, st.cell 0 rfl rfl, fun _ => ⟨fun _ => k, fun h => (by cases h)⟩, fun h => (by cases h)⟩⟩
theorem sp_RdP_Var {R : Int → World → Prop} (st : St w0 (bs ++ fr) w) (o : RdP r s bs)
    (k : ∀ bs' w', RdP r (varR s).1 bs' → St w0 (bs' ++ fr) w' → R ((varR s).2 : Int) w') : C_codec_Reader_Var r w R := by
  rcases o with o | ⟨rfl, o⟩
  · exact sp_Reader_Var st o fun bs' w' o' => k bs' w' (.inl o')
  apply S_codec_Reader_Var
  intro b w1 hb hw
  have st1 : St w0 (bs ++ ((b, [Value.int .u64 0]) :: fr)) w1 := (st.alloc hb hw).mid
  exact sp_takeD st1 o (local_end (f := fun x : Int => Value.int .u64 x) st1 fun w' st' => k bs w' (.inr ⟨rfl, o⟩) st')
theorem sp_RdP_Int {R : Int → World → Prop} (st : St w0 (bs ++ fr) w) (o : RdP r s bs)
    (k : ∀ bs' w', RdP r (varR s).1 bs' → St w0 (bs' ++ fr) w' → R (za (varR s).2) w') : C_codec_Reader_Int r w R := by
  apply S_codec_Reader_Int
  exact sp_RdP_Var st o fun bs' w' o' st' => sp_num_Zagzig (varR_lt s) (k bs' w' o' st')
theorem sp_RdP_Fixed {width : Int} {R : Int → World → Prop} (st : St w0 (bs ++ fr) w) (o : RdP r s bs)
    (k : ∀ bs' w', RdP r (fixR width s).1 bs' → St w0 (bs' ++ fr) w' → R ((fixR width s).2 : Int) w') : C_codec_Reader_Fixed r width w R := by
  rcases o with o | ⟨rfl, o⟩
  · exact sp_Reader_Fixed st o fun bs' w' o' => k bs' w' (.inl o')
  apply S_codec_Reader_Fixed
  intro b w1 hb hw b1 w2 hb1 hw1
  have st1 : St w0 (bs ++ ((b1, [Value.int .u64 0]) :: (b, [iV width]) :: fr)) w2 := ((st.alloc hb hw).alloc hb1 hw1).perm (((List.perm_middle.symm).cons _).trans (List.perm_middle.symm))
  exact sp_takeD st1 o (local_end (f := fun x : Int => Value.int .u64 x) st1 fun w' st' => k bs w' (.inr ⟨rfl, o⟩) st'.unmid.drop1)
theorem sp_RdP_Text {most : Int} {R : ByteArray → World → Prop} (st : St w0 (bs ++ fr) w) (o : RdP r s bs) (hm0 : -9223372036854775808 ≤ most) (hm1 : most ≤ 9223372036854775807) (hl : s.rest.length ≤ 140737488351232)
    (k : ∀ bs' w', RdP r (textR most s).1 bs' → St w0 (bs' ++ fr) w' → R (mkS (textR most s).2) w') : C_codec_Reader_Text r most w R := by
  rcases o with o | ⟨rfl, o⟩
  · exact sp_Reader_Text st o hm0 hm1 hl fun bs' w' o' => k bs' w' (.inl o')
  apply S_codec_Reader_Text
  intro b w1 hb hw b1 w2 hb1 hw1
  have st1 : St w0 (bs ++ ((b1, [Value.string (mkS [])]) :: (b, [iV most]) :: fr)) w2 := ((st.alloc hb hw).alloc hb1 hw1).perm (((List.perm_middle.symm).cons _).trans (List.perm_middle.symm))
  exact sp_takeD st1 o (local_end (f := fun x : ByteArray => Value.string x) st1 fun w' st' => k bs w' (.inr ⟨rfl, o⟩) st'.unmid.drop1)
theorem sp_RdP_Left {R : Int → World → Prop} (st : St w0 (bs ++ fr) w) (o : RdP r s bs) (k : R (s.rest.length : Int) w) : C_codec_Reader_Left r w R := by
  rcases o with o | ⟨rfl, o⟩
  · exact sp_Reader_Left st o k
  apply S_codec_Reader_Left
  rcases o with ⟨rfl, rfl⟩ | ⟨b, rfl, rfl⟩
  · exact ⟨fun _ => k, fun h => (by cases h)⟩
  · exact ⟨fun h => (by cases h), fun _ => ⟨rfl, ⟨none, 0, 0⟩, st.cell 0 rfl rfl, k⟩⟩
theorem sp_RdP_End {R : Int → World → Prop} (st : St w0 (bs ++ fr) w) (o : RdP r s bs) (k : R s.end_ w) : C_codec_Reader_End r w R := by
  rcases o with o | ⟨rfl, o⟩
  · exact sp_Reader_End st o k
  apply S_codec_Reader_End
  rcases o with ⟨rfl, rfl⟩ | ⟨b, rfl, rfl⟩
  · exact ⟨fun _ => ⟨fun _ => k, fun h => (by cases h)⟩, fun h => (by cases h)⟩
  · exact ⟨fun h => (by cases h), fun _ => ⟨rfl, false, st.cell 0 rfl rfl, ⟨fun _ => k, fun h => (by cases h)⟩⟩⟩
end

section
variable {w0 w : World} {B : Slc} {xs : List UInt8} {r : Rd} {s : RS}
theorem sp_RvP_dead {R : Bool → World → Prop} (o : RvP B xs r s) (k : ∀ w', Ext w w' → R (s.code != 0) w') : C_towpathref02_Reader_dead r w R := by
  rcases o with o | ⟨rfl, o⟩
  · exact sp_ref_dead o k
  apply S_towpathref02_Reader_dead
  intro b w1 hb hw
  exact ⟨r.Gone, (Blk.new hb hw).cell rfl, fun _ => k w1 (Ext.new hw), fun h => (by rw [o] at h; cases h)⟩
theorem sp_RvP_Var {R : Rd → Int → World → Prop} (o : RvP B xs r s) (hs : SrcAt w B 1 (xs.map bV)) (hl : B.len ≤ 140737488351232)
    (k : ∀ r' w', RvP B xs r' (varR s).1 → Ext w w' → R r' ((varR s).2 : Int) w') : C_towpathref02_Reader_Var r w R := by
  rcases id o with o1 | ⟨rfl, o1⟩
  · exact sp_ref_Var o1 hs hl fun r' w' o' => k r' w' (.inl o')
  apply S_towpathref02_Reader_Var
  intro b w1 hb hw b1 w2 hb1 hw1
  have st := ((St.start w).alloc hb hw).alloc hb1 hw1
  refine ⟨r, (st.get 1 rfl).all, sp_RvP_dead o fun w3 e3 => ⟨fun h => ⟨r, ((st.keep e3).get 1 rfl).all, ?_⟩, fun h => by simp [deadS] at h⟩⟩
  exact ref_end (α := Unit) (R := fun r' w' => R r' 0 w') (st.keep e3) rfl fun w' st => k r w' o st.ext
theorem sp_RvP_Fixed {width : Int} {R : Rd → Int → World → Prop} (o : RvP B xs r s) (hs : SrcAt w B 1 (xs.map bV)) (hl : B.len ≤ 140737488351232)
    (k : ∀ r' w', RvP B xs r' (fixR width s).1 → Ext w w' → R r' ((fixR width s).2 : Int) w') : C_towpathref02_Reader_Fixed r width w R := by
  rcases id o with o1 | ⟨rfl, o1⟩
  · exact sp_ref_Fixed o1 hs hl fun r' w' o' => k r' w' (.inl o')
  apply S_towpathref02_Reader_Fixed
  intro b w1 hb hw b1 w2 hb1 hw1
  have st := ((St.start w).alloc hb hw).alloc hb1 hw1
  refine ⟨r, (st.get 1 rfl).all, sp_RvP_dead o fun w3 e3 => ⟨fun h => ⟨r, ((st.keep e3).get 1 rfl).all, ?_⟩, fun h => by simp [deadS] at h⟩⟩
  exact ref_end (α := Unit) (R := fun r' w' => R r' 0 w') (st.keep e3) rfl fun w' st => k r w' o st.ext
theorem sp_RvP_Text {most : Int} {R : Rd → ByteArray → World → Prop} (o : RvP B xs r s) (hs : SrcAt w B 1 (xs.map bV)) (hl : B.len ≤ 140737488351232) (hcap : B.len ≤ B.cap) (hm0 : -9223372036854775808 ≤ most) (hm1 : most ≤ 9223372036854775807)
    (k : ∀ r' w', RvP B xs r' (textR most s).1 → Ext w w' → R r' (mkS (textR most s).2) w') : C_towpathref02_Reader_Text r most w R := by
  rcases id o with o1 | ⟨rfl, o1⟩
  · exact sp_ref_Text o1 hs hl hcap hm0 hm1 fun r' w' o' => k r' w' (.inl o')
  apply S_towpathref02_Reader_Text
  intro b w1 hb hw b1 w2 hb1 hw1
  have st := ((St.start w).alloc hb hw).alloc hb1 hw1
  refine ⟨r, (st.get 1 rfl).all, sp_RvP_dead o fun w3 e3 => ⟨fun h => ⟨r, ((st.keep e3).get 1 rfl).all, ?_⟩, fun h => by simp [deadS] at h⟩⟩
  exact ref_end (α := Unit) (R := fun r' w' => R r' ByteArray.empty w') (st.keep e3) rfl fun w' st => k r w' o st.ext
theorem za_zero : za 0 = 0 := rfl
theorem varR_code {s : RS} (h : (varR s).1.code ≠ 0) : (varR s).2 = 0 := by
  unfold varR at h ⊢
  split
  · rfl
  · rename_i h1
    rw [if_neg h1] at h
    split
    · rfl
    · rename_i h2
      rw [if_neg h2] at h
      exact absurd rfl h
theorem sp_RvP_Int {R : Rd → Int → World → Prop} (o : RvP B xs r s) (hs : SrcAt w B 1 (xs.map bV)) (hl : B.len ≤ 140737488351232)
    (k : ∀ r' w', RvP B xs r' (varR s).1 → Ext w w' → R r' (za (varR s).2) w') : C_towpathref02_Reader_Int r w R := by
  apply S_towpathref02_Reader_Int
  intro b w1 hb hw b1 w2 hb1 hw1
  have st := ((St.start w).alloc hb hw).alloc hb1 hw1
  refine ⟨r, (st.get 1 rfl).all, sp_RvP_Var o (st.ext.src hs) hl fun r1 w3 o1 e3 b2 w4 hb2 hw4 => ?_⟩
  have st := (st.keep e3).alloc hb2 hw4
  refine ⟨st.writable 0 rfl (by simp), fun w5 hw5 => ?_⟩
  have st : St w ((b2, rdV r1) :: (b1, zR) :: [(b, rdV r)]) w5 := st.put0 hw5
  refine ⟨r1, (st.get 0 rfl).all, sp_RvP_dead o1 fun w6 e6 => ?_⟩
  have st := st.keep e6
  refine ⟨fun h => ⟨r1, (st.get 0 rfl).all, ?_⟩, fun h => fun w8 e8 => ⟨r1, ((st.drew e8).get 0 rfl).all, ?_⟩⟩
  · have h : (varR s).1.code ≠ 0 := by simpa using h
    have hz := varR_code h
    rw [hz, za_zero] at k
    exact ref_end (α := Unit) (R := fun r' w' => R r' 0 w') st.sw rfl fun w' st => k r1 w' o1 st.ext
  · have st := st.drew e8
    exact sp_towpathref01_Zagzig (varR_lt s) ⟨(st.get 0 rfl).all, ref_end (α := Unit) (R := fun r' w' => R r' (za (varR s).2) w') st.sw rfl fun w' st => k r1 w' o1 st.ext⟩
theorem sp_RvP_Left {R : Int → World → Prop} (o : RvP B xs r s) (hl : B.len = xs.length) (hb : B.len ≤ 140737488351232) (k : ∀ w', Ext w w' → R (s.rest.length : Int) w') : C_towpathref02_Reader_Left r w R := by
  apply S_towpathref02_Reader_Left
  intro b w1 hb' hw
  have kb := Blk.new hb' hw
  have k := k w1 (Ext.new hw)
  refine ⟨r.Gone, kb.cell rfl, fun h => ?_, fun h => ⟨r.B, kb.cell rfl, r.At, kb.cell rfl, ?_⟩⟩
  · rcases o with o | ⟨rfl, o⟩
    · rw [o.gone] at h; cases h
    · exact k
  · rcases o with o | ⟨rfl, o⟩
    · obtain ⟨p, hp, hpl, hr⟩ := o.place
      rw [o.row, hp, i64_in _ (by omega) (by omega)]
      rw [hr, List.length_drop] at k
      rw [show ((B.len : Nat) : Int) - (p : Int) = ((xs.length - p : Nat) : Int) from by omega]
      exact k
    · rw [o] at h; cases h
theorem sp_RvP_End {R : Int → World → Prop} (o : RvP B xs r s) (hl : B.len = xs.length) (k : ∀ w', Ext w w' → R s.end_ w') : C_towpathref02_Reader_End r w R := by
  rcases o with o | ⟨rfl, o⟩
  · exact sp_ref_End o hl k
  apply S_towpathref02_Reader_End
  intro b w1 hb' hw
  exact ⟨r.Gone, (Blk.new hb' hw).cell rfl, fun _ => k w1 (Ext.new hw), fun h => (by rw [o] at h; cases h)⟩
end

end Go.Proofs.Ytckmganidgbpgaa
