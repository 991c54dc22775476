/- The law's own reading of a record. -/
import Derived.Test.YtfmkemmgakdddaaURefR
import Derived.Test.YtfmkemmgakdddaaURecordS
import Derived.Test.YtfmkemmgakdddaaGtowpathref05
namespace Go.Proofs.Ytfmkemmgakdddaa
open Go
set_option linter.unusedVariables false

section
variable {w0 w : World} {B : Slc} {xs l : List UInt8} {r : Rd} {s : RS}
theorem sp_ref_one {R : Rd → Wr → Int → World → Prop} (o : RV B xs r ⟨l, 0⟩) (hs : SrcAt w B 1 (xs.map bV)) (hl : B.len ≤ 140737488351232) (hcap : B.len ≤ B.cap)
    (kE : ∀ c, decW l = .inr c → c ≠ 0 → ∀ r' x' w', Ext w w' → R r' x' c w') (kO : ∀ x rest, decW l = .inl (x, rest) → ∀ r' w', RV B xs r' ⟨rest, 0⟩ → Ext w w' → R r' x 0 w') : C_towpathref05_one r w R := by
  apply S_towpathref05_one
  intro b w1 hb hw b1 w2 hb1 hw1 b2 w3 hb2 hw2
  have st : St w [(b2, wV ⟨ByteArray.empty, ByteArray.empty, false⟩), (b1, zR), (b, rdV r)] w3 := (((St.start w).alloc hb hw).alloc hb1 hw1).alloc hb2 hw2
  -- the two ways out
  have endB : ∀ {r' : Rd} {x : Wr} {e : Int} {w5 : World}, St w [(b2, wV ⟨ByteArray.empty, ByteArray.empty, false⟩), (b1, zR), (b, rdV r')] w5 → (∀ w', Ext w w' → R r' x e w') →
      (∃ (v : Rd), CellsAt w5 b 0 (rdV v) ∧ (Writable w5 b1 0 4 ∧ (∀ w9, w9 = World.puts b1 0 (rdV v) w5 → (Writable w9 b2 0 3 ∧ (∀ w10, w10 = World.puts b2 0 (wV x) w9 → (∃ (res2 : Rd), CellsAt w10 b1 0 (rdV res2) ∧ (∃ (res3 : Wr), CellsAt w10 b2 0 (wV res3) ∧ (R res2 res3 e w10)))))))) := by
    intro r' x e w5 st k
    refine ⟨r', (st.get 2 rfl).all, st.writable 1 rfl (by simp), fun w9 hw9 => ?_⟩
    have st : St w [(b2, wV ⟨ByteArray.empty, ByteArray.empty, false⟩), (b1, rdV r'), (b, rdV r')] w9 := st.put1 hw9
    refine ⟨st.writable 0 rfl (by simp [wV]), fun w10 hw10 => ?_⟩
    have st : St w [(b2, wV x), (b1, rdV r'), (b, rdV r')] w10 := st.put0 hw10
    exact ⟨r', (st.get 1 rfl).all, x, (st.get 0 rfl).all, k w10 st.ext⟩
  have endA : ∀ {r' : Rd} {x : Wr} {w5 : World}, St w [(b2, wV ⟨ByteArray.empty, ByteArray.empty, false⟩), (b1, zR), (b, rdV r')] w5 → (∀ w', Ext w w' → R r' x r'.Code w') →
      (∀ w6, (∃ k, w6 = w5.drewN k) → (∃ (v : Rd), CellsAt w6 b 0 (rdV v) ∧ (∃ (c : Int), w6.cell? ⟨b, 3, none⟩ = some (Value.int .i64 c) ∧ (Writable w6 b1 0 4 ∧ (∀ w7, w7 = World.puts b1 0 (rdV v) w6 → (w7.cell? ⟨b, 3, none⟩ = some (Value.int .i64 c) ∧
        (Writable w7 b2 0 3 ∧ (∀ w8, w8 = World.puts b2 0 (wV x) w7 → (w8.cell? ⟨b, 3, none⟩ = some (Value.int .i64 c) ∧ (∃ (res : Rd), CellsAt w8 b1 0 (rdV res) ∧ (∃ (res1 : Wr), CellsAt w8 b2 0 (wV res1) ∧ (R res res1 c w8)))))))))))) := by
    intro r' x w5 st k w6 e6
    have st := st.drew e6
    refine ⟨r', (st.get 2 rfl).all, r'.Code, st.cell 2 rfl rfl, st.writable 1 rfl (by simp), fun w7 hw7 => ?_⟩
    have st : St w [(b2, wV ⟨ByteArray.empty, ByteArray.empty, false⟩), (b1, rdV r'), (b, rdV r')] w7 := st.put1 hw7
    refine ⟨st.cell 2 rfl rfl, st.writable 0 rfl (by simp [wV]), fun w8 hw8 => ?_⟩
    have st : St w [(b2, wV x), (b1, rdV r'), (b, rdV r')] w8 := st.put0 hw8
    exact ⟨st.cell 2 rfl rfl, r', (st.get 1 rfl).all, x, (st.get 0 rfl).all, k w8 st.ext⟩
  have hd : decW l = _ := rfl
  conv at hd => rhs; unfold decW
  refine ⟨r, (st.get 2 rfl).all, sp_ref_Text o (st.ext.src hs) hl hcap (by omega) (by omega) fun r1 w4 o1 e4 => ⟨(st.keep e4).writable 2 rfl (by simp), fun w5 hw5 => ?_⟩⟩
  have st : St w [(b2, wV ⟨ByteArray.empty, ByteArray.empty, false⟩), (b1, zR), (b, rdV r1)] w5 := (st.keep e4).put 2 rfl hw5
  refine ⟨r1.Code, st.cell 2 rfl rfl, ?_⟩
  rcases textR_cases (show (0 : Int) ≤ 64 by decide) l with ⟨c, hc, he⟩ | ⟨key, l1, he, _, _⟩
  · rw [he] at hd o1 ⊢
    simp only at hd
    rw [if_pos hc] at hd
    have hcode : r1.Code = c := o1.code
    refine ⟨fun _ => endA (x := ⟨ByteArray.empty, ByteArray.empty, false⟩) st fun w' e' => ?_, fun h => absurd (by rw [hcode] at h; simpa using h) hc⟩
    rw [hcode]; exact kE c hd hc _ _ w' e'
  rw [he] at hd o1 ⊢
  simp only at hd
  rw [if_neg (by simp)] at hd
  have hcode : r1.Code = 0 := o1.code
  refine ⟨fun h => by rw [hcode] at h; simp at h, fun _ => ⟨fun hk => ?_, fun hk => ?_⟩⟩
  · have hk : key.length = 0 := by rw [mkS_size] at hk; have : (key.length : Int) = 0 := by simpa using hk
                                   omega
    rw [if_pos (List.eq_nil_of_length_eq_zero hk)] at hd
    exact endB (x := ⟨ByteArray.empty, ByteArray.empty, false⟩) st fun w' e' => kE 1 hd (by decide) _ _ w' e'
  have hk : ¬ key = [] := fun h => by rw [h] at hk; simp [mkS_size] at hk
  rw [if_neg hk] at hd
  unfold decW1 at hd
  refine ⟨r1, (st.get 2 rfl).all, sp_ref_Fixed o1 (st.ext.src hs) hl fun r2 w11 o2 e11 => ⟨(st.keep e11).writable 2 rfl (by simp), fun w12 hw12 => ?_⟩⟩
  have st : St w [(b2, wV ⟨ByteArray.empty, ByteArray.empty, false⟩), (b1, zR), (b, rdV r2)] w12 := (st.keep e11).put 2 rfl hw12
  refine ⟨r2.Code, st.cell 2 rfl rfl, ?_⟩
  rcases fixR_cases l1 with ⟨_, he⟩ | ⟨f, l2, he, _, _⟩
  · rw [he] at hd o2 ⊢
    simp only at hd
    rw [if_pos (by decide)] at hd
    have hcode : r2.Code = 5 := o2.code
    refine ⟨fun _ => endA (x := ⟨ByteArray.empty, ByteArray.empty, false⟩) st fun w' e' => ?_, fun h => by rw [hcode] at h; simp at h⟩
    rw [hcode]; exact kE 5 hd (by decide) _ _ w' e'
  rw [he] at hd o2 ⊢
  simp only at hd
  rw [if_neg (by simp)] at hd
  have hcode : r2.Code = 0 := o2.code
  refine ⟨fun h => by rw [hcode] at h; simp at h, fun _ => ⟨fun hf => ?_, fun hf => ⟨fun hf1 => ?_, fun hf1 => ?_⟩⟩⟩
  · have hf : f > 1 := by have := of_decide_eq_true hf; omega
    rw [if_pos hf] at hd
    exact endB (x := ⟨ByteArray.empty, ByteArray.empty, false⟩) st fun w' e' => kE 4 hd (by decide) _ _ w' e'
  · have hf : ¬ f > 1 := by have := of_decide_eq_false hf; omega
    have hf1' : (f : Int) = 1 := by simpa using hf1
    rw [if_neg hf, if_pos (by omega)] at hd
    exact endB (x := ⟨mkS key, ByteArray.empty, true⟩) st fun w' e' => kO _ _ hd r2 w' o2 e'
  · have hf : ¬ f > 1 := by have := of_decide_eq_false hf; omega
    have hf1' : ¬ (f : Int) = 1 := by simpa using hf1
    rw [if_neg hf, if_neg (by omega)] at hd
    unfold decW2 at hd
    refine ⟨r2, (st.get 2 rfl).all, sp_ref_Text o2 (st.ext.src hs) hl hcap (by omega) (by omega) fun r3 w20 o3 e20 => ⟨(st.keep e20).writable 2 rfl (by simp), fun w21 hw21 => ?_⟩⟩
    have st : St w [(b2, wV ⟨ByteArray.empty, ByteArray.empty, false⟩), (b1, zR), (b, rdV r3)] w21 := (st.keep e20).put 2 rfl hw21
    refine endA (x := ⟨mkS key, mkS (textR 1024 ⟨l2, 0⟩).2, false⟩) st fun w' e' => ?_
    rcases textR_cases (show (0 : Int) ≤ 1024 by decide) l2 with ⟨c, hc, he⟩ | ⟨v, l3, he, _, _⟩
    · rw [he] at hd o3 ⊢
      simp only at hd
      rw [if_pos hc] at hd
      have hcode : r3.Code = c := o3.code
      rw [hcode]; exact kE c hd hc _ _ w' e'
    · rw [he] at hd o3 ⊢
      simp only at hd
      rw [if_neg (by simp)] at hd
      have hcode : r3.Code = 0 := o3.code
      rw [hcode]; exact kO _ _ hd r3 w' o3 e'
end

set_option maxHeartbeats 2000000 in
theorem sp_ref_Decode {w0 w : World} {fr : List Chunk} {b_ : Slc} {xs : List UInt8} {R : T_api_Txn → Int → World → Prop} (st : St w0 fr w) (hs : ∀ l' w', St w0 (l' ++ fr) w' → SrcAt w' b_ 1 (xs.map bV)) (hl : b_.len ≤ 140737488351232) (hcap : b_.len ≤ b_.cap)
    (kE : ∀ e, decT xs = .inr e → e ≠ 0 → ∀ w', St w0 fr w' → R ⟨0, ⟨none, 0, 0⟩⟩ e w')
    (kO : ∀ n ws, decT xs = .inl (n, ws) → ∀ s rb w', RowC 3 s (ws.flatMap wV) rb → St w0 (rb ++ fr) w' → R ⟨(n : Int), s⟩ 0 w') : C_towpathref05_Decode b_ w R := by
  apply S_towpathref05_Decode
  intro b1 w1 hb1 hw1 b2 w2 hb2 hw2
  have hxl := (hs [] w st).len_eq
  have st : St w0 ((b2, zR) :: (b1, nilT) :: fr) w2 := (st.alloc hb1 hw1).alloc hb2 hw2
  refine ⟨st.writable 0 rfl (by simp), fun w3 hw3 => ?_⟩
  have st : St w0 ((b2, rdV ⟨false, b_, 0, 0⟩) :: (b1, nilT) :: fr) w3 := st.put0 hw3
  have o0 : RV b_ xs ⟨false, b_, 0, 0⟩ ⟨xs, 0⟩ := ⟨rfl, rfl, rfl, 0, rfl, by omega, by simp⟩
  have failP : ∀ {e : Int} {l : List Chunk} {w' : World}, decT xs = .inr e → e ≠ 0 → St w0 ((b1, nilT) :: (l ++ fr)) w' →
      (Writable w' b1 0 2 ∧ (∀ w9, w9 = World.puts b1 0 [Value.int .i64 0, Value.slice none 0 0] w' → (∃ (res : T_api_Txn), CellsAt w9 b1 0 [Value.int .i64 res.Number, Value.slice res.Writes.ptr res.Writes.len res.Writes.cap] ∧ (R res e w9)))) := by
    intro e l w' hd he st
    refine ⟨st.writable 0 rfl (by simp), fun w9 hw9 => ⟨⟨0, ⟨none, 0, 0⟩⟩, ?_, ?_⟩⟩
    · exact ((st.put0 hw9 : St w0 ((b1, nilT) :: (l ++ fr)) w9).get 0 rfl).all
    · exact kE e hd he w9 (st.put0 hw9).drop1.drop
  have failC : ∀ {r' : Rd} {w5 : World}, decT xs = .inr r'.Code → r'.Code ≠ 0 → St w0 ((b2, rdV r') :: (b1, nilT) :: fr) w5 →
      (∀ w6, (∃ k, w6 = w5.drewN k) → (∃ (c : Int), w6.cell? ⟨b2, 3, none⟩ = some (Value.int .i64 c) ∧ (Writable w6 b1 0 2 ∧ (∀ w7, w7 = World.puts b1 0 [Value.int .i64 0, Value.slice none 0 0] w6 → (w7.cell? ⟨b2, 3, none⟩ = some (Value.int .i64 c) ∧
        (∃ (res : T_api_Txn), CellsAt w7 b1 0 [Value.int .i64 res.Number, Value.slice res.Writes.ptr res.Writes.len res.Writes.cap] ∧ (R res c w7))))))) := by
    intro r' w5 hd he st w6 e6
    have st := st.drew e6
    refine ⟨r'.Code, st.cell 0 rfl rfl, st.writable 1 rfl (by simp), fun w7 hw7 => ?_⟩
    have st : St w0 ((b2, rdV r') :: (b1, nilT) :: fr) w7 := st.put1 hw7
    exact ⟨st.cell 0 rfl rfl, ⟨0, ⟨none, 0, 0⟩⟩, (st.get 1 rfl).all, kE _ hd he w7 st.drop1.drop1⟩
  have hdT : decT xs = _ := rfl
  conv at hdT => rhs; unfold decT
  refine ⟨⟨false, b_, 0, 0⟩, (st.get 0 rfl).all, sp_ref_Var o0 (hs [_, _] w3 st) hl fun r1 w4 o1 e4 => ⟨(st.keep e4).writable 0 rfl (by simp), fun w5 hw5 => ?_⟩⟩
  have st : St w0 ((b2, rdV r1) :: (b1, nilT) :: fr) w5 := (st.keep e4).put0 hw5
  refine ⟨r1.Code, st.cell 0 rfl rfl, ?_⟩
  rcases varR_cases xs with ⟨c, hc, he⟩ | ⟨n, l1, he, _, hn⟩
  · rw [he] at hdT o1 ⊢
    simp only at hdT
    rw [if_pos hc] at hdT
    have hcode : r1.Code = c := o1.code
    exact ⟨fun _ => failC (by rw [hcode]; exact hdT) (by rw [hcode]; exact hc) st, fun h => absurd (by rw [hcode] at h; simpa using h) hc⟩
  rw [he] at hdT o1 ⊢
  simp only at hdT
  rw [if_neg (by simp)] at hdT
  have hcode : r1.Code = 0 := o1.code
  refine ⟨fun h => by rw [hcode] at h; simp at h, fun _ => ⟨fun hb => ?_, fun hb => ?_⟩⟩
  · simp only [Bool.or_eq_true, decide_eq_true_eq] at hb
    rw [if_pos (by omega)] at hdT
    exact failP (l := []) hdT (by decide) st.drop1
  simp only [Bool.or_eq_false_iff, decide_eq_false_iff_not] at hb
  rw [if_neg (by omega)] at hdT
  unfold decT1 at hdT
  refine ⟨r1, (st.get 0 rfl).all, sp_ref_Var o1 (hs [_, _] w5 st) hl fun r2 w9 o2 e9 => ⟨(st.keep e9).writable 0 rfl (by simp), fun w10 hw10 => ?_⟩⟩
  have st : St w0 ((b2, rdV r2) :: (b1, nilT) :: fr) w10 := (st.keep e9).put0 hw10
  refine ⟨r2.Code, st.cell 0 rfl rfl, ?_⟩
  rcases varR_cases l1 with ⟨c, hc, he⟩ | ⟨k, l2, he, _, hk⟩
  · rw [he] at hdT o2 ⊢
    simp only at hdT
    rw [if_pos hc] at hdT
    have hcode : r2.Code = c := o2.code
    exact ⟨fun _ => failC (by rw [hcode]; exact hdT) (by rw [hcode]; exact hc) st, fun h => absurd (by rw [hcode] at h; simpa using h) hc⟩
  rw [he] at hdT o2 ⊢
  simp only at hdT
  rw [if_neg (by simp)] at hdT
  have hcode : r2.Code = 0 := o2.code
  refine ⟨fun h => by rw [hcode] at h; simp at h, fun _ => ⟨fun hb => ?_, fun hb2 => ?_⟩⟩
  · have hb : k > 32 := by have := of_decide_eq_true hb; omega
    rw [if_pos hb] at hdT
    exact failP (l := []) hdT (by decide) st.drop1
  have hb2 : ¬ k > 32 := by have := of_decide_eq_false hb2; omega
  rw [if_neg hb2] at hdT
  intro b3 w14 hb3 hw14
  have st := st.alloc hb3 hw14
  refine ⟨st.writable 0 rfl (by simp), fun w15 hw15 => ?_⟩
  have wn : IntKind.i64.wrap (n : Int) = (n : Int) := i64_in _ (by omega) (by omega)
  have wk : IntKind.i64.wrap (k : Int) = (k : Int) := i64_in _ (by omega) (by omega)
  rw [wn] at hw15
  have st : St w0 ((b3, txV (n : Int) ⟨none, 0, 0⟩) :: (b2, rdV r2) :: (b1, nilT) :: ([] ++ fr)) w15 := st.put0 hw15
  refine ⟨fun i w' => ∃ (j : Nat) (ys : List Wr) (rest : List UInt8) (sl : Slc) (rb : List Chunk) (r' : Rd), i = (j : Int) ∧ j ≤ k ∧ ys.length = j ∧ decWs k l2 = (match decWs (k - j) rest with | .inr c => .inr c | .inl (zs, q) => .inl (ys ++ zs, q)) ∧
      RV b_ xs r' ⟨rest, 0⟩ ∧ RowC 3 sl (ys.flatMap wV) rb ∧ St w0 ((b3, txV (n : Int) sl) :: (b2, rdV r') :: (b1, nilT) :: (rb ++ fr)) w', fun i _ => k - i.toNat,
    ⟨0, [], l2, ⟨none, 0, 0⟩, [], r2, rfl, by omega, rfl, ?_, o2, RowC.nil, st⟩, ?_⟩
  · rw [Nat.sub_zero]
    cases decWs k l2 with
    | inr c => rfl
    | inl p => rfl
  rintro i w16 ⟨j, ys, rest, sl, rb, r', rfl, hj, hyl, hdw, o', ro, st⟩
  unfold F_towpathref05_Decode_L0
  rw [wk]
  refine ⟨fun hi => ?_, fun hi => ?_⟩
  · have hi : j < k := by have := of_decide_eq_true hi; omega
    obtain ⟨m, hm⟩ : ∃ m, k - j = m + 1 := ⟨k - j - 1, by omega⟩
    have hdW : decWs (k - j) rest = (match decW rest with | .inr c => .inr c | .inl (x, q) => match decWs m q with | .inr c => .inr c | .inl (zs, q') => .inl (x :: zs, q')) := by rw [hm]; rfl
    refine ⟨r', (st.get 1 rfl).all, sp_ref_one o' (hs ([_, _, _] ++ rb) w16 (by rw [List.append_assoc]; exact st)) hl hcap (fun c hd hc r'' x' w17 e17 => ?_) (fun x rest1 hd r'' w17 o'' e17 => ?_)⟩
    · intro b4 w18 hb4 hw18 b5 w19 hb5 hw19
      have st := ((st.keep e17).alloc hb4 hw18).alloc hb5 hw19
      refine ⟨st.writable 1 rfl (by simp), fun w20 hw20 => ?_⟩
      have st := st.put1 hw20
      refine ⟨st.writable 0 rfl (by simp), fun w21 hw21 => ⟨fun _ => ?_, fun h => absurd (by simpa using h) hc⟩⟩
      have st : St w0 ((b1, nilT) :: (rb ++ fr)) w21 := (st.put0 hw21).drop1.drop1.drop1.drop1
      refine failP (l := rb) ?_ hc st
      rw [hdW, hd] at hdw
      rw [hdT, hdw]
    · intro b4 w18 hb4 hw18 b5 w19 hb5 hw19
      have st := ((st.keep e17).alloc hb4 hw18).alloc hb5 hw19
      refine ⟨st.writable 1 rfl (by simp), fun w20 hw20 => ?_⟩
      have st := st.put1 hw20
      refine ⟨st.writable 0 rfl (by simp), fun w21 hw21 => ⟨fun h => by simp at h, fun _ => ?_⟩⟩
      have st : St w0 ((b5, wV x) :: (b4, rdV r'') :: (b3, txV (n : Int) sl) :: (b2, rdV r') :: (b1, nilT) :: (rb ++ fr)) w21 := st.put0 hw21
      refine ⟨r'', (st.get 1 rfl).all, st.writable 3 rfl (by simp), fun w23 hw23 => ?_⟩
      have st : St w0 ((b5, wV x) :: (b4, rdV r'') :: (b3, txV (n : Int) sl) :: (b2, rdV r'') :: (b1, nilT) :: (rb ++ fr)) w23 := st.put 3 rfl hw23
      refine ⟨sl, st.cell 2 rfl rfl, x, (st.get 0 rfl).all, fun b6 w24 hb6 hw24 => ⟨wV x, ⟨rfl, .inr ⟨rfl, (Blk.new hb6 hw24).all⟩⟩, ?_⟩⟩
      have st := (st.keep (Ext.new hw24)).drop1.drop1
      have hll := ro.len
      have hf : ∀ x : Wr, (wV x).length = 3 := fun _ => rfl
      rw [flatMap_len hf] at hll
      have hll2 : sl.len = j := by have := Nat.eq_of_mul_eq_mul_right (by decide) hll; omega
      refine ro.append (st.swap (a := [_, _, _])) rfl rfl rfl (by omega) fun s' rb' w25 ro' st hl' => ?_
      have st : St w0 ((b3, txV (n : Int) sl) :: (b2, rdV r'') :: (b1, nilT) :: (rb' ++ fr)) w25 := st.swap (b := [_, _, _])
      refine ⟨st.writable 0 rfl (by simp), fun w26 hw26 => ?_⟩
      have st : St w0 ((b3, txV (n : Int) s') :: (b2, rdV r'') :: (b1, nilT) :: (rb' ++ fr)) w26 := st.put0 hw26
      have wj : IntKind.i64.wrap ((j : Int) + 1) = ((j + 1 : Nat) : Int) := by rw [i64_in _ (by omega) (by omega)]; omega
      rw [wj]
      refine ⟨⟨j + 1, ys ++ [x], rest1, s', rb', r'', rfl, by omega, by simp [hyl], ?_, o'', by simpa using ro', st⟩, by show k - ((j + 1 : Nat) : Int).toNat < k - ((j : Nat) : Int).toNat; rw [Int.toNat_natCast, Int.toNat_natCast]; omega⟩
      rw [hdw, hdW, hd, show k - (j + 1) = m from by omega]
      simp only
      cases decWs m rest1 with
      | inr c => rfl
      | inl p => simp
  · have hi : j = k := by have := of_decide_eq_false hi; omega
    rw [show k - j = 0 from by omega, decWs] at hdw
    simp only [List.append_nil] at hdw
    rw [hdw] at hdT
    simp only at hdT
    refine ⟨r', (st.get 1 rfl).all, sp_ref_End o' (by exact hxl) fun w27 e27 => ?_⟩
    have st := st.keep e27
    by_cases hr : rest = []
    · have he2 : (⟨rest, 0⟩ : RS).end_ = 0 := by unfold RS.end_; rw [if_neg (fun hh => hh.2 hr)]
      rw [if_neg (fun h => h hr)] at hdT
      rw [he2]
      refine ⟨fun h => by simp at h, fun _ => ⟨⟨(n : Int), sl⟩, (st.get 0 rfl).all, st.writable 2 rfl (by simp), fun w29 hw29 => ?_⟩⟩
      have st : St w0 ((b3, txV (n : Int) sl) :: (b2, rdV r') :: (b1, txV (n : Int) sl) :: (rb ++ fr)) w29 := st.put 2 rfl hw29
      exact ⟨⟨(n : Int), sl⟩, (st.get 2 rfl).all, kO n ys hdT sl rb w29 ro st.drop1.drop1.drop1⟩
    · have he2 : (⟨rest, 0⟩ : RS).end_ = 4 := by unfold RS.end_; rw [if_pos ⟨rfl, hr⟩]
      rw [if_pos hr] at hdT
      rw [he2]
      exact ⟨fun _ => failP (l := rb) hdT (by decide) st.drop1.drop1, fun h => by simp at h⟩

end Go.Proofs.Ytfmkemmgakdddaa
