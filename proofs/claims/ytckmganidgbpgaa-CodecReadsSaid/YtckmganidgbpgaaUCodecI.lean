/- Chapter 02: numbers with a sign, put and taken. -/
import Derived.Test.YtckmganidgbpgaaUCodecC
import Derived.Test.YtckmganidgbpgaaUZig
namespace Go.Proofs.Ytckmganidgbpgaa
open Go
set_option linter.unusedVariables false
section
variable {w0 w : World} {fr bs : List Chunk} {wr r : Option Addr} {xs : List UInt8} {s : RS}
theorem sp_Writer_Int {x : Int} {R : World → Prop} (st : St w0 (bs ++ fr) w) (o : WrO wr xs bs) (h0 : -9223372036854775808 ≤ x) (h1 : x ≤ 9223372036854775807) (hl : xs.length + 20 ≤ 140737488351232)
    (k : ∀ bs' w', WrO wr (xs ++ varF (zz x)) bs' → St w0 (bs' ++ fr) w' → R w') : C_codec_Writer_Int wr x w R := by
  apply S_codec_Writer_Int
  exact sp_num_Zigzag h0 h1 (sp_Writer_Var st o (zz_lt h0 h1) hl k)

theorem sp_Reader_Int {R : Int → World → Prop} (st : St w0 (bs ++ fr) w) (o : RdO r s bs)
    (k : ∀ bs' w', RdO r (varR s).1 bs' → St w0 (bs' ++ fr) w' → R (za (varR s).2) w') : C_codec_Reader_Int r w R := by
  apply S_codec_Reader_Int
  exact sp_Reader_Var st o fun bs' w' o' st' => sp_num_Zagzig (varR_lt s) (k bs' w' o' st')

end

end Go.Proofs.Ytckmganidgbpgaa
