/- The library's bit length, in this work's words. -/
import Derived.Test.YtmigipacjadpeaaBl
import Derived.Test.YtmigipacjadpeaaFe
namespace Go.Proofs.Ytmigipacjadpeaa
theorem c_math_bits_Len (w : World) (x : Int) (hp0 : 0 ≤ x ∧ x ≤ 18446744073709551615) : Calls Try.prog 30 #[.int .u64 x] w fun e w' => e = .returned (.int .i64 (Lib.bitLen x.toNat : Int)) ∧ Fw.Lo w w' :=
  (Try.bits_Len x w hp0.1 hp0.2).mono fun _ _ h => ⟨h.1, h.2 ▸ Fw.Lo.refl _⟩
end Go.Proofs.Ytmigipacjadpeaa
