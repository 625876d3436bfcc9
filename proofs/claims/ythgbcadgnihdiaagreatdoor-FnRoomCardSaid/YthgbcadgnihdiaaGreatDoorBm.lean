/- The library's bit length, in this work's words. -/
import Derived.Test.YthgbcadgnihdiaaGreatDoorBl
import Derived.Test.YthgbcadgnihdiaaGreatDoorFe
namespace Go.Proofs.YthgbcadgnihdiaaGreatDoor
theorem c_math_bits_Len (w : World) (x : Int) (hp0 : 0 ≤ x ∧ x ≤ 18446744073709551615) : Calls Tryz.prog 74 #[.int .u64 x] w fun e w' => e = .returned (.int .i64 (Lib.bitLen x.toNat : Int)) ∧ Fw.Lo w w' :=
  (Tryz.bits_Len x w hp0.1 hp0.2).mono fun _ _ h => ⟨h.1, h.2 ▸ Fw.Lo.refl _⟩
end Go.Proofs.YthgbcadgnihdiaaGreatDoor
