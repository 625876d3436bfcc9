/- Steps of the reference. -/
import Derived.Test.YtgobbcilgcbkaaaDoorG32k
namespace Go.Proofs.YtgobbcilgcbkaaaDoor
open Go Go.RowKit Fw
section
variable {x : Library} {s : LibraryStep} {id n r a : Int}
theorem bought_yes (h : 0 ≤ idxF (hasId id) x.Maps) : boughtN x id n = { x with Maps := x.Maps.set (idxF (hasId id) x.Maps).toNat (moreM (gt x.Maps (idxF (hasId id) x.Maps).toNat) n), Bought := x.Bought + n } := if_pos h
theorem bought_no (h : ¬ 0 ≤ idxF (hasId id) x.Maps) : boughtN x id n = { x with Maps := x.Maps.take (bdM id x.Maps) ++ [⟨id, n, 0⟩] ++ x.Maps.drop (bdM id x.Maps), Bought := x.Bought + n } := if_neg h
theorem stepL_rng (h : spec_l32Step x s = true) : (s.Kind = 1 → (1 ≤ s.Id ∧ s.Id ≤ 99) ∧ (1 ≤ s.Value ∧ s.Value ≤ 50)) ∧ (¬ s.Kind = 1 → 0 ≤ idxF (hasId s.Id) x.Maps) ∧ 0 ≤ s.Value ∧ (¬ s.Kind = 4 ∧ ¬ s.Kind = 6 ∧ ¬ s.Kind = 7 → s.Value ≤ 999) := by
  unfold spec_l32Step at h
  split at h
  · have := of_decide_eq_true h; omega
  · split at h
    · have := of_decide_eq_true h; omega
    · split at h
      · have := of_decide_eq_true h; omega
      · split at h
        · have := of_decide_eq_true h; omega
        · have := of_decide_eq_true h; omega
theorem gone_lenMaps (x : Library) (i r : Int) : ((goneN x i r).Maps).length = x.Maps.length := rfl
theorem gone_lenAway (x : Library) (i r : Int) : ((goneN x i r).Away).length = x.Away.length + 1 := ins_len (bdA_le _ _)
theorem back_lenMaps (x : Library) (a : Int) : ((backN x a).Maps).length = x.Maps.length := rfl
theorem back_lenAway (x : Library) (a : Int) : ((backN x a).Away).length ≤ x.Away.length := del_lenT _ (by omega)
theorem bought_lenMaps (x : Library) (i n : Int) : ((boughtN x i n).Maps).length ≤ x.Maps.length + 1 := by
  unfold boughtN; split
  · simp
  · exact Nat.le_of_eq (ins_len (bdM_le _ _))
theorem bought_lenAway (x : Library) (i n : Int) : ((boughtN x i n).Away).length = x.Away.length := by unfold boughtN; split <;> rfl
end
end Go.Proofs.YtgobbcilgcbkaaaDoor
