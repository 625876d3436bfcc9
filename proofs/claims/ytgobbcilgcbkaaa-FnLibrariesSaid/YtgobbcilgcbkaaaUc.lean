/- Lengths: giving and fetching. -/
import Derived.Test.YtgobbcilgcbkaaaG32h
namespace Go.Proofs.Ytgobbcilgcbkaaa
open Go Go.RowKit Fw
section
variable (x : Library) (s : LibraryStep) (i r : Int)
theorem fetch_lenMaps : (((impl_Library_fetch x i r).1).Maps).length ≤ x.Maps.length := by
  unfold impl_Library_fetch; split <;> simp
theorem fetch_lenAway : (((impl_Library_fetch x i r).1).Away).length ≤ x.Away.length := by
  unfold impl_Library_fetch; split
  · exact del_lenT _ (by omega)
  · simp
theorem give_lenMaps : (((impl_Library_give x i r).1).Maps).length ≤ x.Maps.length := by
  unfold impl_Library_give; split <;> simp
theorem give_lenAway : (((impl_Library_give x i r).1).Away).length ≤ x.Away.length + 1 := by
  unfold impl_Library_give; split
  · simp
  · exact Nat.le_of_eq (ins_len1 _ _ _)
theorem buy_lenMaps : ((impl_Library_buy x s).Maps).length ≤ x.Maps.length + 1 := by
  unfold impl_Library_buy; split
  · simp
  · simp only [List.length_set]; exact Nat.le_of_eq (ins_len1 _ _ _)
theorem buy_lenAway : ((impl_Library_buy x s).Away).length ≤ x.Away.length := by
  unfold impl_Library_buy; split <;> simp
end
end Go.Proofs.Ytgobbcilgcbkaaa
