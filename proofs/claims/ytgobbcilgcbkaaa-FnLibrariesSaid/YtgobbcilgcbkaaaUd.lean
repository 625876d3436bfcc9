/- Lengths: uses. -/
import Derived.Test.YtgobbcilgcbkaaaG32i
namespace Go.Proofs.Ytgobbcilgcbkaaa
open Go Go.RowKit Fw
section
variable (x : Library) (s : LibraryStep) (k : Int)
theorem hand_lenMaps : (((impl_Library_hand x s).1).Maps).length ≤ x.Maps.length := by
  unfold impl_Library_hand
  split
  · simp
  · split
    · simp
    · exact Nat.le_trans (give_lenMaps _ _ _) (fetch_lenMaps _ _ _)
theorem hand_lenAway : (((impl_Library_hand x s).1).Away).length ≤ x.Away.length + 1 := by
  unfold impl_Library_hand
  split
  · simp
  · split
    · simp
    · have h1 := give_lenAway ((impl_Library_fetch x s.Id s.Reader).1) s.Id s.Value
      have h2 := fetch_lenAway x s.Id s.Reader
      dsimp only; omega
theorem use_lenMaps : (((impl_Library_use x s k).1).Maps).length ≤ x.Maps.length := by
  unfold impl_Library_use
  repeat' split
  · exact Nat.le_trans (give_lenMaps _ _ _) (by simp)
  · exact Nat.le_trans (fetch_lenMaps _ _ _) (by simp)
  · exact hand_lenMaps x s
  all_goals simp
theorem use_lenAway : (((impl_Library_use x s k).1).Away).length ≤ x.Away.length + 1 := by
  unfold impl_Library_use
  repeat' split
  · exact give_lenAway _ _ _
  · exact Nat.le_trans (fetch_lenAway _ _ _) (by simp)
  · exact hand_lenAway x s
  all_goals simp
end
end Go.Proofs.Ytgobbcilgcbkaaa
