/- Walks, printed by a program of this claim's author. -/
import Derived.Test.YthgbcadgnihdiaaGreatDoorChecked
import Derived.Test.YthgbcadgnihdiaaGreatDoorRa
import Derived.Test.YthgbcadgnihdiaaGreatDoorFu
import Derived.Test.YthgbcadgnihdiaaGreatDoorFo
import Derived.Test.YthgbcadgnihdiaaGreatDoorFp
import Derived.Test.YthgbcadgnihdiaaGreatDoorFt
import Derived.Test.YthgbcadgnihdiaaGreatDoorBm
import Derived.Test.YthgbcadgnihdiaaGreatDoorSo
import Derived.Test.YthgbcadgnihdiaaGreatDoorG30f
namespace Go.Proofs.YthgbcadgnihdiaaGreatDoor
open Go Go.RowKit Fw
set_option maxRecDepth 10000
set_option linter.unusedVariables false
theorem ent73 : Ent Tryz.prog 73 := ent_of Tryz.func73 (by decide +kernel) rfl
theorem ent74 : Ent Tryz.prog 74 := ent_of Tryz.func74 (by decide +kernel) rfl
theorem ent76 : Ent Tryz.prog 76 := ent_of Tryz.func76 (by decide +kernel) rfl
theorem ent82 : Ent Tryz.prog 82 := ent_of Tryz.func82 (by decide +kernel) rfl
theorem ent93 : Ent Tryz.prog 93 := ent_of Tryz.func93 (by decide +kernel) rfl
theorem tsl27 : TSl Tryz.prog 27 3 1 := ⟨by kernel_rfl, fun _ => by kernel_rfl⟩
theorem und27 : Tryz.prog.underlying 27 = some (.slice 3) := by kernel_rfl
theorem und3 : Tryz.prog.underlying 3 = some (.int .i64) := by kernel_rfl
theorem und79 : Tryz.prog.underlying 79 = some (.int .u64) := by kernel_rfl

theorem c_cmp_isNaN_int_ (w : World) (a : Int) : Calls Tryz.prog 93 #[.int .i64 a] w fun e w' => e = .returned (.bool false) ∧ Lo w w' := by
  refine calls_W 6 Tryz.func93 rfl rfl rfl ?_
  refine W.seq ?_
  refine W.regS (SR.q' (r_as (v := .bool false) rfl) <| SR.nil ?_)
  refine W.seq ?_
  refine W.regS (SR.q' (r_mv (v := .int .i64 _) rfl) <| SR.q' (r_mv (v := .int .i64 _) rfl) <| SR.q' (r_ne_s rfl rfl) <| SR.q' (r_as (v := .bool _) rfl) <| SR.nil ?_)
  refine W.ret ?_
  refine ret1 rfl (v := .bool _) rfl ?_
  exact ⟨eR rfl, (Lo.refl w)⟩

theorem c_cmp_Less_int_ (w : World) (a : Int) (b : Int) : Calls Tryz.prog 82 #[.int .i64 a, .int .i64 b] w fun e w' => e = .returned (.bool (decide (a < b))) ∧ Lo w w' := by
  refine calls_W 17 Tryz.func82 rfl rfl rfl ?_
  refine W.seq ?_
  refine W.regS (SR.q' (r_as (v := .bool false) rfl) <| SR.nil ?_)
  refine W.seq ?_
  refine W.regS (SR.q' (r_mv (v := .int .i64 _) rfl) <| SR.call ent93 (c_cmp_isNaN_int_ w a) rfl ?_)
  rintro e w1 ⟨rfl, hk2⟩
  refine ⟨_, rfl, ?_⟩
  have hz3 := hk2.size
  have hB4 := (Lo.refl w).lo hk2
  refine SR.q' (r_mv (v := .bool _) rfl) <| SR.s' rfl <| SR.s' rfl <| SR.s' rfl <| SR.q' (r_pick false rfl (v := .bool false) rfl) <| SR.q' (r_mv (v := .bool _) rfl) <| SR.g' rfl (r_mv (v := .int .i64 _) rfl) <| SR.g' rfl (r_mv (v := .int .i64 _) rfl) <| SR.g' rfl (r_lt rfl rfl) <| SR.q' (r_pick false rfl (v := .bool _) rfl) <| SR.q' (r_as (v := .bool _) rfl) <| SR.nil ?_
  refine W.ret ?_
  refine ret1 rfl (v := .bool _) rfl ?_
  exact ⟨eR rfl, hB4⟩

theorem z_c_slices_insertionSortOrdered_int__1 (L : List Int) (nL : Nat) (hbdL : (nL : Int) ≤ 9223372036854775807) (hleL : nL = L.length) (a : Int) (b : Int) (hp0 : a = 0) (hp1 : b = (nL : Int)) : 0 ≤ nL := by
  omega
theorem z_c_slices_insertionSortOrdered_int__2 (L : List Int) (nL : Nat) (hbdL : (nL : Int) ≤ 9223372036854775807) (hleL : nL = L.length) (a : Int) (b : Int) (hp0 : a = 0) (hp1 : b = (nL : Int)) : L = sortI (L.take (0 + 1)) ++ L.drop (0 + 1) := by
  exact sort_one L
theorem z_c_slices_insertionSortOrdered_int__10 (L : List Int) (nL : Nat) (hbdL : (nL : Int) ≤ 9223372036854775807) (hleL : nL = L.length) (a : Int) (b : Int) (hp0 : a = 0) (hp1 : b = (nL : Int)) (m : Nat) (hi8 : m ≤ nL) (h9 : ((m : Int) + 1) < b) : m + 1 ≤ m + 1 ∧ ∀ x ∈ (sortI (L.take (m + 1))).drop (m + 1), (gt L (m + 1)) < x := by
  subst hleL
  refine ⟨Nat.le_refl _, ?_⟩
  rw [List.drop_of_length_le (by rw [sort_tk (by omega)]; exact Nat.le_refl _)]; simp
theorem z_c_slices_insertionSortOrdered_int__11 (L : List Int) (nL : Nat) (hbdL : (nL : Int) ≤ 9223372036854775807) (hleL : nL = L.length) (a : Int) (b : Int) (hp0 : a = 0) (hp1 : b = (nL : Int)) (m : Nat) (hi8 : m ≤ nL) (h9 : ((m : Int) + 1) < b) : sortI (L.take (m + 1)) ++ L.drop (m + 1) = (sortI (L.take (m + 1))).take (m + 1) ++ (gt L (m + 1)) :: (sortI (L.take (m + 1))).drop (m + 1) ++ L.drop (m + 1 + 1) := by
  subst hleL
  exact sort_in (by omega)
theorem z_c_slices_insertionSortOrdered_int__183 (L : List Int) (nL : Nat) (hbdL : (nL : Int) ≤ 9223372036854775807) (hleL : nL = L.length) (a : Int) (b : Int) (hp0 : a = 0) (hp1 : b = (nL : Int)) (m : Nat) (hi8 : m ≤ nL) (h9 : ((m : Int) + 1) < b) (j : Nat) (hi17 : j ≤ m + 1 ∧ ∀ x ∈ (sortI (L.take (m + 1))).drop j, (gt L (m + 1)) < x) (h34 : (a < (j : Int)) ∧ ((gt ((sortI (L.take (m + 1))).take j ++ (gt L (m + 1)) :: (sortI (L.take (m + 1))).drop j ++ L.drop (m + 1 + 1)) j) < (gt ((sortI (L.take (m + 1))).take j ++ (gt L (m + 1)) :: (sortI (L.take (m + 1))).drop j ++ L.drop (m + 1 + 1)) (j - 1)))) (hq35 : a < (j : Int)) (hq36 : (gt ((sortI (L.take (m + 1))).take j ++ (gt L (m + 1)) :: (sortI (L.take (m + 1))).drop j ++ L.drop (m + 1 + 1)) j) < (gt ((sortI (L.take (m + 1))).take j ++ (gt L (m + 1)) :: (sortI (L.take (m + 1))).drop j ++ L.drop (m + 1 + 1)) (j - 1))) (hx58 : ((sortI (L.take (m + 1))).take j ++ (gt L (m + 1)) :: (sortI (L.take (m + 1))).drop j ++ L.drop (m + 1 + 1))[j - 1]? = some (gt ((sortI (L.take (m + 1))).take j ++ (gt L (m + 1)) :: (sortI (L.take (m + 1))).drop j ++ L.drop (m + 1 + 1)) (j - 1))) (hx61 : ((sortI (L.take (m + 1))).take j ++ (gt L (m + 1)) :: (sortI (L.take (m + 1))).drop j ++ L.drop (m + 1 + 1))[j]? = some (gt ((sortI (L.take (m + 1))).take j ++ (gt L (m + 1)) :: (sortI (L.take (m + 1))).drop j ++ L.drop (m + 1 + 1)) j)) : (((sortI (L.take (m + 1))).take j ++ (gt L (m + 1)) :: (sortI (L.take (m + 1))).drop j ++ L.drop (m + 1 + 1)).set ((j : Int).toNat) (gt ((sortI (L.take (m + 1))).take j ++ (gt L (m + 1)) :: (sortI (L.take (m + 1))).drop j ++ L.drop (m + 1 + 1)) (j - 1))).set (((j : Int) - 1).toNat) (gt ((sortI (L.take (m + 1))).take j ++ (gt L (m + 1)) :: (sortI (L.take (m + 1))).drop j ++ L.drop (m + 1 + 1)) j) = (sortI (L.take (m + 1))).take (j - 1) ++ (gt L (m + 1)) :: (sortI (L.take (m + 1))).drop (j - 1) ++ L.drop (m + 1 + 1) := by
  subst hleL hp0
  try simp only [Int.toNat_natCast, show ((j : Int) - 1).toNat = j - 1 from by omega] at *
  exact sort_swap (by omega) (by rw [sort_tk (by omega)]; omega)
theorem z_c_slices_insertionSortOrdered_int__184 (L : List Int) (nL : Nat) (hbdL : (nL : Int) ≤ 9223372036854775807) (hleL : nL = L.length) (a : Int) (b : Int) (hp0 : a = 0) (hp1 : b = (nL : Int)) (m : Nat) (hi8 : m ≤ nL) (h9 : ((m : Int) + 1) < b) (j : Nat) (hi17 : j ≤ m + 1 ∧ ∀ x ∈ (sortI (L.take (m + 1))).drop j, (gt L (m + 1)) < x) (h34 : (a < (j : Int)) ∧ ((gt ((sortI (L.take (m + 1))).take j ++ (gt L (m + 1)) :: (sortI (L.take (m + 1))).drop j ++ L.drop (m + 1 + 1)) j) < (gt ((sortI (L.take (m + 1))).take j ++ (gt L (m + 1)) :: (sortI (L.take (m + 1))).drop j ++ L.drop (m + 1 + 1)) (j - 1)))) (hq35 : a < (j : Int)) (hq36 : (gt ((sortI (L.take (m + 1))).take j ++ (gt L (m + 1)) :: (sortI (L.take (m + 1))).drop j ++ L.drop (m + 1 + 1)) j) < (gt ((sortI (L.take (m + 1))).take j ++ (gt L (m + 1)) :: (sortI (L.take (m + 1))).drop j ++ L.drop (m + 1 + 1)) (j - 1))) (hx58 : ((sortI (L.take (m + 1))).take j ++ (gt L (m + 1)) :: (sortI (L.take (m + 1))).drop j ++ L.drop (m + 1 + 1))[j - 1]? = some (gt ((sortI (L.take (m + 1))).take j ++ (gt L (m + 1)) :: (sortI (L.take (m + 1))).drop j ++ L.drop (m + 1 + 1)) (j - 1))) (hx61 : ((sortI (L.take (m + 1))).take j ++ (gt L (m + 1)) :: (sortI (L.take (m + 1))).drop j ++ L.drop (m + 1 + 1))[j]? = some (gt ((sortI (L.take (m + 1))).take j ++ (gt L (m + 1)) :: (sortI (L.take (m + 1))).drop j ++ L.drop (m + 1 + 1)) j)) : j - 1 ≤ m + 1 ∧ ∀ x ∈ (sortI (L.take (m + 1))).drop (j - 1), (gt L (m + 1)) < x := by
  subst hleL hp0
  have hj := ‹j ≤ m + 1 ∧ ∀ x ∈ _, _ < x›
  try simp only [Int.toNat_natCast, show ((j : Int) - 1).toNat = j - 1 from by omega] at *
  exact ⟨by omega, sort_inv (by omega) (by rw [sort_tk (by omega)]; omega) hj.2 (And.right ‹_ ∧ gt _ _ < gt _ _›)⟩
theorem z_c_slices_insertionSortOrdered_int__185 (L : List Int) (nL : Nat) (hbdL : (nL : Int) ≤ 9223372036854775807) (hleL : nL = L.length) (a : Int) (b : Int) (hp0 : a = 0) (hp1 : b = (nL : Int)) (m : Nat) (hi8 : m ≤ nL) (h9 : ((m : Int) + 1) < b) (j : Nat) (hi17 : j ≤ m + 1 ∧ ∀ x ∈ (sortI (L.take (m + 1))).drop j, (gt L (m + 1)) < x) (h34 : (a < (j : Int)) ∧ ((gt ((sortI (L.take (m + 1))).take j ++ (gt L (m + 1)) :: (sortI (L.take (m + 1))).drop j ++ L.drop (m + 1 + 1)) j) < (gt ((sortI (L.take (m + 1))).take j ++ (gt L (m + 1)) :: (sortI (L.take (m + 1))).drop j ++ L.drop (m + 1 + 1)) (j - 1)))) (hq35 : a < (j : Int)) (hq36 : (gt ((sortI (L.take (m + 1))).take j ++ (gt L (m + 1)) :: (sortI (L.take (m + 1))).drop j ++ L.drop (m + 1 + 1)) j) < (gt ((sortI (L.take (m + 1))).take j ++ (gt L (m + 1)) :: (sortI (L.take (m + 1))).drop j ++ L.drop (m + 1 + 1)) (j - 1))) (hx58 : ((sortI (L.take (m + 1))).take j ++ (gt L (m + 1)) :: (sortI (L.take (m + 1))).drop j ++ L.drop (m + 1 + 1))[j - 1]? = some (gt ((sortI (L.take (m + 1))).take j ++ (gt L (m + 1)) :: (sortI (L.take (m + 1))).drop j ++ L.drop (m + 1 + 1)) (j - 1))) (hx61 : ((sortI (L.take (m + 1))).take j ++ (gt L (m + 1)) :: (sortI (L.take (m + 1))).drop j ++ L.drop (m + 1 + 1))[j]? = some (gt ((sortI (L.take (m + 1))).take j ++ (gt L (m + 1)) :: (sortI (L.take (m + 1))).drop j ++ L.drop (m + 1 + 1)) j)) : (j - 1) < j := by
  omega
theorem z_c_slices_insertionSortOrdered_int__186 (L : List Int) (nL : Nat) (hbdL : (nL : Int) ≤ 9223372036854775807) (hleL : nL = L.length) (a : Int) (b : Int) (hp0 : a = 0) (hp1 : b = (nL : Int)) (m : Nat) (hi8 : m ≤ nL) (h9 : ((m : Int) + 1) < b) (j : Nat) (hi17 : j ≤ m + 1 ∧ ∀ x ∈ (sortI (L.take (m + 1))).drop j, (gt L (m + 1)) < x) (h34 : ¬ ((a < (j : Int)) ∧ ((gt ((sortI (L.take (m + 1))).take j ++ (gt L (m + 1)) :: (sortI (L.take (m + 1))).drop j ++ L.drop (m + 1 + 1)) j) < (gt ((sortI (L.take (m + 1))).take j ++ (gt L (m + 1)) :: (sortI (L.take (m + 1))).drop j ++ L.drop (m + 1 + 1)) (j - 1))))) : (sortI (L.take (m + 1))).take j ++ (gt L (m + 1)) :: (sortI (L.take (m + 1))).drop j ++ L.drop (m + 1 + 1) = sortI (L.take (m + 1 + 1)) ++ L.drop (m + 1 + 1) := by
  subst hleL hp0
  have hj := ‹j ≤ m + 1 ∧ ∀ x ∈ _, _ < x›
  try simp only [Int.toNat_natCast, show ((j : Int) - 1).toNat = j - 1 from by omega] at *
  exact sort_out (by omega) hj.1 hj.2 ‹¬ (_ ∧ _)›
theorem z_c_slices_insertionSortOrdered_int__187 (L : List Int) (nL : Nat) (hbdL : (nL : Int) ≤ 9223372036854775807) (hleL : nL = L.length) (a : Int) (b : Int) (hp0 : a = 0) (hp1 : b = (nL : Int)) (m : Nat) (hi8 : m ≤ nL) (h9 : ((m : Int) + 1) < b) (j : Nat) (hi17 : j ≤ m + 1 ∧ ∀ x ∈ (sortI (L.take (m + 1))).drop j, (gt L (m + 1)) < x) (h34 : ¬ ((a < (j : Int)) ∧ ((gt ((sortI (L.take (m + 1))).take j ++ (gt L (m + 1)) :: (sortI (L.take (m + 1))).drop j ++ L.drop (m + 1 + 1)) j) < (gt ((sortI (L.take (m + 1))).take j ++ (gt L (m + 1)) :: (sortI (L.take (m + 1))).drop j ++ L.drop (m + 1 + 1)) (j - 1))))) : m + 1 ≤ nL := by
  omega
theorem z_c_slices_insertionSortOrdered_int__188 (L : List Int) (nL : Nat) (hbdL : (nL : Int) ≤ 9223372036854775807) (hleL : nL = L.length) (a : Int) (b : Int) (hp0 : a = 0) (hp1 : b = (nL : Int)) (m : Nat) (hi8 : m ≤ nL) (h9 : ((m : Int) + 1) < b) (j : Nat) (hi17 : j ≤ m + 1 ∧ ∀ x ∈ (sortI (L.take (m + 1))).drop j, (gt L (m + 1)) < x) (h34 : ¬ ((a < (j : Int)) ∧ ((gt ((sortI (L.take (m + 1))).take j ++ (gt L (m + 1)) :: (sortI (L.take (m + 1))).drop j ++ L.drop (m + 1 + 1)) j) < (gt ((sortI (L.take (m + 1))).take j ++ (gt L (m + 1)) :: (sortI (L.take (m + 1))).drop j ++ L.drop (m + 1 + 1)) (j - 1))))) : nL - (m + 1) < nL - m := by
  omega
theorem z_c_slices_insertionSortOrdered_int__189 (L : List Int) (nL : Nat) (hbdL : (nL : Int) ≤ 9223372036854775807) (hleL : nL = L.length) (a : Int) (b : Int) (hp0 : a = 0) (hp1 : b = (nL : Int)) (m : Nat) (hi8 : m ≤ nL) (h9 : ¬ (((m : Int) + 1) < b)) : sortI (L.take (m + 1)) ++ L.drop (m + 1) = sortI L := by
  subst hleL
  exact sort_end (by omega)
theorem c_slices_insertionSortOrdered_int_ (w : World) {AL : Option Addr} {nL cL BL : Nat}  (L : List Int) (hL : SlO w BL encI 1 3 AL nL cL L) (a : Int) (b : Int) (hp0 : a = 0) (hp1 : b = (nL : Int)) : Calls Tryz.prog 76 #[.slice AL nL cL, .int .i64 a, .int .i64 b] w fun e w' => e = .returned (.tuple #[]) ∧ SlO w' BL encI 1 3 AL nL cL (sortI L) ∧ Kp (fun b_ => AL = some ⟨b_, 0, none⟩) w w' := by
  refine calls_W 49 Tryz.func76 rfl rfl rfl ?_
  have hbdL := hL.rd.bound
  have hleL := hL.len
  have hBbL := hL.bd
  refine W.seq ?_
  refine W.regS (SR.q' (r_mv (v := .int .i64 _) rfl) <| SR.q' (r_add rfl rfl (by omega)) <| SR.q' (r_as (v := .int .i64 _) rfl) <| SR.nil ?_)
  refine W.block ?_
  refine W.loop (σ := Nat) (fun g => [(0, .slice AL nL cL), (1, .int .i64 a), (2, .int .i64 b), (6, .int .i64 ((g : Int) + 1))]) (fun g w' => (Kp (fun b_ => AL = some ⟨b_, 0, none⟩) w w') ∧ (SlO w' BL encI 1 3 AL nL cL (sortI (L.take (g + 1)) ++ L.drop (g + 1))) ∧ (g ≤ nL)) (fun g => nL - g) 0 ?_ ?_ ?_
  · exact ⟨rfl, rfl, rfl, (eI (by first | omega | (dsimp only; omega))), trivial⟩
  · exact ⟨(Kp.refl w : Kp (fun b_ => AL = some ⟨b_, 0, none⟩) w w), (SlO.eqv (hL) (z_c_slices_insertionSortOrdered_int__2 L nL hbdL hleL a b hp0 hp1)), (z_c_slices_insertionSortOrdered_int__1 L nL hbdL hleL a b hp0 hp1)⟩
  · rintro m f3 w4 hP6
    obtain ⟨hB5, hm7, hi8⟩ : (Kp (fun b_ => AL = some ⟨b_, 0, none⟩) w w4) ∧ (SlO w4 BL encI 1 3 AL nL cL (sortI (L.take (m + 1)) ++ L.drop (m + 1))) ∧ (m ≤ nL) := hP6
    refine (?_ : W _ _ _ _ _ (act _ (sets f3 [(0, .slice AL nL cL), (1, .int .i64 a), (2, .int .i64 b), (6, .int .i64 ((m : Int) + 1))])) _)
    have hzw4 := hB5.size
    refine W.seq ?_
    refine W.seq ?_
    refine W.regS (SR.q' (r_mv (v := .int .i64 _) rfl) <| SR.q' (r_mv (v := .int .i64 _) rfl) <| SR.q' (r_lt rfl rfl) <| SR.nil ?_)
    refine W.cond_d rfl (fun h9 => ?_) (fun h9 => ?_)
    · refine W.skip ?_
      refine W.seq ?_
      refine W.block ?_
      refine W.seq ?_
      refine W.regS (SR.q' (r_mv (v := .int .i64 _) rfl) <| SR.q' (r_as (v := .int .i64 _) rfl) <| SR.nil ?_)
      refine W.block ?_
      refine W.loop (σ := Nat) (fun g => [(0, .slice AL nL cL), (1, .int .i64 a), (2, .int .i64 b), (6, .int .i64 ((m : Int) + 1)), (7, .int .i64 (g : Int))]) (fun g w' => (Kp (fun b_ => AL = some ⟨b_, 0, none⟩) w w') ∧ (SlO w' BL encI 1 3 AL nL cL ((sortI (L.take (m + 1))).take g ++ (gt L (m + 1)) :: (sortI (L.take (m + 1))).drop g ++ L.drop (m + 1 + 1))) ∧ (g ≤ m + 1 ∧ ∀ x ∈ (sortI (L.take (m + 1))).drop g, (gt L (m + 1)) < x)) (fun g => g) (m + 1) ?_ ?_ ?_
      · exact ⟨rfl, rfl, rfl, rfl, (eI (by first | omega | (dsimp only; omega))), trivial⟩
      · exact ⟨hB5, (SlO.eqv (hm7) (z_c_slices_insertionSortOrdered_int__11 L nL hbdL hleL a b hp0 hp1 m hi8 h9)), (z_c_slices_insertionSortOrdered_int__10 L nL hbdL hleL a b hp0 hp1 m hi8 h9)⟩
      · rintro j f12 w13 hP15
        obtain ⟨hB14, hm16, hi17⟩ : (Kp (fun b_ => AL = some ⟨b_, 0, none⟩) w w13) ∧ (SlO w13 BL encI 1 3 AL nL cL ((sortI (L.take (m + 1))).take j ++ (gt L (m + 1)) :: (sortI (L.take (m + 1))).drop j ++ L.drop (m + 1 + 1))) ∧ (j ≤ m + 1 ∧ ∀ x ∈ (sortI (L.take (m + 1))).drop j, (gt L (m + 1)) < x) := hP15
        refine (?_ : W _ _ _ _ _ (act _ (sets f12 [(0, .slice AL nL cL), (1, .int .i64 a), (2, .int .i64 b), (6, .int .i64 ((m : Int) + 1)), (7, .int .i64 (j : Int))])) _)
        have hzw13 := hB14.size
        refine W.seq ?_
        refine W.seq ?_
        refine W.regJD mo (by kernel_rfl) (fun f' w' => At f' [(0, .slice AL nL cL), (1, .int .i64 a), (2, .int .i64 b), (6, .int .i64 ((m : Int) + 1)), (7, .int .i64 (j : Int)), (30, .bool (decide ((a < (j : Int)) ∧ ((gt ((sortI (L.take (m + 1))).take j ++ (gt L (m + 1)) :: (sortI (L.take (m + 1))).drop j ++ L.drop (m + 1 + 1)) j) < (gt ((sortI (L.take (m + 1))).take j ++ (gt L (m + 1)) :: (sortI (L.take (m + 1))).drop j ++ L.drop (m + 1 + 1)) (j - 1))))))] ∧ Lo w13 w') ?_ ?_
        · refine QR.q' (fun w' hw' => r_mv (v := .int .i64 _) rfl) <| QR.q' (fun w' hw' => r_mv (v := .int .i64 _) rfl) <| QR.q' (fun w' hw' => r_gt rfl rfl) <| QR.q' (fun w' hw' => r_mv (v := .bool _) rfl) <| QR.splitD (fun h18 => ?_) (fun h18 => ?_)
          · refine QR.g' rfl (fun w' hw' => r_mv (v := .slice _ _ _) rfl) <| QR.g' rfl (fun w' hw' => r_mv (v := .int .i64 _) rfl) <| ?_
            have hx20 := ((hm16).rd).elem (i := j) (by omega)
            refine QR.g' rfl (fun w' hw' => r_ixR tsl27 (((hm16).lo hw').rd) rfl rfl (by omega)) <| QR.g' rfl (fun w' hw' => r_ld (v := .int .i64 (gt ((sortI (L.take (m + 1))).take j ++ (gt L (m + 1)) :: (sortI (L.take (m + 1))).drop j ++ L.drop (m + 1 + 1)) j)) sca3 rfl ((((hm16).lo hw').rd).cell0 hx20 rfl)) <| QR.g' rfl (fun w' hw' => r_mv (v := .slice _ _ _) rfl) <| QR.g' rfl (fun w' hw' => r_mv (v := .int .i64 _) rfl) <| QR.g' rfl (fun w' hw' => r_sub rfl rfl (by omega)) <| ?_
            have hx22 := ((hm16).rd).elem (i := ((j : Int) - 1).toNat) (by omega)
            rw [show ((j : Int) - 1).toNat = j - 1 from by omega] at hx22
            have hx23 : ((sortI (L.take (m + 1))).take j ++ (gt L (m + 1)) :: (sortI (L.take (m + 1))).drop j ++ L.drop (m + 1 + 1))[((j : Int) - 1).toNat]? = some (gt ((sortI (L.take (m + 1))).take j ++ (gt L (m + 1)) :: (sortI (L.take (m + 1))).drop j ++ L.drop (m + 1 + 1)) (j - 1)) := (show ((j : Int) - 1).toNat = j - 1 from by omega) ▸ hx22
            refine QR.g' rfl (fun w' hw' => r_ixR tsl27 (((hm16).lo hw').rd) rfl rfl (by omega)) <| QR.g' rfl (fun w' hw' => r_ld (v := .int .i64 (gt ((sortI (L.take (m + 1))).take j ++ (gt L (m + 1)) :: (sortI (L.take (m + 1))).drop j ++ L.drop (m + 1 + 1)) (j - 1))) sca3 rfl ((((hm16).lo hw').rd).cell0 hx23 rfl)) <| QR.gcall rfl ent82 (fun w' hw' => (c_cmp_Less_int_ w' (gt ((sortI (L.take (m + 1))).take j ++ (gt L (m + 1)) :: (sortI (L.take (m + 1))).drop j ++ L.drop (m + 1 + 1)) j) (gt ((sortI (L.take (m + 1))).take j ++ (gt L (m + 1)) :: (sortI (L.take (m + 1))).drop j ++ L.drop (m + 1 + 1)) (j - 1))).mono fun _ _ h => ⟨h.1, hw'.trans h.2⟩) rfl <| QR.q' (fun w' hw' => r_pick true rfl (v := .bool _) rfl) <| QR.nil ?_
            intro w24 hk25
            exact ⟨⟨rfl, rfl, rfl, rfl, rfl, (eDD (jat h18)), trivial⟩, hk25⟩
          · refine QR.s' rfl <| QR.s' rfl <| QR.s' rfl <| QR.s' rfl <| QR.s' rfl <| QR.s' rfl <| QR.s' rfl <| QR.s' rfl <| QR.s' rfl <| QR.s' rfl <| QR.q' (fun w' hw' => r_pick false rfl (v := .bool false) rfl) <| QR.nil ?_
            intro w26 hk27
            exact ⟨⟨rfl, rfl, rfl, rfl, rfl, (eDF (jaf h18).2), trivial⟩, hk27⟩
        rintro f28 w29 ⟨hat30, hk31⟩
        rw [← sets_of_at hat30]
        have hz32 := hk31.size
        have hB33 := hB14.lo hk31
        refine W.cond_d rfl (fun h34 => ?_) (fun h34 => ?_)
        · have hq35 : a < (j : Int) := h34.1
          have hq36 : (gt ((sortI (L.take (m + 1))).take j ++ (gt L (m + 1)) :: (sortI (L.take (m + 1))).drop j ++ L.drop (m + 1 + 1)) j) < (gt ((sortI (L.take (m + 1))).take j ++ (gt L (m + 1)) :: (sortI (L.take (m + 1))).drop j ++ L.drop (m + 1 + 1)) (j - 1)) := h34.2
          refine W.skip ?_
          refine W.seq ?_
          refine W.block ?_
          refine W.regA (Kp (fun b_ => AL = some ⟨b_, 0, none⟩) w29) (fun f' w' => At f' [(0, .slice AL nL cL), (1, .int .i64 a), (2, .int .i64 b), (6, .int .i64 ((m : Int) + 1)), (7, .int .i64 (j : Int))] ∧ (Kp (fun b_ => AL = some ⟨b_, 0, none⟩) w29 w') ∧ (SlO w' BL encI 1 3 AL nL cL ((((sortI (L.take (m + 1))).take j ++ (gt L (m + 1)) :: (sortI (L.take (m + 1))).drop j ++ L.drop (m + 1 + 1)).set ((j : Int).toNat) (gt ((sortI (L.take (m + 1))).take j ++ (gt L (m + 1)) :: (sortI (L.take (m + 1))).drop j ++ L.drop (m + 1 + 1)) (j - 1))).set (((j : Int) - 1).toNat) (gt ((sortI (L.take (m + 1))).take j ++ (gt L (m + 1)) :: (sortI (L.take (m + 1))).drop j ++ L.drop (m + 1 + 1)) j))) ∧ (((sortI (L.take (m + 1))).take j ++ (gt L (m + 1)) :: (sortI (L.take (m + 1))).drop j ++ L.drop (m + 1 + 1))[j - 1]? = some (gt ((sortI (L.take (m + 1))).take j ++ (gt L (m + 1)) :: (sortI (L.take (m + 1))).drop j ++ L.drop (m + 1 + 1)) (j - 1))) ∧ (((sortI (L.take (m + 1))).take j ++ (gt L (m + 1)) :: (sortI (L.take (m + 1))).drop j ++ L.drop (m + 1 + 1))[j]? = some (gt ((sortI (L.take (m + 1))).take j ++ (gt L (m + 1)) :: (sortI (L.take (m + 1))).drop j ++ L.drop (m + 1 + 1)) j))) mo ?_ ?_
          · intro w53 hk54
            have hz55 := hk54.size
            have hB56 := hB33.lo hk54
            refine AH.take 0 rfl (by kernel_rfl) trivial ((Kp.refl w29 : Kp (fun b_ => AL = some ⟨b_, 0, none⟩) w29 w29).lo hk54) (fun w' hw' => r_mv (v := .slice _ _ _) rfl) <| AH.take 1 rfl (by kernel_rfl) trivial ((Kp.refl w29 : Kp (fun b_ => AL = some ⟨b_, 0, none⟩) w29 w29).lo hk54) (fun w' hw' => r_mv (v := .int .i64 _) rfl) <| AH.take 2 rfl (by kernel_rfl) trivial ((Kp.refl w29 : Kp (fun b_ => AL = some ⟨b_, 0, none⟩) w29 w29).lo hk54) (fun w' hw' => r_mv (v := .slice _ _ _) rfl) <| AH.take 3 rfl (by kernel_rfl) trivial ((Kp.refl w29 : Kp (fun b_ => AL = some ⟨b_, 0, none⟩) w29 w29).lo hk54) (fun w' hw' => r_mv (v := .int .i64 _) rfl) <| AH.take 4 rfl (by kernel_rfl) trivial ((Kp.refl w29 : Kp (fun b_ => AL = some ⟨b_, 0, none⟩) w29 w29).lo hk54) (fun w' hw' => r_sub rfl rfl (by omega)) <| AH.take 5 rfl (by kernel_rfl) trivial ((Kp.refl w29 : Kp (fun b_ => AL = some ⟨b_, 0, none⟩) w29 w29).lo hk54) (fun w' hw' => r_mv (v := .slice _ _ _) rfl) <| AH.take 6 rfl (by kernel_rfl) trivial ((Kp.refl w29 : Kp (fun b_ => AL = some ⟨b_, 0, none⟩) w29 w29).lo hk54) (fun w' hw' => r_mv (v := .int .i64 _) rfl) <| AH.take 7 rfl (by kernel_rfl) trivial ((Kp.refl w29 : Kp (fun b_ => AL = some ⟨b_, 0, none⟩) w29 w29).lo hk54) (fun w' hw' => r_sub rfl rfl (by omega)) <| ?_
            have hx58 := ((((hm16).lo hk31).lo hk54).rd).elem (i := ((j : Int) - 1).toNat) (by omega)
            rw [show ((j : Int) - 1).toNat = j - 1 from by omega] at hx58
            have hx59 : ((sortI (L.take (m + 1))).take j ++ (gt L (m + 1)) :: (sortI (L.take (m + 1))).drop j ++ L.drop (m + 1 + 1))[((j : Int) - 1).toNat]? = some (gt ((sortI (L.take (m + 1))).take j ++ (gt L (m + 1)) :: (sortI (L.take (m + 1))).drop j ++ L.drop (m + 1 + 1)) (j - 1)) := (show ((j : Int) - 1).toNat = j - 1 from by omega) ▸ hx58
            refine AH.take 10 rfl (by kernel_rfl) trivial ((Kp.refl w29 : Kp (fun b_ => AL = some ⟨b_, 0, none⟩) w29 w29).lo hk54) (fun w' hw' => r_mv (v := .slice _ _ _) rfl) <| AH.take 11 rfl (by kernel_rfl) trivial ((Kp.refl w29 : Kp (fun b_ => AL = some ⟨b_, 0, none⟩) w29 w29).lo hk54) (fun w' hw' => r_mv (v := .int .i64 _) rfl) <| ?_
            have hx61 := ((((hm16).lo hk31).lo hk54).rd).elem (i := j) (by omega)
            refine AH.br [8, 12] (by kernel_rfl) rfl ⟨Br.mk' rfl trivial ?_, Br.mk' rfl trivial ?_, trivial⟩
            · refine SR.q' (r_ixR tsl27 ((((hm16).lo hk31).lo hk54).rd) rfl rfl (by omega)) ?_
              refine SR.nil ⟨(Kp.refl w29 : Kp (fun b_ => AL = some ⟨b_, 0, none⟩) w29 w29).lo hk54, _, rfl, ?_⟩
              refine AH.br [9, 12] (by kernel_rfl) rfl ⟨Br.mk' rfl trivial ?_, Br.mk' rfl trivial ?_, trivial⟩
              · refine SR.q' (r_ld (v := .int .i64 (gt ((sortI (L.take (m + 1))).take j ++ (gt L (m + 1)) :: (sortI (L.take (m + 1))).drop j ++ L.drop (m + 1 + 1)) (j - 1))) sca3 rfl (((((hm16).lo hk31).lo hk54).rd).cell0 hx59 rfl)) ?_
                refine SR.nil ⟨(Kp.refl w29 : Kp (fun b_ => AL = some ⟨b_, 0, none⟩) w29 w29).lo hk54, _, rfl, ?_⟩
                refine AH.br [12] (by kernel_rfl) rfl ⟨Br.mk' rfl trivial ?_, trivial⟩
                refine SR.q' (r_ixR tsl27 ((((hm16).lo hk31).lo hk54).rd) rfl rfl (by omega)) ?_
                refine SR.nil ⟨(Kp.refl w29 : Kp (fun b_ => AL = some ⟨b_, 0, none⟩) w29 w29).lo hk54, _, rfl, ?_⟩
                refine AH.br [13] (by kernel_rfl) rfl ⟨Br.mk' rfl trivial ?_, trivial⟩
                refine SR.q' (r_ld (v := .int .i64 (gt ((sortI (L.take (m + 1))).take j ++ (gt L (m + 1)) :: (sortI (L.take (m + 1))).drop j ++ L.drop (m + 1 + 1)) j)) sca3 rfl (((((hm16).lo hk31).lo hk54).rd).cell0 hx61 rfl)) ?_
                refine SR.nil ⟨(Kp.refl w29 : Kp (fun b_ => AL = some ⟨b_, 0, none⟩) w29 w29).lo hk54, _, rfl, ?_⟩
                refine AH.br [14] (by kernel_rfl) rfl ⟨Br.mk' rfl trivial ?_, trivial⟩
                refine SR.q' (r_ixR tsl27 ((((hm16).lo hk31).lo hk54).rd) rfl rfl (by omega)) ?_
                refine SR.nil ⟨(Kp.refl w29 : Kp (fun b_ => AL = some ⟨b_, 0, none⟩) w29 w29).lo hk54, _, rfl, ?_⟩
                refine AH.br [15] (by kernel_rfl) rfl ⟨Br.mk' rfl trivial ?_, trivial⟩
                refine SR.storeO (o := 0) (vs := [.int .i64 (gt ((sortI (L.take (m + 1))).take j ++ (gt L (m + 1)) :: (sortI (L.take (m + 1))).drop j ++ L.drop (m + 1 + 1)) (j - 1))]) (x1 := (gt ((sortI (L.take (m + 1))).take j ++ (gt L (m + 1)) :: (sortI (L.take (m + 1))).drop j ++ L.drop (m + 1 + 1)) (j - 1))) sca3.2 rfl rfl rfl rfl (((hm16).lo hk31).lo hk54) hx61 rfl (Nat.le_of_ble_eq_true rfl) rfl ?_
                intro w62 hk63 hs64 hO65
                have hz66 := hk63.size
                have hB67 := hB56.step hk63 (fun i_ hi_ e' => by have := ((((hm16).lo hk31).lo hk54)).base_le e'; first | omega | (exfalso; omega) | exact e' | exact .inl e' | exact .inr e')
                have hS68 := ((Kp.refl w29 : Kp (fun b_ => AL = some ⟨b_, 0, none⟩) w29 w29).lo hk54).step hk63 (fun _ _ e => e)
                have hx69 : (((sortI (L.take (m + 1))).take j ++ (gt L (m + 1)) :: (sortI (L.take (m + 1))).drop j ++ L.drop (m + 1 + 1)).set ((j : Int).toNat) (gt ((sortI (L.take (m + 1))).take j ++ (gt L (m + 1)) :: (sortI (L.take (m + 1))).drop j ++ L.drop (m + 1 + 1)) (j - 1)))[(j : Int).toNat]? = some ((gt ((sortI (L.take (m + 1))).take j ++ (gt L (m + 1)) :: (sortI (L.take (m + 1))).drop j ++ L.drop (m + 1 + 1)) (j - 1))) := List.getElem?_set_self (List.getElem?_eq_some_iff.1 hx61).1
                refine SR.nil ⟨hS68, _, rfl, ?_⟩
                have hx71 := ((hO65).rd).elem (i := ((j : Int) - 1).toNat) (by omega)
                rw [show ((j : Int) - 1).toNat = j - 1 from by omega] at hx71
                have hx72 : (((sortI (L.take (m + 1))).take j ++ (gt L (m + 1)) :: (sortI (L.take (m + 1))).drop j ++ L.drop (m + 1 + 1)).set ((j : Int).toNat) (gt ((sortI (L.take (m + 1))).take j ++ (gt L (m + 1)) :: (sortI (L.take (m + 1))).drop j ++ L.drop (m + 1 + 1)) (j - 1)))[((j : Int) - 1).toNat]? = some (gt (((sortI (L.take (m + 1))).take j ++ (gt L (m + 1)) :: (sortI (L.take (m + 1))).drop j ++ L.drop (m + 1 + 1)).set ((j : Int).toNat) (gt ((sortI (L.take (m + 1))).take j ++ (gt L (m + 1)) :: (sortI (L.take (m + 1))).drop j ++ L.drop (m + 1 + 1)) (j - 1))) (j - 1)) := (show ((j : Int) - 1).toNat = j - 1 from by omega) ▸ hx71
                refine AH.br [16] (by kernel_rfl) rfl ⟨Br.mk' rfl trivial ?_, trivial⟩
                refine SR.q' (r_ixR tsl27 ((hO65).rd) rfl rfl (by omega)) ?_
                refine SR.nil ⟨hS68, _, rfl, ?_⟩
                refine AH.br [17] (by kernel_rfl) rfl ⟨Br.mk' rfl trivial ?_, trivial⟩
                refine SR.storeO (o := 0) (vs := [.int .i64 (gt ((sortI (L.take (m + 1))).take j ++ (gt L (m + 1)) :: (sortI (L.take (m + 1))).drop j ++ L.drop (m + 1 + 1)) j)]) (x1 := (gt ((sortI (L.take (m + 1))).take j ++ (gt L (m + 1)) :: (sortI (L.take (m + 1))).drop j ++ L.drop (m + 1 + 1)) j)) sca3.2 rfl rfl rfl rfl (hO65) hx72 rfl (Nat.le_of_ble_eq_true rfl) rfl ?_
                intro w73 hk74 hs75 hO76
                have hz77 := hk74.size
                have hB78 := hB67.step hk74 (fun i_ hi_ e' => by have := ((hO65)).base_le e'; first | omega | (exfalso; omega) | exact e' | exact .inl e' | exact .inr e')
                have hS79 := (hS68).step hk74 (fun _ _ e => e)
                have hx80 : ((((sortI (L.take (m + 1))).take j ++ (gt L (m + 1)) :: (sortI (L.take (m + 1))).drop j ++ L.drop (m + 1 + 1)).set ((j : Int).toNat) (gt ((sortI (L.take (m + 1))).take j ++ (gt L (m + 1)) :: (sortI (L.take (m + 1))).drop j ++ L.drop (m + 1 + 1)) (j - 1))).set (((j : Int) - 1).toNat) (gt ((sortI (L.take (m + 1))).take j ++ (gt L (m + 1)) :: (sortI (L.take (m + 1))).drop j ++ L.drop (m + 1 + 1)) j))[((j : Int) - 1).toNat]? = some ((gt ((sortI (L.take (m + 1))).take j ++ (gt L (m + 1)) :: (sortI (L.take (m + 1))).drop j ++ L.drop (m + 1 + 1)) j)) := List.getElem?_set_self (List.getElem?_eq_some_iff.1 hx72).1
                refine SR.nil ⟨hS79, _, rfl, ?_⟩
                refine AH.done (by kernel_rfl) ?_
                exact ⟨⟨rfl, rfl, rfl, rfl, rfl, trivial⟩, hS79, (hO76), hx58, hx61⟩
              · refine SR.q' (r_ixR tsl27 ((((hm16).lo hk31).lo hk54).rd) rfl rfl (by omega)) ?_
                refine SR.nil ⟨(Kp.refl w29 : Kp (fun b_ => AL = some ⟨b_, 0, none⟩) w29 w29).lo hk54, _, rfl, ?_⟩
                refine AH.br [9, 13] (by kernel_rfl) rfl ⟨Br.mk' rfl trivial ?_, Br.mk' rfl trivial ?_, trivial⟩
                · refine SR.q' (r_ld (v := .int .i64 (gt ((sortI (L.take (m + 1))).take j ++ (gt L (m + 1)) :: (sortI (L.take (m + 1))).drop j ++ L.drop (m + 1 + 1)) (j - 1))) sca3 rfl (((((hm16).lo hk31).lo hk54).rd).cell0 hx59 rfl)) ?_
                  refine SR.nil ⟨(Kp.refl w29 : Kp (fun b_ => AL = some ⟨b_, 0, none⟩) w29 w29).lo hk54, _, rfl, ?_⟩
                  refine AH.br [13] (by kernel_rfl) rfl ⟨Br.mk' rfl trivial ?_, trivial⟩
                  refine SR.q' (r_ld (v := .int .i64 (gt ((sortI (L.take (m + 1))).take j ++ (gt L (m + 1)) :: (sortI (L.take (m + 1))).drop j ++ L.drop (m + 1 + 1)) j)) sca3 rfl (((((hm16).lo hk31).lo hk54).rd).cell0 hx61 rfl)) ?_
                  refine SR.nil ⟨(Kp.refl w29 : Kp (fun b_ => AL = some ⟨b_, 0, none⟩) w29 w29).lo hk54, _, rfl, ?_⟩
                  refine AH.br [14] (by kernel_rfl) rfl ⟨Br.mk' rfl trivial ?_, trivial⟩
                  refine SR.q' (r_ixR tsl27 ((((hm16).lo hk31).lo hk54).rd) rfl rfl (by omega)) ?_
                  refine SR.nil ⟨(Kp.refl w29 : Kp (fun b_ => AL = some ⟨b_, 0, none⟩) w29 w29).lo hk54, _, rfl, ?_⟩
                  refine AH.br [15] (by kernel_rfl) rfl ⟨Br.mk' rfl trivial ?_, trivial⟩
                  refine SR.storeO (o := 0) (vs := [.int .i64 (gt ((sortI (L.take (m + 1))).take j ++ (gt L (m + 1)) :: (sortI (L.take (m + 1))).drop j ++ L.drop (m + 1 + 1)) (j - 1))]) (x1 := (gt ((sortI (L.take (m + 1))).take j ++ (gt L (m + 1)) :: (sortI (L.take (m + 1))).drop j ++ L.drop (m + 1 + 1)) (j - 1))) sca3.2 rfl rfl rfl rfl (((hm16).lo hk31).lo hk54) hx61 rfl (Nat.le_of_ble_eq_true rfl) rfl ?_
                  intro w82 hk83 hs84 hO85
                  have hz86 := hk83.size
                  have hB87 := hB56.step hk83 (fun i_ hi_ e' => by have := ((((hm16).lo hk31).lo hk54)).base_le e'; first | omega | (exfalso; omega) | exact e' | exact .inl e' | exact .inr e')
                  have hS88 := ((Kp.refl w29 : Kp (fun b_ => AL = some ⟨b_, 0, none⟩) w29 w29).lo hk54).step hk83 (fun _ _ e => e)
                  have hx89 : (((sortI (L.take (m + 1))).take j ++ (gt L (m + 1)) :: (sortI (L.take (m + 1))).drop j ++ L.drop (m + 1 + 1)).set ((j : Int).toNat) (gt ((sortI (L.take (m + 1))).take j ++ (gt L (m + 1)) :: (sortI (L.take (m + 1))).drop j ++ L.drop (m + 1 + 1)) (j - 1)))[(j : Int).toNat]? = some ((gt ((sortI (L.take (m + 1))).take j ++ (gt L (m + 1)) :: (sortI (L.take (m + 1))).drop j ++ L.drop (m + 1 + 1)) (j - 1))) := List.getElem?_set_self (List.getElem?_eq_some_iff.1 hx61).1
                  refine SR.nil ⟨hS88, _, rfl, ?_⟩
                  have hx91 := ((hO85).rd).elem (i := ((j : Int) - 1).toNat) (by omega)
                  rw [show ((j : Int) - 1).toNat = j - 1 from by omega] at hx91
                  have hx92 : (((sortI (L.take (m + 1))).take j ++ (gt L (m + 1)) :: (sortI (L.take (m + 1))).drop j ++ L.drop (m + 1 + 1)).set ((j : Int).toNat) (gt ((sortI (L.take (m + 1))).take j ++ (gt L (m + 1)) :: (sortI (L.take (m + 1))).drop j ++ L.drop (m + 1 + 1)) (j - 1)))[((j : Int) - 1).toNat]? = some (gt (((sortI (L.take (m + 1))).take j ++ (gt L (m + 1)) :: (sortI (L.take (m + 1))).drop j ++ L.drop (m + 1 + 1)).set ((j : Int).toNat) (gt ((sortI (L.take (m + 1))).take j ++ (gt L (m + 1)) :: (sortI (L.take (m + 1))).drop j ++ L.drop (m + 1 + 1)) (j - 1))) (j - 1)) := (show ((j : Int) - 1).toNat = j - 1 from by omega) ▸ hx91
                  refine AH.br [16] (by kernel_rfl) rfl ⟨Br.mk' rfl trivial ?_, trivial⟩
                  refine SR.q' (r_ixR tsl27 ((hO85).rd) rfl rfl (by omega)) ?_
                  refine SR.nil ⟨hS88, _, rfl, ?_⟩
                  refine AH.br [17] (by kernel_rfl) rfl ⟨Br.mk' rfl trivial ?_, trivial⟩
                  refine SR.storeO (o := 0) (vs := [.int .i64 (gt ((sortI (L.take (m + 1))).take j ++ (gt L (m + 1)) :: (sortI (L.take (m + 1))).drop j ++ L.drop (m + 1 + 1)) j)]) (x1 := (gt ((sortI (L.take (m + 1))).take j ++ (gt L (m + 1)) :: (sortI (L.take (m + 1))).drop j ++ L.drop (m + 1 + 1)) j)) sca3.2 rfl rfl rfl rfl (hO85) hx92 rfl (Nat.le_of_ble_eq_true rfl) rfl ?_
                  intro w93 hk94 hs95 hO96
                  have hz97 := hk94.size
                  have hB98 := hB87.step hk94 (fun i_ hi_ e' => by have := ((hO85)).base_le e'; first | omega | (exfalso; omega) | exact e' | exact .inl e' | exact .inr e')
                  have hS99 := (hS88).step hk94 (fun _ _ e => e)
                  have hx100 : ((((sortI (L.take (m + 1))).take j ++ (gt L (m + 1)) :: (sortI (L.take (m + 1))).drop j ++ L.drop (m + 1 + 1)).set ((j : Int).toNat) (gt ((sortI (L.take (m + 1))).take j ++ (gt L (m + 1)) :: (sortI (L.take (m + 1))).drop j ++ L.drop (m + 1 + 1)) (j - 1))).set (((j : Int) - 1).toNat) (gt ((sortI (L.take (m + 1))).take j ++ (gt L (m + 1)) :: (sortI (L.take (m + 1))).drop j ++ L.drop (m + 1 + 1)) j))[((j : Int) - 1).toNat]? = some ((gt ((sortI (L.take (m + 1))).take j ++ (gt L (m + 1)) :: (sortI (L.take (m + 1))).drop j ++ L.drop (m + 1 + 1)) j)) := List.getElem?_set_self (List.getElem?_eq_some_iff.1 hx92).1
                  refine SR.nil ⟨hS99, _, rfl, ?_⟩
                  refine AH.done (by kernel_rfl) ?_
                  exact ⟨⟨rfl, rfl, rfl, rfl, rfl, trivial⟩, hS99, (hO96), hx58, hx61⟩
                · refine SR.q' (r_ld (v := .int .i64 (gt ((sortI (L.take (m + 1))).take j ++ (gt L (m + 1)) :: (sortI (L.take (m + 1))).drop j ++ L.drop (m + 1 + 1)) j)) sca3 rfl (((((hm16).lo hk31).lo hk54).rd).cell0 hx61 rfl)) ?_
                  refine SR.nil ⟨(Kp.refl w29 : Kp (fun b_ => AL = some ⟨b_, 0, none⟩) w29 w29).lo hk54, _, rfl, ?_⟩
                  refine AH.br [9] (by kernel_rfl) rfl ⟨Br.mk' rfl trivial ?_, trivial⟩
                  refine SR.q' (r_ld (v := .int .i64 (gt ((sortI (L.take (m + 1))).take j ++ (gt L (m + 1)) :: (sortI (L.take (m + 1))).drop j ++ L.drop (m + 1 + 1)) (j - 1))) sca3 rfl (((((hm16).lo hk31).lo hk54).rd).cell0 hx59 rfl)) ?_
                  refine SR.nil ⟨(Kp.refl w29 : Kp (fun b_ => AL = some ⟨b_, 0, none⟩) w29 w29).lo hk54, _, rfl, ?_⟩
                  refine AH.br [14] (by kernel_rfl) rfl ⟨Br.mk' rfl trivial ?_, trivial⟩
                  refine SR.q' (r_ixR tsl27 ((((hm16).lo hk31).lo hk54).rd) rfl rfl (by omega)) ?_
                  refine SR.nil ⟨(Kp.refl w29 : Kp (fun b_ => AL = some ⟨b_, 0, none⟩) w29 w29).lo hk54, _, rfl, ?_⟩
                  refine AH.br [15] (by kernel_rfl) rfl ⟨Br.mk' rfl trivial ?_, trivial⟩
                  refine SR.storeO (o := 0) (vs := [.int .i64 (gt ((sortI (L.take (m + 1))).take j ++ (gt L (m + 1)) :: (sortI (L.take (m + 1))).drop j ++ L.drop (m + 1 + 1)) (j - 1))]) (x1 := (gt ((sortI (L.take (m + 1))).take j ++ (gt L (m + 1)) :: (sortI (L.take (m + 1))).drop j ++ L.drop (m + 1 + 1)) (j - 1))) sca3.2 rfl rfl rfl rfl (((hm16).lo hk31).lo hk54) hx61 rfl (Nat.le_of_ble_eq_true rfl) rfl ?_
                  intro w101 hk102 hs103 hO104
                  have hz105 := hk102.size
                  have hB106 := hB56.step hk102 (fun i_ hi_ e' => by have := ((((hm16).lo hk31).lo hk54)).base_le e'; first | omega | (exfalso; omega) | exact e' | exact .inl e' | exact .inr e')
                  have hS107 := ((Kp.refl w29 : Kp (fun b_ => AL = some ⟨b_, 0, none⟩) w29 w29).lo hk54).step hk102 (fun _ _ e => e)
                  have hx108 : (((sortI (L.take (m + 1))).take j ++ (gt L (m + 1)) :: (sortI (L.take (m + 1))).drop j ++ L.drop (m + 1 + 1)).set ((j : Int).toNat) (gt ((sortI (L.take (m + 1))).take j ++ (gt L (m + 1)) :: (sortI (L.take (m + 1))).drop j ++ L.drop (m + 1 + 1)) (j - 1)))[(j : Int).toNat]? = some ((gt ((sortI (L.take (m + 1))).take j ++ (gt L (m + 1)) :: (sortI (L.take (m + 1))).drop j ++ L.drop (m + 1 + 1)) (j - 1))) := List.getElem?_set_self (List.getElem?_eq_some_iff.1 hx61).1
                  refine SR.nil ⟨hS107, _, rfl, ?_⟩
                  have hx110 := ((hO104).rd).elem (i := ((j : Int) - 1).toNat) (by omega)
                  rw [show ((j : Int) - 1).toNat = j - 1 from by omega] at hx110
                  have hx111 : (((sortI (L.take (m + 1))).take j ++ (gt L (m + 1)) :: (sortI (L.take (m + 1))).drop j ++ L.drop (m + 1 + 1)).set ((j : Int).toNat) (gt ((sortI (L.take (m + 1))).take j ++ (gt L (m + 1)) :: (sortI (L.take (m + 1))).drop j ++ L.drop (m + 1 + 1)) (j - 1)))[((j : Int) - 1).toNat]? = some (gt (((sortI (L.take (m + 1))).take j ++ (gt L (m + 1)) :: (sortI (L.take (m + 1))).drop j ++ L.drop (m + 1 + 1)).set ((j : Int).toNat) (gt ((sortI (L.take (m + 1))).take j ++ (gt L (m + 1)) :: (sortI (L.take (m + 1))).drop j ++ L.drop (m + 1 + 1)) (j - 1))) (j - 1)) := (show ((j : Int) - 1).toNat = j - 1 from by omega) ▸ hx110
                  refine AH.br [16] (by kernel_rfl) rfl ⟨Br.mk' rfl trivial ?_, trivial⟩
                  refine SR.q' (r_ixR tsl27 ((hO104).rd) rfl rfl (by omega)) ?_
                  refine SR.nil ⟨hS107, _, rfl, ?_⟩
                  refine AH.br [17] (by kernel_rfl) rfl ⟨Br.mk' rfl trivial ?_, trivial⟩
                  refine SR.storeO (o := 0) (vs := [.int .i64 (gt ((sortI (L.take (m + 1))).take j ++ (gt L (m + 1)) :: (sortI (L.take (m + 1))).drop j ++ L.drop (m + 1 + 1)) j)]) (x1 := (gt ((sortI (L.take (m + 1))).take j ++ (gt L (m + 1)) :: (sortI (L.take (m + 1))).drop j ++ L.drop (m + 1 + 1)) j)) sca3.2 rfl rfl rfl rfl (hO104) hx111 rfl (Nat.le_of_ble_eq_true rfl) rfl ?_
                  intro w112 hk113 hs114 hO115
                  have hz116 := hk113.size
                  have hB117 := hB106.step hk113 (fun i_ hi_ e' => by have := ((hO104)).base_le e'; first | omega | (exfalso; omega) | exact e' | exact .inl e' | exact .inr e')
                  have hS118 := (hS107).step hk113 (fun _ _ e => e)
                  have hx119 : ((((sortI (L.take (m + 1))).take j ++ (gt L (m + 1)) :: (sortI (L.take (m + 1))).drop j ++ L.drop (m + 1 + 1)).set ((j : Int).toNat) (gt ((sortI (L.take (m + 1))).take j ++ (gt L (m + 1)) :: (sortI (L.take (m + 1))).drop j ++ L.drop (m + 1 + 1)) (j - 1))).set (((j : Int) - 1).toNat) (gt ((sortI (L.take (m + 1))).take j ++ (gt L (m + 1)) :: (sortI (L.take (m + 1))).drop j ++ L.drop (m + 1 + 1)) j))[((j : Int) - 1).toNat]? = some ((gt ((sortI (L.take (m + 1))).take j ++ (gt L (m + 1)) :: (sortI (L.take (m + 1))).drop j ++ L.drop (m + 1 + 1)) j)) := List.getElem?_set_self (List.getElem?_eq_some_iff.1 hx111).1
                  refine SR.nil ⟨hS118, _, rfl, ?_⟩
                  refine AH.done (by kernel_rfl) ?_
                  exact ⟨⟨rfl, rfl, rfl, rfl, rfl, trivial⟩, hS118, (hO115), hx58, hx61⟩
            · refine SR.q' (r_ixR tsl27 ((((hm16).lo hk31).lo hk54).rd) rfl rfl (by omega)) ?_
              refine SR.nil ⟨(Kp.refl w29 : Kp (fun b_ => AL = some ⟨b_, 0, none⟩) w29 w29).lo hk54, _, rfl, ?_⟩
              refine AH.br [8, 13] (by kernel_rfl) rfl ⟨Br.mk' rfl trivial ?_, Br.mk' rfl trivial ?_, trivial⟩
              · refine SR.q' (r_ixR tsl27 ((((hm16).lo hk31).lo hk54).rd) rfl rfl (by omega)) ?_
                refine SR.nil ⟨(Kp.refl w29 : Kp (fun b_ => AL = some ⟨b_, 0, none⟩) w29 w29).lo hk54, _, rfl, ?_⟩
                refine AH.br [9, 13] (by kernel_rfl) rfl ⟨Br.mk' rfl trivial ?_, Br.mk' rfl trivial ?_, trivial⟩
                · refine SR.q' (r_ld (v := .int .i64 (gt ((sortI (L.take (m + 1))).take j ++ (gt L (m + 1)) :: (sortI (L.take (m + 1))).drop j ++ L.drop (m + 1 + 1)) (j - 1))) sca3 rfl (((((hm16).lo hk31).lo hk54).rd).cell0 hx59 rfl)) ?_
                  refine SR.nil ⟨(Kp.refl w29 : Kp (fun b_ => AL = some ⟨b_, 0, none⟩) w29 w29).lo hk54, _, rfl, ?_⟩
                  refine AH.br [13] (by kernel_rfl) rfl ⟨Br.mk' rfl trivial ?_, trivial⟩
                  refine SR.q' (r_ld (v := .int .i64 (gt ((sortI (L.take (m + 1))).take j ++ (gt L (m + 1)) :: (sortI (L.take (m + 1))).drop j ++ L.drop (m + 1 + 1)) j)) sca3 rfl (((((hm16).lo hk31).lo hk54).rd).cell0 hx61 rfl)) ?_
                  refine SR.nil ⟨(Kp.refl w29 : Kp (fun b_ => AL = some ⟨b_, 0, none⟩) w29 w29).lo hk54, _, rfl, ?_⟩
                  refine AH.br [14] (by kernel_rfl) rfl ⟨Br.mk' rfl trivial ?_, trivial⟩
                  refine SR.q' (r_ixR tsl27 ((((hm16).lo hk31).lo hk54).rd) rfl rfl (by omega)) ?_
                  refine SR.nil ⟨(Kp.refl w29 : Kp (fun b_ => AL = some ⟨b_, 0, none⟩) w29 w29).lo hk54, _, rfl, ?_⟩
                  refine AH.br [15] (by kernel_rfl) rfl ⟨Br.mk' rfl trivial ?_, trivial⟩
                  refine SR.storeO (o := 0) (vs := [.int .i64 (gt ((sortI (L.take (m + 1))).take j ++ (gt L (m + 1)) :: (sortI (L.take (m + 1))).drop j ++ L.drop (m + 1 + 1)) (j - 1))]) (x1 := (gt ((sortI (L.take (m + 1))).take j ++ (gt L (m + 1)) :: (sortI (L.take (m + 1))).drop j ++ L.drop (m + 1 + 1)) (j - 1))) sca3.2 rfl rfl rfl rfl (((hm16).lo hk31).lo hk54) hx61 rfl (Nat.le_of_ble_eq_true rfl) rfl ?_
                  intro w120 hk121 hs122 hO123
                  have hz124 := hk121.size
                  have hB125 := hB56.step hk121 (fun i_ hi_ e' => by have := ((((hm16).lo hk31).lo hk54)).base_le e'; first | omega | (exfalso; omega) | exact e' | exact .inl e' | exact .inr e')
                  have hS126 := ((Kp.refl w29 : Kp (fun b_ => AL = some ⟨b_, 0, none⟩) w29 w29).lo hk54).step hk121 (fun _ _ e => e)
                  have hx127 : (((sortI (L.take (m + 1))).take j ++ (gt L (m + 1)) :: (sortI (L.take (m + 1))).drop j ++ L.drop (m + 1 + 1)).set ((j : Int).toNat) (gt ((sortI (L.take (m + 1))).take j ++ (gt L (m + 1)) :: (sortI (L.take (m + 1))).drop j ++ L.drop (m + 1 + 1)) (j - 1)))[(j : Int).toNat]? = some ((gt ((sortI (L.take (m + 1))).take j ++ (gt L (m + 1)) :: (sortI (L.take (m + 1))).drop j ++ L.drop (m + 1 + 1)) (j - 1))) := List.getElem?_set_self (List.getElem?_eq_some_iff.1 hx61).1
                  refine SR.nil ⟨hS126, _, rfl, ?_⟩
                  have hx129 := ((hO123).rd).elem (i := ((j : Int) - 1).toNat) (by omega)
                  rw [show ((j : Int) - 1).toNat = j - 1 from by omega] at hx129
                  have hx130 : (((sortI (L.take (m + 1))).take j ++ (gt L (m + 1)) :: (sortI (L.take (m + 1))).drop j ++ L.drop (m + 1 + 1)).set ((j : Int).toNat) (gt ((sortI (L.take (m + 1))).take j ++ (gt L (m + 1)) :: (sortI (L.take (m + 1))).drop j ++ L.drop (m + 1 + 1)) (j - 1)))[((j : Int) - 1).toNat]? = some (gt (((sortI (L.take (m + 1))).take j ++ (gt L (m + 1)) :: (sortI (L.take (m + 1))).drop j ++ L.drop (m + 1 + 1)).set ((j : Int).toNat) (gt ((sortI (L.take (m + 1))).take j ++ (gt L (m + 1)) :: (sortI (L.take (m + 1))).drop j ++ L.drop (m + 1 + 1)) (j - 1))) (j - 1)) := (show ((j : Int) - 1).toNat = j - 1 from by omega) ▸ hx129
                  refine AH.br [16] (by kernel_rfl) rfl ⟨Br.mk' rfl trivial ?_, trivial⟩
                  refine SR.q' (r_ixR tsl27 ((hO123).rd) rfl rfl (by omega)) ?_
                  refine SR.nil ⟨hS126, _, rfl, ?_⟩
                  refine AH.br [17] (by kernel_rfl) rfl ⟨Br.mk' rfl trivial ?_, trivial⟩
                  refine SR.storeO (o := 0) (vs := [.int .i64 (gt ((sortI (L.take (m + 1))).take j ++ (gt L (m + 1)) :: (sortI (L.take (m + 1))).drop j ++ L.drop (m + 1 + 1)) j)]) (x1 := (gt ((sortI (L.take (m + 1))).take j ++ (gt L (m + 1)) :: (sortI (L.take (m + 1))).drop j ++ L.drop (m + 1 + 1)) j)) sca3.2 rfl rfl rfl rfl (hO123) hx130 rfl (Nat.le_of_ble_eq_true rfl) rfl ?_
                  intro w131 hk132 hs133 hO134
                  have hz135 := hk132.size
                  have hB136 := hB125.step hk132 (fun i_ hi_ e' => by have := ((hO123)).base_le e'; first | omega | (exfalso; omega) | exact e' | exact .inl e' | exact .inr e')
                  have hS137 := (hS126).step hk132 (fun _ _ e => e)
                  have hx138 : ((((sortI (L.take (m + 1))).take j ++ (gt L (m + 1)) :: (sortI (L.take (m + 1))).drop j ++ L.drop (m + 1 + 1)).set ((j : Int).toNat) (gt ((sortI (L.take (m + 1))).take j ++ (gt L (m + 1)) :: (sortI (L.take (m + 1))).drop j ++ L.drop (m + 1 + 1)) (j - 1))).set (((j : Int) - 1).toNat) (gt ((sortI (L.take (m + 1))).take j ++ (gt L (m + 1)) :: (sortI (L.take (m + 1))).drop j ++ L.drop (m + 1 + 1)) j))[((j : Int) - 1).toNat]? = some ((gt ((sortI (L.take (m + 1))).take j ++ (gt L (m + 1)) :: (sortI (L.take (m + 1))).drop j ++ L.drop (m + 1 + 1)) j)) := List.getElem?_set_self (List.getElem?_eq_some_iff.1 hx130).1
                  refine SR.nil ⟨hS137, _, rfl, ?_⟩
                  refine AH.done (by kernel_rfl) ?_
                  exact ⟨⟨rfl, rfl, rfl, rfl, rfl, trivial⟩, hS137, (hO134), hx58, hx61⟩
                · refine SR.q' (r_ld (v := .int .i64 (gt ((sortI (L.take (m + 1))).take j ++ (gt L (m + 1)) :: (sortI (L.take (m + 1))).drop j ++ L.drop (m + 1 + 1)) j)) sca3 rfl (((((hm16).lo hk31).lo hk54).rd).cell0 hx61 rfl)) ?_
                  refine SR.nil ⟨(Kp.refl w29 : Kp (fun b_ => AL = some ⟨b_, 0, none⟩) w29 w29).lo hk54, _, rfl, ?_⟩
                  refine AH.br [9] (by kernel_rfl) rfl ⟨Br.mk' rfl trivial ?_, trivial⟩
                  refine SR.q' (r_ld (v := .int .i64 (gt ((sortI (L.take (m + 1))).take j ++ (gt L (m + 1)) :: (sortI (L.take (m + 1))).drop j ++ L.drop (m + 1 + 1)) (j - 1))) sca3 rfl (((((hm16).lo hk31).lo hk54).rd).cell0 hx59 rfl)) ?_
                  refine SR.nil ⟨(Kp.refl w29 : Kp (fun b_ => AL = some ⟨b_, 0, none⟩) w29 w29).lo hk54, _, rfl, ?_⟩
                  refine AH.br [14] (by kernel_rfl) rfl ⟨Br.mk' rfl trivial ?_, trivial⟩
                  refine SR.q' (r_ixR tsl27 ((((hm16).lo hk31).lo hk54).rd) rfl rfl (by omega)) ?_
                  refine SR.nil ⟨(Kp.refl w29 : Kp (fun b_ => AL = some ⟨b_, 0, none⟩) w29 w29).lo hk54, _, rfl, ?_⟩
                  refine AH.br [15] (by kernel_rfl) rfl ⟨Br.mk' rfl trivial ?_, trivial⟩
                  refine SR.storeO (o := 0) (vs := [.int .i64 (gt ((sortI (L.take (m + 1))).take j ++ (gt L (m + 1)) :: (sortI (L.take (m + 1))).drop j ++ L.drop (m + 1 + 1)) (j - 1))]) (x1 := (gt ((sortI (L.take (m + 1))).take j ++ (gt L (m + 1)) :: (sortI (L.take (m + 1))).drop j ++ L.drop (m + 1 + 1)) (j - 1))) sca3.2 rfl rfl rfl rfl (((hm16).lo hk31).lo hk54) hx61 rfl (Nat.le_of_ble_eq_true rfl) rfl ?_
                  intro w139 hk140 hs141 hO142
                  have hz143 := hk140.size
                  have hB144 := hB56.step hk140 (fun i_ hi_ e' => by have := ((((hm16).lo hk31).lo hk54)).base_le e'; first | omega | (exfalso; omega) | exact e' | exact .inl e' | exact .inr e')
                  have hS145 := ((Kp.refl w29 : Kp (fun b_ => AL = some ⟨b_, 0, none⟩) w29 w29).lo hk54).step hk140 (fun _ _ e => e)
                  have hx146 : (((sortI (L.take (m + 1))).take j ++ (gt L (m + 1)) :: (sortI (L.take (m + 1))).drop j ++ L.drop (m + 1 + 1)).set ((j : Int).toNat) (gt ((sortI (L.take (m + 1))).take j ++ (gt L (m + 1)) :: (sortI (L.take (m + 1))).drop j ++ L.drop (m + 1 + 1)) (j - 1)))[(j : Int).toNat]? = some ((gt ((sortI (L.take (m + 1))).take j ++ (gt L (m + 1)) :: (sortI (L.take (m + 1))).drop j ++ L.drop (m + 1 + 1)) (j - 1))) := List.getElem?_set_self (List.getElem?_eq_some_iff.1 hx61).1
                  refine SR.nil ⟨hS145, _, rfl, ?_⟩
                  have hx148 := ((hO142).rd).elem (i := ((j : Int) - 1).toNat) (by omega)
                  rw [show ((j : Int) - 1).toNat = j - 1 from by omega] at hx148
                  have hx149 : (((sortI (L.take (m + 1))).take j ++ (gt L (m + 1)) :: (sortI (L.take (m + 1))).drop j ++ L.drop (m + 1 + 1)).set ((j : Int).toNat) (gt ((sortI (L.take (m + 1))).take j ++ (gt L (m + 1)) :: (sortI (L.take (m + 1))).drop j ++ L.drop (m + 1 + 1)) (j - 1)))[((j : Int) - 1).toNat]? = some (gt (((sortI (L.take (m + 1))).take j ++ (gt L (m + 1)) :: (sortI (L.take (m + 1))).drop j ++ L.drop (m + 1 + 1)).set ((j : Int).toNat) (gt ((sortI (L.take (m + 1))).take j ++ (gt L (m + 1)) :: (sortI (L.take (m + 1))).drop j ++ L.drop (m + 1 + 1)) (j - 1))) (j - 1)) := (show ((j : Int) - 1).toNat = j - 1 from by omega) ▸ hx148
                  refine AH.br [16] (by kernel_rfl) rfl ⟨Br.mk' rfl trivial ?_, trivial⟩
                  refine SR.q' (r_ixR tsl27 ((hO142).rd) rfl rfl (by omega)) ?_
                  refine SR.nil ⟨hS145, _, rfl, ?_⟩
                  refine AH.br [17] (by kernel_rfl) rfl ⟨Br.mk' rfl trivial ?_, trivial⟩
                  refine SR.storeO (o := 0) (vs := [.int .i64 (gt ((sortI (L.take (m + 1))).take j ++ (gt L (m + 1)) :: (sortI (L.take (m + 1))).drop j ++ L.drop (m + 1 + 1)) j)]) (x1 := (gt ((sortI (L.take (m + 1))).take j ++ (gt L (m + 1)) :: (sortI (L.take (m + 1))).drop j ++ L.drop (m + 1 + 1)) j)) sca3.2 rfl rfl rfl rfl (hO142) hx149 rfl (Nat.le_of_ble_eq_true rfl) rfl ?_
                  intro w150 hk151 hs152 hO153
                  have hz154 := hk151.size
                  have hB155 := hB144.step hk151 (fun i_ hi_ e' => by have := ((hO142)).base_le e'; first | omega | (exfalso; omega) | exact e' | exact .inl e' | exact .inr e')
                  have hS156 := (hS145).step hk151 (fun _ _ e => e)
                  have hx157 : ((((sortI (L.take (m + 1))).take j ++ (gt L (m + 1)) :: (sortI (L.take (m + 1))).drop j ++ L.drop (m + 1 + 1)).set ((j : Int).toNat) (gt ((sortI (L.take (m + 1))).take j ++ (gt L (m + 1)) :: (sortI (L.take (m + 1))).drop j ++ L.drop (m + 1 + 1)) (j - 1))).set (((j : Int) - 1).toNat) (gt ((sortI (L.take (m + 1))).take j ++ (gt L (m + 1)) :: (sortI (L.take (m + 1))).drop j ++ L.drop (m + 1 + 1)) j))[((j : Int) - 1).toNat]? = some ((gt ((sortI (L.take (m + 1))).take j ++ (gt L (m + 1)) :: (sortI (L.take (m + 1))).drop j ++ L.drop (m + 1 + 1)) j)) := List.getElem?_set_self (List.getElem?_eq_some_iff.1 hx149).1
                  refine SR.nil ⟨hS156, _, rfl, ?_⟩
                  refine AH.done (by kernel_rfl) ?_
                  exact ⟨⟨rfl, rfl, rfl, rfl, rfl, trivial⟩, hS156, (hO153), hx58, hx61⟩
              · refine SR.q' (r_ld (v := .int .i64 (gt ((sortI (L.take (m + 1))).take j ++ (gt L (m + 1)) :: (sortI (L.take (m + 1))).drop j ++ L.drop (m + 1 + 1)) j)) sca3 rfl (((((hm16).lo hk31).lo hk54).rd).cell0 hx61 rfl)) ?_
                refine SR.nil ⟨(Kp.refl w29 : Kp (fun b_ => AL = some ⟨b_, 0, none⟩) w29 w29).lo hk54, _, rfl, ?_⟩
                refine AH.br [8] (by kernel_rfl) rfl ⟨Br.mk' rfl trivial ?_, trivial⟩
                refine SR.q' (r_ixR tsl27 ((((hm16).lo hk31).lo hk54).rd) rfl rfl (by omega)) ?_
                refine SR.nil ⟨(Kp.refl w29 : Kp (fun b_ => AL = some ⟨b_, 0, none⟩) w29 w29).lo hk54, _, rfl, ?_⟩
                refine AH.br [9] (by kernel_rfl) rfl ⟨Br.mk' rfl trivial ?_, trivial⟩
                refine SR.q' (r_ld (v := .int .i64 (gt ((sortI (L.take (m + 1))).take j ++ (gt L (m + 1)) :: (sortI (L.take (m + 1))).drop j ++ L.drop (m + 1 + 1)) (j - 1))) sca3 rfl (((((hm16).lo hk31).lo hk54).rd).cell0 hx59 rfl)) ?_
                refine SR.nil ⟨(Kp.refl w29 : Kp (fun b_ => AL = some ⟨b_, 0, none⟩) w29 w29).lo hk54, _, rfl, ?_⟩
                refine AH.br [14] (by kernel_rfl) rfl ⟨Br.mk' rfl trivial ?_, trivial⟩
                refine SR.q' (r_ixR tsl27 ((((hm16).lo hk31).lo hk54).rd) rfl rfl (by omega)) ?_
                refine SR.nil ⟨(Kp.refl w29 : Kp (fun b_ => AL = some ⟨b_, 0, none⟩) w29 w29).lo hk54, _, rfl, ?_⟩
                refine AH.br [15] (by kernel_rfl) rfl ⟨Br.mk' rfl trivial ?_, trivial⟩
                refine SR.storeO (o := 0) (vs := [.int .i64 (gt ((sortI (L.take (m + 1))).take j ++ (gt L (m + 1)) :: (sortI (L.take (m + 1))).drop j ++ L.drop (m + 1 + 1)) (j - 1))]) (x1 := (gt ((sortI (L.take (m + 1))).take j ++ (gt L (m + 1)) :: (sortI (L.take (m + 1))).drop j ++ L.drop (m + 1 + 1)) (j - 1))) sca3.2 rfl rfl rfl rfl (((hm16).lo hk31).lo hk54) hx61 rfl (Nat.le_of_ble_eq_true rfl) rfl ?_
                intro w158 hk159 hs160 hO161
                have hz162 := hk159.size
                have hB163 := hB56.step hk159 (fun i_ hi_ e' => by have := ((((hm16).lo hk31).lo hk54)).base_le e'; first | omega | (exfalso; omega) | exact e' | exact .inl e' | exact .inr e')
                have hS164 := ((Kp.refl w29 : Kp (fun b_ => AL = some ⟨b_, 0, none⟩) w29 w29).lo hk54).step hk159 (fun _ _ e => e)
                have hx165 : (((sortI (L.take (m + 1))).take j ++ (gt L (m + 1)) :: (sortI (L.take (m + 1))).drop j ++ L.drop (m + 1 + 1)).set ((j : Int).toNat) (gt ((sortI (L.take (m + 1))).take j ++ (gt L (m + 1)) :: (sortI (L.take (m + 1))).drop j ++ L.drop (m + 1 + 1)) (j - 1)))[(j : Int).toNat]? = some ((gt ((sortI (L.take (m + 1))).take j ++ (gt L (m + 1)) :: (sortI (L.take (m + 1))).drop j ++ L.drop (m + 1 + 1)) (j - 1))) := List.getElem?_set_self (List.getElem?_eq_some_iff.1 hx61).1
                refine SR.nil ⟨hS164, _, rfl, ?_⟩
                have hx167 := ((hO161).rd).elem (i := ((j : Int) - 1).toNat) (by omega)
                rw [show ((j : Int) - 1).toNat = j - 1 from by omega] at hx167
                have hx168 : (((sortI (L.take (m + 1))).take j ++ (gt L (m + 1)) :: (sortI (L.take (m + 1))).drop j ++ L.drop (m + 1 + 1)).set ((j : Int).toNat) (gt ((sortI (L.take (m + 1))).take j ++ (gt L (m + 1)) :: (sortI (L.take (m + 1))).drop j ++ L.drop (m + 1 + 1)) (j - 1)))[((j : Int) - 1).toNat]? = some (gt (((sortI (L.take (m + 1))).take j ++ (gt L (m + 1)) :: (sortI (L.take (m + 1))).drop j ++ L.drop (m + 1 + 1)).set ((j : Int).toNat) (gt ((sortI (L.take (m + 1))).take j ++ (gt L (m + 1)) :: (sortI (L.take (m + 1))).drop j ++ L.drop (m + 1 + 1)) (j - 1))) (j - 1)) := (show ((j : Int) - 1).toNat = j - 1 from by omega) ▸ hx167
                refine AH.br [16] (by kernel_rfl) rfl ⟨Br.mk' rfl trivial ?_, trivial⟩
                refine SR.q' (r_ixR tsl27 ((hO161).rd) rfl rfl (by omega)) ?_
                refine SR.nil ⟨hS164, _, rfl, ?_⟩
                refine AH.br [17] (by kernel_rfl) rfl ⟨Br.mk' rfl trivial ?_, trivial⟩
                refine SR.storeO (o := 0) (vs := [.int .i64 (gt ((sortI (L.take (m + 1))).take j ++ (gt L (m + 1)) :: (sortI (L.take (m + 1))).drop j ++ L.drop (m + 1 + 1)) j)]) (x1 := (gt ((sortI (L.take (m + 1))).take j ++ (gt L (m + 1)) :: (sortI (L.take (m + 1))).drop j ++ L.drop (m + 1 + 1)) j)) sca3.2 rfl rfl rfl rfl (hO161) hx168 rfl (Nat.le_of_ble_eq_true rfl) rfl ?_
                intro w169 hk170 hs171 hO172
                have hz173 := hk170.size
                have hB174 := hB163.step hk170 (fun i_ hi_ e' => by have := ((hO161)).base_le e'; first | omega | (exfalso; omega) | exact e' | exact .inl e' | exact .inr e')
                have hS175 := (hS164).step hk170 (fun _ _ e => e)
                have hx176 : ((((sortI (L.take (m + 1))).take j ++ (gt L (m + 1)) :: (sortI (L.take (m + 1))).drop j ++ L.drop (m + 1 + 1)).set ((j : Int).toNat) (gt ((sortI (L.take (m + 1))).take j ++ (gt L (m + 1)) :: (sortI (L.take (m + 1))).drop j ++ L.drop (m + 1 + 1)) (j - 1))).set (((j : Int) - 1).toNat) (gt ((sortI (L.take (m + 1))).take j ++ (gt L (m + 1)) :: (sortI (L.take (m + 1))).drop j ++ L.drop (m + 1 + 1)) j))[((j : Int) - 1).toNat]? = some ((gt ((sortI (L.take (m + 1))).take j ++ (gt L (m + 1)) :: (sortI (L.take (m + 1))).drop j ++ L.drop (m + 1 + 1)) j)) := List.getElem?_set_self (List.getElem?_eq_some_iff.1 hx168).1
                refine SR.nil ⟨hS175, _, rfl, ?_⟩
                refine AH.done (by kernel_rfl) ?_
                exact ⟨⟨rfl, rfl, rfl, rfl, rfl, trivial⟩, hS175, (hO172), hx58, hx61⟩
          rintro f177 w178 ⟨hat180, hR179, hm81, hx58, hx61⟩
          rw [← sets_of_at hat180]
          have hz181 := hR179.size
          have hB182 := hB33.step hR179 (fun i_ hi_ e' => by have := (((hm16).lo hk31)).base_le e'; first | omega | (exfalso; omega) | exact e' | exact .inl e' | exact .inr e')
          refine W.regS (SR.q' (r_mv (v := .int .i64 _) rfl) <| SR.q' (r_sub rfl rfl (by omega)) <| SR.q' (r_as (v := .int .i64 _) rfl) <| SR.nil ?_)
          refine ⟨j - 1, _, rfl, ⟨rfl, rfl, rfl, rfl, (eI (by first | omega | (dsimp only; omega))), trivial⟩, ⟨hB182, (SlO.eqv (hm81) (z_c_slices_insertionSortOrdered_int__183 L nL hbdL hleL a b hp0 hp1 m hi8 h9 j hi17 h34 hq35 hq36 hx58 hx61)), ?_⟩, ?_⟩
          · exact (z_c_slices_insertionSortOrdered_int__184 L nL hbdL hleL a b hp0 hp1 m hi8 h9 j hi17 h34 hq35 hq36 hx58 hx61)
          · exact (z_c_slices_insertionSortOrdered_int__185 L nL hbdL hleL a b hp0 hp1 m hi8 h9 j hi17 h34 hq35 hq36 hx58 hx61)
        · refine W.exit (xin_here ?_)
          refine W.regS (SR.q' (r_mv (v := .int .i64 _) rfl) <| SR.q' (r_add rfl rfl (by omega)) <| SR.q' (r_as (v := .int .i64 _) rfl) <| SR.nil ?_)
          refine ⟨m + 1, _, rfl, ⟨rfl, rfl, rfl, (eI (by first | omega | (dsimp only; omega))), trivial⟩, ⟨hB33, (SlO.eqv ((hm16).lo hk31) (z_c_slices_insertionSortOrdered_int__186 L nL hbdL hleL a b hp0 hp1 m hi8 h9 j hi17 h34)), ?_⟩, ?_⟩
          · exact (z_c_slices_insertionSortOrdered_int__187 L nL hbdL hleL a b hp0 hp1 m hi8 h9 j hi17 h34)
          · exact (z_c_slices_insertionSortOrdered_int__188 L nL hbdL hleL a b hp0 hp1 m hi8 h9 j hi17 h34)
    · refine W.exit (xin_here ?_)
      refine end0 rfl ?_
      exact ⟨eR rfl, (SlO.eqv (hm7) (z_c_slices_insertionSortOrdered_int__189 L nL hbdL hleL a b hp0 hp1 m hi8 h9)), hB5⟩

theorem c_slices_pdqsortOrdered_int_ (w : World) {AL : Option Addr} {nL cL BL : Nat}  (L : List Int) (hL : SlO w BL encI 1 3 AL nL cL L) (a : Int) (b : Int) (q : Int) (hp0 : a = 0) (hp1 : b = (nL : Int)) (hp2 : nL ≤ 12) : Calls Tryz.prog 73 #[.slice AL nL cL, .int .i64 a, .int .i64 b, .int .i64 q] w fun e w' => e = .returned (.tuple #[]) ∧ SlO w' BL encI 1 3 AL nL cL (sortI L) ∧ Kp (fun b_ => AL = some ⟨b_, 0, none⟩) w w' := by
  refine calls_W 134 Tryz.func73 rfl rfl rfl ?_
  have hbdL := hL.rd.bound
  have hleL := hL.len
  have hBbL := hL.bd
  refine W.seq ?_
  refine W.regS (SR.q' (r_as (v := .bool true) rfl) <| SR.nil ?_)
  refine W.seq ?_
  refine W.regS (SR.q' (r_as (v := .bool true) rfl) <| SR.nil ?_)
  refine W.block ?_
  refine W.loop (σ := Nat) (fun g => [(0, .slice AL nL cL), (1, .int .i64 a), (2, .int .i64 b), (3, .int .i64 q)]) (fun g w' => (Kp (fun b_ => AL = some ⟨b_, 0, none⟩) w w') ∧ (SlO w' BL encI 1 3 AL nL cL L) ∧ (True)) (fun g => 0) 0 ?_ ?_ ?_
  · exact ⟨rfl, rfl, rfl, rfl, trivial⟩
  · exact ⟨(Kp.refl w : Kp (fun b_ => AL = some ⟨b_, 0, none⟩) w w), hL, trivial⟩
  · rintro k f1 w2 hP4
    obtain ⟨hB3, hm5, hi6⟩ : (Kp (fun b_ => AL = some ⟨b_, 0, none⟩) w w2) ∧ (SlO w2 BL encI 1 3 AL nL cL L) ∧ (True) := hP4
    refine (?_ : W _ _ _ _ _ (act _ (sets f1 [(0, .slice AL nL cL), (1, .int .i64 a), (2, .int .i64 b), (3, .int .i64 q)])) _)
    have hzw2 := hB3.size
    refine W.block ?_
    refine W.seq ?_
    refine W.regS (SR.q' (r_mv (v := .int .i64 _) rfl) <| SR.q' (r_mv (v := .int .i64 _) rfl) <| SR.q' (r_sub rfl rfl (by omega)) <| SR.q' (r_as (v := .int .i64 _) rfl) <| SR.nil ?_)
    refine W.seq ?_
    refine W.seq ?_
    refine W.regS (SR.q' (r_mv (v := .int .i64 _) rfl) <| SR.q' (r_le rfl rfl) <| SR.nil ?_)
    refine W.cond_t (congrArg Value.bool (decide_eq_true (by omega))) ?_
    refine W.seq ?_
    refine W.regS (SR.q' (r_mv (v := .slice _ _ _) rfl) <| SR.q' (r_mv (v := .int .i64 _) rfl) <| SR.q' (r_mv (v := .int .i64 _) rfl) <| SR.call ent76 (c_slices_insertionSortOrdered_int_ w2 L (hm5) a b (by omega) (by omega)) rfl ?_)
    rintro e w7 ⟨rfl, hO9, hk8⟩
    refine ⟨_, rfl, ?_⟩
    have hz10 := hk8.size
    have hB11 := hB3.step hk8 (fun i_ hi_ e' => by have := ((hm5)).base_le e'; first | omega | (exfalso; omega) | exact e' | exact .inl e' | exact .inr e')
    refine SR.nil ?_
    refine W.ret ?_
    refine ret0 rfl ?_
    exact ⟨eR rfl, (hO9), hB11⟩

theorem c_slices_Sort___int_int_ (w : World) {AL : Option Addr} {nL cL BL : Nat}  (L : List Int) (hL : SlO w BL encI 1 3 AL nL cL L) (hp0 : nL ≤ 12) : Calls Tryz.prog 64 #[.slice AL nL cL] w fun e w' => e = .returned (.tuple #[]) ∧ SlO w' BL encI 1 3 AL nL cL (sortI L) ∧ Kp (fun b_ => AL = some ⟨b_, 0, none⟩) w w' := by
  refine calls_W 11 Tryz.func64 rfl rfl rfl ?_
  have hbdL := hL.rd.bound
  have hleL := hL.len
  have hBbL := hL.bd
  refine W.seq ?_
  refine W.regS (SR.q' (r_mv (v := .slice _ _ _) rfl) <| SR.q' (r_len und27 rfl) <| SR.q' (r_as (v := .int .i64 _) rfl) <| SR.nil ?_)
  refine W.regS (SR.q' (r_mv (v := .slice _ _ _) rfl) <| SR.q' (r_mv (v := .int .i64 _) rfl) <| SR.q' (r_mv (v := .int .i64 _) rfl) <| SR.q' (r_convU und79 und3 rfl (by omega)) <| SR.call ent74 (c_math_bits_Len w (nL : Int) (by omega)) rfl ?_)
  rintro e w1 ⟨rfl, hk2⟩
  refine ⟨_, rfl, ?_⟩
  have hz3 := hk2.size
  have hB4 := (Kp.refl w : Kp (fun b_ => AL = some ⟨b_, 0, none⟩) w w).lo hk2
  refine SR.call ent73 (c_slices_pdqsortOrdered_int_ w1 L ((hL).lo hk2) 0 (nL : Int) (Lib.bitLen (nL : Int).toNat : Int) (by omega) (by omega) (by omega)) rfl ?_
  rintro e w5 ⟨rfl, hO7, hk6⟩
  refine ⟨_, rfl, ?_⟩
  have hz8 := hk6.size
  have hB9 := hB4.step hk6 (fun i_ hi_ e' => by have := (((hL).lo hk2)).base_le e'; first | omega | (exfalso; omega) | exact e' | exact .inl e' | exact .inr e')
  refine SR.nil ?_
  refine end0 rfl ?_
  exact ⟨eR rfl, (hO7), hB9⟩
end Go.Proofs.YthgbcadgnihdiaaGreatDoor
