/- Walks, printed by a program of this claim's author. -/
import Derived.Test.YtmigipacjadpeaaChecked
import Derived.Test.YtmigipacjadpeaaLa
import Derived.Test.YtmigipacjadpeaaLb
import Derived.Test.YtmigipacjadpeaaFo
import Derived.Test.YtmigipacjadpeaaFs
import Derived.Test.YtmigipacjadpeaaFq
import Derived.Test.YtmigipacjadpeaaFp
import Derived.Test.YtmigipacjadpeaaFu
import Derived.Test.YtmigipacjadpeaaFt
import Derived.Test.YtmigipacjadpeaaLb
import Derived.Test.YtmigipacjadpeaaFo
import Derived.Test.YtmigipacjadpeaaG31c
namespace Go.Proofs.Ytmigipacjadpeaa
open Go Go.RowKit Fw
set_option maxRecDepth 10000
set_option linter.unusedVariables false
theorem ent23 : Ent Try.prog 23 := ent_of Try.func23 (by decide +kernel) rfl
theorem ent24 : Ent Try.prog 24 := ent_of Try.func24 (by decide +kernel) rfl
theorem ent25 : Ent Try.prog 25 := ent_of Try.func25 (by decide +kernel) rfl
theorem ent32 : Ent Try.prog 32 := ent_of Try.func32 (by decide +kernel) rfl
theorem ent33 : Ent Try.prog 33 := ent_of Try.func33 (by decide +kernel) rfl

theorem z_c_spec_l1Most_2 (a : Int) (b : Int) (h1 : b < a) : a = max a b := by
  omega
theorem z_c_spec_l1Most_3 (a : Int) (b : Int) (h1 : ¬ (b < a)) : b = max a b := by
  omega
theorem c_spec_l1Most (w : World) (a : Int) (b : Int) : Calls Try.prog 25 #[.int .i64 a, .int .i64 b] w fun e w' => e = .returned (.int .i64 (max a b)) ∧ Lo w w' := by
  refine calls_W 10 Try.func25 rfl rfl rfl ?_
  refine W.seq ?_
  refine W.regS (SR.q' (r_as (v := .int .i64 0) rfl) <| SR.nil ?_)
  refine W.seq ?_
  refine W.seq ?_
  refine W.regS (SR.q' (r_mv (v := .int .i64 _) rfl) <| SR.q' (r_mv (v := .int .i64 _) rfl) <| SR.q' (r_gt rfl rfl) <| SR.nil ?_)
  refine W.cond_d rfl (fun h1 => ?_) (fun h1 => ?_)
  · refine W.seq ?_
    refine W.regS (SR.q' (r_mv (v := .int .i64 _) rfl) <| SR.q' (r_as (v := .int .i64 _) rfl) <| SR.nil ?_)
    refine W.ret ?_
    refine ret1 rfl (v := .int .i64 _) rfl ?_
    exact ⟨eR (eI (z_c_spec_l1Most_2 a b h1)), (Lo.refl w)⟩
  · refine W.skip ?_
    refine W.seq ?_
    refine W.regS (SR.q' (r_mv (v := .int .i64 _) rfl) <| SR.q' (r_as (v := .int .i64 _) rfl) <| SR.nil ?_)
    refine W.ret ?_
    refine ret1 rfl (v := .int .i64 _) rfl ?_
    exact ⟨eR (eI (z_c_spec_l1Most_3 a b h1)), (Lo.refl w)⟩

theorem c_impl_abs (w : World) (a : Int) (hp0 : -9223372036854775807 ≤ a ∧ a ≤ 9223372036854775807) : Calls Try.prog 33 #[.int .i64 a] w fun e w' => e = .returned (.int .i64 (max a (-a))) ∧ Lo w w' := by
  refine calls_W 7 Try.func33 rfl rfl rfl ?_
  refine W.seq ?_
  refine W.regS (SR.q' (r_as (v := .int .i64 0) rfl) <| SR.nil ?_)
  refine W.seq ?_
  refine W.regS (SR.q' (r_mv (v := .int .i64 _) rfl) <| SR.q' (r_mv (v := .int .i64 _) rfl) <| SR.q' (r_neg rfl (by omega)) <| SR.q' (r_max rfl rfl) <| SR.q' (r_as (v := .int .i64 _) rfl) <| SR.nil ?_)
  refine W.ret ?_
  refine ret1 rfl (v := .int .i64 _) rfl ?_
  exact ⟨eR rfl, (Lo.refl w)⟩

theorem z_c_impl_gcd_1 (a : Int) (b : Int) (hp0 : 0 ≤ a) (hp1 : 0 ≤ b) : 0 ≤ a ∧ 0 ≤ b ∧ Int.gcd a b = Int.gcd a b := by
  exact ⟨by omega, by omega, rfl⟩
theorem z_c_impl_gcd_12 (a : Int) (b : Int) (hp0 : 0 ≤ a) (hp1 : 0 ≤ b) (x : Int) (y : Int) (hi6 : 0 ≤ x ∧ 0 ≤ y ∧ Int.gcd x y = Int.gcd a b) (h7 : ¬ (y = 0)) : 0 ≤ y ∧ 0 ≤ x % y ∧ Int.gcd y (x % y) = Int.gcd a b := by
  obtain ⟨h1, h2, h3⟩ := ‹_ ∧ _ ∧ Int.gcd _ _ = _›; have h4 := Int.emod_nonneg x (show y ≠ 0 by omega); exact ⟨h2, h4, gcd_step h3⟩
theorem z_c_impl_gcd_13 (a : Int) (b : Int) (hp0 : 0 ≤ a) (hp1 : 0 ≤ b) (x : Int) (y : Int) (hi6 : 0 ≤ x ∧ 0 ≤ y ∧ Int.gcd x y = Int.gcd a b) (h7 : ¬ (y = 0)) : (x % y).toNat < y.toNat := by
  obtain ⟨h1, h2, h3⟩ := ‹_ ∧ _ ∧ Int.gcd _ _ = _›; have h4 := Int.emod_nonneg x (show y ≠ 0 by omega); have h5 := Int.emod_lt_of_pos x (show 0 < y by omega); omega
theorem z_c_impl_gcd_14 (a : Int) (b : Int) (hp0 : 0 ≤ a) (hp1 : 0 ≤ b) (x : Int) (y : Int) (hi6 : 0 ≤ x ∧ 0 ≤ y ∧ Int.gcd x y = Int.gcd a b) (h7 : y = 0) : x = (Int.gcd a b : Int) := by
  obtain ⟨h1, h2, h3⟩ := ‹_ ∧ _ ∧ Int.gcd _ _ = _›; obtain rfl : y = 0 := by omega
  rw [← h3, Int.gcd_zero_right]; omega
theorem c_impl_gcd (w : World) (a : Int) (b : Int) (hp0 : 0 ≤ a) (hp1 : 0 ≤ b) : Calls Try.prog 32 #[.int .i64 a, .int .i64 b] w fun e w' => e = .returned (.int .i64 (Int.gcd a b : Int)) ∧ Lo w w' := by
  refine calls_W 12 Try.func32 rfl rfl rfl ?_
  refine W.seq ?_
  refine W.regS (SR.q' (r_as (v := .int .i64 0) rfl) <| SR.nil ?_)
  refine W.seq ?_
  refine W.block ?_
  refine W.loop (σ := Int × Int) (fun g => [(0, .int .i64 g.1), (1, .int .i64 g.2), (4, .int .i64 0)]) (fun g w' => (Lo w w') ∧ (0 ≤ g.1 ∧ 0 ≤ g.2 ∧ Int.gcd g.1 g.2 = Int.gcd a b)) (fun g => g.2.toNat) (a, b) ?_ ?_ ?_
  · exact ⟨rfl, rfl, rfl, trivial⟩
  · exact ⟨(Lo.refl w), (z_c_impl_gcd_1 a b hp0 hp1)⟩
  · rintro ⟨x, y⟩ f2 w3 hP5
    obtain ⟨hB4, hi6⟩ : (Lo w w3) ∧ (0 ≤ x ∧ 0 ≤ y ∧ Int.gcd x y = Int.gcd a b) := hP5
    refine (?_ : W _ _ _ _ _ (act _ (sets f2 [(0, .int .i64 x), (1, .int .i64 y), (4, .int .i64 0)])) _)
    have hzw3 := hB4.size
    refine W.seq ?_
    refine W.seq ?_
    refine W.regS (SR.q' (r_mv (v := .int .i64 _) rfl) <| SR.q' (r_ne rfl rfl) <| SR.nil ?_)
    refine W.cond_n rfl (fun h7 => ?_) (fun h7 => ?_)
    · refine W.skip ?_
      refine W.block ?_
      refine W.regD mo (by kernel_rfl) (QR.q' (fun w' hw' => r_mv (v := .int .i64 _) rfl) <| QR.q' (fun w' hw' => r_mv (v := .int .i64 _) rfl) <| QR.q' (fun w' hw' => r_mv (v := .int .i64 _) rfl) <| QR.q' (fun w' hw' => r_rem rfl rfl (by omega)) <| QR.q' (fun w' hw' => r_as (v := .int .i64 _) rfl) <| QR.q' (fun w' hw' => r_as (v := .int .i64 _) rfl) <| QR.nil ?_)
      intro w8 hk9
      have hz10 := hk9.size
      have hB11 := hB4.lo hk9
      refine ⟨(y, x % y), _, rfl, ⟨rfl, rfl, rfl, trivial⟩, ⟨hB11, ?_⟩, ?_⟩
      · exact (z_c_impl_gcd_12 a b hp0 hp1 x y hi6 h7)
      · exact (z_c_impl_gcd_13 a b hp0 hp1 x y hi6 h7)
    · refine W.exit (xin_here ?_)
      refine W.seq ?_
      refine W.regS (SR.q' (r_mv (v := .int .i64 _) rfl) <| SR.q' (r_as (v := .int .i64 _) rfl) <| SR.nil ?_)
      refine W.ret ?_
      refine ret1 rfl (v := .int .i64 _) rfl ?_
      exact ⟨eR (eI (z_c_impl_gcd_14 a b hp0 hp1 x y hi6 h7)), hB4⟩

theorem z_c_impl_fraction_13 (n : Int) (d : Int) (hp0 : -1000000 ≤ n ∧ n ≤ 1000000) (hp1 : 0 < d ∧ d ≤ 1000000) : n.tdiv (Int.gcd (max n (-n)) d : Int) = n.tdiv (Int.gcd n d : Int) := by
  rw [gcd_abs]
theorem z_c_impl_fraction_14 (n : Int) (d : Int) (hp0 : -1000000 ≤ n ∧ n ≤ 1000000) (hp1 : 0 < d ∧ d ≤ 1000000) : d.tdiv (Int.gcd (max n (-n)) d : Int) = d.tdiv (Int.gcd n d : Int) := by
  rw [gcd_abs]
theorem c_impl_fraction (w : World) (n : Int) (d : Int) (hp0 : -1000000 ≤ n ∧ n ≤ 1000000) (hp1 : 0 < d ∧ d ≤ 1000000) : Calls Try.prog 23 #[.int .i64 n, .int .i64 d] w fun e w' => e = .returned (.tuple (List.toArray [.int .i64 (n.tdiv (Int.gcd n d : Int)), .int .i64 (d.tdiv (Int.gcd n d : Int))])) ∧ Lo w w' := by
  refine calls_W 17 Try.func23 rfl rfl rfl ?_
  have hgp := gcd_pos (a := max n (-n)) hp1.1
  refine W.seq ?_
  refine W.regS (SR.q' (r_as (v := .int .i64 0) rfl) <| SR.q' (r_as (v := .int .i64 0) rfl) <| SR.nil ?_)
  refine W.seq ?_
  refine W.regS (SR.q' (r_mv (v := .int .i64 _) rfl) <| SR.call ent33 (c_impl_abs w n (by omega)) rfl ?_)
  rintro e w1 ⟨rfl, hk2⟩
  refine ⟨_, rfl, ?_⟩
  have hz3 := hk2.size
  have hB4 := (Lo.refl w).lo hk2
  refine SR.q' (r_mv (v := .int .i64 _) rfl) <| SR.call ent32 (c_impl_gcd w1 (max n (-n)) d (by omega) (by omega)) rfl ?_
  rintro e w5 ⟨rfl, hk6⟩
  refine ⟨_, rfl, ?_⟩
  have hz7 := hk6.size
  have hB8 := hB4.lo hk6
  refine SR.q' (r_as (v := .int .i64 _) rfl) <| SR.nil ?_
  refine W.seq ?_
  refine W.regD mo (by kernel_rfl) (QR.q' (fun w' hw' => r_mv (v := .int .i64 _) rfl) <| QR.q' (fun w' hw' => r_mv (v := .int .i64 _) rfl) <| QR.q' (fun w' hw' => r_quoT rfl rfl (by omega)) <| QR.q' (fun w' hw' => r_mv (v := .int .i64 _) rfl) <| QR.q' (fun w' hw' => r_mv (v := .int .i64 _) rfl) <| QR.q' (fun w' hw' => r_quoT rfl rfl (by omega)) <| QR.q' (fun w' hw' => r_as (v := .int .i64 _) rfl) <| QR.q' (fun w' hw' => r_as (v := .int .i64 _) rfl) <| QR.nil ?_)
  intro w9 hk10
  have hz11 := hk10.size
  have hB12 := hB8.lo hk10
  refine W.ret ?_
  refine ret2 rfl (v := .int .i64 _) (v' := .int .i64 _) rfl rfl ?_
  exact ⟨eR (eT2 (eI (z_c_impl_fraction_13 n d hp0 hp1)) (eI (z_c_impl_fraction_14 n d hp0 hp1))), hB12⟩

theorem z_c_spec_l2Reduce_5 (n : Int) (d : Int) (hp0 : -1000000 ≤ n ∧ n ≤ 1000000) (hp1 : 0 < d ∧ d ≤ 1000000) : 0 ≤ max n (-n) ∧ 0 ≤ d ∧ Int.gcd (max n (-n)) d = Int.gcd n d ∧ (d = 0 → 1 ≤ max n (-n)) := by
  exact ⟨by omega, by omega, gcd_abs, by omega⟩
theorem z_c_spec_l2Reduce_12 (n : Int) (d : Int) (hp0 : -1000000 ≤ n ∧ n ≤ 1000000) (hp1 : 0 < d ∧ d ≤ 1000000) (x : Int) (y : Int) (hi10 : 0 ≤ x ∧ 0 ≤ y ∧ Int.gcd x y = Int.gcd n d ∧ (y = 0 → 1 ≤ x)) (h11 : ¬ (y = 0)) : 0 ≤ y ∧ 0 ≤ x % y ∧ Int.gcd y (x % y) = Int.gcd n d ∧ (x % y = 0 → 1 ≤ y) := by
  obtain ⟨h1, h2, h3, h8⟩ := ‹_ ∧ _ ∧ Int.gcd _ _ = _ ∧ _›; have h4 := Int.emod_nonneg x (show y ≠ 0 by omega); exact ⟨h2, h4, gcd_step h3, by omega⟩
theorem z_c_spec_l2Reduce_13 (n : Int) (d : Int) (hp0 : -1000000 ≤ n ∧ n ≤ 1000000) (hp1 : 0 < d ∧ d ≤ 1000000) (x : Int) (y : Int) (hi10 : 0 ≤ x ∧ 0 ≤ y ∧ Int.gcd x y = Int.gcd n d ∧ (y = 0 → 1 ≤ x)) (h11 : ¬ (y = 0)) : (x % y).toNat < y.toNat := by
  obtain ⟨h1, h2, h3, h8⟩ := ‹_ ∧ _ ∧ Int.gcd _ _ = _ ∧ _›; have h4 := Int.emod_nonneg x (show y ≠ 0 by omega); have h5 := Int.emod_lt_of_pos x (show 0 < y by omega); omega
theorem z_c_spec_l2Reduce_18 (n : Int) (d : Int) (hp0 : -1000000 ≤ n ∧ n ≤ 1000000) (hp1 : 0 < d ∧ d ≤ 1000000) (x : Int) (y : Int) (hi10 : 0 ≤ x ∧ 0 ≤ y ∧ Int.gcd x y = Int.gcd n d ∧ (y = 0 → 1 ≤ x)) (h11 : y = 0) : n.tdiv x = n.tdiv (Int.gcd n d : Int) := by
  obtain ⟨h1, h2, h3, h8⟩ := ‹_ ∧ _ ∧ Int.gcd _ _ = _ ∧ _›; obtain rfl : y = 0 := by omega
  rw [← h3, Int.gcd_zero_right, Int.natAbs_of_nonneg h1]
theorem z_c_spec_l2Reduce_19 (n : Int) (d : Int) (hp0 : -1000000 ≤ n ∧ n ≤ 1000000) (hp1 : 0 < d ∧ d ≤ 1000000) (x : Int) (y : Int) (hi10 : 0 ≤ x ∧ 0 ≤ y ∧ Int.gcd x y = Int.gcd n d ∧ (y = 0 → 1 ≤ x)) (h11 : y = 0) : d.tdiv x = d.tdiv (Int.gcd n d : Int) := by
  obtain ⟨h1, h2, h3, h8⟩ := ‹_ ∧ _ ∧ Int.gcd _ _ = _ ∧ _›; obtain rfl : y = 0 := by omega
  rw [← h3, Int.gcd_zero_right, Int.natAbs_of_nonneg h1]
theorem c_spec_l2Reduce (w : World) (n : Int) (d : Int) (hp0 : -1000000 ≤ n ∧ n ≤ 1000000) (hp1 : 0 < d ∧ d ≤ 1000000) : Calls Try.prog 24 #[.int .i64 n, .int .i64 d] w fun e w' => e = .returned (.tuple (List.toArray [.int .i64 (n.tdiv (Int.gcd n d : Int)), .int .i64 (d.tdiv (Int.gcd n d : Int))])) ∧ Lo w w' := by
  refine calls_W 27 Try.func24 rfl rfl rfl ?_
  have hgp := gcd_pos (a := n) hp1.1
  refine W.seq ?_
  refine W.regS (SR.q' (r_as (v := .int .i64 0) rfl) <| SR.q' (r_as (v := .int .i64 0) rfl) <| SR.nil ?_)
  refine W.seq ?_
  refine W.regS (SR.q' (r_mv (v := .int .i64 _) rfl) <| SR.q' (r_mv (v := .int .i64 _) rfl) <| SR.q' (r_neg rfl (by omega)) <| SR.call ent25 (c_spec_l1Most w n (-n)) rfl ?_)
  rintro e w1 ⟨rfl, hk2⟩
  refine ⟨_, rfl, ?_⟩
  have hz3 := hk2.size
  have hB4 := (Lo.refl w).lo hk2
  refine SR.q' (r_mv (v := .int .i64 _) rfl) <| SR.q' (r_as (v := .int .i64 _) rfl) <| SR.q' (r_as (v := .int .i64 _) rfl) <| SR.nil ?_
  refine W.seq ?_
  refine W.block ?_
  refine W.loop (σ := Int × Int) (fun g => [(0, .int .i64 n), (1, .int .i64 d), (4, .int .i64 0), (5, .int .i64 0), (6, .int .i64 g.1), (7, .int .i64 g.2)]) (fun g w' => (Lo w w') ∧ (0 ≤ g.1 ∧ 0 ≤ g.2 ∧ Int.gcd g.1 g.2 = Int.gcd n d ∧ (g.2 = 0 → 1 ≤ g.1))) (fun g => g.2.toNat) (max n (-n), d) ?_ ?_ ?_
  · exact ⟨rfl, rfl, rfl, rfl, rfl, rfl, trivial⟩
  · exact ⟨hB4, (z_c_spec_l2Reduce_5 n d hp0 hp1)⟩
  · rintro ⟨x, y⟩ f6 w7 hP9
    obtain ⟨hB8, hi10⟩ : (Lo w w7) ∧ (0 ≤ x ∧ 0 ≤ y ∧ Int.gcd x y = Int.gcd n d ∧ (y = 0 → 1 ≤ x)) := hP9
    refine (?_ : W _ _ _ _ _ (act _ (sets f6 [(0, .int .i64 n), (1, .int .i64 d), (4, .int .i64 0), (5, .int .i64 0), (6, .int .i64 x), (7, .int .i64 y)])) _)
    have hzw7 := hB8.size
    refine W.seq ?_
    refine W.seq ?_
    refine W.regS (SR.q' (r_mv (v := .int .i64 _) rfl) <| SR.q' (r_ne rfl rfl) <| SR.nil ?_)
    refine W.cond_n rfl (fun h11 => ?_) (fun h11 => ?_)
    · refine W.skip ?_
      refine W.block ?_
      refine W.seq ?_
      refine W.regS (SR.q' (r_mv (v := .int .i64 _) rfl) <| SR.q' (r_mv (v := .int .i64 _) rfl) <| SR.q' (r_rem rfl rfl (by omega)) <| SR.q' (r_as (v := .int .i64 _) rfl) <| SR.nil ?_)
      refine W.seq ?_
      refine W.regS (SR.q' (r_mv (v := .int .i64 _) rfl) <| SR.q' (r_as (v := .int .i64 _) rfl) <| SR.nil ?_)
      refine W.regS (SR.q' (r_mv (v := .int .i64 _) rfl) <| SR.q' (r_as (v := .int .i64 _) rfl) <| SR.nil ?_)
      refine ⟨(y, x % y), _, rfl, ⟨rfl, rfl, rfl, rfl, rfl, rfl, trivial⟩, ⟨hB8, ?_⟩, ?_⟩
      · exact (z_c_spec_l2Reduce_12 n d hp0 hp1 x y hi10 h11)
      · exact (z_c_spec_l2Reduce_13 n d hp0 hp1 x y hi10 h11)
    · refine W.exit (xin_here ?_)
      refine W.seq ?_
      refine W.regD mo (by kernel_rfl) (QR.q' (fun w' hw' => r_mv (v := .int .i64 _) rfl) <| QR.q' (fun w' hw' => r_mv (v := .int .i64 _) rfl) <| QR.q' (fun w' hw' => r_quoT rfl rfl (by omega)) <| QR.q' (fun w' hw' => r_mv (v := .int .i64 _) rfl) <| QR.q' (fun w' hw' => r_mv (v := .int .i64 _) rfl) <| QR.q' (fun w' hw' => r_quoT rfl rfl (by omega)) <| QR.q' (fun w' hw' => r_as (v := .int .i64 _) rfl) <| QR.q' (fun w' hw' => r_as (v := .int .i64 _) rfl) <| QR.nil ?_)
      intro w14 hk15
      have hz16 := hk15.size
      have hB17 := hB8.lo hk15
      refine W.ret ?_
      refine ret2 rfl (v := .int .i64 _) (v' := .int .i64 _) rfl rfl ?_
      exact ⟨eR (eT2 (eI (z_c_spec_l2Reduce_18 n d hp0 hp1 x y hi10 h11)) (eI (z_c_spec_l2Reduce_19 n d hp0 hp1 x y hi10 h11))), hB17⟩

theorem z_c_spec_GrowthOf_6 (L : List LibRow) (nL : Nat) (hbdL : (nL : Int) ≤ 9223372036854775807) (hleL : nL = L.length) (h5 : ¬ (RowsOK L)) : 0 = groN L := by
  first | (simp_all [groN]; done) | (unfold groN; rw [if_neg (by omega)])
theorem z_c_spec_GrowthOf_7 (L : List LibRow) (nL : Nat) (hbdL : (nL : Int) ≤ 9223372036854775807) (hleL : nL = L.length) (h5 : ¬ (RowsOK L)) : 0 = groD L := by
  first | (simp_all [groD]; done) | (unfold groD; rw [if_neg (by omega)])
theorem z_c_spec_GrowthOf_8 (L : List LibRow) (nL : Nat) (hbdL : (nL : Int) ≤ 9223372036854775807) (hleL : nL = L.length) (h5 : ¬ (RowsOK L)) : ¬ (RowsOK L ∧ 2 ≤ L.length) := by
  first | (simp_all; done) | omega
theorem z_c_spec_GrowthOf_11 (L : List LibRow) (nL : Nat) (hbdL : (nL : Int) ≤ 9223372036854775807) (hleL : nL = L.length) (h5 : RowsOK L) (hq9 : L.length ≤ 12) (h10 : (nL : Int) < 2) : 0 = groN L := by
  first | (simp_all [groN]; done) | (unfold groN; rw [if_neg (by omega)])
theorem z_c_spec_GrowthOf_12 (L : List LibRow) (nL : Nat) (hbdL : (nL : Int) ≤ 9223372036854775807) (hleL : nL = L.length) (h5 : RowsOK L) (hq9 : L.length ≤ 12) (h10 : (nL : Int) < 2) : 0 = groD L := by
  first | (simp_all [groD]; done) | (unfold groD; rw [if_neg (by omega)])
theorem z_c_spec_GrowthOf_13 (L : List LibRow) (nL : Nat) (hbdL : (nL : Int) ≤ 9223372036854775807) (hleL : nL = L.length) (h5 : RowsOK L) (hq9 : L.length ≤ 12) (h10 : (nL : Int) < 2) : ¬ (RowsOK L ∧ 2 ≤ L.length) := by
  first | (simp_all; done) | omega
theorem z_c_spec_GrowthOf_32 (L : List LibRow) (nL : Nat) (hbdL : (nL : Int) ≤ 9223372036854775807) (hleL : nL = L.length) (h5 : RowsOK L) (hq9 : L.length ≤ 12) (h10 : ¬ ((nL : Int) < 2)) (x14 : LibRow) (hx16 : L[nL - 1]? = some x14) (hq17 : ((1 : Int) ≤ x14.Month ∧ x14.Month ≤ 1200) ∧ ((0 : Int) ≤ x14.Lent ∧ x14.Lent ≤ 9999) ∧ ((0 : Int) ≤ x14.Copied ∧ x14.Copied ≤ 9999) ∧ ((0 : Int) ≤ x14.Given ∧ x14.Given ≤ 999) ∧ ((0 : Int) ≤ x14.Fines ∧ x14.Fines ≤ 99999)) (x18 : LibRow) (hx19 : L[0]? = some x18) (hq20 : ((1 : Int) ≤ x18.Month ∧ x18.Month ≤ 1200) ∧ ((0 : Int) ≤ x18.Lent ∧ x18.Lent ≤ 9999) ∧ ((0 : Int) ≤ x18.Copied ∧ x18.Copied ≤ 9999) ∧ ((0 : Int) ≤ x18.Given ∧ x18.Given ≤ 999) ∧ ((0 : Int) ≤ x18.Fines ∧ x18.Fines ≤ 99999)) (hq21 : 2 ≤ nL → x18.Month < x14.Month) (hq26 : -(max (max (x14.Lent - x18.Lent) (-(x14.Lent - x18.Lent))) (-(max (x14.Lent - x18.Lent) (-(x14.Lent - x18.Lent))))) ≤ (max (x14.Lent - x18.Lent) (-(x14.Lent - x18.Lent))).tdiv (Int.gcd (max (x14.Lent - x18.Lent) (-(x14.Lent - x18.Lent))) (x14.Month - x18.Month) : Int) ∧ (max (x14.Lent - x18.Lent) (-(x14.Lent - x18.Lent))).tdiv (Int.gcd (max (x14.Lent - x18.Lent) (-(x14.Lent - x18.Lent))) (x14.Month - x18.Month) : Int) ≤ max (max (x14.Lent - x18.Lent) (-(x14.Lent - x18.Lent))) (-(max (x14.Lent - x18.Lent) (-(x14.Lent - x18.Lent))))) (h31 : (x14.Lent - x18.Lent) < 0) : -((max (x14.Lent - x18.Lent) (-(x14.Lent - x18.Lent))).tdiv (Int.gcd (max (x14.Lent - x18.Lent) (-(x14.Lent - x18.Lent))) (x14.Month - x18.Month) : Int)) = groN L := by
  have hl2 : 2 ≤ L.length := by omega
  subst hleL
  rw [groN_of ‹RowsOK L› hl2 ‹L[0]? = some _› ‹L[L.length - 1]? = some _›]
  all_goals (first | rfl | (rw [abs_tdiv (by omega), gcd_abs]; done) | (rw [gcd_abs, show max (_ : Int) (-_) = _ from Int.max_eq_left (by omega)]))
theorem z_c_spec_GrowthOf_33 (L : List LibRow) (nL : Nat) (hbdL : (nL : Int) ≤ 9223372036854775807) (hleL : nL = L.length) (h5 : RowsOK L) (hq9 : L.length ≤ 12) (h10 : ¬ ((nL : Int) < 2)) (x14 : LibRow) (hx16 : L[nL - 1]? = some x14) (hq17 : ((1 : Int) ≤ x14.Month ∧ x14.Month ≤ 1200) ∧ ((0 : Int) ≤ x14.Lent ∧ x14.Lent ≤ 9999) ∧ ((0 : Int) ≤ x14.Copied ∧ x14.Copied ≤ 9999) ∧ ((0 : Int) ≤ x14.Given ∧ x14.Given ≤ 999) ∧ ((0 : Int) ≤ x14.Fines ∧ x14.Fines ≤ 99999)) (x18 : LibRow) (hx19 : L[0]? = some x18) (hq20 : ((1 : Int) ≤ x18.Month ∧ x18.Month ≤ 1200) ∧ ((0 : Int) ≤ x18.Lent ∧ x18.Lent ≤ 9999) ∧ ((0 : Int) ≤ x18.Copied ∧ x18.Copied ≤ 9999) ∧ ((0 : Int) ≤ x18.Given ∧ x18.Given ≤ 999) ∧ ((0 : Int) ≤ x18.Fines ∧ x18.Fines ≤ 99999)) (hq21 : 2 ≤ nL → x18.Month < x14.Month) (hq26 : -(max (max (x14.Lent - x18.Lent) (-(x14.Lent - x18.Lent))) (-(max (x14.Lent - x18.Lent) (-(x14.Lent - x18.Lent))))) ≤ (max (x14.Lent - x18.Lent) (-(x14.Lent - x18.Lent))).tdiv (Int.gcd (max (x14.Lent - x18.Lent) (-(x14.Lent - x18.Lent))) (x14.Month - x18.Month) : Int) ∧ (max (x14.Lent - x18.Lent) (-(x14.Lent - x18.Lent))).tdiv (Int.gcd (max (x14.Lent - x18.Lent) (-(x14.Lent - x18.Lent))) (x14.Month - x18.Month) : Int) ≤ max (max (x14.Lent - x18.Lent) (-(x14.Lent - x18.Lent))) (-(max (x14.Lent - x18.Lent) (-(x14.Lent - x18.Lent))))) (h31 : (x14.Lent - x18.Lent) < 0) : (x14.Month - x18.Month).tdiv (Int.gcd (max (x14.Lent - x18.Lent) (-(x14.Lent - x18.Lent))) (x14.Month - x18.Month) : Int) = groD L := by
  have hl2 : 2 ≤ L.length := by omega
  subst hleL
  rw [groD_of ‹RowsOK L› hl2 ‹L[0]? = some _› ‹L[L.length - 1]? = some _›]
  all_goals (first | rfl | rw [gcd_abs])
theorem z_c_spec_GrowthOf_34 (L : List LibRow) (nL : Nat) (hbdL : (nL : Int) ≤ 9223372036854775807) (hleL : nL = L.length) (h5 : RowsOK L) (hq9 : L.length ≤ 12) (h10 : ¬ ((nL : Int) < 2)) (x14 : LibRow) (hx16 : L[nL - 1]? = some x14) (hq17 : ((1 : Int) ≤ x14.Month ∧ x14.Month ≤ 1200) ∧ ((0 : Int) ≤ x14.Lent ∧ x14.Lent ≤ 9999) ∧ ((0 : Int) ≤ x14.Copied ∧ x14.Copied ≤ 9999) ∧ ((0 : Int) ≤ x14.Given ∧ x14.Given ≤ 999) ∧ ((0 : Int) ≤ x14.Fines ∧ x14.Fines ≤ 99999)) (x18 : LibRow) (hx19 : L[0]? = some x18) (hq20 : ((1 : Int) ≤ x18.Month ∧ x18.Month ≤ 1200) ∧ ((0 : Int) ≤ x18.Lent ∧ x18.Lent ≤ 9999) ∧ ((0 : Int) ≤ x18.Copied ∧ x18.Copied ≤ 9999) ∧ ((0 : Int) ≤ x18.Given ∧ x18.Given ≤ 999) ∧ ((0 : Int) ≤ x18.Fines ∧ x18.Fines ≤ 99999)) (hq21 : 2 ≤ nL → x18.Month < x14.Month) (hq26 : -(max (max (x14.Lent - x18.Lent) (-(x14.Lent - x18.Lent))) (-(max (x14.Lent - x18.Lent) (-(x14.Lent - x18.Lent))))) ≤ (max (x14.Lent - x18.Lent) (-(x14.Lent - x18.Lent))).tdiv (Int.gcd (max (x14.Lent - x18.Lent) (-(x14.Lent - x18.Lent))) (x14.Month - x18.Month) : Int) ∧ (max (x14.Lent - x18.Lent) (-(x14.Lent - x18.Lent))).tdiv (Int.gcd (max (x14.Lent - x18.Lent) (-(x14.Lent - x18.Lent))) (x14.Month - x18.Month) : Int) ≤ max (max (x14.Lent - x18.Lent) (-(x14.Lent - x18.Lent))) (-(max (x14.Lent - x18.Lent) (-(x14.Lent - x18.Lent))))) (h31 : (x14.Lent - x18.Lent) < 0) : RowsOK L ∧ 2 ≤ L.length := by
  first | exact ⟨by assumption, by omega⟩ | omega
theorem z_c_spec_GrowthOf_35 (L : List LibRow) (nL : Nat) (hbdL : (nL : Int) ≤ 9223372036854775807) (hleL : nL = L.length) (h5 : RowsOK L) (hq9 : L.length ≤ 12) (h10 : ¬ ((nL : Int) < 2)) (x14 : LibRow) (hx16 : L[nL - 1]? = some x14) (hq17 : ((1 : Int) ≤ x14.Month ∧ x14.Month ≤ 1200) ∧ ((0 : Int) ≤ x14.Lent ∧ x14.Lent ≤ 9999) ∧ ((0 : Int) ≤ x14.Copied ∧ x14.Copied ≤ 9999) ∧ ((0 : Int) ≤ x14.Given ∧ x14.Given ≤ 999) ∧ ((0 : Int) ≤ x14.Fines ∧ x14.Fines ≤ 99999)) (x18 : LibRow) (hx19 : L[0]? = some x18) (hq20 : ((1 : Int) ≤ x18.Month ∧ x18.Month ≤ 1200) ∧ ((0 : Int) ≤ x18.Lent ∧ x18.Lent ≤ 9999) ∧ ((0 : Int) ≤ x18.Copied ∧ x18.Copied ≤ 9999) ∧ ((0 : Int) ≤ x18.Given ∧ x18.Given ≤ 999) ∧ ((0 : Int) ≤ x18.Fines ∧ x18.Fines ≤ 99999)) (hq21 : 2 ≤ nL → x18.Month < x14.Month) (hq26 : -(max (max (x14.Lent - x18.Lent) (-(x14.Lent - x18.Lent))) (-(max (x14.Lent - x18.Lent) (-(x14.Lent - x18.Lent))))) ≤ (max (x14.Lent - x18.Lent) (-(x14.Lent - x18.Lent))).tdiv (Int.gcd (max (x14.Lent - x18.Lent) (-(x14.Lent - x18.Lent))) (x14.Month - x18.Month) : Int) ∧ (max (x14.Lent - x18.Lent) (-(x14.Lent - x18.Lent))).tdiv (Int.gcd (max (x14.Lent - x18.Lent) (-(x14.Lent - x18.Lent))) (x14.Month - x18.Month) : Int) ≤ max (max (x14.Lent - x18.Lent) (-(x14.Lent - x18.Lent))) (-(max (x14.Lent - x18.Lent) (-(x14.Lent - x18.Lent))))) (h31 : ¬ ((x14.Lent - x18.Lent) < 0)) : (max (x14.Lent - x18.Lent) (-(x14.Lent - x18.Lent))).tdiv (Int.gcd (max (x14.Lent - x18.Lent) (-(x14.Lent - x18.Lent))) (x14.Month - x18.Month) : Int) = groN L := by
  have hl2 : 2 ≤ L.length := by omega
  subst hleL
  rw [groN_of ‹RowsOK L› hl2 ‹L[0]? = some _› ‹L[L.length - 1]? = some _›]
  all_goals (first | rfl | (rw [abs_tdiv (by omega), gcd_abs]; done) | (rw [gcd_abs, show max (_ : Int) (-_) = _ from Int.max_eq_left (by omega)]))
theorem z_c_spec_GrowthOf_36 (L : List LibRow) (nL : Nat) (hbdL : (nL : Int) ≤ 9223372036854775807) (hleL : nL = L.length) (h5 : RowsOK L) (hq9 : L.length ≤ 12) (h10 : ¬ ((nL : Int) < 2)) (x14 : LibRow) (hx16 : L[nL - 1]? = some x14) (hq17 : ((1 : Int) ≤ x14.Month ∧ x14.Month ≤ 1200) ∧ ((0 : Int) ≤ x14.Lent ∧ x14.Lent ≤ 9999) ∧ ((0 : Int) ≤ x14.Copied ∧ x14.Copied ≤ 9999) ∧ ((0 : Int) ≤ x14.Given ∧ x14.Given ≤ 999) ∧ ((0 : Int) ≤ x14.Fines ∧ x14.Fines ≤ 99999)) (x18 : LibRow) (hx19 : L[0]? = some x18) (hq20 : ((1 : Int) ≤ x18.Month ∧ x18.Month ≤ 1200) ∧ ((0 : Int) ≤ x18.Lent ∧ x18.Lent ≤ 9999) ∧ ((0 : Int) ≤ x18.Copied ∧ x18.Copied ≤ 9999) ∧ ((0 : Int) ≤ x18.Given ∧ x18.Given ≤ 999) ∧ ((0 : Int) ≤ x18.Fines ∧ x18.Fines ≤ 99999)) (hq21 : 2 ≤ nL → x18.Month < x14.Month) (hq26 : -(max (max (x14.Lent - x18.Lent) (-(x14.Lent - x18.Lent))) (-(max (x14.Lent - x18.Lent) (-(x14.Lent - x18.Lent))))) ≤ (max (x14.Lent - x18.Lent) (-(x14.Lent - x18.Lent))).tdiv (Int.gcd (max (x14.Lent - x18.Lent) (-(x14.Lent - x18.Lent))) (x14.Month - x18.Month) : Int) ∧ (max (x14.Lent - x18.Lent) (-(x14.Lent - x18.Lent))).tdiv (Int.gcd (max (x14.Lent - x18.Lent) (-(x14.Lent - x18.Lent))) (x14.Month - x18.Month) : Int) ≤ max (max (x14.Lent - x18.Lent) (-(x14.Lent - x18.Lent))) (-(max (x14.Lent - x18.Lent) (-(x14.Lent - x18.Lent))))) (h31 : ¬ ((x14.Lent - x18.Lent) < 0)) : (x14.Month - x18.Month).tdiv (Int.gcd (max (x14.Lent - x18.Lent) (-(x14.Lent - x18.Lent))) (x14.Month - x18.Month) : Int) = groD L := by
  have hl2 : 2 ≤ L.length := by omega
  subst hleL
  rw [groD_of ‹RowsOK L› hl2 ‹L[0]? = some _› ‹L[L.length - 1]? = some _›]
  all_goals (first | rfl | rw [gcd_abs])
theorem z_c_spec_GrowthOf_37 (L : List LibRow) (nL : Nat) (hbdL : (nL : Int) ≤ 9223372036854775807) (hleL : nL = L.length) (h5 : RowsOK L) (hq9 : L.length ≤ 12) (h10 : ¬ ((nL : Int) < 2)) (x14 : LibRow) (hx16 : L[nL - 1]? = some x14) (hq17 : ((1 : Int) ≤ x14.Month ∧ x14.Month ≤ 1200) ∧ ((0 : Int) ≤ x14.Lent ∧ x14.Lent ≤ 9999) ∧ ((0 : Int) ≤ x14.Copied ∧ x14.Copied ≤ 9999) ∧ ((0 : Int) ≤ x14.Given ∧ x14.Given ≤ 999) ∧ ((0 : Int) ≤ x14.Fines ∧ x14.Fines ≤ 99999)) (x18 : LibRow) (hx19 : L[0]? = some x18) (hq20 : ((1 : Int) ≤ x18.Month ∧ x18.Month ≤ 1200) ∧ ((0 : Int) ≤ x18.Lent ∧ x18.Lent ≤ 9999) ∧ ((0 : Int) ≤ x18.Copied ∧ x18.Copied ≤ 9999) ∧ ((0 : Int) ≤ x18.Given ∧ x18.Given ≤ 999) ∧ ((0 : Int) ≤ x18.Fines ∧ x18.Fines ≤ 99999)) (hq21 : 2 ≤ nL → x18.Month < x14.Month) (hq26 : -(max (max (x14.Lent - x18.Lent) (-(x14.Lent - x18.Lent))) (-(max (x14.Lent - x18.Lent) (-(x14.Lent - x18.Lent))))) ≤ (max (x14.Lent - x18.Lent) (-(x14.Lent - x18.Lent))).tdiv (Int.gcd (max (x14.Lent - x18.Lent) (-(x14.Lent - x18.Lent))) (x14.Month - x18.Month) : Int) ∧ (max (x14.Lent - x18.Lent) (-(x14.Lent - x18.Lent))).tdiv (Int.gcd (max (x14.Lent - x18.Lent) (-(x14.Lent - x18.Lent))) (x14.Month - x18.Month) : Int) ≤ max (max (x14.Lent - x18.Lent) (-(x14.Lent - x18.Lent))) (-(max (x14.Lent - x18.Lent) (-(x14.Lent - x18.Lent))))) (h31 : ¬ ((x14.Lent - x18.Lent) < 0)) : RowsOK L ∧ 2 ≤ L.length := by
  first | exact ⟨by assumption, by omega⟩ | omega
theorem c_spec_GrowthOf (w : World) {AL : Option Addr} {nL cL BL : Nat}  (L : List LibRow) (hL : SlR w BL encLibRow 5 AL nL cL L) : Calls Try.prog 10 #[.slice AL nL cL] w fun e w' => e = .returned (.tuple (List.toArray [.int .i64 (groN L), .int .i64 (groD L), .bool (decide (RowsOK L ∧ 2 ≤ L.length))])) ∧ Lo w w' := by
  refine calls_W 54 Try.func10 rfl rfl rfl ?_
  have hbdL := hL.bound
  have hleL := hL.len
  have hBbL := hL.bd
  refine W.seq ?_
  refine W.regS (SR.q' (r_as (v := .int .i64 0) rfl) <| SR.q' (r_as (v := .int .i64 0) rfl) <| SR.q' (r_as (v := .bool false) rfl) <| SR.nil ?_)
  refine W.seq ?_
  refine W.regS (SR.q' (r_mv (v := .slice _ _ _) rfl) <| SR.q' (r_len und24 rfl) <| SR.q' (r_as (v := .int .i64 _) rfl) <| SR.nil ?_)
  refine W.seq ?_
  refine W.seq ?_
  refine W.regS (SR.q' (r_mv (v := .slice _ _ _) rfl) <| SR.call ent22 (c_spec_l31Good w L ((hL))) rfl ?_)
  rintro e w1 ⟨rfl, hk2⟩
  refine ⟨_, rfl, ?_⟩
  have hz3 := hk2.size
  have hB4 := (Lo.refl w).lo hk2
  refine SR.q' (r_not rfl) <| SR.q' (r_mv (v := .bool _) rfl) <| SR.splitN (fun h5 => ?_) (fun h5 => ?_)
  · refine SR.s' rfl <| SR.s' rfl <| SR.q' (r_pick true rfl (v := .bool true) rfl) <| SR.nil ?_
    refine W.cond_t rfl ?_
    refine W.seq ?_
    refine W.regS (SR.q' (r_as (v := .int .i64 0) rfl) <| SR.q' (r_as (v := .int .i64 0) rfl) <| SR.q' (r_as (v := .bool false) rfl) <| SR.nil ?_)
    refine W.ret ?_
    refine ret3 rfl (v := .int .i64 _) (v' := .int .i64 _) (v'' := .bool _) rfl rfl rfl ?_
    exact ⟨eR (eT3 (eI (z_c_spec_GrowthOf_6 L nL hbdL hleL h5)) (eI (z_c_spec_GrowthOf_7 L nL hbdL hleL h5)) (eDF (z_c_spec_GrowthOf_8 L nL hbdL hleL h5))), hB4⟩
  · have hq9 := rows_len h5
    refine SR.g' rfl (r_mv (v := .int .i64 _) rfl) <| SR.g' rfl (r_lt rfl rfl) <| SR.q' (r_pick false rfl (v := .bool _) rfl) <| SR.nil ?_
    refine W.cond_d rfl (fun h10 => ?_) (fun h10 => ?_)
    · refine W.seq ?_
      refine W.regS (SR.q' (r_as (v := .int .i64 0) rfl) <| SR.q' (r_as (v := .int .i64 0) rfl) <| SR.q' (r_as (v := .bool false) rfl) <| SR.nil ?_)
      refine W.ret ?_
      refine ret3 rfl (v := .int .i64 _) (v' := .int .i64 _) (v'' := .bool _) rfl rfl rfl ?_
      exact ⟨eR (eT3 (eI (z_c_spec_GrowthOf_11 L nL hbdL hleL h5 hq9 h10)) (eI (z_c_spec_GrowthOf_12 L nL hbdL hleL h5 hq9 h10)) (eDF (z_c_spec_GrowthOf_13 L nL hbdL hleL h5 hq9 h10))), hB4⟩
    · refine W.skip ?_
      refine W.seq ?_
      refine W.regD mo (by kernel_rfl) (QR.q' (fun w' hw' => r_mv (v := .slice _ _ _) rfl) <| QR.q' (fun w' hw' => r_mv (v := .int .i64 _) rfl) <| QR.q' (fun w' hw' => r_sub rfl rfl (by omega)) <| ?_)
      obtain ⟨x14, hx15⟩ := ((hL).lo hk2).get (i := ((nL : Int) - 1).toNat) (by omega)
      have hx16 : L[nL - 1]? = some x14 := (show ((nL : Int) - 1).toNat = nL - 1 from by omega) ▸ hx15
      have hq17 := rows_rng h5 hx16
      refine QR.q' (fun w' hw' => r_ixR tsl24 ((((hL).lo hk2).lo hw')) rfl rfl (by omega)) <| QR.q' (fun w' hw' => r_fa fa29_1 rfl) <| QR.q' (fun w' hw' => r_ld (v := .int .i64 x14.Lent) sca3 rfl (((((hL).lo hk2).lo hw')).cell hx15 rfl)) <| QR.q' (fun w' hw' => r_mv (v := .slice _ _ _) rfl) <| ?_
      obtain ⟨x18, hx19⟩ := ((hL).lo hk2).get (i := 0) (by omega)
      have hq20 := rows_rng h5 hx19
      have hq21 := rows_month' h5 hx19 hx16
      refine QR.q' (fun w' hw' => r_ixR tsl24 ((((hL).lo hk2).lo hw')) rfl rfl (by omega)) <| QR.q' (fun w' hw' => r_fa fa29_1 rfl) <| QR.q' (fun w' hw' => r_ld (v := .int .i64 x18.Lent) sca3 rfl (((((hL).lo hk2).lo hw')).cell hx19 rfl)) <| QR.q' (fun w' hw' => r_sub rfl rfl (by omega)) <| QR.q' (fun w' hw' => r_as (v := .int .i64 _) rfl) <| QR.nil ?_
      intro w22 hk23
      have hz24 := hk23.size
      have hB25 := hB4.lo hk23
      refine W.seq ?_
      refine W.regD mo (by kernel_rfl) (QR.q' (fun w' hw' => r_mv (v := .int .i64 _) rfl) <| QR.q' (fun w' hw' => r_mv (v := .int .i64 _) rfl) <| QR.q' (fun w' hw' => r_neg rfl (by omega)) <| QR.call ent25 (fun w' hw' => (c_spec_l1Most w' (x14.Lent - x18.Lent) (-(x14.Lent - x18.Lent))).mono fun _ _ h => ⟨h.1, hw'.trans h.2⟩) rfl <| QR.q' (fun w' hw' => r_mv (v := .slice _ _ _) rfl) <| QR.q' (fun w' hw' => r_mv (v := .int .i64 _) rfl) <| QR.q' (fun w' hw' => r_sub rfl rfl (by omega)) <| QR.q' (fun w' hw' => r_ixR tsl24 (((((hL).lo hk2).lo hk23).lo hw')) rfl rfl (by omega)) <| QR.q' (fun w' hw' => r_fa fa29_0 rfl) <| QR.q' (fun w' hw' => r_ld (v := .int .i64 x14.Month) sca3 rfl ((((((hL).lo hk2).lo hk23).lo hw')).cell hx15 rfl)) <| QR.q' (fun w' hw' => r_mv (v := .slice _ _ _) rfl) <| QR.q' (fun w' hw' => r_ixR tsl24 (((((hL).lo hk2).lo hk23).lo hw')) rfl rfl (by omega)) <| QR.q' (fun w' hw' => r_fa fa29_0 rfl) <| QR.q' (fun w' hw' => r_ld (v := .int .i64 x18.Month) sca3 rfl ((((((hL).lo hk2).lo hk23).lo hw')).cell hx19 rfl)) <| QR.q' (fun w' hw' => r_sub rfl rfl (by omega)) <| QR.call ent24 (fun w' hw' => (c_spec_l2Reduce w' (max (x14.Lent - x18.Lent) (-(x14.Lent - x18.Lent))) (x14.Month - x18.Month) (by omega) (by omega)).mono fun _ _ h => ⟨h.1, hw'.trans h.2⟩) rfl <| ?_)
      have hq26 : -(max (max (x14.Lent - x18.Lent) (-(x14.Lent - x18.Lent))) (-(max (x14.Lent - x18.Lent) (-(x14.Lent - x18.Lent))))) ≤ (max (x14.Lent - x18.Lent) (-(x14.Lent - x18.Lent))).tdiv (Int.gcd (max (x14.Lent - x18.Lent) (-(x14.Lent - x18.Lent))) (x14.Month - x18.Month) : Int) ∧ (max (x14.Lent - x18.Lent) (-(x14.Lent - x18.Lent))).tdiv (Int.gcd (max (x14.Lent - x18.Lent) (-(x14.Lent - x18.Lent))) (x14.Month - x18.Month) : Int) ≤ max (max (x14.Lent - x18.Lent) (-(x14.Lent - x18.Lent))) (-(max (x14.Lent - x18.Lent) (-(x14.Lent - x18.Lent)))) := tdiv_rng (gcd_pos (by omega))
      refine QR.q' (fun w' hw' => r_mv (v := .tuple (List.toArray _)) rfl) <| QR.q' (fun w' hw' => r_ext (v := .int .i64 _) rfl rfl) <| QR.q' (fun w' hw' => r_ext (v := .int .i64 _) rfl rfl) <| QR.q' (fun w' hw' => r_as (v := .int .i64 _) rfl) <| QR.q' (fun w' hw' => r_as (v := .int .i64 _) rfl) <| QR.nil ?_
      intro w27 hk28
      have hz29 := hk28.size
      have hB30 := hB25.lo hk28
      refine W.seq ?_
      refine W.seq ?_
      refine W.regS (SR.q' (r_mv (v := .int .i64 _) rfl) <| SR.q' (r_lt rfl rfl) <| SR.nil ?_)
      refine W.cond_d rfl (fun h31 => ?_) (fun h31 => ?_)
      · refine W.regS (SR.q' (r_mv (v := .int .i64 _) rfl) <| SR.q' (r_neg rfl (by omega)) <| SR.q' (r_as (v := .int .i64 _) rfl) <| SR.nil ?_)
        refine W.seq ?_
        refine W.regS (SR.q' (r_mv (v := .int .i64 _) rfl) <| SR.q' (r_mv (v := .int .i64 _) rfl) <| SR.q' (r_as (v := .int .i64 _) rfl) <| SR.q' (r_as (v := .int .i64 _) rfl) <| SR.q' (r_as (v := .bool true) rfl) <| SR.nil ?_)
        refine W.ret ?_
        refine ret3 rfl (v := .int .i64 _) (v' := .int .i64 _) (v'' := .bool _) rfl rfl rfl ?_
        exact ⟨eR (eT3 (eI (z_c_spec_GrowthOf_32 L nL hbdL hleL h5 hq9 h10 x14 hx16 hq17 x18 hx19 hq20 hq21 hq26 h31)) (eI (z_c_spec_GrowthOf_33 L nL hbdL hleL h5 hq9 h10 x14 hx16 hq17 x18 hx19 hq20 hq21 hq26 h31)) (eDT (z_c_spec_GrowthOf_34 L nL hbdL hleL h5 hq9 h10 x14 hx16 hq17 x18 hx19 hq20 hq21 hq26 h31))), hB30⟩
      · refine W.skip ?_
        refine W.seq ?_
        refine W.regS (SR.q' (r_mv (v := .int .i64 _) rfl) <| SR.q' (r_mv (v := .int .i64 _) rfl) <| SR.q' (r_as (v := .int .i64 _) rfl) <| SR.q' (r_as (v := .int .i64 _) rfl) <| SR.q' (r_as (v := .bool true) rfl) <| SR.nil ?_)
        refine W.ret ?_
        refine ret3 rfl (v := .int .i64 _) (v' := .int .i64 _) (v'' := .bool _) rfl rfl rfl ?_
        exact ⟨eR (eT3 (eI (z_c_spec_GrowthOf_35 L nL hbdL hleL h5 hq9 h10 x14 hx16 hq17 x18 hx19 hq20 hq21 hq26 h31)) (eI (z_c_spec_GrowthOf_36 L nL hbdL hleL h5 hq9 h10 x14 hx16 hq17 x18 hx19 hq20 hq21 hq26 h31)) (eDT (z_c_spec_GrowthOf_37 L nL hbdL hleL h5 hq9 h10 x14 hx16 hq17 x18 hx19 hq20 hq21 hq26 h31))), hB30⟩

theorem z_c_impl_GrowthOf_6 (L : List LibRow) (nL : Nat) (hbdL : (nL : Int) ≤ 9223372036854775807) (hleL : nL = L.length) (h5 : ¬ (RowsOK L)) : 0 = groN L := by
  first | (simp_all [groN]; done) | (unfold groN; rw [if_neg (by omega)])
theorem z_c_impl_GrowthOf_7 (L : List LibRow) (nL : Nat) (hbdL : (nL : Int) ≤ 9223372036854775807) (hleL : nL = L.length) (h5 : ¬ (RowsOK L)) : 0 = groD L := by
  first | (simp_all [groD]; done) | (unfold groD; rw [if_neg (by omega)])
theorem z_c_impl_GrowthOf_8 (L : List LibRow) (nL : Nat) (hbdL : (nL : Int) ≤ 9223372036854775807) (hleL : nL = L.length) (h5 : ¬ (RowsOK L)) : ¬ (RowsOK L ∧ 2 ≤ L.length) := by
  first | (simp_all; done) | omega
theorem z_c_impl_GrowthOf_11 (L : List LibRow) (nL : Nat) (hbdL : (nL : Int) ≤ 9223372036854775807) (hleL : nL = L.length) (h5 : RowsOK L) (hq9 : L.length ≤ 12) (h10 : (nL : Int) < 2) : 0 = groN L := by
  first | (simp_all [groN]; done) | (unfold groN; rw [if_neg (by omega)])
theorem z_c_impl_GrowthOf_12 (L : List LibRow) (nL : Nat) (hbdL : (nL : Int) ≤ 9223372036854775807) (hleL : nL = L.length) (h5 : RowsOK L) (hq9 : L.length ≤ 12) (h10 : (nL : Int) < 2) : 0 = groD L := by
  first | (simp_all [groD]; done) | (unfold groD; rw [if_neg (by omega)])
theorem z_c_impl_GrowthOf_13 (L : List LibRow) (nL : Nat) (hbdL : (nL : Int) ≤ 9223372036854775807) (hleL : nL = L.length) (h5 : RowsOK L) (hq9 : L.length ≤ 12) (h10 : (nL : Int) < 2) : ¬ (RowsOK L ∧ 2 ≤ L.length) := by
  first | (simp_all; done) | omega
theorem z_c_impl_GrowthOf_108 (L : List LibRow) (nL : Nat) (hbdL : (nL : Int) ≤ 9223372036854775807) (hleL : nL = L.length) (h5 : RowsOK L) (hq9 : L.length ≤ 12) (h10 : ¬ ((nL : Int) < 2)) (x18 : LibRow) (x21 : LibRow) (hx19 : L[0]? = some x18) (hq20 : ((1 : Int) ≤ x18.Month ∧ x18.Month ≤ 1200) ∧ ((0 : Int) ≤ x18.Lent ∧ x18.Lent ≤ 9999) ∧ ((0 : Int) ≤ x18.Copied ∧ x18.Copied ≤ 9999) ∧ ((0 : Int) ≤ x18.Given ∧ x18.Given ≤ 999) ∧ ((0 : Int) ≤ x18.Fines ∧ x18.Fines ≤ 99999)) (hx23 : L[nL - 1]? = some x21) (hq24 : ((1 : Int) ≤ x21.Month ∧ x21.Month ≤ 1200) ∧ ((0 : Int) ≤ x21.Lent ∧ x21.Lent ≤ 9999) ∧ ((0 : Int) ≤ x21.Copied ∧ x21.Copied ≤ 9999) ∧ ((0 : Int) ≤ x21.Given ∧ x21.Given ≤ 999) ∧ ((0 : Int) ≤ x21.Fines ∧ x21.Fines ≤ 99999)) (hq25 : 2 ≤ nL → x18.Month < x21.Month) : (x21.Lent - x18.Lent).tdiv (Int.gcd (x21.Lent - x18.Lent) (x21.Month - x18.Month) : Int) = groN L := by
  have hl2 : 2 ≤ L.length := by omega
  subst hleL
  rw [groN_of ‹RowsOK L› hl2 ‹L[0]? = some _› ‹L[L.length - 1]? = some _›]
  all_goals (first | rfl | (rw [abs_tdiv (by omega), gcd_abs]; done) | (rw [gcd_abs, show max (_ : Int) (-_) = _ from Int.max_eq_left (by omega)]))
theorem z_c_impl_GrowthOf_109 (L : List LibRow) (nL : Nat) (hbdL : (nL : Int) ≤ 9223372036854775807) (hleL : nL = L.length) (h5 : RowsOK L) (hq9 : L.length ≤ 12) (h10 : ¬ ((nL : Int) < 2)) (x18 : LibRow) (x21 : LibRow) (hx19 : L[0]? = some x18) (hq20 : ((1 : Int) ≤ x18.Month ∧ x18.Month ≤ 1200) ∧ ((0 : Int) ≤ x18.Lent ∧ x18.Lent ≤ 9999) ∧ ((0 : Int) ≤ x18.Copied ∧ x18.Copied ≤ 9999) ∧ ((0 : Int) ≤ x18.Given ∧ x18.Given ≤ 999) ∧ ((0 : Int) ≤ x18.Fines ∧ x18.Fines ≤ 99999)) (hx23 : L[nL - 1]? = some x21) (hq24 : ((1 : Int) ≤ x21.Month ∧ x21.Month ≤ 1200) ∧ ((0 : Int) ≤ x21.Lent ∧ x21.Lent ≤ 9999) ∧ ((0 : Int) ≤ x21.Copied ∧ x21.Copied ≤ 9999) ∧ ((0 : Int) ≤ x21.Given ∧ x21.Given ≤ 999) ∧ ((0 : Int) ≤ x21.Fines ∧ x21.Fines ≤ 99999)) (hq25 : 2 ≤ nL → x18.Month < x21.Month) : (x21.Month - x18.Month).tdiv (Int.gcd (x21.Lent - x18.Lent) (x21.Month - x18.Month) : Int) = groD L := by
  have hl2 : 2 ≤ L.length := by omega
  subst hleL
  rw [groD_of ‹RowsOK L› hl2 ‹L[0]? = some _› ‹L[L.length - 1]? = some _›]
  all_goals (first | rfl | rw [gcd_abs])
theorem z_c_impl_GrowthOf_110 (L : List LibRow) (nL : Nat) (hbdL : (nL : Int) ≤ 9223372036854775807) (hleL : nL = L.length) (h5 : RowsOK L) (hq9 : L.length ≤ 12) (h10 : ¬ ((nL : Int) < 2)) (x18 : LibRow) (x21 : LibRow) (hx19 : L[0]? = some x18) (hq20 : ((1 : Int) ≤ x18.Month ∧ x18.Month ≤ 1200) ∧ ((0 : Int) ≤ x18.Lent ∧ x18.Lent ≤ 9999) ∧ ((0 : Int) ≤ x18.Copied ∧ x18.Copied ≤ 9999) ∧ ((0 : Int) ≤ x18.Given ∧ x18.Given ≤ 999) ∧ ((0 : Int) ≤ x18.Fines ∧ x18.Fines ≤ 99999)) (hx23 : L[nL - 1]? = some x21) (hq24 : ((1 : Int) ≤ x21.Month ∧ x21.Month ≤ 1200) ∧ ((0 : Int) ≤ x21.Lent ∧ x21.Lent ≤ 9999) ∧ ((0 : Int) ≤ x21.Copied ∧ x21.Copied ≤ 9999) ∧ ((0 : Int) ≤ x21.Given ∧ x21.Given ≤ 999) ∧ ((0 : Int) ≤ x21.Fines ∧ x21.Fines ≤ 99999)) (hq25 : 2 ≤ nL → x18.Month < x21.Month) : RowsOK L ∧ 2 ≤ L.length := by
  first | exact ⟨by assumption, by omega⟩ | omega
theorem c_impl_GrowthOf (w : World) {AL : Option Addr} {nL cL BL : Nat}  (L : List LibRow) (hL : SlR w BL encLibRow 5 AL nL cL L) : Calls Try.prog 9 #[.slice AL nL cL] w fun e w' => e = .returned (.tuple (List.toArray [.int .i64 (groN L), .int .i64 (groD L), .bool (decide (RowsOK L ∧ 2 ≤ L.length))])) ∧ Lo w w' := by
  refine calls_W 42 Try.func9 rfl rfl rfl ?_
  have hbdL := hL.bound
  have hleL := hL.len
  have hBbL := hL.bd
  refine W.seq ?_
  refine W.regS (SR.q' (r_as (v := .int .i64 0) rfl) <| SR.q' (r_as (v := .int .i64 0) rfl) <| SR.q' (r_as (v := .bool false) rfl) <| SR.nil ?_)
  refine W.seq ?_
  refine W.seq ?_
  refine W.regS (SR.q' (r_mv (v := .slice _ _ _) rfl) <| SR.call ent20 (c_impl_AreLibRows w L ((hL))) rfl ?_)
  rintro e w1 ⟨rfl, hk2⟩
  refine ⟨_, rfl, ?_⟩
  have hz3 := hk2.size
  have hB4 := (Lo.refl w).lo hk2
  refine SR.q' (r_not rfl) <| SR.q' (r_mv (v := .bool _) rfl) <| SR.splitN (fun h5 => ?_) (fun h5 => ?_)
  · refine SR.s' rfl <| SR.s' rfl <| SR.s' rfl <| SR.q' (r_pick true rfl (v := .bool true) rfl) <| SR.nil ?_
    refine W.cond_t rfl ?_
    refine W.seq ?_
    refine W.regS (SR.q' (r_as (v := .int .i64 0) rfl) <| SR.q' (r_as (v := .int .i64 0) rfl) <| SR.q' (r_as (v := .bool false) rfl) <| SR.nil ?_)
    refine W.ret ?_
    refine ret3 rfl (v := .int .i64 _) (v' := .int .i64 _) (v'' := .bool _) rfl rfl rfl ?_
    exact ⟨eR (eT3 (eI (z_c_impl_GrowthOf_6 L nL hbdL hleL h5)) (eI (z_c_impl_GrowthOf_7 L nL hbdL hleL h5)) (eDF (z_c_impl_GrowthOf_8 L nL hbdL hleL h5))), hB4⟩
  · have hq9 := rows_len h5
    refine SR.g' rfl (r_mv (v := .slice _ _ _) rfl) <| SR.g' rfl (r_len und24 rfl) <| SR.g' rfl (r_lt rfl rfl) <| SR.q' (r_pick false rfl (v := .bool _) rfl) <| SR.nil ?_
    refine W.cond_d rfl (fun h10 => ?_) (fun h10 => ?_)
    · refine W.seq ?_
      refine W.regS (SR.q' (r_as (v := .int .i64 0) rfl) <| SR.q' (r_as (v := .int .i64 0) rfl) <| SR.q' (r_as (v := .bool false) rfl) <| SR.nil ?_)
      refine W.ret ?_
      refine ret3 rfl (v := .int .i64 _) (v' := .int .i64 _) (v'' := .bool _) rfl rfl rfl ?_
      exact ⟨eR (eT3 (eI (z_c_impl_GrowthOf_11 L nL hbdL hleL h5 hq9 h10)) (eI (z_c_impl_GrowthOf_12 L nL hbdL hleL h5 hq9 h10)) (eDF (z_c_impl_GrowthOf_13 L nL hbdL hleL h5 hq9 h10))), hB4⟩
    · refine W.skip ?_
      refine W.seq ?_
      refine W.regA (Lo w1) (fun f' w' => ∃ (x18 : LibRow), ∃ (g35 : Nat), ∃ (x21 : LibRow), ∃ (g26 : Nat), At f' [(2, .int .i64 0), (3, .int .i64 0), (4, .bool false), (5, .pointer (some ((⟨g26, 0, none⟩ : Addr)))), (6, .pointer (some ((⟨g35, 0, none⟩ : Addr))))] ∧ (Lo w1 w') ∧ (Blk w' g35 29 [.int .i64 x21.Month, .int .i64 x21.Lent, .int .i64 x21.Copied, .int .i64 x21.Given, .int .i64 x21.Fines]) ∧ (w1.heap.size ≤ g35 ∧ g35 < w'.heap.size) ∧ (Blk w' g26 29 [.int .i64 x18.Month, .int .i64 x18.Lent, .int .i64 x18.Copied, .int .i64 x18.Given, .int .i64 x18.Fines]) ∧ (w1.heap.size ≤ g26 ∧ g26 < w'.heap.size) ∧ (¬ g35 = g26) ∧ (L[0]? = some x18) ∧ (((1 : Int) ≤ x18.Month ∧ x18.Month ≤ 1200) ∧ ((0 : Int) ≤ x18.Lent ∧ x18.Lent ≤ 9999) ∧ ((0 : Int) ≤ x18.Copied ∧ x18.Copied ≤ 9999) ∧ ((0 : Int) ≤ x18.Given ∧ x18.Given ≤ 999) ∧ ((0 : Int) ≤ x18.Fines ∧ x18.Fines ≤ 99999)) ∧ (L[nL - 1]? = some x21) ∧ (((1 : Int) ≤ x21.Month ∧ x21.Month ≤ 1200) ∧ ((0 : Int) ≤ x21.Lent ∧ x21.Lent ≤ 9999) ∧ ((0 : Int) ≤ x21.Copied ∧ x21.Copied ≤ 9999) ∧ ((0 : Int) ≤ x21.Given ∧ x21.Given ≤ 999) ∧ ((0 : Int) ≤ x21.Fines ∧ x21.Fines ≤ 99999)) ∧ (2 ≤ nL → x18.Month < x21.Month)) mo ?_ ?_
      · intro w14 hk15
        have hz16 := hk15.size
        have hB17 := hB4.lo hk15
        refine AH.take 0 rfl (by kernel_rfl) trivial (hk15) (fun w' hw' => r_mv (v := .slice _ _ _) rfl) <| ?_
        obtain ⟨x18, hx19⟩ := (((hL).lo hk2).lo hk15).get (i := 0) (by omega)
        have hq20 := rows_rng h5 hx19
        refine AH.take 1 rfl (by kernel_rfl) trivial (hk15) (fun w' hw' => r_ixR tsl24 ((((hL).lo hk2).lo hw')) rfl rfl (by omega)) <| AH.take 2 rfl (by kernel_rfl) trivial (hk15) (fun w' hw' => r_lda (l := encLibRow x18) agg29 rfl (fun _ _ hu => ((((hL).lo hk2).lo hw')).cell hx19 hu) (((((hL).lo hk2).lo hw')).esz _)) <| AH.take 3 rfl (by kernel_rfl) trivial (hk15) (fun w' hw' => r_mv (v := .slice _ _ _) rfl) <| AH.take 4 rfl (by kernel_rfl) trivial (hk15) (fun w' hw' => r_mv (v := .slice _ _ _) rfl) <| AH.take 5 rfl (by kernel_rfl) trivial (hk15) (fun w' hw' => r_len und24 rfl) <| AH.take 6 rfl (by kernel_rfl) trivial (hk15) (fun w' hw' => r_sub rfl rfl (by omega)) <| ?_
        obtain ⟨x21, hx22⟩ := (((hL).lo hk2).lo hk15).get (i := ((nL : Int) - 1).toNat) (by omega)
        have hx23 : L[nL - 1]? = some x21 := (show ((nL : Int) - 1).toNat = nL - 1 from by omega) ▸ hx22
        have hq24 := rows_rng h5 hx23
        have hq25 := rows_month' h5 hx19 hx23
        refine AH.take 7 rfl (by kernel_rfl) trivial (hk15) (fun w' hw' => r_ixR tsl24 ((((hL).lo hk2).lo hw')) rfl rfl (by omega)) <| AH.take 8 rfl (by kernel_rfl) trivial (hk15) (fun w' hw' => r_lda (l := encLibRow x21) agg29 rfl (fun _ _ hu => ((((hL).lo hk2).lo hw')).cell hx22 hu) (((((hL).lo hk2).lo hw')).esz _)) <| AH.br [9, 10] (by kernel_rfl) rfl ⟨Br.mk' rfl trivial ?_, Br.mk' rfl trivial ?_, trivial⟩
        · refine SR.alloc (l := [.int .i64 0, .int .i64 0, .int .i64 0, .int .i64 0, .int .i64 0]) tz29 rfl ?_
          intro g26 w27 hg28 hk29 hs30 hb31
          have hz32 := hk29.size
          have hB33 := hB17.lo hk29
          have hS34 := (hk15).lo hk29
          refine SR.nil ⟨hS34, _, rfl, ?_⟩
          refine AH.br [10] (by kernel_rfl) rfl ⟨Br.mk' rfl trivial ?_, trivial⟩
          refine SR.alloc (l := [.int .i64 0, .int .i64 0, .int .i64 0, .int .i64 0, .int .i64 0]) tz29 rfl ?_
          intro g35 w36 hg37 hk38 hs39 hb40
          have hz41 := hk38.size
          have hB42 := hB33.lo hk38
          have hS43 := (hS34).lo hk38
          refine SR.nil ⟨hS43, _, rfl, ?_⟩
          refine AH.br [11] (by kernel_rfl) rfl ⟨Br.mk' rfl trivial ?_, trivial⟩
          refine SR.store (o := 0) (vs := [.int .i64 x18.Month, .int .i64 x18.Lent, .int .i64 x18.Copied, .int .i64 x18.Given, .int .i64 x18.Fines]) agg29.2 rfl rfl rfl rfl ((hb31).lo hk38) (Nat.le_of_ble_eq_true rfl) rfl ?_
          intro w44 hk45 hs46 hb47
          have hz48 := hk45.size
          have hB49 := hB42.new hk45 (by omega)
          have hS50 := (hS43).new hk45 (by omega)
          refine SR.nil ⟨hS50, _, rfl, ?_⟩
          refine AH.br [12] (by kernel_rfl) rfl ⟨Br.mk' rfl trivial ?_, trivial⟩
          refine SR.store (o := 0) (vs := [.int .i64 x21.Month, .int .i64 x21.Lent, .int .i64 x21.Copied, .int .i64 x21.Given, .int .i64 x21.Fines]) agg29.2 rfl rfl rfl rfl ((hb40).kp hk45 (fun e' => by have e'' : g35 = g26 := e'; omega)) (Nat.le_of_ble_eq_true rfl) rfl ?_
          intro w51 hk52 hs53 hb54
          have hz55 := hk52.size
          have hB56 := hB49.new hk52 (by omega)
          have hS57 := (hS50).new hk52 (by omega)
          refine SR.nil ⟨hS57, _, rfl, ?_⟩
          refine AH.done (by kernel_rfl) ?_
          exact ⟨x18, g35, x21, g26, ⟨rfl, rfl, rfl, rfl, rfl, trivial⟩, hS57, (hb54), ⟨by omega, (hb54).lt⟩, ((hb47).kp hk52 (fun e' => by have e'' : g26 = g35 := e'; omega)), ⟨by omega, ((hb47).kp hk52 (fun e' => by have e'' : g26 = g35 := e'; omega)).lt⟩, (by omega), hx19, hq20, hx23, hq24, hq25⟩
        · refine SR.alloc (l := [.int .i64 0, .int .i64 0, .int .i64 0, .int .i64 0, .int .i64 0]) tz29 rfl ?_
          intro g63 w64 hg65 hk66 hs67 hb68
          have hz69 := hk66.size
          have hB70 := hB17.lo hk66
          have hS71 := (hk15).lo hk66
          refine SR.nil ⟨hS71, _, rfl, ?_⟩
          refine AH.br [9] (by kernel_rfl) rfl ⟨Br.mk' rfl trivial ?_, trivial⟩
          refine SR.alloc (l := [.int .i64 0, .int .i64 0, .int .i64 0, .int .i64 0, .int .i64 0]) tz29 rfl ?_
          intro g72 w73 hg74 hk75 hs76 hb77
          have hz78 := hk75.size
          have hB79 := hB70.lo hk75
          have hS80 := (hS71).lo hk75
          refine SR.nil ⟨hS80, _, rfl, ?_⟩
          refine AH.br [11] (by kernel_rfl) rfl ⟨Br.mk' rfl trivial ?_, trivial⟩
          refine SR.store (o := 0) (vs := [.int .i64 x18.Month, .int .i64 x18.Lent, .int .i64 x18.Copied, .int .i64 x18.Given, .int .i64 x18.Fines]) agg29.2 rfl rfl rfl rfl (hb77) (Nat.le_of_ble_eq_true rfl) rfl ?_
          intro w81 hk82 hs83 hb84
          have hz85 := hk82.size
          have hB86 := hB79.new hk82 (by omega)
          have hS87 := (hS80).new hk82 (by omega)
          refine SR.nil ⟨hS87, _, rfl, ?_⟩
          refine AH.br [12] (by kernel_rfl) rfl ⟨Br.mk' rfl trivial ?_, trivial⟩
          refine SR.store (o := 0) (vs := [.int .i64 x21.Month, .int .i64 x21.Lent, .int .i64 x21.Copied, .int .i64 x21.Given, .int .i64 x21.Fines]) agg29.2 rfl rfl rfl rfl (((hb68).lo hk75).kp hk82 (fun e' => by have e'' : g63 = g72 := e'; omega)) (Nat.le_of_ble_eq_true rfl) rfl ?_
          intro w88 hk89 hs90 hb91
          have hz92 := hk89.size
          have hB93 := hB86.new hk89 (by omega)
          have hS94 := (hS87).new hk89 (by omega)
          refine SR.nil ⟨hS94, _, rfl, ?_⟩
          refine AH.done (by kernel_rfl) ?_
          exact ⟨x18, g63, x21, g72, ⟨rfl, rfl, rfl, rfl, rfl, trivial⟩, hS94, (hb91), ⟨by omega, (hb91).lt⟩, ((hb84).kp hk89 (fun e' => by have e'' : g72 = g63 := e'; omega)), ⟨by omega, ((hb84).kp hk89 (fun e' => by have e'' : g72 = g63 := e'; omega)).lt⟩, (by omega), hx19, hq20, hx23, hq24, hq25⟩
      rintro f98 w99 ⟨x18, g35, x21, g26, hat101, hR100, hm58, hg59, hm60, hg61, hn62, hx19, hq20, hx23, hq24, hq25⟩
      rw [← sets_of_at hat101]
      have hz102 := hR100.size
      have hB103 := hB4.lo hR100
      refine W.seq ?_
      refine W.regS (SR.q' (r_fa fa29_1 rfl) <| SR.q' (r_ld (v := .int .i64 x21.Lent) sca3 rfl ((hm58).cell rfl)) <| SR.q' (r_fa fa29_1 rfl) <| SR.q' (r_ld (v := .int .i64 x18.Lent) sca3 rfl ((hm60).cell rfl)) <| SR.q' (r_sub rfl rfl (by omega)) <| SR.q' (r_fa fa29_0 rfl) <| SR.q' (r_ld (v := .int .i64 x21.Month) sca3 rfl ((hm58).cell rfl)) <| SR.q' (r_fa fa29_0 rfl) <| SR.q' (r_ld (v := .int .i64 x18.Month) sca3 rfl ((hm60).cell rfl)) <| SR.q' (r_sub rfl rfl (by omega)) <| SR.call ent23 (c_impl_fraction w99 (x21.Lent - x18.Lent) (x21.Month - x18.Month) (by omega) (by omega)) rfl ?_)
      rintro e w104 ⟨rfl, hk105⟩
      refine ⟨_, rfl, ?_⟩
      have hz106 := hk105.size
      have hB107 := hB103.lo hk105
      refine SR.q' (r_mv (v := .tuple (List.toArray _)) rfl) <| SR.q' (r_ext (v := .int .i64 _) rfl rfl) <| SR.q' (r_ext (v := .int .i64 _) rfl rfl) <| SR.q' (r_as (v := .int .i64 _) rfl) <| SR.q' (r_as (v := .int .i64 _) rfl) <| SR.nil ?_
      refine W.seq ?_
      refine W.regS (SR.q' (r_mv (v := .int .i64 _) rfl) <| SR.q' (r_mv (v := .int .i64 _) rfl) <| SR.q' (r_as (v := .int .i64 _) rfl) <| SR.q' (r_as (v := .int .i64 _) rfl) <| SR.q' (r_as (v := .bool true) rfl) <| SR.nil ?_)
      refine W.ret ?_
      refine ret3 rfl (v := .int .i64 _) (v' := .int .i64 _) (v'' := .bool _) rfl rfl rfl ?_
      exact ⟨eR (eT3 (eI (z_c_impl_GrowthOf_108 L nL hbdL hleL h5 hq9 h10 x18 x21 hx19 hq20 hx23 hq24 hq25)) (eI (z_c_impl_GrowthOf_109 L nL hbdL hleL h5 hq9 h10 x18 x21 hx19 hq20 hx23 hq24 hq25)) (eDT (z_c_impl_GrowthOf_110 L nL hbdL hleL h5 hq9 h10 x18 x21 hx19 hq20 hx23 hq24 hq25))), hB107⟩
end Go.Proofs.Ytmigipacjadpeaa
