/- Walks, printed by a program of this claim's author. -/
import Derived.Test.YthgbcadgnihdiaaGreatDoorChecked
import Derived.Test.YthgbcadgnihdiaaGreatDoorRa
import Derived.Test.YthgbcadgnihdiaaGreatDoorFu
import Derived.Test.YthgbcadgnihdiaaGreatDoorFo
import Derived.Test.YthgbcadgnihdiaaGreatDoorFp
import Derived.Test.YthgbcadgnihdiaaGreatDoorFt
import Derived.Test.YthgbcadgnihdiaaGreatDoorVa
namespace Go.Proofs.YthgbcadgnihdiaaGreatDoor
open Go Go.RowKit Fw
set_option maxRecDepth 10000
set_option linter.unusedVariables false
theorem mo : Tryz.prog.follows .mixedOrders = true := by kernel_rfl
theorem agg45 : TAgg Tryz.prog 45 4 := ⟨fun _ => by kernel_rfl, fun _ => by kernel_rfl⟩
theorem ent30 : Ent Tryz.prog 30 := ent_of Tryz.func30 (by decide +kernel) rfl
theorem ent33 : Ent Tryz.prog 33 := ent_of Tryz.func33 (by decide +kernel) rfl
theorem ent34 : Ent Tryz.prog 34 := ent_of Tryz.func34 (by decide +kernel) rfl
theorem ent38 : Ent Tryz.prog 38 := ent_of Tryz.func38 (by decide +kernel) rfl
theorem ent40 : Ent Tryz.prog 40 := ent_of Tryz.func40 (by decide +kernel) rfl
theorem ent41 : Ent Tryz.prog 41 := ent_of Tryz.func41 (by decide +kernel) rfl
theorem ent46 : Ent Tryz.prog 46 := ent_of Tryz.func46 (by decide +kernel) rfl
theorem ent48 : Ent Tryz.prog 48 := ent_of Tryz.func48 (by decide +kernel) rfl
theorem ent50 : Ent Tryz.prog 50 := ent_of Tryz.func50 (by decide +kernel) rfl
theorem ent53 : Ent Tryz.prog 53 := ent_of Tryz.func53 (by decide +kernel) rfl
theorem ent59 : Ent Tryz.prog 59 := ent_of Tryz.func59 (by decide +kernel) rfl
theorem ent60 : Ent Tryz.prog 60 := ent_of Tryz.func60 (by decide +kernel) rfl
theorem ent61 : Ent Tryz.prog 61 := ent_of Tryz.func61 (by decide +kernel) rfl
theorem ent62 : Ent Tryz.prog 62 := ent_of Tryz.func62 (by decide +kernel) rfl
theorem ent65 : Ent Tryz.prog 65 := ent_of Tryz.func65 (by decide +kernel) rfl
theorem ent68 : Ent Tryz.prog 68 := ent_of Tryz.func68 (by decide +kernel) rfl
theorem ent72 : Ent Tryz.prog 72 := ent_of Tryz.func72 (by decide +kernel) rfl
theorem fa45_0 : FA Tryz.prog 45 0 0 := fun _ _ => by kernel_rfl
theorem fa45_1 : FA Tryz.prog 45 1 1 := fun _ _ => by kernel_rfl
theorem fa45_2 : FA Tryz.prog 45 2 2 := fun _ _ => by kernel_rfl
theorem fa45_3 : FA Tryz.prog 45 3 3 := fun _ _ => by kernel_rfl
theorem sca3 : TSca Tryz.prog 3 := ⟨fun _ => by kernel_rfl, fun _ => by kernel_rfl⟩
theorem tel24 : TEl Tryz.prog 24 45 (.agg (List.toArray [.int .i64 0, .int .i64 0, .int .i64 0, .int .i64 0])) 4 32 := ⟨by kernel_rfl, by kernel_rfl, rfl, by decide⟩
theorem tsl24 : TSl Tryz.prog 24 45 4 := ⟨by kernel_rfl, fun _ => by kernel_rfl⟩
theorem tz45 : TZ Tryz.prog 45 (.agg (List.toArray [.int .i64 0, .int .i64 0, .int .i64 0, .int .i64 0])) := fun _ => by kernel_rfl
theorem und24 : Tryz.prog.underlying 24 = some (.slice 45) := by kernel_rfl

theorem z_c_spec_l1In_2 (n : Int) (a : Int) (b : Int) (h1 : a ≤ n) : (n ≤ b) ↔ (a ≤ n ∧ n ≤ b) := by
  omega
theorem z_c_spec_l1In_3 (n : Int) (a : Int) (b : Int) (h1 : ¬ (a ≤ n)) : ¬ (a ≤ n ∧ n ≤ b) := by
  omega
theorem c_spec_l1In (w : World) (n : Int) (a : Int) (b : Int) : Calls Tryz.prog 34 #[.int .i64 n, .int .i64 a, .int .i64 b] w fun e w' => e = .returned (.bool (decide (a ≤ n ∧ n ≤ b))) ∧ Lo w w' := by
  refine calls_W 15 Tryz.func34 rfl rfl rfl ?_
  refine W.seq ?_
  refine W.regS (SR.q' (r_as (v := .bool false) rfl) <| SR.nil ?_)
  refine W.seq ?_
  refine W.regS (SR.q' (r_mv (v := .int .i64 _) rfl) <| SR.q' (r_mv (v := .int .i64 _) rfl) <| SR.q' (r_ge rfl rfl) <| SR.q' (r_mv (v := .bool _) rfl) <| SR.splitD (fun h1 => ?_) (fun h1 => ?_))
  · refine SR.g' rfl (r_mv (v := .int .i64 _) rfl) <| SR.g' rfl (r_mv (v := .int .i64 _) rfl) <| SR.g' rfl (r_le rfl rfl) <| SR.q' (r_pick true rfl (v := .bool _) rfl) <| SR.q' (r_as (v := .bool _) rfl) <| SR.nil ?_
    refine W.ret ?_
    refine ret1 rfl (v := .bool _) rfl ?_
    exact ⟨eR (eDD (z_c_spec_l1In_2 n a b h1)), (Lo.refl w)⟩
  · refine SR.s' rfl <| SR.s' rfl <| SR.s' rfl <| SR.q' (r_pick false rfl (v := .bool false) rfl) <| SR.q' (r_as (v := .bool _) rfl) <| SR.nil ?_
    refine W.ret ?_
    refine ret1 rfl (v := .bool _) rfl ?_
    exact ⟨eR (eDF (z_c_spec_l1In_3 n a b h1)), (Lo.refl w)⟩

theorem z_c_impl_within_2 (n : Int) (a : Int) (b : Int) (h1 : a ≤ n) : (n ≤ b) ↔ (a ≤ n ∧ n ≤ b) := by
  omega
theorem z_c_impl_within_3 (n : Int) (a : Int) (b : Int) (h1 : ¬ (a ≤ n)) : ¬ (a ≤ n ∧ n ≤ b) := by
  omega
theorem c_impl_within (w : World) (n : Int) (a : Int) (b : Int) : Calls Tryz.prog 62 #[.int .i64 n, .int .i64 a, .int .i64 b] w fun e w' => e = .returned (.bool (decide (a ≤ n ∧ n ≤ b))) ∧ Lo w w' := by
  refine calls_W 15 Tryz.func62 rfl rfl rfl ?_
  refine W.seq ?_
  refine W.regS (SR.q' (r_as (v := .bool false) rfl) <| SR.nil ?_)
  refine W.seq ?_
  refine W.regS (SR.q' (r_mv (v := .int .i64 _) rfl) <| SR.q' (r_mv (v := .int .i64 _) rfl) <| SR.q' (r_ge rfl rfl) <| SR.q' (r_mv (v := .bool _) rfl) <| SR.splitD (fun h1 => ?_) (fun h1 => ?_))
  · refine SR.g' rfl (r_mv (v := .int .i64 _) rfl) <| SR.g' rfl (r_mv (v := .int .i64 _) rfl) <| SR.g' rfl (r_le rfl rfl) <| SR.q' (r_pick true rfl (v := .bool _) rfl) <| SR.q' (r_as (v := .bool _) rfl) <| SR.nil ?_
    refine W.ret ?_
    refine ret1 rfl (v := .bool _) rfl ?_
    exact ⟨eR (eDD (z_c_impl_within_2 n a b h1)), (Lo.refl w)⟩
  · refine SR.s' rfl <| SR.s' rfl <| SR.s' rfl <| SR.q' (r_pick false rfl (v := .bool false) rfl) <| SR.q' (r_as (v := .bool _) rfl) <| SR.nil ?_
    refine W.ret ?_
    refine ret1 rfl (v := .bool _) rfl ?_
    exact ⟨eR (eDF (z_c_impl_within_3 n a b h1)), (Lo.refl w)⟩

theorem c_spec_l30Minute (w : World) (n : Int) : Calls Tryz.prog 33 #[.int .i64 n] w fun e w' => e = .returned (.bool (decide (480 ≤ n ∧ n ≤ 1200))) ∧ Lo w w' := by
  refine calls_W 5 Tryz.func33 rfl rfl rfl ?_
  refine W.seq ?_
  refine W.regS (SR.q' (r_as (v := .bool false) rfl) <| SR.nil ?_)
  refine W.seq ?_
  refine W.regS (SR.q' (r_mv (v := .int .i64 _) rfl) <| SR.call ent34 (c_spec_l1In w n 480 1200) rfl ?_)
  rintro e w1 ⟨rfl, hk2⟩
  refine ⟨_, rfl, ?_⟩
  have hz3 := hk2.size
  have hB4 := (Lo.refl w).lo hk2
  refine SR.q' (r_as (v := .bool _) rfl) <| SR.nil ?_
  refine W.ret ?_
  refine ret1 rfl (v := .bool _) rfl ?_
  exact ⟨eR rfl, hB4⟩

theorem c_spec_l30Reader (w : World) (n : Int) : Calls Tryz.prog 48 #[.int .i64 n] w fun e w' => e = .returned (.bool (decide (1 ≤ n ∧ n ≤ 999))) ∧ Lo w w' := by
  refine calls_W 5 Tryz.func48 rfl rfl rfl ?_
  refine W.seq ?_
  refine W.regS (SR.q' (r_as (v := .bool false) rfl) <| SR.nil ?_)
  refine W.seq ?_
  refine W.regS (SR.q' (r_mv (v := .int .i64 _) rfl) <| SR.call ent34 (c_spec_l1In w n 1 999) rfl ?_)
  rintro e w1 ⟨rfl, hk2⟩
  refine ⟨_, rfl, ?_⟩
  have hz3 := hk2.size
  have hB4 := (Lo.refl w).lo hk2
  refine SR.q' (r_as (v := .bool _) rfl) <| SR.nil ?_
  refine W.ret ?_
  refine ret1 rfl (v := .bool _) rfl ?_
  exact ⟨eR rfl, hB4⟩

theorem c_spec_l30Seat (w : World) (n : Int) : Calls Tryz.prog 40 #[.int .i64 n] w fun e w' => e = .returned (.bool (decide (1 ≤ n ∧ n ≤ 6))) ∧ Lo w w' := by
  refine calls_W 5 Tryz.func40 rfl rfl rfl ?_
  refine W.seq ?_
  refine W.regS (SR.q' (r_as (v := .bool false) rfl) <| SR.nil ?_)
  refine W.seq ?_
  refine W.regS (SR.q' (r_mv (v := .int .i64 _) rfl) <| SR.call ent34 (c_spec_l1In w n 1 6) rfl ?_)
  rintro e w1 ⟨rfl, hk2⟩
  refine ⟨_, rfl, ?_⟩
  have hz3 := hk2.size
  have hB4 := (Lo.refl w).lo hk2
  refine SR.q' (r_as (v := .bool _) rfl) <| SR.nil ?_
  refine W.ret ?_
  refine ret1 rfl (v := .bool _) rfl ?_
  exact ⟨eR rfl, hB4⟩

theorem c_impl_isId (w : World) (n : Int) : Calls Tryz.prog 46 #[.int .i64 n] w fun e w' => e = .returned (.bool (decide (1 ≤ n ∧ n ≤ 999))) ∧ Lo w w' := by
  refine calls_W 5 Tryz.func46 rfl rfl rfl ?_
  refine W.seq ?_
  refine W.regS (SR.q' (r_as (v := .bool false) rfl) <| SR.nil ?_)
  refine W.seq ?_
  refine W.regS (SR.q' (r_mv (v := .int .i64 _) rfl) <| SR.call ent62 (c_impl_within w n 1 999) rfl ?_)
  rintro e w1 ⟨rfl, hk2⟩
  refine ⟨_, rfl, ?_⟩
  have hz3 := hk2.size
  have hB4 := (Lo.refl w).lo hk2
  refine SR.q' (r_as (v := .bool _) rfl) <| SR.nil ?_
  refine W.ret ?_
  refine ret1 rfl (v := .bool _) rfl ?_
  exact ⟨eR rfl, hB4⟩

theorem c_impl_isSeat (w : World) (n : Int) : Calls Tryz.prog 38 #[.int .i64 n] w fun e w' => e = .returned (.bool (decide (1 ≤ n ∧ n ≤ 6))) ∧ Lo w w' := by
  refine calls_W 5 Tryz.func38 rfl rfl rfl ?_
  refine W.seq ?_
  refine W.regS (SR.q' (r_as (v := .bool false) rfl) <| SR.nil ?_)
  refine W.seq ?_
  refine W.regS (SR.q' (r_mv (v := .int .i64 _) rfl) <| SR.call ent62 (c_impl_within w n 1 6) rfl ?_)
  rintro e w1 ⟨rfl, hk2⟩
  refine ⟨_, rfl, ?_⟩
  have hz3 := hk2.size
  have hB4 := (Lo.refl w).lo hk2
  refine SR.q' (r_as (v := .bool _) rfl) <| SR.nil ?_
  refine W.ret ?_
  refine ret1 rfl (v := .bool _) rfl ?_
  exact ⟨eR rfl, hB4⟩

theorem c_impl_isMinute (w : World) (n : Int) : Calls Tryz.prog 30 #[.int .i64 n] w fun e w' => e = .returned (.bool (decide (480 ≤ n ∧ n ≤ 1200))) ∧ Lo w w' := by
  refine calls_W 5 Tryz.func30 rfl rfl rfl ?_
  refine W.seq ?_
  refine W.regS (SR.q' (r_as (v := .bool false) rfl) <| SR.nil ?_)
  refine W.seq ?_
  refine W.regS (SR.q' (r_mv (v := .int .i64 _) rfl) <| SR.call ent62 (c_impl_within w n 480 1200) rfl ?_)
  rintro e w1 ⟨rfl, hk2⟩
  refine ⟨_, rfl, ?_⟩
  have hz3 := hk2.size
  have hB4 := (Lo.refl w).lo hk2
  refine SR.q' (r_as (v := .bool _) rfl) <| SR.nil ?_
  refine W.ret ?_
  refine ret1 rfl (v := .bool _) rfl ?_
  exact ⟨eR rfl, hB4⟩

theorem z_c_spec_l30Time_11 (a : Int) (b : Int) (h5 : 480 ≤ a ∧ a ≤ 1200) (h10 : 480 ≤ b ∧ b ≤ 1200) : (a < b) ↔ ((480 ≤ a ∧ a ≤ 1200) ∧ (480 ≤ b ∧ b ≤ 1200) ∧ a < b) := by
  omega
theorem z_c_spec_l30Time_12 (a : Int) (b : Int) (h5 : 480 ≤ a ∧ a ≤ 1200) (h10 : ¬ (480 ≤ b ∧ b ≤ 1200)) : ¬ ((480 ≤ a ∧ a ≤ 1200) ∧ (480 ≤ b ∧ b ≤ 1200) ∧ a < b) := by
  omega
theorem z_c_spec_l30Time_13 (a : Int) (b : Int) (h5 : ¬ (480 ≤ a ∧ a ≤ 1200)) : ¬ ((480 ≤ a ∧ a ≤ 1200) ∧ (480 ≤ b ∧ b ≤ 1200) ∧ a < b) := by
  omega
theorem c_spec_l30Time (w : World) (a : Int) (b : Int) : Calls Tryz.prog 72 #[.int .i64 a, .int .i64 b] w fun e w' => e = .returned (.bool (decide ((480 ≤ a ∧ a ≤ 1200) ∧ (480 ≤ b ∧ b ≤ 1200) ∧ a < b))) ∧ Lo w w' := by
  refine calls_W 16 Tryz.func72 rfl rfl rfl ?_
  refine W.seq ?_
  refine W.regS (SR.q' (r_as (v := .bool false) rfl) <| SR.nil ?_)
  refine W.seq ?_
  refine W.regS (SR.q' (r_mv (v := .int .i64 _) rfl) <| SR.call ent33 (c_spec_l30Minute w a) rfl ?_)
  rintro e w1 ⟨rfl, hk2⟩
  refine ⟨_, rfl, ?_⟩
  have hz3 := hk2.size
  have hB4 := (Lo.refl w).lo hk2
  refine SR.q' (r_mv (v := .bool _) rfl) <| SR.splitD (fun h5 => ?_) (fun h5 => ?_)
  · refine SR.g' rfl (r_mv (v := .int .i64 _) rfl) <| SR.gcall rfl ent33 (c_spec_l30Minute w1 b) rfl ?_
    rintro e w6 ⟨rfl, hk7⟩
    refine ⟨_, rfl, ?_⟩
    have hz8 := hk7.size
    have hB9 := hB4.lo hk7
    refine SR.q' (r_pick true rfl (v := .bool _) rfl) <| SR.q' (r_mv (v := .bool _) rfl) <| SR.splitD (fun h10 => ?_) (fun h10 => ?_)
    · refine SR.g' rfl (r_mv (v := .int .i64 _) rfl) <| SR.g' rfl (r_mv (v := .int .i64 _) rfl) <| SR.g' rfl (r_lt rfl rfl) <| SR.q' (r_pick true rfl (v := .bool _) rfl) <| SR.q' (r_as (v := .bool _) rfl) <| SR.nil ?_
      refine W.ret ?_
      refine ret1 rfl (v := .bool _) rfl ?_
      exact ⟨eR (eDD (z_c_spec_l30Time_11 a b h5 h10)), hB9⟩
    · refine SR.s' rfl <| SR.s' rfl <| SR.s' rfl <| SR.q' (r_pick false rfl (v := .bool false) rfl) <| SR.q' (r_as (v := .bool _) rfl) <| SR.nil ?_
      refine W.ret ?_
      refine ret1 rfl (v := .bool _) rfl ?_
      exact ⟨eR (eDF (z_c_spec_l30Time_12 a b h5 h10)), hB9⟩
  · refine SR.s' rfl <| SR.s' rfl <| SR.q' (r_pick false rfl (v := .bool false) rfl) <| SR.q' (r_mv (v := .bool _) rfl) <| SR.s' rfl <| SR.s' rfl <| SR.s' rfl <| SR.q' (r_pick false rfl (v := .bool false) rfl) <| SR.q' (r_as (v := .bool _) rfl) <| SR.nil ?_
    refine W.ret ?_
    refine ret1 rfl (v := .bool _) rfl ?_
    exact ⟨eR (eDF (z_c_spec_l30Time_13 a b h5)), hB4⟩

theorem z_c_impl_isTime_11 (a : Int) (b : Int) (h5 : 480 ≤ a ∧ a ≤ 1200) (h10 : 480 ≤ b ∧ b ≤ 1200) : (a < b) ↔ ((480 ≤ a ∧ a ≤ 1200) ∧ (480 ≤ b ∧ b ≤ 1200) ∧ a < b) := by
  omega
theorem z_c_impl_isTime_12 (a : Int) (b : Int) (h5 : 480 ≤ a ∧ a ≤ 1200) (h10 : ¬ (480 ≤ b ∧ b ≤ 1200)) : ¬ ((480 ≤ a ∧ a ≤ 1200) ∧ (480 ≤ b ∧ b ≤ 1200) ∧ a < b) := by
  omega
theorem z_c_impl_isTime_13 (a : Int) (b : Int) (h5 : ¬ (480 ≤ a ∧ a ≤ 1200)) : ¬ ((480 ≤ a ∧ a ≤ 1200) ∧ (480 ≤ b ∧ b ≤ 1200) ∧ a < b) := by
  omega
theorem c_impl_isTime (w : World) (a : Int) (b : Int) : Calls Tryz.prog 41 #[.int .i64 a, .int .i64 b] w fun e w' => e = .returned (.bool (decide ((480 ≤ a ∧ a ≤ 1200) ∧ (480 ≤ b ∧ b ≤ 1200) ∧ a < b))) ∧ Lo w w' := by
  refine calls_W 16 Tryz.func41 rfl rfl rfl ?_
  refine W.seq ?_
  refine W.regS (SR.q' (r_as (v := .bool false) rfl) <| SR.nil ?_)
  refine W.seq ?_
  refine W.regS (SR.q' (r_mv (v := .int .i64 _) rfl) <| SR.call ent30 (c_impl_isMinute w a) rfl ?_)
  rintro e w1 ⟨rfl, hk2⟩
  refine ⟨_, rfl, ?_⟩
  have hz3 := hk2.size
  have hB4 := (Lo.refl w).lo hk2
  refine SR.q' (r_mv (v := .bool _) rfl) <| SR.splitD (fun h5 => ?_) (fun h5 => ?_)
  · refine SR.g' rfl (r_mv (v := .int .i64 _) rfl) <| SR.gcall rfl ent30 (c_impl_isMinute w1 b) rfl ?_
    rintro e w6 ⟨rfl, hk7⟩
    refine ⟨_, rfl, ?_⟩
    have hz8 := hk7.size
    have hB9 := hB4.lo hk7
    refine SR.q' (r_pick true rfl (v := .bool _) rfl) <| SR.q' (r_mv (v := .bool _) rfl) <| SR.splitD (fun h10 => ?_) (fun h10 => ?_)
    · refine SR.g' rfl (r_mv (v := .int .i64 _) rfl) <| SR.g' rfl (r_mv (v := .int .i64 _) rfl) <| SR.g' rfl (r_lt rfl rfl) <| SR.q' (r_pick true rfl (v := .bool _) rfl) <| SR.q' (r_as (v := .bool _) rfl) <| SR.nil ?_
      refine W.ret ?_
      refine ret1 rfl (v := .bool _) rfl ?_
      exact ⟨eR (eDD (z_c_impl_isTime_11 a b h5 h10)), hB9⟩
    · refine SR.s' rfl <| SR.s' rfl <| SR.s' rfl <| SR.q' (r_pick false rfl (v := .bool false) rfl) <| SR.q' (r_as (v := .bool _) rfl) <| SR.nil ?_
      refine W.ret ?_
      refine ret1 rfl (v := .bool _) rfl ?_
      exact ⟨eR (eDF (z_c_impl_isTime_12 a b h5 h10)), hB9⟩
  · refine SR.s' rfl <| SR.s' rfl <| SR.q' (r_pick false rfl (v := .bool false) rfl) <| SR.q' (r_mv (v := .bool _) rfl) <| SR.s' rfl <| SR.s' rfl <| SR.s' rfl <| SR.q' (r_pick false rfl (v := .bool false) rfl) <| SR.q' (r_as (v := .bool _) rfl) <| SR.nil ?_
    refine W.ret ?_
    refine ret1 rfl (v := .bool _) rfl ?_
    exact ⟨eR (eDF (z_c_impl_isTime_13 a b h5)), hB4⟩

theorem z_c_spec_l30One_23 (v : Visit) (h13 : 1 ≤ v.Reader ∧ v.Reader ≤ 999) (h18 : 1 ≤ v.Seat ∧ v.Seat ≤ 6) : ((480 ≤ v.From ∧ v.From ≤ 1200) ∧ (480 ≤ v.Until ∧ v.Until ≤ 1200) ∧ v.From < v.Until) ↔ (VOK v) := by
  unfold VOK; omega
theorem z_c_spec_l30One_24 (v : Visit) (h13 : 1 ≤ v.Reader ∧ v.Reader ≤ 999) (h18 : ¬ (1 ≤ v.Seat ∧ v.Seat ≤ 6)) : ¬ (VOK v) := by
  unfold VOK; omega
theorem z_c_spec_l30One_25 (v : Visit) (h13 : ¬ (1 ≤ v.Reader ∧ v.Reader ≤ 999)) : ¬ (VOK v) := by
  unfold VOK; omega
theorem c_spec_l30One (w : World) (v : Visit) : Calls Tryz.prog 53 #[.agg (List.toArray (encVisit v))] w fun e w' => e = .returned (.bool (decide (VOK v))) ∧ Lo w w' := by
  refine calls_W 18 Tryz.func53 rfl rfl rfl ?_
  refine W.seq ?_
  refine W.regS (SR.box (v := .agg (List.toArray _)) (l := [.int .i64 v.Reader, .int .i64 v.Seat, .int .i64 v.From, .int .i64 v.Until]) rfl rfl ?_)
  intro g1 w2 hg3 hk4 hs5 hb6
  have hz7 := hk4.size
  have hB8 := (Lo.refl w).lo hk4
  refine SR.q' (r_as (v := .bool false) rfl) <| SR.nil ?_
  refine W.seq ?_
  refine W.regS (SR.q' (r_fa fa45_0 rfl) <| SR.q' (r_ld (v := .int .i64 v.Reader) sca3 rfl ((hb6).cell rfl)) <| SR.call ent48 (c_spec_l30Reader w2 v.Reader) rfl ?_)
  rintro e w9 ⟨rfl, hk10⟩
  refine ⟨_, rfl, ?_⟩
  have hz11 := hk10.size
  have hB12 := hB8.lo hk10
  refine SR.q' (r_mv (v := .bool _) rfl) <| SR.splitD (fun h13 => ?_) (fun h13 => ?_)
  · refine SR.g' rfl (r_fa fa45_1 rfl) <| SR.g' rfl (r_ld (v := .int .i64 v.Seat) sca3 rfl (((hb6).lo hk10).cell rfl)) <| SR.gcall rfl ent40 (c_spec_l30Seat w9 v.Seat) rfl ?_
    rintro e w14 ⟨rfl, hk15⟩
    refine ⟨_, rfl, ?_⟩
    have hz16 := hk15.size
    have hB17 := hB12.lo hk15
    refine SR.q' (r_pick true rfl (v := .bool _) rfl) <| SR.q' (r_mv (v := .bool _) rfl) <| SR.splitD (fun h18 => ?_) (fun h18 => ?_)
    · refine SR.g' rfl (r_fa fa45_2 rfl) <| SR.g' rfl (r_ld (v := .int .i64 v.From) sca3 rfl ((((hb6).lo hk10).lo hk15).cell rfl)) <| SR.g' rfl (r_fa fa45_3 rfl) <| SR.g' rfl (r_ld (v := .int .i64 v.Until) sca3 rfl ((((hb6).lo hk10).lo hk15).cell rfl)) <| SR.gcall rfl ent72 (c_spec_l30Time w14 v.From v.Until) rfl ?_
      rintro e w19 ⟨rfl, hk20⟩
      refine ⟨_, rfl, ?_⟩
      have hz21 := hk20.size
      have hB22 := hB17.lo hk20
      refine SR.q' (r_pick true rfl (v := .bool _) rfl) <| SR.q' (r_as (v := .bool _) rfl) <| SR.nil ?_
      refine W.ret ?_
      refine ret1 rfl (v := .bool _) rfl ?_
      exact ⟨eR (eDD (z_c_spec_l30One_23 v h13 h18)), hB22⟩
    · refine SR.s' rfl <| SR.s' rfl <| SR.s' rfl <| SR.s' rfl <| SR.s' rfl <| SR.q' (r_pick false rfl (v := .bool false) rfl) <| SR.q' (r_as (v := .bool _) rfl) <| SR.nil ?_
      refine W.ret ?_
      refine ret1 rfl (v := .bool _) rfl ?_
      exact ⟨eR (eDF (z_c_spec_l30One_24 v h13 h18)), hB17⟩
  · refine SR.s' rfl <| SR.s' rfl <| SR.s' rfl <| SR.q' (r_pick false rfl (v := .bool false) rfl) <| SR.q' (r_mv (v := .bool _) rfl) <| SR.s' rfl <| SR.s' rfl <| SR.s' rfl <| SR.s' rfl <| SR.s' rfl <| SR.q' (r_pick false rfl (v := .bool false) rfl) <| SR.q' (r_as (v := .bool _) rfl) <| SR.nil ?_
    refine W.ret ?_
    refine ret1 rfl (v := .bool _) rfl ?_
    exact ⟨eR (eDF (z_c_spec_l30One_25 v h13)), hB12⟩

theorem z_c_impl_isVisit_23 (v : Visit) (h13 : 1 ≤ v.Reader ∧ v.Reader ≤ 999) (h18 : 1 ≤ v.Seat ∧ v.Seat ≤ 6) : ((480 ≤ v.From ∧ v.From ≤ 1200) ∧ (480 ≤ v.Until ∧ v.Until ≤ 1200) ∧ v.From < v.Until) ↔ (VOK v) := by
  unfold VOK; omega
theorem z_c_impl_isVisit_24 (v : Visit) (h13 : 1 ≤ v.Reader ∧ v.Reader ≤ 999) (h18 : ¬ (1 ≤ v.Seat ∧ v.Seat ≤ 6)) : ¬ (VOK v) := by
  unfold VOK; omega
theorem z_c_impl_isVisit_25 (v : Visit) (h13 : ¬ (1 ≤ v.Reader ∧ v.Reader ≤ 999)) : ¬ (VOK v) := by
  unfold VOK; omega
theorem c_impl_isVisit (w : World) (v : Visit) : Calls Tryz.prog 50 #[.agg (List.toArray (encVisit v))] w fun e w' => e = .returned (.bool (decide (VOK v))) ∧ Lo w w' := by
  refine calls_W 18 Tryz.func50 rfl rfl rfl ?_
  refine W.seq ?_
  refine W.regS (SR.box (v := .agg (List.toArray _)) (l := [.int .i64 v.Reader, .int .i64 v.Seat, .int .i64 v.From, .int .i64 v.Until]) rfl rfl ?_)
  intro g1 w2 hg3 hk4 hs5 hb6
  have hz7 := hk4.size
  have hB8 := (Lo.refl w).lo hk4
  refine SR.q' (r_as (v := .bool false) rfl) <| SR.nil ?_
  refine W.seq ?_
  refine W.regS (SR.q' (r_fa fa45_0 rfl) <| SR.q' (r_ld (v := .int .i64 v.Reader) sca3 rfl ((hb6).cell rfl)) <| SR.call ent46 (c_impl_isId w2 v.Reader) rfl ?_)
  rintro e w9 ⟨rfl, hk10⟩
  refine ⟨_, rfl, ?_⟩
  have hz11 := hk10.size
  have hB12 := hB8.lo hk10
  refine SR.q' (r_mv (v := .bool _) rfl) <| SR.splitD (fun h13 => ?_) (fun h13 => ?_)
  · refine SR.g' rfl (r_fa fa45_1 rfl) <| SR.g' rfl (r_ld (v := .int .i64 v.Seat) sca3 rfl (((hb6).lo hk10).cell rfl)) <| SR.gcall rfl ent38 (c_impl_isSeat w9 v.Seat) rfl ?_
    rintro e w14 ⟨rfl, hk15⟩
    refine ⟨_, rfl, ?_⟩
    have hz16 := hk15.size
    have hB17 := hB12.lo hk15
    refine SR.q' (r_pick true rfl (v := .bool _) rfl) <| SR.q' (r_mv (v := .bool _) rfl) <| SR.splitD (fun h18 => ?_) (fun h18 => ?_)
    · refine SR.g' rfl (r_fa fa45_2 rfl) <| SR.g' rfl (r_ld (v := .int .i64 v.From) sca3 rfl ((((hb6).lo hk10).lo hk15).cell rfl)) <| SR.g' rfl (r_fa fa45_3 rfl) <| SR.g' rfl (r_ld (v := .int .i64 v.Until) sca3 rfl ((((hb6).lo hk10).lo hk15).cell rfl)) <| SR.gcall rfl ent41 (c_impl_isTime w14 v.From v.Until) rfl ?_
      rintro e w19 ⟨rfl, hk20⟩
      refine ⟨_, rfl, ?_⟩
      have hz21 := hk20.size
      have hB22 := hB17.lo hk20
      refine SR.q' (r_pick true rfl (v := .bool _) rfl) <| SR.q' (r_as (v := .bool _) rfl) <| SR.nil ?_
      refine W.ret ?_
      refine ret1 rfl (v := .bool _) rfl ?_
      exact ⟨eR (eDD (z_c_impl_isVisit_23 v h13 h18)), hB22⟩
    · refine SR.s' rfl <| SR.s' rfl <| SR.s' rfl <| SR.s' rfl <| SR.s' rfl <| SR.q' (r_pick false rfl (v := .bool false) rfl) <| SR.q' (r_as (v := .bool _) rfl) <| SR.nil ?_
      refine W.ret ?_
      refine ret1 rfl (v := .bool _) rfl ?_
      exact ⟨eR (eDF (z_c_impl_isVisit_24 v h13 h18)), hB17⟩
  · refine SR.s' rfl <| SR.s' rfl <| SR.s' rfl <| SR.q' (r_pick false rfl (v := .bool false) rfl) <| SR.q' (r_mv (v := .bool _) rfl) <| SR.s' rfl <| SR.s' rfl <| SR.s' rfl <| SR.s' rfl <| SR.s' rfl <| SR.q' (r_pick false rfl (v := .bool false) rfl) <| SR.q' (r_as (v := .bool _) rfl) <| SR.nil ?_
    refine W.ret ?_
    refine ret1 rfl (v := .bool _) rfl ?_
    exact ⟨eR (eDF (z_c_impl_isVisit_25 v h13)), hB12⟩

theorem z_c_spec_l30Meet_10 (v : Visit) (a : Int) (b : Int) (h9 : v.From < b) : (a < v.Until) ↔ (meetV v a b) := by
  unfold meetV; omega
theorem z_c_spec_l30Meet_11 (v : Visit) (a : Int) (b : Int) (h9 : ¬ (v.From < b)) : ¬ (meetV v a b) := by
  unfold meetV; omega
theorem c_spec_l30Meet (w : World) (v : Visit) (a : Int) (b : Int) : Calls Tryz.prog 65 #[.agg (List.toArray (encVisit v)), .int .i64 a, .int .i64 b] w fun e w' => e = .returned (.bool (decide (meetV v a b))) ∧ Lo w w' := by
  refine calls_W 17 Tryz.func65 rfl rfl rfl ?_
  refine W.seq ?_
  refine W.regS (SR.box (v := .agg (List.toArray _)) (l := [.int .i64 v.Reader, .int .i64 v.Seat, .int .i64 v.From, .int .i64 v.Until]) rfl rfl ?_)
  intro g1 w2 hg3 hk4 hs5 hb6
  have hz7 := hk4.size
  have hB8 := (Lo.refl w).lo hk4
  refine SR.q' (r_as (v := .bool false) rfl) <| SR.nil ?_
  refine W.seq ?_
  refine W.regS (SR.q' (r_fa fa45_2 rfl) <| SR.q' (r_ld (v := .int .i64 v.From) sca3 rfl ((hb6).cell rfl)) <| SR.q' (r_mv (v := .int .i64 _) rfl) <| SR.q' (r_lt rfl rfl) <| SR.q' (r_mv (v := .bool _) rfl) <| SR.splitD (fun h9 => ?_) (fun h9 => ?_))
  · refine SR.g' rfl (r_mv (v := .int .i64 _) rfl) <| SR.g' rfl (r_fa fa45_3 rfl) <| SR.g' rfl (r_ld (v := .int .i64 v.Until) sca3 rfl ((hb6).cell rfl)) <| SR.g' rfl (r_lt rfl rfl) <| SR.q' (r_pick true rfl (v := .bool _) rfl) <| SR.q' (r_as (v := .bool _) rfl) <| SR.nil ?_
    refine W.ret ?_
    refine ret1 rfl (v := .bool _) rfl ?_
    exact ⟨eR (eDD (z_c_spec_l30Meet_10 v a b h9)), hB8⟩
  · refine SR.s' rfl <| SR.s' rfl <| SR.s' rfl <| SR.s' rfl <| SR.q' (r_pick false rfl (v := .bool false) rfl) <| SR.q' (r_as (v := .bool _) rfl) <| SR.nil ?_
    refine W.ret ?_
    refine ret1 rfl (v := .bool _) rfl ?_
    exact ⟨eR (eDF (z_c_spec_l30Meet_11 v a b h9)), hB8⟩

theorem z_c__impl_Visit__meets_10 (v : Visit) (a : Int) (b : Int) (h9 : v.From < b) : (a < v.Until) ↔ (meetV v a b) := by
  unfold meetV; omega
theorem z_c__impl_Visit__meets_11 (v : Visit) (a : Int) (b : Int) (h9 : ¬ (v.From < b)) : ¬ (meetV v a b) := by
  unfold meetV; omega
theorem c__impl_Visit__meets (w : World) (v : Visit) (a : Int) (b : Int) : Calls Tryz.prog 61 #[.agg (List.toArray (encVisit v)), .int .i64 a, .int .i64 b] w fun e w' => e = .returned (.bool (decide (meetV v a b))) ∧ Lo w w' := by
  refine calls_W 17 Tryz.func61 rfl rfl rfl ?_
  refine W.seq ?_
  refine W.regS (SR.box (v := .agg (List.toArray _)) (l := [.int .i64 v.Reader, .int .i64 v.Seat, .int .i64 v.From, .int .i64 v.Until]) rfl rfl ?_)
  intro g1 w2 hg3 hk4 hs5 hb6
  have hz7 := hk4.size
  have hB8 := (Lo.refl w).lo hk4
  refine SR.q' (r_as (v := .bool false) rfl) <| SR.nil ?_
  refine W.seq ?_
  refine W.regS (SR.q' (r_fa fa45_2 rfl) <| SR.q' (r_ld (v := .int .i64 v.From) sca3 rfl ((hb6).cell rfl)) <| SR.q' (r_mv (v := .int .i64 _) rfl) <| SR.q' (r_lt rfl rfl) <| SR.q' (r_mv (v := .bool _) rfl) <| SR.splitD (fun h9 => ?_) (fun h9 => ?_))
  · refine SR.g' rfl (r_mv (v := .int .i64 _) rfl) <| SR.g' rfl (r_fa fa45_3 rfl) <| SR.g' rfl (r_ld (v := .int .i64 v.Until) sca3 rfl ((hb6).cell rfl)) <| SR.g' rfl (r_lt rfl rfl) <| SR.q' (r_pick true rfl (v := .bool _) rfl) <| SR.q' (r_as (v := .bool _) rfl) <| SR.nil ?_
    refine W.ret ?_
    refine ret1 rfl (v := .bool _) rfl ?_
    exact ⟨eR (eDD (z_c__impl_Visit__meets_10 v a b h9)), hB8⟩
  · refine SR.s' rfl <| SR.s' rfl <| SR.s' rfl <| SR.s' rfl <| SR.q' (r_pick false rfl (v := .bool false) rfl) <| SR.q' (r_as (v := .bool _) rfl) <| SR.nil ?_
    refine W.ret ?_
    refine ret1 rfl (v := .bool _) rfl ?_
    exact ⟨eR (eDF (z_c__impl_Visit__meets_11 v a b h9)), hB8⟩

theorem z_c_slices_IndexFunc___impl_Visit_impl_Visit__1 (L : List Visit) (nL : Nat) (hbdL : (nL : Int) ≤ 9223372036854775807) (hleL : nL = L.length) (p : Visit → Bool) : 0 ≤ nL ∧ NoneTo p L 0 := by
  exact ⟨Nat.zero_le _, NoneTo.zero⟩
theorem z_c_slices_IndexFunc___impl_Visit_impl_Visit__16 (L : List Visit) (nL : Nat) (hbdL : (nL : Int) ≤ 9223372036854775807) (hleL : nL = L.length) (p : Visit → Bool) (k : Nat) (hi7 : k ≤ nL ∧ NoneTo p L k) (h8 : (k : Int) < (nL : Int)) (x9 : Visit) (hx10 : L[k]? = some x9) (h15 : (p x9) = true) : (k : Int) = idxF p L := by
  first | exact idx_at (And.right ‹_ ∧ NoneTo p L _›) ‹L[_]? = some _› ‹_› | exact idx_no (And.right ‹_ ∧ NoneTo p L _›) hleL ‹_›
theorem z_c_slices_IndexFunc___impl_Visit_impl_Visit__17 (L : List Visit) (nL : Nat) (hbdL : (nL : Int) ≤ 9223372036854775807) (hleL : nL = L.length) (p : Visit → Bool) (k : Nat) (hi7 : k ≤ nL ∧ NoneTo p L k) (h8 : (k : Int) < (nL : Int)) (x9 : Visit) (hx10 : L[k]? = some x9) (h15 : (p x9) = false) : k + 1 ≤ nL ∧ NoneTo p L (k + 1) := by
  exact ⟨by omega, NoneTo.next (And.right ‹_ ∧ NoneTo p L _›) ‹L[k]? = some _› ‹_›⟩
theorem z_c_slices_IndexFunc___impl_Visit_impl_Visit__18 (L : List Visit) (nL : Nat) (hbdL : (nL : Int) ≤ 9223372036854775807) (hleL : nL = L.length) (p : Visit → Bool) (k : Nat) (hi7 : k ≤ nL ∧ NoneTo p L k) (h8 : (k : Int) < (nL : Int)) (x9 : Visit) (hx10 : L[k]? = some x9) (h15 : (p x9) = false) : nL - (k + 1) < nL - k := by
  omega
theorem z_c_slices_IndexFunc___impl_Visit_impl_Visit__19 (L : List Visit) (nL : Nat) (hbdL : (nL : Int) ≤ 9223372036854775807) (hleL : nL = L.length) (p : Visit → Bool) (k : Nat) (hi7 : k ≤ nL ∧ NoneTo p L k) (h8 : ¬ ((k : Int) < (nL : Int))) : (-1) = idxF p L := by
  first | exact idx_at (And.right ‹_ ∧ NoneTo p L _›) ‹L[_]? = some _› ‹_› | exact idx_no (And.right ‹_ ∧ NoneTo p L _›) hleL ‹_›
theorem c_slices_IndexFunc___impl_Visit_impl_Visit_ (w : World) {AL : Option Addr} {nL cL BL : Nat}  (L : List Visit) (hL : SlR w BL encVisit 4 AL nL cL L) {kp : Nat} {capp : List Value} (p : Visit → Bool) (hp : Fnc Tryz.prog w kp capp (fun x => .agg (List.toArray (encVisit x))) p) : Calls Tryz.prog 68 #[.slice AL nL cL, .func (.func kp) #[] (List.toArray capp)] w fun e w' => e = .returned (.int .i64 (idxF p L)) ∧ Lo w w' := by
  refine calls_W 19 Tryz.func68 rfl rfl rfl ?_
  have hbdL := hL.bound
  have hleL := hL.len
  have hBbL := hL.bd
  refine W.seq ?_
  refine W.regS (SR.q' (r_as (v := .int .i64 0) rfl) <| SR.nil ?_)
  refine W.seq ?_
  refine W.seq ?_
  refine W.regS (SR.q' (r_mv (v := .slice _ _ _) rfl) <| SR.q' (r_len und24 rfl) <| SR.q' (r_mv (v := .int .i64 0) rfl) <| SR.nil ?_)
  refine W.block ?_
  refine W.loop (σ := Nat) (fun g => [(0, .slice AL nL cL), (1, .func (.func kp) #[] (List.toArray capp)), (7, .int .i64 (nL : Int)), (8, .int .i64 (g : Int))]) (fun g w' => (Lo w w') ∧ (SlR w' BL encVisit 4 AL nL cL L) ∧ (g ≤ nL ∧ NoneTo p L g)) (fun g => nL - g) 0 ?_ ?_ ?_
  · exact ⟨rfl, rfl, rfl, rfl, trivial⟩
  · exact ⟨(Lo.refl w), hL, (z_c_slices_IndexFunc___impl_Visit_impl_Visit__1 L nL hbdL hleL p)⟩
  · rintro k f2 w3 hP5
    obtain ⟨hB4, hm6, hi7⟩ : (Lo w w3) ∧ (SlR w3 BL encVisit 4 AL nL cL L) ∧ (k ≤ nL ∧ NoneTo p L k) := hP5
    refine (?_ : W _ _ _ _ _ (act _ (sets f2 [(0, .slice AL nL cL), (1, .func (.func kp) #[] (List.toArray capp)), (7, .int .i64 (nL : Int)), (8, .int .i64 (k : Int))])) _)
    have hzw3 := hB4.size
    refine W.seq ?_
    refine W.regS (SR.q' (r_lt rfl rfl) <| SR.nil ?_)
    refine W.seq ?_
    refine W.cond_d rfl (fun h8 => ?_) (fun h8 => ?_)
    · refine W.skip ?_
      refine W.seq ?_
      refine W.block ?_
      refine W.seq ?_
      refine W.regS (SR.q' (r_mv (v := .int .i64 _) rfl) <| SR.q' (r_as (v := .int .i64 _) rfl) <| SR.nil ?_)
      refine W.seq ?_
      refine W.regS (SR.q' (r_mv (v := .func _ #[] (List.toArray _)) rfl) <| SR.q' (r_mv (v := .slice _ _ _) rfl) <| SR.q' (r_mv (v := .int .i64 _) rfl) <| ?_)
      obtain ⟨x9, hx10⟩ := (hm6).get (i := k) (by omega)
      refine SR.q' (r_ixR tsl24 (hm6) rfl rfl (by omega)) <| SR.q' (r_lda (l := encVisit x9) agg45 rfl (fun _ _ hu => (hm6).cell hx10 hu) ((hm6).esz _)) <| SR.callv (hp).1 rfl ((hp).2 _ hB4 x9) rfl ?_
      rintro e w11 ⟨rfl, hk12⟩
      refine ⟨_, rfl, ?_⟩
      have hz13 := hk12.size
      have hB14 := hB4.lo hk12
      refine SR.nil ?_
      refine W.cond_b rfl (fun h15 => ?_) (fun h15 => ?_)
      · refine W.seq ?_
        refine W.regS (SR.q' (r_mv (v := .int .i64 _) rfl) <| SR.q' (r_as (v := .int .i64 _) rfl) <| SR.nil ?_)
        refine W.ret ?_
        refine ret1 rfl (v := .int .i64 _) rfl ?_
        exact ⟨eR (eI (z_c_slices_IndexFunc___impl_Visit_impl_Visit__16 L nL hbdL hleL p k hi7 h8 x9 hx10 h15)), hB14⟩
      · refine W.skip ?_
        refine W.regS (SR.q' (r_add rfl rfl (by omega)) <| SR.q' (r_mv (v := .int .i64 _) rfl) <| SR.nil ?_)
        refine ⟨k + 1, _, rfl, ⟨rfl, rfl, rfl, rfl, trivial⟩, ⟨hB14, (hm6).lo hk12, ?_⟩, ?_⟩
        · exact (z_c_slices_IndexFunc___impl_Visit_impl_Visit__17 L nL hbdL hleL p k hi7 h8 x9 hx10 h15)
        · exact (z_c_slices_IndexFunc___impl_Visit_impl_Visit__18 L nL hbdL hleL p k hi7 h8 x9 hx10 h15)
    · refine W.exit (xin_here ?_)
      refine W.seq ?_
      refine W.regS (SR.q' (r_as (v := .int .i64 (-1)) rfl) <| SR.nil ?_)
      refine W.ret ?_
      refine ret1 rfl (v := .int .i64 _) rfl ?_
      exact ⟨eR (eI (z_c_slices_IndexFunc___impl_Visit_impl_Visit__19 L nL hbdL hleL p k hi7 h8)), hB4⟩

theorem z_c_slices_ContainsFunc___impl_Visit_impl_Visit__6 (L : List Visit) (nL : Nat) (hbdL : (nL : Int) ≤ 9223372036854775807) (hleL : nL = L.length) (p : Visit → Bool) (hq5 : idxF p L < (L.length : Int) ∧ -1 ≤ idxF p L) : decide (0 ≤ (idxF p L)) = L.any p := by
  rw [Bool.eq_iff_iff, decide_eq_true_eq]; exact any_idx
theorem c_slices_ContainsFunc___impl_Visit_impl_Visit_ (w : World) {AL : Option Addr} {nL cL BL : Nat}  (L : List Visit) (hL : SlR w BL encVisit 4 AL nL cL L) {kp : Nat} {capp : List Value} (p : Visit → Bool) (hp : Fnc Tryz.prog w kp capp (fun x => .agg (List.toArray (encVisit x))) p) : Calls Tryz.prog 59 #[.slice AL nL cL, .func (.func kp) #[] (List.toArray capp)] w fun e w' => e = .returned (.bool (L.any p)) ∧ Lo w w' := by
  refine calls_W 9 Tryz.func59 rfl rfl rfl ?_
  have hbdL := hL.bound
  have hleL := hL.len
  have hBbL := hL.bd
  refine W.seq ?_
  refine W.regS (SR.q' (r_as (v := .bool false) rfl) <| SR.nil ?_)
  refine W.seq ?_
  refine W.regS (SR.q' (r_mv (v := .slice _ _ _) rfl) <| SR.q' (r_mv (v := .func _ #[] (List.toArray _)) rfl) <| SR.call ent68 (c_slices_IndexFunc___impl_Visit_impl_Visit_ w L ((hL)) p (hp.lo (Lo.refl w))) rfl ?_)
  rintro e w1 ⟨rfl, hk2⟩
  refine ⟨_, rfl, ?_⟩
  have hz3 := hk2.size
  have hB4 := (Lo.refl w).lo hk2
  have hq5 : idxF p L < (L.length : Int) ∧ -1 ≤ idxF p L := idx_lt
  refine SR.q' (r_ge rfl rfl) <| SR.q' (r_as (v := .bool _) rfl) <| SR.nil ?_
  refine W.ret ?_
  refine ret1 rfl (v := .bool _) rfl ?_
  exact ⟨eR (eB (z_c_slices_ContainsFunc___impl_Visit_impl_Visit__6 L nL hbdL hleL p hq5)), hB4⟩

theorem z_c_slices_Clone___impl_Visit_impl_Visit__3 (L : List Visit) (nL : Nat) (hbdL : (nL : Int) ≤ 9223372036854775807) (hleL : nL = L.length) (hp0 : (nL : Int) ≤ 1048576) (hq2 : nL = 0) : ([] : List Visit) = L := by
  first | rfl | (exact (List.eq_nil_of_length_eq_zero (by omega)).symm)
theorem c_slices_Clone___impl_Visit_impl_Visit_ (w : World) {AL : Option Addr} {nL cL BL : Nat}  (L : List Visit) (hL : SlR w BL encVisit 4 AL nL cL L) (hp0 : (nL : Int) ≤ 1048576) : Calls Tryz.prog 39 #[.slice AL nL cL] w fun e w' => ∃ (A1' : Option Addr) (n1' c1' : Nat), e = .returned (.slice A1' n1' c1') ∧ SlO w' w.heap.size encVisit 4 45 A1' n1' c1' L ∧ Lo w w' := by
  refine calls_W 8 Tryz.func39 rfl rfl rfl ?_
  have hbdL := hL.bound
  have hleL := hL.len
  have hBbL := hL.bd
  refine W.seq ?_
  refine W.regS (SR.q' (r_as (v := .slice none 0 0) rfl) <| SR.nil ?_)
  refine W.seq ?_
  refine W.seq ?_
  refine W.regS (SR.q' (r_mv (v := .slice _ _ _) rfl) <| SR.q' (r_eqlnil und24 rfl rfl) <| SR.nil ?_)
  refine W.cond_b rfl (fun h1 => ?_) (fun h1 => ?_)
  · have hq2 := slR_nil hL h1
    refine W.seq ?_
    refine W.regS (SR.q' (r_as (v := .slice none 0 0) rfl) <| SR.nil ?_)
    refine W.ret ?_
    refine ret1 rfl (v := .slice none 0 0) rfl ?_
    exact ⟨none, 0, 0, eR rfl, (SlO.eqv (SlO.nil (e := 45) (enc := encVisit) (fun _ => rfl) (Nat.le_refl _)) (z_c_slices_Clone___impl_Visit_impl_Visit__3 L nL hbdL hleL hp0 hq2)), (Lo.refl w)⟩
  · refine W.skip ?_
    refine W.seq ?_
    refine W.regS (SR.lit (vs := []) (L := ([] : List Visit)) (enc := encVisit) tel24 (fun _ => rfl) rfl rfl rfl (by decide) ?_)
    intro g4 w5 hg6 hk7 hO8
    have hz9 := hk7.size
    have hB10 := (Lo.refl w).lo hk7
    refine SR.q' (r_mv (v := .slice _ _ _) rfl) <| SR.app tel24 rfl rfl (hO8) ((hL).lo hk7) (fun _ => rfl) (by omega) (by omega) ?_
    intro A11 c12 w13 hk14 hO15 hN16
    have hz17 := hk14.size
    have hB18 := hB10.step hk14 (fun i_ hi_ e' => by have := ((hO8)).base_le e'; first | omega | (exfalso; omega) | exact e' | exact .inl e' | exact .inr e')
    rw [List.nil_append] at hO15
    refine SR.q' (r_as (v := .slice _ _ _) rfl) <| SR.nil ?_
    refine W.ret ?_
    refine ret1 rfl (v := .slice _ _ _) rfl ?_
    exact ⟨A11, 0 + nL, c12, eR rfl, ((hO15).down (by omega)), hB18⟩

theorem z_c_impl_AreVisits_1_15 (y : Visit) (x : Visit) (h13 : meetV y x.From x.Until) (h14 : y.Seat = x.Seat) : clash y x := by
  unfold clash; simp_all
theorem z_c_impl_AreVisits_1_16 (y : Visit) (x : Visit) (h13 : meetV y x.From x.Until) (h14 : ¬ (y.Seat = x.Seat)) : (y.Reader = x.Reader) ↔ (clash y x) := by
  unfold clash; simp_all
theorem z_c_impl_AreVisits_1_17 (y : Visit) (x : Visit) (h13 : ¬ (meetV y x.From x.Until)) : ¬ (clash y x) := by
  unfold clash; simp_all
theorem c_impl_AreVisits_1 (w : World) (y : Visit) {gx ex : Nat} (x : Visit) (hx : Blk w gx ex [.int .i64 x.Reader, .int .i64 x.Seat, .int .i64 x.From, .int .i64 x.Until]) : Calls Tryz.prog 60 #[.agg (List.toArray (encVisit y)), .pointer (some ⟨gx, 0, none⟩)] w fun e w' => e = .returned (.bool (decide (clash y x))) ∧ Lo w w' := by
  refine calls_W 24 Tryz.func60 rfl rfl rfl ?_
  have hBlx := hx.lt
  refine W.seq ?_
  refine W.regS (SR.box (v := .agg (List.toArray _)) (l := [.int .i64 y.Reader, .int .i64 y.Seat, .int .i64 y.From, .int .i64 y.Until]) rfl rfl ?_)
  intro g1 w2 hg3 hk4 hs5 hb6
  have hz7 := hk4.size
  have hB8 := (Lo.refl w).lo hk4
  refine SR.q' (r_as (v := .bool false) rfl) <| SR.nil ?_
  refine W.seq ?_
  refine W.regS (SR.q' (r_lda (l := [.int .i64 y.Reader, .int .i64 y.Seat, .int .i64 y.From, .int .i64 y.Until]) agg45 rfl (fun _ _ hu => (hb6).cell hu) rfl) <| SR.q' (r_fa fa45_2 rfl) <| SR.q' (r_ld (v := .int .i64 x.From) sca3 rfl (((hx).lo hk4).cell rfl)) <| SR.q' (r_fa fa45_3 rfl) <| SR.q' (r_ld (v := .int .i64 x.Until) sca3 rfl (((hx).lo hk4).cell rfl)) <| SR.call ent61 (c__impl_Visit__meets w2 y x.From x.Until) rfl ?_)
  rintro e w9 ⟨rfl, hk10⟩
  refine ⟨_, rfl, ?_⟩
  have hz11 := hk10.size
  have hB12 := hB8.lo hk10
  refine SR.q' (r_mv (v := .bool _) rfl) <| SR.splitD (fun h13 => ?_) (fun h13 => ?_)
  · refine SR.g' rfl (r_fa fa45_1 rfl) <| SR.g' rfl (r_ld (v := .int .i64 y.Seat) sca3 rfl (((hb6).lo hk10).cell rfl)) <| SR.g' rfl (r_fa fa45_1 rfl) <| SR.g' rfl (r_ld (v := .int .i64 x.Seat) sca3 rfl ((((hx).lo hk4).lo hk10).cell rfl)) <| SR.g' rfl (r_eq rfl rfl) <| SR.g' rfl (r_mv (v := .bool _) rfl) <| SR.splitD (fun h14 => ?_) (fun h14 => ?_)
    · refine SR.s' rfl <| SR.s' rfl <| SR.s' rfl <| SR.s' rfl <| SR.s' rfl <| SR.g' rfl (r_pick true rfl (v := .bool true) rfl) <| SR.q' (r_pick true rfl (v := .bool _) rfl) <| SR.q' (r_as (v := .bool _) rfl) <| SR.nil ?_
      refine W.ret ?_
      refine ret1 rfl (v := .bool _) rfl ?_
      exact ⟨eR (eDT (z_c_impl_AreVisits_1_15 y x h13 h14)), hB12⟩
    · refine SR.g' rfl (r_fa fa45_0 rfl) <| SR.g' rfl (r_ld (v := .int .i64 y.Reader) sca3 rfl (((hb6).lo hk10).cell rfl)) <| SR.g' rfl (r_fa fa45_0 rfl) <| SR.g' rfl (r_ld (v := .int .i64 x.Reader) sca3 rfl ((((hx).lo hk4).lo hk10).cell rfl)) <| SR.g' rfl (r_eq rfl rfl) <| SR.g' rfl (r_pick false rfl (v := .bool _) rfl) <| SR.q' (r_pick true rfl (v := .bool _) rfl) <| SR.q' (r_as (v := .bool _) rfl) <| SR.nil ?_
      refine W.ret ?_
      refine ret1 rfl (v := .bool _) rfl ?_
      exact ⟨eR (eDD (z_c_impl_AreVisits_1_16 y x h13 h14)), hB12⟩
  · refine SR.s' rfl <| SR.s' rfl <| SR.s' rfl <| SR.s' rfl <| SR.s' rfl <| SR.s' rfl <| SR.u' rfl <| SR.u' rfl <| SR.u' rfl <| SR.u' rfl <| SR.u' rfl <| SR.s' rfl <| SR.q' (r_pick false rfl (v := .bool false) rfl) <| SR.q' (r_as (v := .bool _) rfl) <| SR.nil ?_
    refine W.ret ?_
    refine ret1 rfl (v := .bool _) rfl ?_
    exact ⟨eR (eDF (z_c_impl_AreVisits_1_17 y x h13)), hB12⟩

theorem z_c_impl_AreVisits_1 (L : List Visit) (nL : Nat) (hbdL : (nL : Int) ≤ 9223372036854775807) (hleL : nL = L.length) : 0 ≤ nL ∧ VsTo L 0 := by
  exact ⟨Nat.zero_le _, VsTo.zero⟩
theorem z_c_impl_AreVisits_30 (L : List Visit) (nL : Nat) (hbdL : (nL : Int) ≤ 9223372036854775807) (hleL : nL = L.length) (k : Nat) (hi7 : k ≤ nL ∧ VsTo L k) (h8 : (k : Int) < (nL : Int)) (x9 : Visit) (hx10 : L[k]? = some x9) (h25 : ¬ (VOK x9)) : ¬ (VsOK L) := by
  first | exact vs_end (And.right ‹_ ∧ VsTo L _›) hleL (by omega) | exact cl_bad ‹_ = true› ‹L[k]? = some _› | exact fun hr => (by have hs := hr.1 _ _ ‹L[k]? = some _›; first | exact ‹¬ VOK _› hs.1 | (have := hs.2.1 _ (by omega) ‹L[k - 1]? = some _›; omega))
theorem z_c_impl_AreVisits_41 (L : List Visit) (nL : Nat) (hbdL : (nL : Int) ≤ 9223372036854775807) (hleL : nL = L.length) (k : Nat) (hi7 : k ≤ nL ∧ VsTo L k) (h8 : (k : Int) < (nL : Int)) (x9 : Visit) (hx10 : L[k]? = some x9) (h25 : VOK x9) (hq31 : (1 ≤ x9.Reader ∧ x9.Reader ≤ 999) ∧ (1 ≤ x9.Seat ∧ x9.Seat ≤ 6) ∧ (480 ≤ x9.From ∧ x9.From ≤ 1200) ∧ (480 ≤ x9.Until ∧ x9.Until ≤ 1200)) (h32 : 0 < (k : Int)) (x33 : Visit) (hx35 : L[k - 1]? = some x33) (h40 : x9.From < x33.From) : ¬ (VsOK L) := by
  first | exact vs_end (And.right ‹_ ∧ VsTo L _›) hleL (by omega) | exact cl_bad ‹_ = true› ‹L[k]? = some _› | exact fun hr => (by have hs := hr.1 _ _ ‹L[k]? = some _›; first | exact ‹¬ VOK _› hs.1 | (have := hs.2.1 _ (by omega) ‹L[k - 1]? = some _›; omega))
theorem z_c_impl_AreVisits_47 (L : List Visit) (nL : Nat) (hbdL : (nL : Int) ≤ 9223372036854775807) (hleL : nL = L.length) (k : Nat) (hi7 : k ≤ nL ∧ VsTo L k) (h8 : (k : Int) < (nL : Int)) (x9 : Visit) (hx10 : L[k]? = some x9) (h25 : VOK x9) (hq31 : (1 ≤ x9.Reader ∧ x9.Reader ≤ 999) ∧ (1 ≤ x9.Seat ∧ x9.Seat ≤ 6) ∧ (480 ≤ x9.From ∧ x9.From ≤ 1200) ∧ (480 ≤ x9.Until ∧ x9.Until ≤ 1200)) (h32 : 0 < (k : Int)) (x33 : Visit) (hx35 : L[k - 1]? = some x33) (h40 : ¬ (x9.From < x33.From)) (h46 : ((L.take k).any (fun u_ : Visit => decide (clash u_ x9))) = true) : ¬ (VsOK L) := by
  first | exact vs_end (And.right ‹_ ∧ VsTo L _›) hleL (by omega) | exact cl_bad ‹_ = true› ‹L[k]? = some _› | exact fun hr => (by have hs := hr.1 _ _ ‹L[k]? = some _›; first | exact ‹¬ VOK _› hs.1 | (have := hs.2.1 _ (by omega) ‹L[k - 1]? = some _›; omega))
theorem z_c_impl_AreVisits_48 (L : List Visit) (nL : Nat) (hbdL : (nL : Int) ≤ 9223372036854775807) (hleL : nL = L.length) (k : Nat) (hi7 : k ≤ nL ∧ VsTo L k) (h8 : (k : Int) < (nL : Int)) (x9 : Visit) (hx10 : L[k]? = some x9) (h25 : VOK x9) (hq31 : (1 ≤ x9.Reader ∧ x9.Reader ≤ 999) ∧ (1 ≤ x9.Seat ∧ x9.Seat ≤ 6) ∧ (480 ≤ x9.From ∧ x9.From ≤ 1200) ∧ (480 ≤ x9.Until ∧ x9.Until ≤ 1200)) (h32 : 0 < (k : Int)) (x33 : Visit) (hx35 : L[k - 1]? = some x33) (h40 : ¬ (x9.From < x33.From)) (h46 : ((L.take k).any (fun u_ : Visit => decide (clash u_ x9))) = false) : k + 1 ≤ nL ∧ VsTo L (k + 1) := by
  refine ⟨by omega, vs_next (And.right ‹_ ∧ VsTo L _›) ‹L[k]? = some _› ?_⟩
  first | exact vstep_of (by simp_all) ‹_› (cl_any (by simp_all)) | exact vstep_of' (by simp_all) ‹L[k - 1]? = some _› (by omega) (cl_any (by simp_all))
theorem z_c_impl_AreVisits_49 (L : List Visit) (nL : Nat) (hbdL : (nL : Int) ≤ 9223372036854775807) (hleL : nL = L.length) (k : Nat) (hi7 : k ≤ nL ∧ VsTo L k) (h8 : (k : Int) < (nL : Int)) (x9 : Visit) (hx10 : L[k]? = some x9) (h25 : VOK x9) (hq31 : (1 ≤ x9.Reader ∧ x9.Reader ≤ 999) ∧ (1 ≤ x9.Seat ∧ x9.Seat ≤ 6) ∧ (480 ≤ x9.From ∧ x9.From ≤ 1200) ∧ (480 ≤ x9.Until ∧ x9.Until ≤ 1200)) (h32 : 0 < (k : Int)) (x33 : Visit) (hx35 : L[k - 1]? = some x33) (h40 : ¬ (x9.From < x33.From)) (h46 : ((L.take k).any (fun u_ : Visit => decide (clash u_ x9))) = false) : nL - (k + 1) < nL - k := by
  omega
theorem z_c_impl_AreVisits_59 (L : List Visit) (nL : Nat) (hbdL : (nL : Int) ≤ 9223372036854775807) (hleL : nL = L.length) (k : Nat) (hi7 : k ≤ nL ∧ VsTo L k) (h8 : (k : Int) < (nL : Int)) (x9 : Visit) (hx10 : L[k]? = some x9) (h25 : VOK x9) (hq31 : (1 ≤ x9.Reader ∧ x9.Reader ≤ 999) ∧ (1 ≤ x9.Seat ∧ x9.Seat ≤ 6) ∧ (480 ≤ x9.From ∧ x9.From ≤ 1200) ∧ (480 ≤ x9.Until ∧ x9.Until ≤ 1200)) (h32 : ¬ (0 < (k : Int))) (h58 : ((L.take k).any (fun u_ : Visit => decide (clash u_ x9))) = true) : ¬ (VsOK L) := by
  first | exact vs_end (And.right ‹_ ∧ VsTo L _›) hleL (by omega) | exact cl_bad ‹_ = true› ‹L[k]? = some _› | exact fun hr => (by have hs := hr.1 _ _ ‹L[k]? = some _›; first | exact ‹¬ VOK _› hs.1 | (have := hs.2.1 _ (by omega) ‹L[k - 1]? = some _›; omega))
theorem z_c_impl_AreVisits_60 (L : List Visit) (nL : Nat) (hbdL : (nL : Int) ≤ 9223372036854775807) (hleL : nL = L.length) (k : Nat) (hi7 : k ≤ nL ∧ VsTo L k) (h8 : (k : Int) < (nL : Int)) (x9 : Visit) (hx10 : L[k]? = some x9) (h25 : VOK x9) (hq31 : (1 ≤ x9.Reader ∧ x9.Reader ≤ 999) ∧ (1 ≤ x9.Seat ∧ x9.Seat ≤ 6) ∧ (480 ≤ x9.From ∧ x9.From ≤ 1200) ∧ (480 ≤ x9.Until ∧ x9.Until ≤ 1200)) (h32 : ¬ (0 < (k : Int))) (h58 : ((L.take k).any (fun u_ : Visit => decide (clash u_ x9))) = false) : k + 1 ≤ nL ∧ VsTo L (k + 1) := by
  refine ⟨by omega, vs_next (And.right ‹_ ∧ VsTo L _›) ‹L[k]? = some _› ?_⟩
  first | exact vstep_of (by simp_all) ‹_› (cl_any (by simp_all)) | exact vstep_of' (by simp_all) ‹L[k - 1]? = some _› (by omega) (cl_any (by simp_all))
theorem z_c_impl_AreVisits_61 (L : List Visit) (nL : Nat) (hbdL : (nL : Int) ≤ 9223372036854775807) (hleL : nL = L.length) (k : Nat) (hi7 : k ≤ nL ∧ VsTo L k) (h8 : (k : Int) < (nL : Int)) (x9 : Visit) (hx10 : L[k]? = some x9) (h25 : VOK x9) (hq31 : (1 ≤ x9.Reader ∧ x9.Reader ≤ 999) ∧ (1 ≤ x9.Seat ∧ x9.Seat ≤ 6) ∧ (480 ≤ x9.From ∧ x9.From ≤ 1200) ∧ (480 ≤ x9.Until ∧ x9.Until ≤ 1200)) (h32 : ¬ (0 < (k : Int))) (h58 : ((L.take k).any (fun u_ : Visit => decide (clash u_ x9))) = false) : nL - (k + 1) < nL - k := by
  omega
theorem z_c_impl_AreVisits_62 (L : List Visit) (nL : Nat) (hbdL : (nL : Int) ≤ 9223372036854775807) (hleL : nL = L.length) (k : Nat) (hi7 : k ≤ nL ∧ VsTo L k) (h8 : ¬ ((k : Int) < (nL : Int))) : ((nL : Int) ≤ 15) ↔ (VsOK L) := by
  first | exact vs_end (And.right ‹_ ∧ VsTo L _›) hleL (by omega) | exact cl_bad ‹_ = true› ‹L[k]? = some _› | exact fun hr => (by have hs := hr.1 _ _ ‹L[k]? = some _›; first | exact ‹¬ VOK _› hs.1 | (have := hs.2.1 _ (by omega) ‹L[k - 1]? = some _›; omega))
theorem c_impl_AreVisits (w : World) {AL : Option Addr} {nL cL BL : Nat}  (L : List Visit) (hL : SlR w BL encVisit 4 AL nL cL L) : Calls Tryz.prog 29 #[.slice AL nL cL] w fun e w' => e = .returned (.bool (decide (VsOK L))) ∧ Lo w w' := by
  refine calls_W 39 Tryz.func29 rfl rfl rfl ?_
  have hbdL := hL.bound
  have hleL := hL.len
  have hBbL := hL.bd
  refine W.seq ?_
  refine W.regS (SR.q' (r_as (v := .bool false) rfl) <| SR.nil ?_)
  refine W.seq ?_
  refine W.seq ?_
  refine W.regS (SR.q' (r_mv (v := .slice _ _ _) rfl) <| SR.q' (r_len und24 rfl) <| SR.q' (r_mv (v := .int .i64 0) rfl) <| SR.nil ?_)
  refine W.block ?_
  refine W.loop (σ := Nat) (fun g => [(0, .slice AL nL cL), (5, .slice AL nL cL), (6, .int .i64 (nL : Int)), (7, .int .i64 (g : Int))]) (fun g w' => (Lo w w') ∧ (SlR w' BL encVisit 4 AL nL cL L) ∧ (g ≤ nL ∧ VsTo L g)) (fun g => nL - g) 0 ?_ ?_ ?_
  · exact ⟨rfl, rfl, rfl, rfl, trivial⟩
  · exact ⟨(Lo.refl w), hL, (z_c_impl_AreVisits_1 L nL hbdL hleL)⟩
  · rintro k f2 w3 hP5
    obtain ⟨hB4, hm6, hi7⟩ : (Lo w w3) ∧ (SlR w3 BL encVisit 4 AL nL cL L) ∧ (k ≤ nL ∧ VsTo L k) := hP5
    refine (?_ : W _ _ _ _ _ (act _ (sets f2 [(0, .slice AL nL cL), (5, .slice AL nL cL), (6, .int .i64 (nL : Int)), (7, .int .i64 (k : Int))])) _)
    have hzw3 := hB4.size
    refine W.seq ?_
    refine W.regS (SR.q' (r_lt rfl rfl) <| SR.nil ?_)
    refine W.seq ?_
    refine W.cond_d rfl (fun h8 => ?_) (fun h8 => ?_)
    · refine W.skip ?_
      refine W.seq ?_
      refine W.block ?_
      refine W.seq ?_
      refine W.regS (SR.q' (r_mv (v := .int .i64 _) rfl) <| ?_)
      obtain ⟨x9, hx10⟩ := (hm6).get (i := k) (by omega)
      refine SR.q' (r_ixR tsl24 (hm6) rfl rfl (by omega)) <| SR.q' (r_lda (l := encVisit x9) agg45 rfl (fun _ _ hu => (hm6).cell hx10 hu) ((hm6).esz _)) <| SR.alloc (l := [.int .i64 0, .int .i64 0, .int .i64 0, .int .i64 0]) tz45 rfl ?_
      intro g11 w12 hg13 hk14 hs15 hb16
      have hz17 := hk14.size
      have hB18 := hB4.lo hk14
      refine SR.q' (r_as (v := .int .i64 _) rfl) <| SR.store (o := 0) (vs := [.int .i64 x9.Reader, .int .i64 x9.Seat, .int .i64 x9.From, .int .i64 x9.Until]) agg45.2 rfl rfl rfl rfl (hb16) (Nat.le_of_ble_eq_true rfl) rfl ?_
      intro w19 hk20 hs21 hb22
      have hz23 := hk20.size
      have hB24 := hB18.new hk20 (by omega)
      refine SR.nil ?_
      refine W.seq ?_
      refine W.seq ?_
      refine W.regD mo (by kernel_rfl) (QR.q' (fun w' hw' => r_lda (l := [.int .i64 x9.Reader, .int .i64 x9.Seat, .int .i64 x9.From, .int .i64 x9.Until]) agg45 rfl (fun _ _ hu => ((hb22).lo hw').cell hu) rfl) <| QR.call ent50 (fun w' hw' => (c_impl_isVisit w' x9).mono fun _ _ h => ⟨h.1, hw'.trans h.2⟩) rfl <| QR.q' (fun w' hw' => r_not rfl) <| QR.q' (fun w' hw' => r_mv (v := .bool _) rfl) <| QR.splitN (fun h25 => ?_) (fun h25 => ?_))
      · refine QR.s' rfl <| QR.s' rfl <| QR.s' rfl <| QR.u' rfl <| QR.u' rfl <| QR.u' rfl <| QR.u' rfl <| QR.u' rfl <| QR.u' rfl <| QR.u' rfl <| QR.u' rfl <| QR.u' rfl <| QR.s' rfl <| QR.q' (fun w' hw' => r_pick true rfl (v := .bool true) rfl) <| QR.nil ?_
        intro w26 hk27
        have hz28 := hk27.size
        have hB29 := hB24.lo hk27
        refine W.cond_t rfl ?_
        refine W.seq ?_
        refine W.regS (SR.q' (r_as (v := .bool false) rfl) <| SR.nil ?_)
        refine W.ret ?_
        refine ret1 rfl (v := .bool _) rfl ?_
        exact ⟨eR (eDF (z_c_impl_AreVisits_30 L nL hbdL hleL k hi7 h8 x9 hx10 h25)), hB29⟩
      · have hq31 := vok_rng h25
        refine QR.g' rfl (fun w' hw' => r_mv (v := .int .i64 _) rfl) <| QR.g' rfl (fun w' hw' => r_gt rfl rfl) <| QR.g' rfl (fun w' hw' => r_mv (v := .bool _) rfl) <| QR.splitD (fun h32 => ?_) (fun h32 => ?_)
        · refine QR.g' rfl (fun w' hw' => r_fa fa45_2 rfl) <| QR.g' rfl (fun w' hw' => r_ld (v := .int .i64 x9.From) sca3 rfl (((hb22).lo hw').cell rfl)) <| QR.g' rfl (fun w' hw' => r_mv (v := .slice _ _ _) rfl) <| QR.g' rfl (fun w' hw' => r_mv (v := .int .i64 _) rfl) <| QR.g' rfl (fun w' hw' => r_sub rfl rfl (by omega)) <| ?_
          obtain ⟨x33, hx34⟩ := (((hm6).lo hk14).kn hk20 (by omega)).get (i := ((k : Int) - 1).toNat) (by omega)
          have hx35 : L[k - 1]? = some x33 := (show ((k : Int) - 1).toNat = k - 1 from by omega) ▸ hx34
          refine QR.g' rfl (fun w' hw' => r_ixR tsl24 (((((hm6).lo hk14).kn hk20 (by omega)).lo hw')) rfl rfl (by omega)) <| QR.g' rfl (fun w' hw' => r_fa fa45_2 rfl) <| QR.g' rfl (fun w' hw' => r_ld (v := .int .i64 x33.From) sca3 rfl ((((((hm6).lo hk14).kn hk20 (by omega)).lo hw')).cell hx34 rfl)) <| QR.g' rfl (fun w' hw' => r_lt rfl rfl) <| QR.g' rfl (fun w' hw' => r_pick true rfl (v := .bool _) rfl) <| QR.q' (fun w' hw' => r_pick false rfl (v := .bool _) rfl) <| QR.nil ?_
          intro w36 hk37
          have hz38 := hk37.size
          have hB39 := hB24.lo hk37
          refine W.cond_d rfl (fun h40 => ?_) (fun h40 => ?_)
          · refine W.seq ?_
            refine W.regS (SR.q' (r_as (v := .bool false) rfl) <| SR.nil ?_)
            refine W.ret ?_
            refine ret1 rfl (v := .bool _) rfl ?_
            exact ⟨eR (eDF (z_c_impl_AreVisits_41 L nL hbdL hleL k hi7 h8 x9 hx10 h25 hq31 h32 x33 hx35 h40)), hB39⟩
          · refine W.skip ?_
            refine W.seq ?_
            refine W.regS (SR.q' (r_mv (v := .slice _ _ _) rfl) <| SR.q' (r_mv (v := .int .i64 _) rfl) <| SR.q' (r_cuth (h := k) tsl24 rfl rfl rfl (Nat.le_trans (by omega : k ≤ nL) ((((hm6).lo hk14).kn hk20 (by omega)).lo hk37).cap)) <| SR.q' (r_mkf rfl rfl) <| SR.call ent59 (c_slices_ContainsFunc___impl_Visit_impl_Visit_ w36 (L.take k) ((((((hm6).lo hk14).kn hk20 (by omega)).lo hk37).head (h := k) (by omega))) (fun u_ : Visit => decide (clash u_ x9)) ⟨ent60, fun w'' hw'' x => (c_impl_AreVisits_1 w'' x x9 ((((hb22).lo hk37)).lo hw'')).mono fun _ _ h => ⟨h.1, h.2⟩⟩) rfl ?_)
            rintro e w42 ⟨rfl, hk43⟩
            refine ⟨_, rfl, ?_⟩
            have hz44 := hk43.size
            have hB45 := hB39.lo hk43
            refine SR.nil ?_
            refine W.cond_b rfl (fun h46 => ?_) (fun h46 => ?_)
            · refine W.seq ?_
              refine W.regS (SR.q' (r_as (v := .bool false) rfl) <| SR.nil ?_)
              refine W.ret ?_
              refine ret1 rfl (v := .bool _) rfl ?_
              exact ⟨eR (eDF (z_c_impl_AreVisits_47 L nL hbdL hleL k hi7 h8 x9 hx10 h25 hq31 h32 x33 hx35 h40 h46)), hB45⟩
            · refine W.skip ?_
              refine W.regS (SR.q' (r_add rfl rfl (by omega)) <| SR.q' (r_mv (v := .int .i64 _) rfl) <| SR.nil ?_)
              refine ⟨k + 1, _, rfl, ⟨rfl, rfl, rfl, rfl, trivial⟩, ⟨hB45, ((((hm6).lo hk14).kn hk20 (by omega)).lo hk37).lo hk43, ?_⟩, ?_⟩
              · exact (z_c_impl_AreVisits_48 L nL hbdL hleL k hi7 h8 x9 hx10 h25 hq31 h32 x33 hx35 h40 h46)
              · exact (z_c_impl_AreVisits_49 L nL hbdL hleL k hi7 h8 x9 hx10 h25 hq31 h32 x33 hx35 h40 h46)
        · refine QR.s' rfl <| QR.s' rfl <| QR.s' rfl <| QR.s' rfl <| QR.s' rfl <| QR.s' rfl <| QR.s' rfl <| QR.s' rfl <| QR.s' rfl <| QR.g' rfl (fun w' hw' => r_pick false rfl (v := .bool false) rfl) <| QR.q' (fun w' hw' => r_pick false rfl (v := .bool _) rfl) <| QR.nil ?_
          intro w50 hk51
          have hz52 := hk51.size
          have hB53 := hB24.lo hk51
          refine W.cond_f rfl ?_
          refine W.skip ?_
          refine W.seq ?_
          refine W.regS (SR.q' (r_mv (v := .slice _ _ _) rfl) <| SR.q' (r_mv (v := .int .i64 _) rfl) <| SR.q' (r_cuth (h := k) tsl24 rfl rfl rfl (Nat.le_trans (by omega : k ≤ nL) ((((hm6).lo hk14).kn hk20 (by omega)).lo hk51).cap)) <| SR.q' (r_mkf rfl rfl) <| SR.call ent59 (c_slices_ContainsFunc___impl_Visit_impl_Visit_ w50 (L.take k) ((((((hm6).lo hk14).kn hk20 (by omega)).lo hk51).head (h := k) (by omega))) (fun u_ : Visit => decide (clash u_ x9)) ⟨ent60, fun w'' hw'' x => (c_impl_AreVisits_1 w'' x x9 ((((hb22).lo hk51)).lo hw'')).mono fun _ _ h => ⟨h.1, h.2⟩⟩) rfl ?_)
          rintro e w54 ⟨rfl, hk55⟩
          refine ⟨_, rfl, ?_⟩
          have hz56 := hk55.size
          have hB57 := hB53.lo hk55
          refine SR.nil ?_
          refine W.cond_b rfl (fun h58 => ?_) (fun h58 => ?_)
          · refine W.seq ?_
            refine W.regS (SR.q' (r_as (v := .bool false) rfl) <| SR.nil ?_)
            refine W.ret ?_
            refine ret1 rfl (v := .bool _) rfl ?_
            exact ⟨eR (eDF (z_c_impl_AreVisits_59 L nL hbdL hleL k hi7 h8 x9 hx10 h25 hq31 h32 h58)), hB57⟩
          · refine W.skip ?_
            refine W.regS (SR.q' (r_add rfl rfl (by omega)) <| SR.q' (r_mv (v := .int .i64 _) rfl) <| SR.nil ?_)
            refine ⟨k + 1, _, rfl, ⟨rfl, rfl, rfl, rfl, trivial⟩, ⟨hB57, ((((hm6).lo hk14).kn hk20 (by omega)).lo hk51).lo hk55, ?_⟩, ?_⟩
            · exact (z_c_impl_AreVisits_60 L nL hbdL hleL k hi7 h8 x9 hx10 h25 hq31 h32 h58)
            · exact (z_c_impl_AreVisits_61 L nL hbdL hleL k hi7 h8 x9 hx10 h25 hq31 h32 h58)
    · refine W.exit (xin_here ?_)
      refine W.seq ?_
      refine W.regS (SR.q' (r_mv (v := .slice _ _ _) rfl) <| SR.q' (r_len und24 rfl) <| SR.q' (r_le rfl rfl) <| SR.q' (r_as (v := .bool _) rfl) <| SR.nil ?_)
      refine W.ret ?_
      refine ret1 rfl (v := .bool _) rfl ?_
      exact ⟨eR (eDD (z_c_impl_AreVisits_62 L nL hbdL hleL k hi7 h8)), hB4⟩

theorem z_c_spec_l30Good_1 (L : List Visit) (nL : Nat) (hbdL : (nL : Int) ≤ 9223372036854775807) (hleL : nL = L.length) : 0 ≤ nL ∧ VsTo L 0 := by
  exact ⟨Nat.zero_le _, VsTo.zero⟩
theorem z_c_spec_l30Good_31 (L : List Visit) (nL : Nat) (hbdL : (nL : Int) ≤ 9223372036854775807) (hleL : nL = L.length) (k : Nat) (hi7 : k ≤ nL ∧ VsTo L k) (h8 : (k : Int) < (nL : Int)) (h9 : (k : Int) ≤ 15) (x10 : Visit) (hx11 : L[k]? = some x10) (h26 : ¬ (VOK x10)) : ¬ (VsOK L) := by
  first | exact vs_end (And.right ‹_ ∧ VsTo L _›) hleL (by omega) | exact fun hr => (hr.1 _ _ ‹L[k]? = some _›).2.2 j _ (by omega) ‹L[j]? = some _› (by unfold clash; simp_all) | exact fun hr => (by have hs := hr.1 _ _ ‹L[k]? = some _›; first | exact ‹¬ VOK _› hs.1 | (have := hs.2.1 _ (by omega) ‹L[k - 1]? = some _›; omega))
theorem z_c_spec_l30Good_42 (L : List Visit) (nL : Nat) (hbdL : (nL : Int) ≤ 9223372036854775807) (hleL : nL = L.length) (k : Nat) (hi7 : k ≤ nL ∧ VsTo L k) (h8 : (k : Int) < (nL : Int)) (h9 : (k : Int) ≤ 15) (x10 : Visit) (hx11 : L[k]? = some x10) (h26 : VOK x10) (hq32 : (1 ≤ x10.Reader ∧ x10.Reader ≤ 999) ∧ (1 ≤ x10.Seat ∧ x10.Seat ≤ 6) ∧ (480 ≤ x10.From ∧ x10.From ≤ 1200) ∧ (480 ≤ x10.Until ∧ x10.Until ≤ 1200)) (h33 : 0 < (k : Int)) (x34 : Visit) (hx36 : L[k - 1]? = some x34) (h41 : x10.From < x34.From) : ¬ (VsOK L) := by
  first | exact vs_end (And.right ‹_ ∧ VsTo L _›) hleL (by omega) | exact fun hr => (hr.1 _ _ ‹L[k]? = some _›).2.2 j _ (by omega) ‹L[j]? = some _› (by unfold clash; simp_all) | exact fun hr => (by have hs := hr.1 _ _ ‹L[k]? = some _›; first | exact ‹¬ VOK _› hs.1 | (have := hs.2.1 _ (by omega) ‹L[k - 1]? = some _›; omega))
theorem z_c_spec_l30Good_43 (L : List Visit) (nL : Nat) (hbdL : (nL : Int) ≤ 9223372036854775807) (hleL : nL = L.length) (k : Nat) (hi7 : k ≤ nL ∧ VsTo L k) (h8 : (k : Int) < (nL : Int)) (h9 : (k : Int) ≤ 15) (x10 : Visit) (hx11 : L[k]? = some x10) (h26 : VOK x10) (hq32 : (1 ≤ x10.Reader ∧ x10.Reader ≤ 999) ∧ (1 ≤ x10.Seat ∧ x10.Seat ≤ 6) ∧ (480 ≤ x10.From ∧ x10.From ≤ 1200) ∧ (480 ≤ x10.Until ∧ x10.Until ≤ 1200)) (h33 : 0 < (k : Int)) (x34 : Visit) (hx36 : L[k - 1]? = some x34) (h41 : ¬ (x10.From < x34.From)) : 0 ≤ k ∧ ClTo L x10 0 := by
  exact ⟨Nat.zero_le _, ClTo.zero⟩
theorem z_c_spec_l30Good_61 (L : List Visit) (nL : Nat) (hbdL : (nL : Int) ≤ 9223372036854775807) (hleL : nL = L.length) (k : Nat) (hi7 : k ≤ nL ∧ VsTo L k) (h8 : (k : Int) < (nL : Int)) (h9 : (k : Int) ≤ 15) (x10 : Visit) (hx11 : L[k]? = some x10) (h26 : VOK x10) (hq32 : (1 ≤ x10.Reader ∧ x10.Reader ≤ 999) ∧ (1 ≤ x10.Seat ∧ x10.Seat ≤ 6) ∧ (480 ≤ x10.From ∧ x10.From ≤ 1200) ∧ (480 ≤ x10.Until ∧ x10.Until ≤ 1200)) (h33 : 0 < (k : Int)) (x34 : Visit) (hx36 : L[k - 1]? = some x34) (h41 : ¬ (x10.From < x34.From)) (j : Nat) (hi50 : j ≤ k ∧ ClTo L x10 j) (h52 : (j : Int) < (k : Int)) (x53 : Visit) (hx54 : L[j]? = some x53) (h55 : meetV x53 x10.From x10.Until) (h56 : x53.Seat = x10.Seat) : ¬ (VsOK L) := by
  first | exact vs_end (And.right ‹_ ∧ VsTo L _›) hleL (by omega) | exact fun hr => (hr.1 _ _ ‹L[k]? = some _›).2.2 j _ (by omega) ‹L[j]? = some _› (by unfold clash; simp_all) | exact fun hr => (by have hs := hr.1 _ _ ‹L[k]? = some _›; first | exact ‹¬ VOK _› hs.1 | (have := hs.2.1 _ (by omega) ‹L[k - 1]? = some _›; omega))
theorem z_c_spec_l30Good_67 (L : List Visit) (nL : Nat) (hbdL : (nL : Int) ≤ 9223372036854775807) (hleL : nL = L.length) (k : Nat) (hi7 : k ≤ nL ∧ VsTo L k) (h8 : (k : Int) < (nL : Int)) (h9 : (k : Int) ≤ 15) (x10 : Visit) (hx11 : L[k]? = some x10) (h26 : VOK x10) (hq32 : (1 ≤ x10.Reader ∧ x10.Reader ≤ 999) ∧ (1 ≤ x10.Seat ∧ x10.Seat ≤ 6) ∧ (480 ≤ x10.From ∧ x10.From ≤ 1200) ∧ (480 ≤ x10.Until ∧ x10.Until ≤ 1200)) (h33 : 0 < (k : Int)) (x34 : Visit) (hx36 : L[k - 1]? = some x34) (h41 : ¬ (x10.From < x34.From)) (j : Nat) (hi50 : j ≤ k ∧ ClTo L x10 j) (h52 : (j : Int) < (k : Int)) (x53 : Visit) (hx54 : L[j]? = some x53) (h55 : meetV x53 x10.From x10.Until) (h56 : ¬ (x53.Seat = x10.Seat)) (h66 : x53.Reader = x10.Reader) : ¬ (VsOK L) := by
  first | exact vs_end (And.right ‹_ ∧ VsTo L _›) hleL (by omega) | exact fun hr => (hr.1 _ _ ‹L[k]? = some _›).2.2 j _ (by omega) ‹L[j]? = some _› (by unfold clash; simp_all) | exact fun hr => (by have hs := hr.1 _ _ ‹L[k]? = some _›; first | exact ‹¬ VOK _› hs.1 | (have := hs.2.1 _ (by omega) ‹L[k - 1]? = some _›; omega))
theorem z_c_spec_l30Good_68 (L : List Visit) (nL : Nat) (hbdL : (nL : Int) ≤ 9223372036854775807) (hleL : nL = L.length) (k : Nat) (hi7 : k ≤ nL ∧ VsTo L k) (h8 : (k : Int) < (nL : Int)) (h9 : (k : Int) ≤ 15) (x10 : Visit) (hx11 : L[k]? = some x10) (h26 : VOK x10) (hq32 : (1 ≤ x10.Reader ∧ x10.Reader ≤ 999) ∧ (1 ≤ x10.Seat ∧ x10.Seat ≤ 6) ∧ (480 ≤ x10.From ∧ x10.From ≤ 1200) ∧ (480 ≤ x10.Until ∧ x10.Until ≤ 1200)) (h33 : 0 < (k : Int)) (x34 : Visit) (hx36 : L[k - 1]? = some x34) (h41 : ¬ (x10.From < x34.From)) (j : Nat) (hi50 : j ≤ k ∧ ClTo L x10 j) (h52 : (j : Int) < (k : Int)) (x53 : Visit) (hx54 : L[j]? = some x53) (h55 : meetV x53 x10.From x10.Until) (h56 : ¬ (x53.Seat = x10.Seat)) (h66 : ¬ (x53.Reader = x10.Reader)) : j + 1 ≤ k ∧ ClTo L x10 (j + 1) := by
  exact ⟨by omega, ClTo.next (And.right ‹_ ∧ ClTo L _ _›) ‹L[j]? = some _› (by unfold clash; simp_all)⟩
theorem z_c_spec_l30Good_69 (L : List Visit) (nL : Nat) (hbdL : (nL : Int) ≤ 9223372036854775807) (hleL : nL = L.length) (k : Nat) (hi7 : k ≤ nL ∧ VsTo L k) (h8 : (k : Int) < (nL : Int)) (h9 : (k : Int) ≤ 15) (x10 : Visit) (hx11 : L[k]? = some x10) (h26 : VOK x10) (hq32 : (1 ≤ x10.Reader ∧ x10.Reader ≤ 999) ∧ (1 ≤ x10.Seat ∧ x10.Seat ≤ 6) ∧ (480 ≤ x10.From ∧ x10.From ≤ 1200) ∧ (480 ≤ x10.Until ∧ x10.Until ≤ 1200)) (h33 : 0 < (k : Int)) (x34 : Visit) (hx36 : L[k - 1]? = some x34) (h41 : ¬ (x10.From < x34.From)) (j : Nat) (hi50 : j ≤ k ∧ ClTo L x10 j) (h52 : (j : Int) < (k : Int)) (x53 : Visit) (hx54 : L[j]? = some x53) (h55 : meetV x53 x10.From x10.Until) (h56 : ¬ (x53.Seat = x10.Seat)) (h66 : ¬ (x53.Reader = x10.Reader)) : k - (j + 1) < k - j := by
  omega
theorem z_c_spec_l30Good_74 (L : List Visit) (nL : Nat) (hbdL : (nL : Int) ≤ 9223372036854775807) (hleL : nL = L.length) (k : Nat) (hi7 : k ≤ nL ∧ VsTo L k) (h8 : (k : Int) < (nL : Int)) (h9 : (k : Int) ≤ 15) (x10 : Visit) (hx11 : L[k]? = some x10) (h26 : VOK x10) (hq32 : (1 ≤ x10.Reader ∧ x10.Reader ≤ 999) ∧ (1 ≤ x10.Seat ∧ x10.Seat ≤ 6) ∧ (480 ≤ x10.From ∧ x10.From ≤ 1200) ∧ (480 ≤ x10.Until ∧ x10.Until ≤ 1200)) (h33 : 0 < (k : Int)) (x34 : Visit) (hx36 : L[k - 1]? = some x34) (h41 : ¬ (x10.From < x34.From)) (j : Nat) (hi50 : j ≤ k ∧ ClTo L x10 j) (h52 : (j : Int) < (k : Int)) (x53 : Visit) (hx54 : L[j]? = some x53) (h55 : ¬ (meetV x53 x10.From x10.Until)) : j + 1 ≤ k ∧ ClTo L x10 (j + 1) := by
  exact ⟨by omega, ClTo.next (And.right ‹_ ∧ ClTo L _ _›) ‹L[j]? = some _› (by unfold clash; simp_all)⟩
theorem z_c_spec_l30Good_75 (L : List Visit) (nL : Nat) (hbdL : (nL : Int) ≤ 9223372036854775807) (hleL : nL = L.length) (k : Nat) (hi7 : k ≤ nL ∧ VsTo L k) (h8 : (k : Int) < (nL : Int)) (h9 : (k : Int) ≤ 15) (x10 : Visit) (hx11 : L[k]? = some x10) (h26 : VOK x10) (hq32 : (1 ≤ x10.Reader ∧ x10.Reader ≤ 999) ∧ (1 ≤ x10.Seat ∧ x10.Seat ≤ 6) ∧ (480 ≤ x10.From ∧ x10.From ≤ 1200) ∧ (480 ≤ x10.Until ∧ x10.Until ≤ 1200)) (h33 : 0 < (k : Int)) (x34 : Visit) (hx36 : L[k - 1]? = some x34) (h41 : ¬ (x10.From < x34.From)) (j : Nat) (hi50 : j ≤ k ∧ ClTo L x10 j) (h52 : (j : Int) < (k : Int)) (x53 : Visit) (hx54 : L[j]? = some x53) (h55 : ¬ (meetV x53 x10.From x10.Until)) : k - (j + 1) < k - j := by
  omega
theorem z_c_spec_l30Good_76 (L : List Visit) (nL : Nat) (hbdL : (nL : Int) ≤ 9223372036854775807) (hleL : nL = L.length) (k : Nat) (hi7 : k ≤ nL ∧ VsTo L k) (h8 : (k : Int) < (nL : Int)) (h9 : (k : Int) ≤ 15) (x10 : Visit) (hx11 : L[k]? = some x10) (h26 : VOK x10) (hq32 : (1 ≤ x10.Reader ∧ x10.Reader ≤ 999) ∧ (1 ≤ x10.Seat ∧ x10.Seat ≤ 6) ∧ (480 ≤ x10.From ∧ x10.From ≤ 1200) ∧ (480 ≤ x10.Until ∧ x10.Until ≤ 1200)) (h33 : 0 < (k : Int)) (x34 : Visit) (hx36 : L[k - 1]? = some x34) (h41 : ¬ (x10.From < x34.From)) (j : Nat) (hi50 : j ≤ k ∧ ClTo L x10 j) (h52 : ¬ ((j : Int) < (k : Int))) : k + 1 ≤ nL ∧ VsTo L (k + 1) := by
  refine ⟨by omega, vs_next (And.right ‹_ ∧ VsTo L _›) ‹L[k]? = some _› ?_⟩
  obtain rfl : j = k := by omega
  first | exact vstep_of (by simp_all) ‹_› (And.right ‹_ ∧ ClTo L _ _›) | exact vstep_of' (by simp_all) ‹L[j - 1]? = some _› (by omega) (And.right ‹_ ∧ ClTo L _ _›)
theorem z_c_spec_l30Good_77 (L : List Visit) (nL : Nat) (hbdL : (nL : Int) ≤ 9223372036854775807) (hleL : nL = L.length) (k : Nat) (hi7 : k ≤ nL ∧ VsTo L k) (h8 : (k : Int) < (nL : Int)) (h9 : (k : Int) ≤ 15) (x10 : Visit) (hx11 : L[k]? = some x10) (h26 : VOK x10) (hq32 : (1 ≤ x10.Reader ∧ x10.Reader ≤ 999) ∧ (1 ≤ x10.Seat ∧ x10.Seat ≤ 6) ∧ (480 ≤ x10.From ∧ x10.From ≤ 1200) ∧ (480 ≤ x10.Until ∧ x10.Until ≤ 1200)) (h33 : 0 < (k : Int)) (x34 : Visit) (hx36 : L[k - 1]? = some x34) (h41 : ¬ (x10.From < x34.From)) (j : Nat) (hi50 : j ≤ k ∧ ClTo L x10 j) (h52 : ¬ ((j : Int) < (k : Int))) : nL - (k + 1) < nL - k := by
  omega
theorem z_c_spec_l30Good_82 (L : List Visit) (nL : Nat) (hbdL : (nL : Int) ≤ 9223372036854775807) (hleL : nL = L.length) (k : Nat) (hi7 : k ≤ nL ∧ VsTo L k) (h8 : (k : Int) < (nL : Int)) (h9 : (k : Int) ≤ 15) (x10 : Visit) (hx11 : L[k]? = some x10) (h26 : VOK x10) (hq32 : (1 ≤ x10.Reader ∧ x10.Reader ≤ 999) ∧ (1 ≤ x10.Seat ∧ x10.Seat ≤ 6) ∧ (480 ≤ x10.From ∧ x10.From ≤ 1200) ∧ (480 ≤ x10.Until ∧ x10.Until ≤ 1200)) (h33 : ¬ (0 < (k : Int))) : 0 ≤ k ∧ ClTo L x10 0 := by
  exact ⟨Nat.zero_le _, ClTo.zero⟩
theorem z_c_spec_l30Good_100 (L : List Visit) (nL : Nat) (hbdL : (nL : Int) ≤ 9223372036854775807) (hleL : nL = L.length) (k : Nat) (hi7 : k ≤ nL ∧ VsTo L k) (h8 : (k : Int) < (nL : Int)) (h9 : (k : Int) ≤ 15) (x10 : Visit) (hx11 : L[k]? = some x10) (h26 : VOK x10) (hq32 : (1 ≤ x10.Reader ∧ x10.Reader ≤ 999) ∧ (1 ≤ x10.Seat ∧ x10.Seat ≤ 6) ∧ (480 ≤ x10.From ∧ x10.From ≤ 1200) ∧ (480 ≤ x10.Until ∧ x10.Until ≤ 1200)) (h33 : ¬ (0 < (k : Int))) (j : Nat) (hi89 : j ≤ k ∧ ClTo L x10 j) (h91 : (j : Int) < (k : Int)) (x92 : Visit) (hx93 : L[j]? = some x92) (h94 : meetV x92 x10.From x10.Until) (h95 : x92.Seat = x10.Seat) : ¬ (VsOK L) := by
  first | exact vs_end (And.right ‹_ ∧ VsTo L _›) hleL (by omega) | exact fun hr => (hr.1 _ _ ‹L[k]? = some _›).2.2 j _ (by omega) ‹L[j]? = some _› (by unfold clash; simp_all) | exact fun hr => (by have hs := hr.1 _ _ ‹L[k]? = some _›; first | exact ‹¬ VOK _› hs.1 | (have := hs.2.1 _ (by omega) ‹L[k - 1]? = some _›; omega))
theorem z_c_spec_l30Good_106 (L : List Visit) (nL : Nat) (hbdL : (nL : Int) ≤ 9223372036854775807) (hleL : nL = L.length) (k : Nat) (hi7 : k ≤ nL ∧ VsTo L k) (h8 : (k : Int) < (nL : Int)) (h9 : (k : Int) ≤ 15) (x10 : Visit) (hx11 : L[k]? = some x10) (h26 : VOK x10) (hq32 : (1 ≤ x10.Reader ∧ x10.Reader ≤ 999) ∧ (1 ≤ x10.Seat ∧ x10.Seat ≤ 6) ∧ (480 ≤ x10.From ∧ x10.From ≤ 1200) ∧ (480 ≤ x10.Until ∧ x10.Until ≤ 1200)) (h33 : ¬ (0 < (k : Int))) (j : Nat) (hi89 : j ≤ k ∧ ClTo L x10 j) (h91 : (j : Int) < (k : Int)) (x92 : Visit) (hx93 : L[j]? = some x92) (h94 : meetV x92 x10.From x10.Until) (h95 : ¬ (x92.Seat = x10.Seat)) (h105 : x92.Reader = x10.Reader) : ¬ (VsOK L) := by
  first | exact vs_end (And.right ‹_ ∧ VsTo L _›) hleL (by omega) | exact fun hr => (hr.1 _ _ ‹L[k]? = some _›).2.2 j _ (by omega) ‹L[j]? = some _› (by unfold clash; simp_all) | exact fun hr => (by have hs := hr.1 _ _ ‹L[k]? = some _›; first | exact ‹¬ VOK _› hs.1 | (have := hs.2.1 _ (by omega) ‹L[k - 1]? = some _›; omega))
theorem z_c_spec_l30Good_107 (L : List Visit) (nL : Nat) (hbdL : (nL : Int) ≤ 9223372036854775807) (hleL : nL = L.length) (k : Nat) (hi7 : k ≤ nL ∧ VsTo L k) (h8 : (k : Int) < (nL : Int)) (h9 : (k : Int) ≤ 15) (x10 : Visit) (hx11 : L[k]? = some x10) (h26 : VOK x10) (hq32 : (1 ≤ x10.Reader ∧ x10.Reader ≤ 999) ∧ (1 ≤ x10.Seat ∧ x10.Seat ≤ 6) ∧ (480 ≤ x10.From ∧ x10.From ≤ 1200) ∧ (480 ≤ x10.Until ∧ x10.Until ≤ 1200)) (h33 : ¬ (0 < (k : Int))) (j : Nat) (hi89 : j ≤ k ∧ ClTo L x10 j) (h91 : (j : Int) < (k : Int)) (x92 : Visit) (hx93 : L[j]? = some x92) (h94 : meetV x92 x10.From x10.Until) (h95 : ¬ (x92.Seat = x10.Seat)) (h105 : ¬ (x92.Reader = x10.Reader)) : j + 1 ≤ k ∧ ClTo L x10 (j + 1) := by
  exact ⟨by omega, ClTo.next (And.right ‹_ ∧ ClTo L _ _›) ‹L[j]? = some _› (by unfold clash; simp_all)⟩
theorem z_c_spec_l30Good_108 (L : List Visit) (nL : Nat) (hbdL : (nL : Int) ≤ 9223372036854775807) (hleL : nL = L.length) (k : Nat) (hi7 : k ≤ nL ∧ VsTo L k) (h8 : (k : Int) < (nL : Int)) (h9 : (k : Int) ≤ 15) (x10 : Visit) (hx11 : L[k]? = some x10) (h26 : VOK x10) (hq32 : (1 ≤ x10.Reader ∧ x10.Reader ≤ 999) ∧ (1 ≤ x10.Seat ∧ x10.Seat ≤ 6) ∧ (480 ≤ x10.From ∧ x10.From ≤ 1200) ∧ (480 ≤ x10.Until ∧ x10.Until ≤ 1200)) (h33 : ¬ (0 < (k : Int))) (j : Nat) (hi89 : j ≤ k ∧ ClTo L x10 j) (h91 : (j : Int) < (k : Int)) (x92 : Visit) (hx93 : L[j]? = some x92) (h94 : meetV x92 x10.From x10.Until) (h95 : ¬ (x92.Seat = x10.Seat)) (h105 : ¬ (x92.Reader = x10.Reader)) : k - (j + 1) < k - j := by
  omega
theorem z_c_spec_l30Good_113 (L : List Visit) (nL : Nat) (hbdL : (nL : Int) ≤ 9223372036854775807) (hleL : nL = L.length) (k : Nat) (hi7 : k ≤ nL ∧ VsTo L k) (h8 : (k : Int) < (nL : Int)) (h9 : (k : Int) ≤ 15) (x10 : Visit) (hx11 : L[k]? = some x10) (h26 : VOK x10) (hq32 : (1 ≤ x10.Reader ∧ x10.Reader ≤ 999) ∧ (1 ≤ x10.Seat ∧ x10.Seat ≤ 6) ∧ (480 ≤ x10.From ∧ x10.From ≤ 1200) ∧ (480 ≤ x10.Until ∧ x10.Until ≤ 1200)) (h33 : ¬ (0 < (k : Int))) (j : Nat) (hi89 : j ≤ k ∧ ClTo L x10 j) (h91 : (j : Int) < (k : Int)) (x92 : Visit) (hx93 : L[j]? = some x92) (h94 : ¬ (meetV x92 x10.From x10.Until)) : j + 1 ≤ k ∧ ClTo L x10 (j + 1) := by
  exact ⟨by omega, ClTo.next (And.right ‹_ ∧ ClTo L _ _›) ‹L[j]? = some _› (by unfold clash; simp_all)⟩
theorem z_c_spec_l30Good_114 (L : List Visit) (nL : Nat) (hbdL : (nL : Int) ≤ 9223372036854775807) (hleL : nL = L.length) (k : Nat) (hi7 : k ≤ nL ∧ VsTo L k) (h8 : (k : Int) < (nL : Int)) (h9 : (k : Int) ≤ 15) (x10 : Visit) (hx11 : L[k]? = some x10) (h26 : VOK x10) (hq32 : (1 ≤ x10.Reader ∧ x10.Reader ≤ 999) ∧ (1 ≤ x10.Seat ∧ x10.Seat ≤ 6) ∧ (480 ≤ x10.From ∧ x10.From ≤ 1200) ∧ (480 ≤ x10.Until ∧ x10.Until ≤ 1200)) (h33 : ¬ (0 < (k : Int))) (j : Nat) (hi89 : j ≤ k ∧ ClTo L x10 j) (h91 : (j : Int) < (k : Int)) (x92 : Visit) (hx93 : L[j]? = some x92) (h94 : ¬ (meetV x92 x10.From x10.Until)) : k - (j + 1) < k - j := by
  omega
theorem z_c_spec_l30Good_115 (L : List Visit) (nL : Nat) (hbdL : (nL : Int) ≤ 9223372036854775807) (hleL : nL = L.length) (k : Nat) (hi7 : k ≤ nL ∧ VsTo L k) (h8 : (k : Int) < (nL : Int)) (h9 : (k : Int) ≤ 15) (x10 : Visit) (hx11 : L[k]? = some x10) (h26 : VOK x10) (hq32 : (1 ≤ x10.Reader ∧ x10.Reader ≤ 999) ∧ (1 ≤ x10.Seat ∧ x10.Seat ≤ 6) ∧ (480 ≤ x10.From ∧ x10.From ≤ 1200) ∧ (480 ≤ x10.Until ∧ x10.Until ≤ 1200)) (h33 : ¬ (0 < (k : Int))) (j : Nat) (hi89 : j ≤ k ∧ ClTo L x10 j) (h91 : ¬ ((j : Int) < (k : Int))) : k + 1 ≤ nL ∧ VsTo L (k + 1) := by
  refine ⟨by omega, vs_next (And.right ‹_ ∧ VsTo L _›) ‹L[k]? = some _› ?_⟩
  obtain rfl : j = k := by omega
  first | exact vstep_of (by simp_all) ‹_› (And.right ‹_ ∧ ClTo L _ _›) | exact vstep_of' (by simp_all) ‹L[j - 1]? = some _› (by omega) (And.right ‹_ ∧ ClTo L _ _›)
theorem z_c_spec_l30Good_116 (L : List Visit) (nL : Nat) (hbdL : (nL : Int) ≤ 9223372036854775807) (hleL : nL = L.length) (k : Nat) (hi7 : k ≤ nL ∧ VsTo L k) (h8 : (k : Int) < (nL : Int)) (h9 : (k : Int) ≤ 15) (x10 : Visit) (hx11 : L[k]? = some x10) (h26 : VOK x10) (hq32 : (1 ≤ x10.Reader ∧ x10.Reader ≤ 999) ∧ (1 ≤ x10.Seat ∧ x10.Seat ≤ 6) ∧ (480 ≤ x10.From ∧ x10.From ≤ 1200) ∧ (480 ≤ x10.Until ∧ x10.Until ≤ 1200)) (h33 : ¬ (0 < (k : Int))) (j : Nat) (hi89 : j ≤ k ∧ ClTo L x10 j) (h91 : ¬ ((j : Int) < (k : Int))) : nL - (k + 1) < nL - k := by
  omega
theorem z_c_spec_l30Good_117 (L : List Visit) (nL : Nat) (hbdL : (nL : Int) ≤ 9223372036854775807) (hleL : nL = L.length) (k : Nat) (hi7 : k ≤ nL ∧ VsTo L k) (h8 : (k : Int) < (nL : Int)) (h9 : ¬ ((k : Int) ≤ 15)) : ((nL : Int) ≤ 15) ↔ (VsOK L) := by
  first | exact vs_end (And.right ‹_ ∧ VsTo L _›) hleL (by omega) | exact fun hr => (hr.1 _ _ ‹L[k]? = some _›).2.2 j _ (by omega) ‹L[j]? = some _› (by unfold clash; simp_all) | exact fun hr => (by have hs := hr.1 _ _ ‹L[k]? = some _›; first | exact ‹¬ VOK _› hs.1 | (have := hs.2.1 _ (by omega) ‹L[k - 1]? = some _›; omega))
theorem z_c_spec_l30Good_118 (L : List Visit) (nL : Nat) (hbdL : (nL : Int) ≤ 9223372036854775807) (hleL : nL = L.length) (k : Nat) (hi7 : k ≤ nL ∧ VsTo L k) (h8 : ¬ ((k : Int) < (nL : Int))) : ((nL : Int) ≤ 15) ↔ (VsOK L) := by
  first | exact vs_end (And.right ‹_ ∧ VsTo L _›) hleL (by omega) | exact fun hr => (hr.1 _ _ ‹L[k]? = some _›).2.2 j _ (by omega) ‹L[j]? = some _› (by unfold clash; simp_all) | exact fun hr => (by have hs := hr.1 _ _ ‹L[k]? = some _›; first | exact ‹¬ VOK _› hs.1 | (have := hs.2.1 _ (by omega) ‹L[k - 1]? = some _›; omega))
theorem c_spec_l30Good (w : World) {AL : Option Addr} {nL cL BL : Nat}  (L : List Visit) (hL : SlR w BL encVisit 4 AL nL cL L) : Calls Tryz.prog 32 #[.slice AL nL cL] w fun e w' => e = .returned (.bool (decide (VsOK L))) ∧ Lo w w' := by
  refine calls_W 75 Tryz.func32 rfl rfl rfl ?_
  have hbdL := hL.bound
  have hleL := hL.len
  have hBbL := hL.bd
  refine W.seq ?_
  refine W.regS (SR.q' (r_as (v := .bool false) rfl) <| SR.nil ?_)
  refine W.seq ?_
  refine W.seq ?_
  refine W.regS (SR.q' (r_as (v := .int .i64 0) rfl) <| SR.nil ?_)
  refine W.block ?_
  refine W.loop (σ := Nat) (fun g => [(0, .slice AL nL cL), (3, .int .i64 (g : Int))]) (fun g w' => (Lo w w') ∧ (SlR w' BL encVisit 4 AL nL cL L) ∧ (g ≤ nL ∧ VsTo L g)) (fun g => nL - g) 0 ?_ ?_ ?_
  · exact ⟨rfl, rfl, trivial⟩
  · exact ⟨(Lo.refl w), hL, (z_c_spec_l30Good_1 L nL hbdL hleL)⟩
  · rintro k f2 w3 hP5
    obtain ⟨hB4, hm6, hi7⟩ : (Lo w w3) ∧ (SlR w3 BL encVisit 4 AL nL cL L) ∧ (k ≤ nL ∧ VsTo L k) := hP5
    refine (?_ : W _ _ _ _ _ (act _ (sets f2 [(0, .slice AL nL cL), (3, .int .i64 (k : Int))])) _)
    have hzw3 := hB4.size
    refine W.seq ?_
    refine W.seq ?_
    refine W.regS (SR.q' (r_mv (v := .int .i64 _) rfl) <| SR.q' (r_mv (v := .slice _ _ _) rfl) <| SR.q' (r_len und24 rfl) <| SR.q' (r_lt rfl rfl) <| SR.q' (r_mv (v := .bool _) rfl) <| SR.splitD (fun h8 => ?_) (fun h8 => ?_))
    · refine SR.g' rfl (r_mv (v := .int .i64 _) rfl) <| SR.g' rfl (r_le rfl rfl) <| SR.q' (r_pick true rfl (v := .bool _) rfl) <| SR.nil ?_
      refine W.cond_d rfl (fun h9 => ?_) (fun h9 => ?_)
      · refine W.skip ?_
        refine W.seq ?_
        refine W.block ?_
        refine W.seq ?_
        refine W.regS (SR.q' (r_mv (v := .slice _ _ _) rfl) <| SR.q' (r_mv (v := .int .i64 _) rfl) <| ?_)
        obtain ⟨x10, hx11⟩ := (hm6).get (i := k) (by omega)
        refine SR.q' (r_ixR tsl24 (hm6) rfl rfl (by omega)) <| SR.q' (r_lda (l := encVisit x10) agg45 rfl (fun _ _ hu => (hm6).cell hx11 hu) ((hm6).esz _)) <| SR.alloc (l := [.int .i64 0, .int .i64 0, .int .i64 0, .int .i64 0]) tz45 rfl ?_
        intro g12 w13 hg14 hk15 hs16 hb17
        have hz18 := hk15.size
        have hB19 := hB4.lo hk15
        refine SR.store (o := 0) (vs := [.int .i64 x10.Reader, .int .i64 x10.Seat, .int .i64 x10.From, .int .i64 x10.Until]) agg45.2 rfl rfl rfl rfl (hb17) (Nat.le_of_ble_eq_true rfl) rfl ?_
        intro w20 hk21 hs22 hb23
        have hz24 := hk21.size
        have hB25 := hB19.new hk21 (by omega)
        refine SR.nil ?_
        refine W.seq ?_
        refine W.seq ?_
        refine W.regD mo (by kernel_rfl) (QR.q' (fun w' hw' => r_lda (l := [.int .i64 x10.Reader, .int .i64 x10.Seat, .int .i64 x10.From, .int .i64 x10.Until]) agg45 rfl (fun _ _ hu => ((hb23).lo hw').cell hu) rfl) <| QR.call ent53 (fun w' hw' => (c_spec_l30One w' x10).mono fun _ _ h => ⟨h.1, hw'.trans h.2⟩) rfl <| QR.q' (fun w' hw' => r_not rfl) <| QR.q' (fun w' hw' => r_mv (v := .bool _) rfl) <| QR.splitN (fun h26 => ?_) (fun h26 => ?_))
        · refine QR.s' rfl <| QR.s' rfl <| QR.s' rfl <| QR.u' rfl <| QR.u' rfl <| QR.u' rfl <| QR.u' rfl <| QR.u' rfl <| QR.u' rfl <| QR.u' rfl <| QR.u' rfl <| QR.u' rfl <| QR.s' rfl <| QR.q' (fun w' hw' => r_pick true rfl (v := .bool true) rfl) <| QR.nil ?_
          intro w27 hk28
          have hz29 := hk28.size
          have hB30 := hB25.lo hk28
          refine W.cond_t rfl ?_
          refine W.seq ?_
          refine W.regS (SR.q' (r_as (v := .bool false) rfl) <| SR.nil ?_)
          refine W.ret ?_
          refine ret1 rfl (v := .bool _) rfl ?_
          exact ⟨eR (eDF (z_c_spec_l30Good_31 L nL hbdL hleL k hi7 h8 h9 x10 hx11 h26)), hB30⟩
        · have hq32 := vok_rng h26
          refine QR.g' rfl (fun w' hw' => r_mv (v := .int .i64 _) rfl) <| QR.g' rfl (fun w' hw' => r_gt rfl rfl) <| QR.g' rfl (fun w' hw' => r_mv (v := .bool _) rfl) <| QR.splitD (fun h33 => ?_) (fun h33 => ?_)
          · refine QR.g' rfl (fun w' hw' => r_mv (v := .slice _ _ _) rfl) <| QR.g' rfl (fun w' hw' => r_mv (v := .int .i64 _) rfl) <| QR.g' rfl (fun w' hw' => r_sub rfl rfl (by omega)) <| ?_
            obtain ⟨x34, hx35⟩ := (((hm6).lo hk15).kn hk21 (by omega)).get (i := ((k : Int) - 1).toNat) (by omega)
            have hx36 : L[k - 1]? = some x34 := (show ((k : Int) - 1).toNat = k - 1 from by omega) ▸ hx35
            refine QR.g' rfl (fun w' hw' => r_ixR tsl24 (((((hm6).lo hk15).kn hk21 (by omega)).lo hw')) rfl rfl (by omega)) <| QR.g' rfl (fun w' hw' => r_fa fa45_2 rfl) <| QR.g' rfl (fun w' hw' => r_ld (v := .int .i64 x34.From) sca3 rfl ((((((hm6).lo hk15).kn hk21 (by omega)).lo hw')).cell hx35 rfl)) <| QR.g' rfl (fun w' hw' => r_fa fa45_2 rfl) <| QR.g' rfl (fun w' hw' => r_ld (v := .int .i64 x10.From) sca3 rfl (((hb23).lo hw').cell rfl)) <| QR.g' rfl (fun w' hw' => r_gt rfl rfl) <| QR.g' rfl (fun w' hw' => r_pick true rfl (v := .bool _) rfl) <| QR.q' (fun w' hw' => r_pick false rfl (v := .bool _) rfl) <| QR.nil ?_
            intro w37 hk38
            have hz39 := hk38.size
            have hB40 := hB25.lo hk38
            refine W.cond_d rfl (fun h41 => ?_) (fun h41 => ?_)
            · refine W.seq ?_
              refine W.regS (SR.q' (r_as (v := .bool false) rfl) <| SR.nil ?_)
              refine W.ret ?_
              refine ret1 rfl (v := .bool _) rfl ?_
              exact ⟨eR (eDF (z_c_spec_l30Good_42 L nL hbdL hleL k hi7 h8 h9 x10 hx11 h26 hq32 h33 x34 hx36 h41)), hB40⟩
            · refine W.skip ?_
              refine W.seq ?_
              refine W.regS (SR.q' (r_as (v := .int .i64 0) rfl) <| SR.nil ?_)
              refine W.block ?_
              refine W.loop (σ := Nat) (fun g => [(0, .slice AL nL cL), (3, .int .i64 (k : Int)), (4, .pointer (some ((⟨g12, 0, none⟩ : Addr)))), (5, .int .i64 (g : Int))]) (fun g w' => (Lo w w') ∧ (SlR w' BL encVisit 4 AL nL cL L) ∧ (Blk w' g12 45 [.int .i64 x10.Reader, .int .i64 x10.Seat, .int .i64 x10.From, .int .i64 x10.Until]) ∧ (g ≤ k ∧ ClTo L x10 g)) (fun g => k - g) 0 ?_ ?_ ?_
              · exact ⟨rfl, rfl, rfl, rfl, trivial⟩
              · exact ⟨hB40, (((hm6).lo hk15).kn hk21 (by omega)).lo hk38, (hb23).lo hk38, (z_c_spec_l30Good_43 L nL hbdL hleL k hi7 h8 h9 x10 hx11 h26 hq32 h33 x34 hx36 h41)⟩
              · rintro j f44 w45 hP47
                obtain ⟨hB46, hm48, hm49, hi50⟩ : (Lo w w45) ∧ (SlR w45 BL encVisit 4 AL nL cL L) ∧ (Blk w45 g12 45 [.int .i64 x10.Reader, .int .i64 x10.Seat, .int .i64 x10.From, .int .i64 x10.Until]) ∧ (j ≤ k ∧ ClTo L x10 j) := hP47
                refine (?_ : W _ _ _ _ _ (act _ (sets f44 [(0, .slice AL nL cL), (3, .int .i64 (k : Int)), (4, .pointer (some ((⟨g12, 0, none⟩ : Addr)))), (5, .int .i64 (j : Int))])) _)
                have hzw45 := hB46.size
                have hl51 := hm49.lt
                refine W.seq ?_
                refine W.seq ?_
                refine W.regS (SR.q' (r_mv (v := .int .i64 _) rfl) <| SR.q' (r_mv (v := .int .i64 _) rfl) <| SR.q' (r_lt rfl rfl) <| SR.nil ?_)
                refine W.cond_d rfl (fun h52 => ?_) (fun h52 => ?_)
                · refine W.skip ?_
                  refine W.seq ?_
                  refine W.block ?_
                  refine W.seq ?_
                  refine W.regD mo (by kernel_rfl) (QR.q' (fun w' hw' => r_mv (v := .slice _ _ _) rfl) <| QR.q' (fun w' hw' => r_mv (v := .int .i64 _) rfl) <| ?_)
                  obtain ⟨x53, hx54⟩ := (hm48).get (i := j) (by omega)
                  refine QR.q' (fun w' hw' => r_ixR tsl24 (((hm48).lo hw')) rfl rfl (by omega)) <| QR.q' (fun w' hw' => r_lda (l := encVisit x53) agg45 rfl (fun _ _ hu => (((hm48).lo hw')).cell hx54 hu) ((((hm48).lo hw')).esz _)) <| QR.q' (fun w' hw' => r_fa fa45_2 rfl) <| QR.q' (fun w' hw' => r_ld (v := .int .i64 x10.From) sca3 rfl (((hm49).lo hw').cell rfl)) <| QR.q' (fun w' hw' => r_fa fa45_3 rfl) <| QR.q' (fun w' hw' => r_ld (v := .int .i64 x10.Until) sca3 rfl (((hm49).lo hw').cell rfl)) <| QR.call ent65 (fun w' hw' => (c_spec_l30Meet w' x53 x10.From x10.Until).mono fun _ _ h => ⟨h.1, hw'.trans h.2⟩) rfl <| QR.q' (fun w' hw' => r_mv (v := .bool _) rfl) <| QR.splitD (fun h55 => ?_) (fun h55 => ?_)
                  · refine QR.g' rfl (fun w' hw' => r_mv (v := .slice _ _ _) rfl) <| QR.g' rfl (fun w' hw' => r_mv (v := .int .i64 _) rfl) <| QR.g' rfl (fun w' hw' => r_ixR tsl24 (((hm48).lo hw')) rfl rfl (by omega)) <| QR.g' rfl (fun w' hw' => r_fa fa45_1 rfl) <| QR.g' rfl (fun w' hw' => r_ld (v := .int .i64 x53.Seat) sca3 rfl ((((hm48).lo hw')).cell hx54 rfl)) <| QR.g' rfl (fun w' hw' => r_fa fa45_1 rfl) <| QR.g' rfl (fun w' hw' => r_ld (v := .int .i64 x10.Seat) sca3 rfl (((hm49).lo hw').cell rfl)) <| QR.g' rfl (fun w' hw' => r_eq rfl rfl) <| QR.g' rfl (fun w' hw' => r_mv (v := .bool _) rfl) <| QR.splitD (fun h56 => ?_) (fun h56 => ?_)
                    · refine QR.s' rfl <| QR.s' rfl <| QR.s' rfl <| QR.s' rfl <| QR.s' rfl <| QR.s' rfl <| QR.s' rfl <| QR.s' rfl <| QR.g' rfl (fun w' hw' => r_pick true rfl (v := .bool true) rfl) <| QR.q' (fun w' hw' => r_pick true rfl (v := .bool _) rfl) <| QR.nil ?_
                      intro w57 hk58
                      have hz59 := hk58.size
                      have hB60 := hB46.lo hk58
                      refine W.cond_t rfl ?_
                      refine W.seq ?_
                      refine W.regS (SR.q' (r_as (v := .bool false) rfl) <| SR.nil ?_)
                      refine W.ret ?_
                      refine ret1 rfl (v := .bool _) rfl ?_
                      exact ⟨eR (eDF (z_c_spec_l30Good_61 L nL hbdL hleL k hi7 h8 h9 x10 hx11 h26 hq32 h33 x34 hx36 h41 j hi50 h52 x53 hx54 h55 h56)), hB60⟩
                    · refine QR.g' rfl (fun w' hw' => r_mv (v := .slice _ _ _) rfl) <| QR.g' rfl (fun w' hw' => r_mv (v := .int .i64 _) rfl) <| QR.g' rfl (fun w' hw' => r_ixR tsl24 (((hm48).lo hw')) rfl rfl (by omega)) <| QR.g' rfl (fun w' hw' => r_fa fa45_0 rfl) <| QR.g' rfl (fun w' hw' => r_ld (v := .int .i64 x53.Reader) sca3 rfl ((((hm48).lo hw')).cell hx54 rfl)) <| QR.g' rfl (fun w' hw' => r_fa fa45_0 rfl) <| QR.g' rfl (fun w' hw' => r_ld (v := .int .i64 x10.Reader) sca3 rfl (((hm49).lo hw').cell rfl)) <| QR.g' rfl (fun w' hw' => r_eq rfl rfl) <| QR.g' rfl (fun w' hw' => r_pick false rfl (v := .bool _) rfl) <| QR.q' (fun w' hw' => r_pick true rfl (v := .bool _) rfl) <| QR.nil ?_
                      intro w62 hk63
                      have hz64 := hk63.size
                      have hB65 := hB46.lo hk63
                      refine W.cond_d rfl (fun h66 => ?_) (fun h66 => ?_)
                      · refine W.seq ?_
                        refine W.regS (SR.q' (r_as (v := .bool false) rfl) <| SR.nil ?_)
                        refine W.ret ?_
                        refine ret1 rfl (v := .bool _) rfl ?_
                        exact ⟨eR (eDF (z_c_spec_l30Good_67 L nL hbdL hleL k hi7 h8 h9 x10 hx11 h26 hq32 h33 x34 hx36 h41 j hi50 h52 x53 hx54 h55 h56 h66)), hB65⟩
                      · refine W.skip ?_
                        refine W.regS (SR.q' (r_mv (v := .int .i64 _) rfl) <| SR.q' (r_add rfl rfl (by omega)) <| SR.q' (r_as (v := .int .i64 _) rfl) <| SR.nil ?_)
                        refine ⟨j + 1, _, rfl, ⟨rfl, rfl, rfl, rfl, trivial⟩, ⟨hB65, (hm48).lo hk63, (hm49).lo hk63, ?_⟩, ?_⟩
                        · exact (z_c_spec_l30Good_68 L nL hbdL hleL k hi7 h8 h9 x10 hx11 h26 hq32 h33 x34 hx36 h41 j hi50 h52 x53 hx54 h55 h56 h66)
                        · exact (z_c_spec_l30Good_69 L nL hbdL hleL k hi7 h8 h9 x10 hx11 h26 hq32 h33 x34 hx36 h41 j hi50 h52 x53 hx54 h55 h56 h66)
                  · refine QR.s' rfl <| QR.s' rfl <| QR.s' rfl <| QR.s' rfl <| QR.s' rfl <| QR.s' rfl <| QR.s' rfl <| QR.s' rfl <| QR.s' rfl <| QR.u' rfl <| QR.u' rfl <| QR.u' rfl <| QR.u' rfl <| QR.u' rfl <| QR.u' rfl <| QR.u' rfl <| QR.u' rfl <| QR.s' rfl <| QR.q' (fun w' hw' => r_pick false rfl (v := .bool false) rfl) <| QR.nil ?_
                    intro w70 hk71
                    have hz72 := hk71.size
                    have hB73 := hB46.lo hk71
                    refine W.cond_f rfl ?_
                    refine W.skip ?_
                    refine W.regS (SR.q' (r_mv (v := .int .i64 _) rfl) <| SR.q' (r_add rfl rfl (by omega)) <| SR.q' (r_as (v := .int .i64 _) rfl) <| SR.nil ?_)
                    refine ⟨j + 1, _, rfl, ⟨rfl, rfl, rfl, rfl, trivial⟩, ⟨hB73, (hm48).lo hk71, (hm49).lo hk71, ?_⟩, ?_⟩
                    · exact (z_c_spec_l30Good_74 L nL hbdL hleL k hi7 h8 h9 x10 hx11 h26 hq32 h33 x34 hx36 h41 j hi50 h52 x53 hx54 h55)
                    · exact (z_c_spec_l30Good_75 L nL hbdL hleL k hi7 h8 h9 x10 hx11 h26 hq32 h33 x34 hx36 h41 j hi50 h52 x53 hx54 h55)
                · refine W.exit (xin_here ?_)
                  refine W.regS (SR.q' (r_mv (v := .int .i64 _) rfl) <| SR.q' (r_add rfl rfl (by omega)) <| SR.q' (r_as (v := .int .i64 _) rfl) <| SR.nil ?_)
                  refine ⟨k + 1, _, rfl, ⟨rfl, rfl, trivial⟩, ⟨hB46, hm48, ?_⟩, ?_⟩
                  · exact (z_c_spec_l30Good_76 L nL hbdL hleL k hi7 h8 h9 x10 hx11 h26 hq32 h33 x34 hx36 h41 j hi50 h52)
                  · exact (z_c_spec_l30Good_77 L nL hbdL hleL k hi7 h8 h9 x10 hx11 h26 hq32 h33 x34 hx36 h41 j hi50 h52)
          · refine QR.s' rfl <| QR.s' rfl <| QR.s' rfl <| QR.s' rfl <| QR.s' rfl <| QR.s' rfl <| QR.s' rfl <| QR.s' rfl <| QR.s' rfl <| QR.g' rfl (fun w' hw' => r_pick false rfl (v := .bool false) rfl) <| QR.q' (fun w' hw' => r_pick false rfl (v := .bool _) rfl) <| QR.nil ?_
            intro w78 hk79
            have hz80 := hk79.size
            have hB81 := hB25.lo hk79
            refine W.cond_f rfl ?_
            refine W.skip ?_
            refine W.seq ?_
            refine W.regS (SR.q' (r_as (v := .int .i64 0) rfl) <| SR.nil ?_)
            refine W.block ?_
            refine W.loop (σ := Nat) (fun g => [(0, .slice AL nL cL), (3, .int .i64 (k : Int)), (4, .pointer (some ((⟨g12, 0, none⟩ : Addr)))), (5, .int .i64 (g : Int))]) (fun g w' => (Lo w w') ∧ (SlR w' BL encVisit 4 AL nL cL L) ∧ (Blk w' g12 45 [.int .i64 x10.Reader, .int .i64 x10.Seat, .int .i64 x10.From, .int .i64 x10.Until]) ∧ (g ≤ k ∧ ClTo L x10 g)) (fun g => k - g) 0 ?_ ?_ ?_
            · exact ⟨rfl, rfl, rfl, rfl, trivial⟩
            · exact ⟨hB81, (((hm6).lo hk15).kn hk21 (by omega)).lo hk79, (hb23).lo hk79, (z_c_spec_l30Good_82 L nL hbdL hleL k hi7 h8 h9 x10 hx11 h26 hq32 h33)⟩
            · rintro j f83 w84 hP86
              obtain ⟨hB85, hm87, hm88, hi89⟩ : (Lo w w84) ∧ (SlR w84 BL encVisit 4 AL nL cL L) ∧ (Blk w84 g12 45 [.int .i64 x10.Reader, .int .i64 x10.Seat, .int .i64 x10.From, .int .i64 x10.Until]) ∧ (j ≤ k ∧ ClTo L x10 j) := hP86
              refine (?_ : W _ _ _ _ _ (act _ (sets f83 [(0, .slice AL nL cL), (3, .int .i64 (k : Int)), (4, .pointer (some ((⟨g12, 0, none⟩ : Addr)))), (5, .int .i64 (j : Int))])) _)
              have hzw84 := hB85.size
              have hl90 := hm88.lt
              refine W.seq ?_
              refine W.seq ?_
              refine W.regS (SR.q' (r_mv (v := .int .i64 _) rfl) <| SR.q' (r_mv (v := .int .i64 _) rfl) <| SR.q' (r_lt rfl rfl) <| SR.nil ?_)
              refine W.cond_d rfl (fun h91 => ?_) (fun h91 => ?_)
              · refine W.skip ?_
                refine W.seq ?_
                refine W.block ?_
                refine W.seq ?_
                refine W.regD mo (by kernel_rfl) (QR.q' (fun w' hw' => r_mv (v := .slice _ _ _) rfl) <| QR.q' (fun w' hw' => r_mv (v := .int .i64 _) rfl) <| ?_)
                obtain ⟨x92, hx93⟩ := (hm87).get (i := j) (by omega)
                refine QR.q' (fun w' hw' => r_ixR tsl24 (((hm87).lo hw')) rfl rfl (by omega)) <| QR.q' (fun w' hw' => r_lda (l := encVisit x92) agg45 rfl (fun _ _ hu => (((hm87).lo hw')).cell hx93 hu) ((((hm87).lo hw')).esz _)) <| QR.q' (fun w' hw' => r_fa fa45_2 rfl) <| QR.q' (fun w' hw' => r_ld (v := .int .i64 x10.From) sca3 rfl (((hm88).lo hw').cell rfl)) <| QR.q' (fun w' hw' => r_fa fa45_3 rfl) <| QR.q' (fun w' hw' => r_ld (v := .int .i64 x10.Until) sca3 rfl (((hm88).lo hw').cell rfl)) <| QR.call ent65 (fun w' hw' => (c_spec_l30Meet w' x92 x10.From x10.Until).mono fun _ _ h => ⟨h.1, hw'.trans h.2⟩) rfl <| QR.q' (fun w' hw' => r_mv (v := .bool _) rfl) <| QR.splitD (fun h94 => ?_) (fun h94 => ?_)
                · refine QR.g' rfl (fun w' hw' => r_mv (v := .slice _ _ _) rfl) <| QR.g' rfl (fun w' hw' => r_mv (v := .int .i64 _) rfl) <| QR.g' rfl (fun w' hw' => r_ixR tsl24 (((hm87).lo hw')) rfl rfl (by omega)) <| QR.g' rfl (fun w' hw' => r_fa fa45_1 rfl) <| QR.g' rfl (fun w' hw' => r_ld (v := .int .i64 x92.Seat) sca3 rfl ((((hm87).lo hw')).cell hx93 rfl)) <| QR.g' rfl (fun w' hw' => r_fa fa45_1 rfl) <| QR.g' rfl (fun w' hw' => r_ld (v := .int .i64 x10.Seat) sca3 rfl (((hm88).lo hw').cell rfl)) <| QR.g' rfl (fun w' hw' => r_eq rfl rfl) <| QR.g' rfl (fun w' hw' => r_mv (v := .bool _) rfl) <| QR.splitD (fun h95 => ?_) (fun h95 => ?_)
                  · refine QR.s' rfl <| QR.s' rfl <| QR.s' rfl <| QR.s' rfl <| QR.s' rfl <| QR.s' rfl <| QR.s' rfl <| QR.s' rfl <| QR.g' rfl (fun w' hw' => r_pick true rfl (v := .bool true) rfl) <| QR.q' (fun w' hw' => r_pick true rfl (v := .bool _) rfl) <| QR.nil ?_
                    intro w96 hk97
                    have hz98 := hk97.size
                    have hB99 := hB85.lo hk97
                    refine W.cond_t rfl ?_
                    refine W.seq ?_
                    refine W.regS (SR.q' (r_as (v := .bool false) rfl) <| SR.nil ?_)
                    refine W.ret ?_
                    refine ret1 rfl (v := .bool _) rfl ?_
                    exact ⟨eR (eDF (z_c_spec_l30Good_100 L nL hbdL hleL k hi7 h8 h9 x10 hx11 h26 hq32 h33 j hi89 h91 x92 hx93 h94 h95)), hB99⟩
                  · refine QR.g' rfl (fun w' hw' => r_mv (v := .slice _ _ _) rfl) <| QR.g' rfl (fun w' hw' => r_mv (v := .int .i64 _) rfl) <| QR.g' rfl (fun w' hw' => r_ixR tsl24 (((hm87).lo hw')) rfl rfl (by omega)) <| QR.g' rfl (fun w' hw' => r_fa fa45_0 rfl) <| QR.g' rfl (fun w' hw' => r_ld (v := .int .i64 x92.Reader) sca3 rfl ((((hm87).lo hw')).cell hx93 rfl)) <| QR.g' rfl (fun w' hw' => r_fa fa45_0 rfl) <| QR.g' rfl (fun w' hw' => r_ld (v := .int .i64 x10.Reader) sca3 rfl (((hm88).lo hw').cell rfl)) <| QR.g' rfl (fun w' hw' => r_eq rfl rfl) <| QR.g' rfl (fun w' hw' => r_pick false rfl (v := .bool _) rfl) <| QR.q' (fun w' hw' => r_pick true rfl (v := .bool _) rfl) <| QR.nil ?_
                    intro w101 hk102
                    have hz103 := hk102.size
                    have hB104 := hB85.lo hk102
                    refine W.cond_d rfl (fun h105 => ?_) (fun h105 => ?_)
                    · refine W.seq ?_
                      refine W.regS (SR.q' (r_as (v := .bool false) rfl) <| SR.nil ?_)
                      refine W.ret ?_
                      refine ret1 rfl (v := .bool _) rfl ?_
                      exact ⟨eR (eDF (z_c_spec_l30Good_106 L nL hbdL hleL k hi7 h8 h9 x10 hx11 h26 hq32 h33 j hi89 h91 x92 hx93 h94 h95 h105)), hB104⟩
                    · refine W.skip ?_
                      refine W.regS (SR.q' (r_mv (v := .int .i64 _) rfl) <| SR.q' (r_add rfl rfl (by omega)) <| SR.q' (r_as (v := .int .i64 _) rfl) <| SR.nil ?_)
                      refine ⟨j + 1, _, rfl, ⟨rfl, rfl, rfl, rfl, trivial⟩, ⟨hB104, (hm87).lo hk102, (hm88).lo hk102, ?_⟩, ?_⟩
                      · exact (z_c_spec_l30Good_107 L nL hbdL hleL k hi7 h8 h9 x10 hx11 h26 hq32 h33 j hi89 h91 x92 hx93 h94 h95 h105)
                      · exact (z_c_spec_l30Good_108 L nL hbdL hleL k hi7 h8 h9 x10 hx11 h26 hq32 h33 j hi89 h91 x92 hx93 h94 h95 h105)
                · refine QR.s' rfl <| QR.s' rfl <| QR.s' rfl <| QR.s' rfl <| QR.s' rfl <| QR.s' rfl <| QR.s' rfl <| QR.s' rfl <| QR.s' rfl <| QR.u' rfl <| QR.u' rfl <| QR.u' rfl <| QR.u' rfl <| QR.u' rfl <| QR.u' rfl <| QR.u' rfl <| QR.u' rfl <| QR.s' rfl <| QR.q' (fun w' hw' => r_pick false rfl (v := .bool false) rfl) <| QR.nil ?_
                  intro w109 hk110
                  have hz111 := hk110.size
                  have hB112 := hB85.lo hk110
                  refine W.cond_f rfl ?_
                  refine W.skip ?_
                  refine W.regS (SR.q' (r_mv (v := .int .i64 _) rfl) <| SR.q' (r_add rfl rfl (by omega)) <| SR.q' (r_as (v := .int .i64 _) rfl) <| SR.nil ?_)
                  refine ⟨j + 1, _, rfl, ⟨rfl, rfl, rfl, rfl, trivial⟩, ⟨hB112, (hm87).lo hk110, (hm88).lo hk110, ?_⟩, ?_⟩
                  · exact (z_c_spec_l30Good_113 L nL hbdL hleL k hi7 h8 h9 x10 hx11 h26 hq32 h33 j hi89 h91 x92 hx93 h94)
                  · exact (z_c_spec_l30Good_114 L nL hbdL hleL k hi7 h8 h9 x10 hx11 h26 hq32 h33 j hi89 h91 x92 hx93 h94)
              · refine W.exit (xin_here ?_)
                refine W.regS (SR.q' (r_mv (v := .int .i64 _) rfl) <| SR.q' (r_add rfl rfl (by omega)) <| SR.q' (r_as (v := .int .i64 _) rfl) <| SR.nil ?_)
                refine ⟨k + 1, _, rfl, ⟨rfl, rfl, trivial⟩, ⟨hB85, hm87, ?_⟩, ?_⟩
                · exact (z_c_spec_l30Good_115 L nL hbdL hleL k hi7 h8 h9 x10 hx11 h26 hq32 h33 j hi89 h91)
                · exact (z_c_spec_l30Good_116 L nL hbdL hleL k hi7 h8 h9 x10 hx11 h26 hq32 h33 j hi89 h91)
      · refine W.exit (xin_here ?_)
        refine W.seq ?_
        refine W.regS (SR.q' (r_mv (v := .slice _ _ _) rfl) <| SR.q' (r_len und24 rfl) <| SR.q' (r_le rfl rfl) <| SR.q' (r_as (v := .bool _) rfl) <| SR.nil ?_)
        refine W.ret ?_
        refine ret1 rfl (v := .bool _) rfl ?_
        exact ⟨eR (eDD (z_c_spec_l30Good_117 L nL hbdL hleL k hi7 h8 h9)), hB4⟩
    · refine SR.s' rfl <| SR.s' rfl <| SR.q' (r_pick false rfl (v := .bool false) rfl) <| SR.nil ?_
      refine W.cond_f rfl ?_
      refine W.exit (xin_here ?_)
      refine W.seq ?_
      refine W.regS (SR.q' (r_mv (v := .slice _ _ _) rfl) <| SR.q' (r_len und24 rfl) <| SR.q' (r_le rfl rfl) <| SR.q' (r_as (v := .bool _) rfl) <| SR.nil ?_)
      refine W.ret ?_
      refine ret1 rfl (v := .bool _) rfl ?_
      exact ⟨eR (eDD (z_c_spec_l30Good_118 L nL hbdL hleL k hi7 h8)), hB4⟩
end Go.Proofs.YthgbcadgnihdiaaGreatDoor
