/- Walks, printed by a program of this claim's author. -/
import Derived.Test.YthgbcadgnihdiaaChecked
import Derived.Test.YthgbcadgnihdiaaRa
import Derived.Test.YthgbcadgnihdiaaRb
import Derived.Test.YthgbcadgnihdiaaFu
import Derived.Test.YthgbcadgnihdiaaFs
import Derived.Test.YthgbcadgnihdiaaFq
import Derived.Test.YthgbcadgnihdiaaFo
import Derived.Test.YthgbcadgnihdiaaFp
namespace Go.Proofs.Ythgbcadgnihdiaa
open Go Go.RowKit Fw
set_option maxRecDepth 10000
set_option linter.unusedVariables false
theorem mo : Try.prog.follows .mixedOrders = true := by kernel_rfl
theorem agg59 : TAgg Try.prog 59 4 := ⟨fun _ => by kernel_rfl, fun _ => by kernel_rfl⟩
theorem ent43 : Ent Try.prog 43 := ent_of Try.func43 (by decide +kernel) rfl
theorem ent50 : Ent Try.prog 50 := ent_of Try.func50 (by decide +kernel) rfl
theorem ent52 : Ent Try.prog 52 := ent_of Try.func52 (by decide +kernel) rfl
theorem ent60 : Ent Try.prog 60 := ent_of Try.func60 (by decide +kernel) rfl
theorem ent61 : Ent Try.prog 61 := ent_of Try.func61 (by decide +kernel) rfl
theorem ent63 : Ent Try.prog 63 := ent_of Try.func63 (by decide +kernel) rfl
theorem ent64 : Ent Try.prog 64 := ent_of Try.func64 (by decide +kernel) rfl
theorem ent65 : Ent Try.prog 65 := ent_of Try.func65 (by decide +kernel) rfl
theorem ent66 : Ent Try.prog 66 := ent_of Try.func66 (by decide +kernel) rfl
theorem ent67 : Ent Try.prog 67 := ent_of Try.func67 (by decide +kernel) rfl
theorem ent69 : Ent Try.prog 69 := ent_of Try.func69 (by decide +kernel) rfl
theorem ent71 : Ent Try.prog 71 := ent_of Try.func71 (by decide +kernel) rfl
theorem ent72 : Ent Try.prog 72 := ent_of Try.func72 (by decide +kernel) rfl
theorem ent73 : Ent Try.prog 73 := ent_of Try.func73 (by decide +kernel) rfl
theorem ent76 : Ent Try.prog 76 := ent_of Try.func76 (by decide +kernel) rfl
theorem ent83 : Ent Try.prog 83 := ent_of Try.func83 (by decide +kernel) rfl
theorem ent86 : Ent Try.prog 86 := ent_of Try.func86 (by decide +kernel) rfl
theorem fa59_0 : FA Try.prog 59 0 0 := fun _ _ => by kernel_rfl
theorem fa59_1 : FA Try.prog 59 1 1 := fun _ _ => by kernel_rfl
theorem fa59_2 : FA Try.prog 59 2 2 := fun _ _ => by kernel_rfl
theorem fa59_3 : FA Try.prog 59 3 3 := fun _ _ => by kernel_rfl
theorem sca3 : TSca Try.prog 3 := ⟨fun _ => by kernel_rfl, fun _ => by kernel_rfl⟩
theorem tel24 : TEl Try.prog 24 59 (.agg (List.toArray [.int .i64 0, .int .i64 0, .int .i64 0, .int .i64 0])) 4 32 := ⟨by kernel_rfl, by kernel_rfl, rfl, by decide⟩
theorem tsl24 : TSl Try.prog 24 59 4 := ⟨by kernel_rfl, fun _ => by kernel_rfl⟩
theorem tz59 : TZ Try.prog 59 (.agg (List.toArray [.int .i64 0, .int .i64 0, .int .i64 0, .int .i64 0])) := fun _ => by kernel_rfl
theorem und24 : Try.prog.underlying 24 = some (.slice 59) := by kernel_rfl

theorem z_c_spec_l1In_2 (n : Int) (a : Int) (b : Int) (h1 : a ≤ n) : (n ≤ b) ↔ (a ≤ n ∧ n ≤ b) := by
  omega
theorem z_c_spec_l1In_3 (n : Int) (a : Int) (b : Int) (h1 : ¬ (a ≤ n)) : ¬ (a ≤ n ∧ n ≤ b) := by
  omega
theorem c_spec_l1In (w : World) (n : Int) (a : Int) (b : Int) : Calls Try.prog 69 #[.int .i64 n, .int .i64 a, .int .i64 b] w fun e w' => e = .returned (.bool (decide (a ≤ n ∧ n ≤ b))) ∧ Lo w w' := by
  refine calls_W 15 Try.func69 rfl rfl rfl ?_
  refine W.seq ?_
  refine W.regS (SR.q' (r_as (v := .bool false) rfl) <| SR.nil ?_)
  refine W.seq ?_
  refine W.regS (SR.q' (r_mv (v := .int .i64 _) rfl) <| SR.q' (r_mv (v := .int .i64 _) rfl) <| SR.q' (r_ge rfl rfl) <| SR.q' (r_mv (v := .bool _) rfl) <| SR.splitD (fun h1 => ?_) (fun h1 => ?_))
  · refine SR.g' rfl (r_mv (v := .int .i64 _) rfl) <| SR.g' rfl (r_mv (v := .int .i64 _) rfl) <| SR.g' rfl (r_le rfl rfl) <| SR.q' (r_pick true rfl (v := .bool _) rfl) <| SR.q' (r_as (v := .bool _) rfl) <| SR.nil ?_
    refine W.ret ?_
    refine ret1 rfl (v := .bool _) rfl ?_
    exact ⟨eR (eDD (z_c_spec_l1In_2 n a b h1)), (Lo.refl w)⟩
  · refine SR.s' rfl <| SR.s' rfl <| SR.s' rfl <| SR.q' (r_pick false rfl (v := .bool false) rfl) <| SR.q' (r_as (v := .bool _) rfl) <| SR.nil ?_
    refine W.ret ?_
    refine ret1 rfl (v := .bool _) rfl ?_
    exact ⟨eR (eDF (z_c_spec_l1In_3 n a b h1)), (Lo.refl w)⟩

theorem z_c_impl_within_2 (n : Int) (a : Int) (b : Int) (h1 : a ≤ n) : (n ≤ b) ↔ (a ≤ n ∧ n ≤ b) := by
  omega
theorem z_c_impl_within_3 (n : Int) (a : Int) (b : Int) (h1 : ¬ (a ≤ n)) : ¬ (a ≤ n ∧ n ≤ b) := by
  omega
theorem c_impl_within (w : World) (n : Int) (a : Int) (b : Int) : Calls Try.prog 83 #[.int .i64 n, .int .i64 a, .int .i64 b] w fun e w' => e = .returned (.bool (decide (a ≤ n ∧ n ≤ b))) ∧ Lo w w' := by
  refine calls_W 15 Try.func83 rfl rfl rfl ?_
  refine W.seq ?_
  refine W.regS (SR.q' (r_as (v := .bool false) rfl) <| SR.nil ?_)
  refine W.seq ?_
  refine W.regS (SR.q' (r_mv (v := .int .i64 _) rfl) <| SR.q' (r_mv (v := .int .i64 _) rfl) <| SR.q' (r_ge rfl rfl) <| SR.q' (r_mv (v := .bool _) rfl) <| SR.splitD (fun h1 => ?_) (fun h1 => ?_))
  · refine SR.g' rfl (r_mv (v := .int .i64 _) rfl) <| SR.g' rfl (r_mv (v := .int .i64 _) rfl) <| SR.g' rfl (r_le rfl rfl) <| SR.q' (r_pick true rfl (v := .bool _) rfl) <| SR.q' (r_as (v := .bool _) rfl) <| SR.nil ?_
    refine W.ret ?_
    refine ret1 rfl (v := .bool _) rfl ?_
    exact ⟨eR (eDD (z_c_impl_within_2 n a b h1)), (Lo.refl w)⟩
  · refine SR.s' rfl <| SR.s' rfl <| SR.s' rfl <| SR.q' (r_pick false rfl (v := .bool false) rfl) <| SR.q' (r_as (v := .bool _) rfl) <| SR.nil ?_
    refine W.ret ?_
    refine ret1 rfl (v := .bool _) rfl ?_
    exact ⟨eR (eDF (z_c_impl_within_3 n a b h1)), (Lo.refl w)⟩

theorem c_spec_l30Minute (w : World) (n : Int) : Calls Try.prog 43 #[.int .i64 n] w fun e w' => e = .returned (.bool (decide (480 ≤ n ∧ n ≤ 1200))) ∧ Lo w w' := by
  refine calls_W 5 Try.func43 rfl rfl rfl ?_
  refine W.seq ?_
  refine W.regS (SR.q' (r_as (v := .bool false) rfl) <| SR.nil ?_)
  refine W.seq ?_
  refine W.regS (SR.q' (r_mv (v := .int .i64 _) rfl) <| SR.call ent69 (c_spec_l1In w n 480 1200) rfl ?_)
  rintro e w1 ⟨rfl, hk2⟩
  refine ⟨_, rfl, ?_⟩
  have hz3 := hk2.size
  have hB4 := (Lo.refl w).lo hk2
  refine SR.q' (r_as (v := .bool _) rfl) <| SR.nil ?_
  refine W.ret ?_
  refine ret1 rfl (v := .bool _) rfl ?_
  exact ⟨eR rfl, hB4⟩

theorem c_spec_l30Reader (w : World) (n : Int) : Calls Try.prog 63 #[.int .i64 n] w fun e w' => e = .returned (.bool (decide (1 ≤ n ∧ n ≤ 999))) ∧ Lo w w' := by
  refine calls_W 5 Try.func63 rfl rfl rfl ?_
  refine W.seq ?_
  refine W.regS (SR.q' (r_as (v := .bool false) rfl) <| SR.nil ?_)
  refine W.seq ?_
  refine W.regS (SR.q' (r_mv (v := .int .i64 _) rfl) <| SR.call ent69 (c_spec_l1In w n 1 999) rfl ?_)
  rintro e w1 ⟨rfl, hk2⟩
  refine ⟨_, rfl, ?_⟩
  have hz3 := hk2.size
  have hB4 := (Lo.refl w).lo hk2
  refine SR.q' (r_as (v := .bool _) rfl) <| SR.nil ?_
  refine W.ret ?_
  refine ret1 rfl (v := .bool _) rfl ?_
  exact ⟨eR rfl, hB4⟩

theorem c_spec_l30Seat (w : World) (n : Int) : Calls Try.prog 86 #[.int .i64 n] w fun e w' => e = .returned (.bool (decide (1 ≤ n ∧ n ≤ 6))) ∧ Lo w w' := by
  refine calls_W 5 Try.func86 rfl rfl rfl ?_
  refine W.seq ?_
  refine W.regS (SR.q' (r_as (v := .bool false) rfl) <| SR.nil ?_)
  refine W.seq ?_
  refine W.regS (SR.q' (r_mv (v := .int .i64 _) rfl) <| SR.call ent69 (c_spec_l1In w n 1 6) rfl ?_)
  rintro e w1 ⟨rfl, hk2⟩
  refine ⟨_, rfl, ?_⟩
  have hz3 := hk2.size
  have hB4 := (Lo.refl w).lo hk2
  refine SR.q' (r_as (v := .bool _) rfl) <| SR.nil ?_
  refine W.ret ?_
  refine ret1 rfl (v := .bool _) rfl ?_
  exact ⟨eR rfl, hB4⟩

theorem c_impl_isId (w : World) (n : Int) : Calls Try.prog 60 #[.int .i64 n] w fun e w' => e = .returned (.bool (decide (1 ≤ n ∧ n ≤ 999))) ∧ Lo w w' := by
  refine calls_W 5 Try.func60 rfl rfl rfl ?_
  refine W.seq ?_
  refine W.regS (SR.q' (r_as (v := .bool false) rfl) <| SR.nil ?_)
  refine W.seq ?_
  refine W.regS (SR.q' (r_mv (v := .int .i64 _) rfl) <| SR.call ent83 (c_impl_within w n 1 999) rfl ?_)
  rintro e w1 ⟨rfl, hk2⟩
  refine ⟨_, rfl, ?_⟩
  have hz3 := hk2.size
  have hB4 := (Lo.refl w).lo hk2
  refine SR.q' (r_as (v := .bool _) rfl) <| SR.nil ?_
  refine W.ret ?_
  refine ret1 rfl (v := .bool _) rfl ?_
  exact ⟨eR rfl, hB4⟩

theorem c_impl_isSeat (w : World) (n : Int) : Calls Try.prog 76 #[.int .i64 n] w fun e w' => e = .returned (.bool (decide (1 ≤ n ∧ n ≤ 6))) ∧ Lo w w' := by
  refine calls_W 5 Try.func76 rfl rfl rfl ?_
  refine W.seq ?_
  refine W.regS (SR.q' (r_as (v := .bool false) rfl) <| SR.nil ?_)
  refine W.seq ?_
  refine W.regS (SR.q' (r_mv (v := .int .i64 _) rfl) <| SR.call ent83 (c_impl_within w n 1 6) rfl ?_)
  rintro e w1 ⟨rfl, hk2⟩
  refine ⟨_, rfl, ?_⟩
  have hz3 := hk2.size
  have hB4 := (Lo.refl w).lo hk2
  refine SR.q' (r_as (v := .bool _) rfl) <| SR.nil ?_
  refine W.ret ?_
  refine ret1 rfl (v := .bool _) rfl ?_
  exact ⟨eR rfl, hB4⟩

theorem c_impl_isMinute (w : World) (n : Int) : Calls Try.prog 61 #[.int .i64 n] w fun e w' => e = .returned (.bool (decide (480 ≤ n ∧ n ≤ 1200))) ∧ Lo w w' := by
  refine calls_W 5 Try.func61 rfl rfl rfl ?_
  refine W.seq ?_
  refine W.regS (SR.q' (r_as (v := .bool false) rfl) <| SR.nil ?_)
  refine W.seq ?_
  refine W.regS (SR.q' (r_mv (v := .int .i64 _) rfl) <| SR.call ent83 (c_impl_within w n 480 1200) rfl ?_)
  rintro e w1 ⟨rfl, hk2⟩
  refine ⟨_, rfl, ?_⟩
  have hz3 := hk2.size
  have hB4 := (Lo.refl w).lo hk2
  refine SR.q' (r_as (v := .bool _) rfl) <| SR.nil ?_
  refine W.ret ?_
  refine ret1 rfl (v := .bool _) rfl ?_
  exact ⟨eR rfl, hB4⟩

theorem z_c_spec_l30Time_11 (a : Int) (b : Int) (h5 : 480 ≤ a ∧ a ≤ 1200) (h10 : 480 ≤ b ∧ b ≤ 1200) : (a < b) ↔ ((480 ≤ a ∧ a ≤ 1200) ∧ (480 ≤ b ∧ b ≤ 1200) ∧ a < b) := by
  omega
theorem z_c_spec_l30Time_12 (a : Int) (b : Int) (h5 : 480 ≤ a ∧ a ≤ 1200) (h10 : ¬ (480 ≤ b ∧ b ≤ 1200)) : ¬ ((480 ≤ a ∧ a ≤ 1200) ∧ (480 ≤ b ∧ b ≤ 1200) ∧ a < b) := by
  omega
theorem z_c_spec_l30Time_13 (a : Int) (b : Int) (h5 : ¬ (480 ≤ a ∧ a ≤ 1200)) : ¬ ((480 ≤ a ∧ a ≤ 1200) ∧ (480 ≤ b ∧ b ≤ 1200) ∧ a < b) := by
  omega
theorem c_spec_l30Time (w : World) (a : Int) (b : Int) : Calls Try.prog 50 #[.int .i64 a, .int .i64 b] w fun e w' => e = .returned (.bool (decide ((480 ≤ a ∧ a ≤ 1200) ∧ (480 ≤ b ∧ b ≤ 1200) ∧ a < b))) ∧ Lo w w' := by
  refine calls_W 16 Try.func50 rfl rfl rfl ?_
  refine W.seq ?_
  refine W.regS (SR.q' (r_as (v := .bool false) rfl) <| SR.nil ?_)
  refine W.seq ?_
  refine W.regS (SR.q' (r_mv (v := .int .i64 _) rfl) <| SR.call ent43 (c_spec_l30Minute w a) rfl ?_)
  rintro e w1 ⟨rfl, hk2⟩
  refine ⟨_, rfl, ?_⟩
  have hz3 := hk2.size
  have hB4 := (Lo.refl w).lo hk2
  refine SR.q' (r_mv (v := .bool _) rfl) <| SR.splitD (fun h5 => ?_) (fun h5 => ?_)
  · refine SR.g' rfl (r_mv (v := .int .i64 _) rfl) <| SR.gcall rfl ent43 (c_spec_l30Minute w1 b) rfl ?_
    rintro e w6 ⟨rfl, hk7⟩
    refine ⟨_, rfl, ?_⟩
    have hz8 := hk7.size
    have hB9 := hB4.lo hk7
    refine SR.q' (r_pick true rfl (v := .bool _) rfl) <| SR.q' (r_mv (v := .bool _) rfl) <| SR.splitD (fun h10 => ?_) (fun h10 => ?_)
    · refine SR.g' rfl (r_mv (v := .int .i64 _) rfl) <| SR.g' rfl (r_mv (v := .int .i64 _) rfl) <| SR.g' rfl (r_lt rfl rfl) <| SR.q' (r_pick true rfl (v := .bool _) rfl) <| SR.q' (r_as (v := .bool _) rfl) <| SR.nil ?_
      refine W.ret ?_
      refine ret1 rfl (v := .bool _) rfl ?_
      exact ⟨eR (eDD (z_c_spec_l30Time_11 a b h5 h10)), hB9⟩
    · refine SR.s' rfl <| SR.s' rfl <| SR.s' rfl <| SR.q' (r_pick false rfl (v := .bool false) rfl) <| SR.q' (r_as (v := .bool _) rfl) <| SR.nil ?_
      refine W.ret ?_
      refine ret1 rfl (v := .bool _) rfl ?_
      exact ⟨eR (eDF (z_c_spec_l30Time_12 a b h5 h10)), hB9⟩
  · refine SR.s' rfl <| SR.s' rfl <| SR.q' (r_pick false rfl (v := .bool false) rfl) <| SR.q' (r_mv (v := .bool _) rfl) <| SR.s' rfl <| SR.s' rfl <| SR.s' rfl <| SR.q' (r_pick false rfl (v := .bool false) rfl) <| SR.q' (r_as (v := .bool _) rfl) <| SR.nil ?_
    refine W.ret ?_
    refine ret1 rfl (v := .bool _) rfl ?_
    exact ⟨eR (eDF (z_c_spec_l30Time_13 a b h5)), hB4⟩

theorem z_c_impl_isTime_11 (a : Int) (b : Int) (h5 : 480 ≤ a ∧ a ≤ 1200) (h10 : 480 ≤ b ∧ b ≤ 1200) : (a < b) ↔ ((480 ≤ a ∧ a ≤ 1200) ∧ (480 ≤ b ∧ b ≤ 1200) ∧ a < b) := by
  omega
theorem z_c_impl_isTime_12 (a : Int) (b : Int) (h5 : 480 ≤ a ∧ a ≤ 1200) (h10 : ¬ (480 ≤ b ∧ b ≤ 1200)) : ¬ ((480 ≤ a ∧ a ≤ 1200) ∧ (480 ≤ b ∧ b ≤ 1200) ∧ a < b) := by
  omega
theorem z_c_impl_isTime_13 (a : Int) (b : Int) (h5 : ¬ (480 ≤ a ∧ a ≤ 1200)) : ¬ ((480 ≤ a ∧ a ≤ 1200) ∧ (480 ≤ b ∧ b ≤ 1200) ∧ a < b) := by
  omega
theorem c_impl_isTime (w : World) (a : Int) (b : Int) : Calls Try.prog 52 #[.int .i64 a, .int .i64 b] w fun e w' => e = .returned (.bool (decide ((480 ≤ a ∧ a ≤ 1200) ∧ (480 ≤ b ∧ b ≤ 1200) ∧ a < b))) ∧ Lo w w' := by
  refine calls_W 16 Try.func52 rfl rfl rfl ?_
  refine W.seq ?_
  refine W.regS (SR.q' (r_as (v := .bool false) rfl) <| SR.nil ?_)
  refine W.seq ?_
  refine W.regS (SR.q' (r_mv (v := .int .i64 _) rfl) <| SR.call ent61 (c_impl_isMinute w a) rfl ?_)
  rintro e w1 ⟨rfl, hk2⟩
  refine ⟨_, rfl, ?_⟩
  have hz3 := hk2.size
  have hB4 := (Lo.refl w).lo hk2
  refine SR.q' (r_mv (v := .bool _) rfl) <| SR.splitD (fun h5 => ?_) (fun h5 => ?_)
  · refine SR.g' rfl (r_mv (v := .int .i64 _) rfl) <| SR.gcall rfl ent61 (c_impl_isMinute w1 b) rfl ?_
    rintro e w6 ⟨rfl, hk7⟩
    refine ⟨_, rfl, ?_⟩
    have hz8 := hk7.size
    have hB9 := hB4.lo hk7
    refine SR.q' (r_pick true rfl (v := .bool _) rfl) <| SR.q' (r_mv (v := .bool _) rfl) <| SR.splitD (fun h10 => ?_) (fun h10 => ?_)
    · refine SR.g' rfl (r_mv (v := .int .i64 _) rfl) <| SR.g' rfl (r_mv (v := .int .i64 _) rfl) <| SR.g' rfl (r_lt rfl rfl) <| SR.q' (r_pick true rfl (v := .bool _) rfl) <| SR.q' (r_as (v := .bool _) rfl) <| SR.nil ?_
      refine W.ret ?_
      refine ret1 rfl (v := .bool _) rfl ?_
      exact ⟨eR (eDD (z_c_impl_isTime_11 a b h5 h10)), hB9⟩
    · refine SR.s' rfl <| SR.s' rfl <| SR.s' rfl <| SR.q' (r_pick false rfl (v := .bool false) rfl) <| SR.q' (r_as (v := .bool _) rfl) <| SR.nil ?_
      refine W.ret ?_
      refine ret1 rfl (v := .bool _) rfl ?_
      exact ⟨eR (eDF (z_c_impl_isTime_12 a b h5 h10)), hB9⟩
  · refine SR.s' rfl <| SR.s' rfl <| SR.q' (r_pick false rfl (v := .bool false) rfl) <| SR.q' (r_mv (v := .bool _) rfl) <| SR.s' rfl <| SR.s' rfl <| SR.s' rfl <| SR.q' (r_pick false rfl (v := .bool false) rfl) <| SR.q' (r_as (v := .bool _) rfl) <| SR.nil ?_
    refine W.ret ?_
    refine ret1 rfl (v := .bool _) rfl ?_
    exact ⟨eR (eDF (z_c_impl_isTime_13 a b h5)), hB4⟩

theorem z_c_spec_l30One_23 (v : Visit) (h13 : 1 ≤ v.Reader ∧ v.Reader ≤ 999) (h18 : 1 ≤ v.Seat ∧ v.Seat ≤ 6) : ((480 ≤ v.From ∧ v.From ≤ 1200) ∧ (480 ≤ v.Until ∧ v.Until ≤ 1200) ∧ v.From < v.Until) ↔ (VOK v) := by
  unfold VOK; omega
theorem z_c_spec_l30One_24 (v : Visit) (h13 : 1 ≤ v.Reader ∧ v.Reader ≤ 999) (h18 : ¬ (1 ≤ v.Seat ∧ v.Seat ≤ 6)) : ¬ (VOK v) := by
  unfold VOK; omega
theorem z_c_spec_l30One_25 (v : Visit) (h13 : ¬ (1 ≤ v.Reader ∧ v.Reader ≤ 999)) : ¬ (VOK v) := by
  unfold VOK; omega
theorem c_spec_l30One (w : World) (v : Visit) : Calls Try.prog 71 #[.agg (List.toArray (encVisit v))] w fun e w' => e = .returned (.bool (decide (VOK v))) ∧ Lo w w' := by
  refine calls_W 18 Try.func71 rfl rfl rfl ?_
  refine W.seq ?_
  refine W.regS (SR.box (v := .agg (List.toArray _)) (l := [.int .i64 v.Reader, .int .i64 v.Seat, .int .i64 v.From, .int .i64 v.Until]) rfl rfl ?_)
  intro g1 w2 hg3 hk4 hs5 hb6
  have hz7 := hk4.size
  have hB8 := (Lo.refl w).lo hk4
  refine SR.q' (r_as (v := .bool false) rfl) <| SR.nil ?_
  refine W.seq ?_
  refine W.regS (SR.q' (r_fa fa59_0 rfl) <| SR.q' (r_ld (v := .int .i64 v.Reader) sca3 rfl ((hb6).cell rfl)) <| SR.call ent63 (c_spec_l30Reader w2 v.Reader) rfl ?_)
  rintro e w9 ⟨rfl, hk10⟩
  refine ⟨_, rfl, ?_⟩
  have hz11 := hk10.size
  have hB12 := hB8.lo hk10
  refine SR.q' (r_mv (v := .bool _) rfl) <| SR.splitD (fun h13 => ?_) (fun h13 => ?_)
  · refine SR.g' rfl (r_fa fa59_1 rfl) <| SR.g' rfl (r_ld (v := .int .i64 v.Seat) sca3 rfl (((hb6).lo hk10).cell rfl)) <| SR.gcall rfl ent86 (c_spec_l30Seat w9 v.Seat) rfl ?_
    rintro e w14 ⟨rfl, hk15⟩
    refine ⟨_, rfl, ?_⟩
    have hz16 := hk15.size
    have hB17 := hB12.lo hk15
    refine SR.q' (r_pick true rfl (v := .bool _) rfl) <| SR.q' (r_mv (v := .bool _) rfl) <| SR.splitD (fun h18 => ?_) (fun h18 => ?_)
    · refine SR.g' rfl (r_fa fa59_2 rfl) <| SR.g' rfl (r_ld (v := .int .i64 v.From) sca3 rfl ((((hb6).lo hk10).lo hk15).cell rfl)) <| SR.g' rfl (r_fa fa59_3 rfl) <| SR.g' rfl (r_ld (v := .int .i64 v.Until) sca3 rfl ((((hb6).lo hk10).lo hk15).cell rfl)) <| SR.gcall rfl ent50 (c_spec_l30Time w14 v.From v.Until) rfl ?_
      rintro e w19 ⟨rfl, hk20⟩
      refine ⟨_, rfl, ?_⟩
      have hz21 := hk20.size
      have hB22 := hB17.lo hk20
      refine SR.q' (r_pick true rfl (v := .bool _) rfl) <| SR.q' (r_as (v := .bool _) rfl) <| SR.nil ?_
      refine W.ret ?_
      refine ret1 rfl (v := .bool _) rfl ?_
      exact ⟨eR (eDD (z_c_spec_l30One_23 v h13 h18)), hB22⟩
    · refine SR.s' rfl <| SR.s' rfl <| SR.s' rfl <| SR.s' rfl <| SR.s' rfl <| SR.q' (r_pick false rfl (v := .bool false) rfl) <| SR.q' (r_as (v := .bool _) rfl) <| SR.nil ?_
      refine W.ret ?_
      refine ret1 rfl (v := .bool _) rfl ?_
      exact ⟨eR (eDF (z_c_spec_l30One_24 v h13 h18)), hB17⟩
  · refine SR.s' rfl <| SR.s' rfl <| SR.s' rfl <| SR.q' (r_pick false rfl (v := .bool false) rfl) <| SR.q' (r_mv (v := .bool _) rfl) <| SR.s' rfl <| SR.s' rfl <| SR.s' rfl <| SR.s' rfl <| SR.s' rfl <| SR.q' (r_pick false rfl (v := .bool false) rfl) <| SR.q' (r_as (v := .bool _) rfl) <| SR.nil ?_
    refine W.ret ?_
    refine ret1 rfl (v := .bool _) rfl ?_
    exact ⟨eR (eDF (z_c_spec_l30One_25 v h13)), hB12⟩

theorem z_c_impl_isVisit_23 (v : Visit) (h13 : 1 ≤ v.Reader ∧ v.Reader ≤ 999) (h18 : 1 ≤ v.Seat ∧ v.Seat ≤ 6) : ((480 ≤ v.From ∧ v.From ≤ 1200) ∧ (480 ≤ v.Until ∧ v.Until ≤ 1200) ∧ v.From < v.Until) ↔ (VOK v) := by
  unfold VOK; omega
theorem z_c_impl_isVisit_24 (v : Visit) (h13 : 1 ≤ v.Reader ∧ v.Reader ≤ 999) (h18 : ¬ (1 ≤ v.Seat ∧ v.Seat ≤ 6)) : ¬ (VOK v) := by
  unfold VOK; omega
theorem z_c_impl_isVisit_25 (v : Visit) (h13 : ¬ (1 ≤ v.Reader ∧ v.Reader ≤ 999)) : ¬ (VOK v) := by
  unfold VOK; omega
theorem c_impl_isVisit (w : World) (v : Visit) : Calls Try.prog 64 #[.agg (List.toArray (encVisit v))] w fun e w' => e = .returned (.bool (decide (VOK v))) ∧ Lo w w' := by
  refine calls_W 18 Try.func64 rfl rfl rfl ?_
  refine W.seq ?_
  refine W.regS (SR.box (v := .agg (List.toArray _)) (l := [.int .i64 v.Reader, .int .i64 v.Seat, .int .i64 v.From, .int .i64 v.Until]) rfl rfl ?_)
  intro g1 w2 hg3 hk4 hs5 hb6
  have hz7 := hk4.size
  have hB8 := (Lo.refl w).lo hk4
  refine SR.q' (r_as (v := .bool false) rfl) <| SR.nil ?_
  refine W.seq ?_
  refine W.regS (SR.q' (r_fa fa59_0 rfl) <| SR.q' (r_ld (v := .int .i64 v.Reader) sca3 rfl ((hb6).cell rfl)) <| SR.call ent60 (c_impl_isId w2 v.Reader) rfl ?_)
  rintro e w9 ⟨rfl, hk10⟩
  refine ⟨_, rfl, ?_⟩
  have hz11 := hk10.size
  have hB12 := hB8.lo hk10
  refine SR.q' (r_mv (v := .bool _) rfl) <| SR.splitD (fun h13 => ?_) (fun h13 => ?_)
  · refine SR.g' rfl (r_fa fa59_1 rfl) <| SR.g' rfl (r_ld (v := .int .i64 v.Seat) sca3 rfl (((hb6).lo hk10).cell rfl)) <| SR.gcall rfl ent76 (c_impl_isSeat w9 v.Seat) rfl ?_
    rintro e w14 ⟨rfl, hk15⟩
    refine ⟨_, rfl, ?_⟩
    have hz16 := hk15.size
    have hB17 := hB12.lo hk15
    refine SR.q' (r_pick true rfl (v := .bool _) rfl) <| SR.q' (r_mv (v := .bool _) rfl) <| SR.splitD (fun h18 => ?_) (fun h18 => ?_)
    · refine SR.g' rfl (r_fa fa59_2 rfl) <| SR.g' rfl (r_ld (v := .int .i64 v.From) sca3 rfl ((((hb6).lo hk10).lo hk15).cell rfl)) <| SR.g' rfl (r_fa fa59_3 rfl) <| SR.g' rfl (r_ld (v := .int .i64 v.Until) sca3 rfl ((((hb6).lo hk10).lo hk15).cell rfl)) <| SR.gcall rfl ent52 (c_impl_isTime w14 v.From v.Until) rfl ?_
      rintro e w19 ⟨rfl, hk20⟩
      refine ⟨_, rfl, ?_⟩
      have hz21 := hk20.size
      have hB22 := hB17.lo hk20
      refine SR.q' (r_pick true rfl (v := .bool _) rfl) <| SR.q' (r_as (v := .bool _) rfl) <| SR.nil ?_
      refine W.ret ?_
      refine ret1 rfl (v := .bool _) rfl ?_
      exact ⟨eR (eDD (z_c_impl_isVisit_23 v h13 h18)), hB22⟩
    · refine SR.s' rfl <| SR.s' rfl <| SR.s' rfl <| SR.s' rfl <| SR.s' rfl <| SR.q' (r_pick false rfl (v := .bool false) rfl) <| SR.q' (r_as (v := .bool _) rfl) <| SR.nil ?_
      refine W.ret ?_
      refine ret1 rfl (v := .bool _) rfl ?_
      exact ⟨eR (eDF (z_c_impl_isVisit_24 v h13 h18)), hB17⟩
  · refine SR.s' rfl <| SR.s' rfl <| SR.s' rfl <| SR.q' (r_pick false rfl (v := .bool false) rfl) <| SR.q' (r_mv (v := .bool _) rfl) <| SR.s' rfl <| SR.s' rfl <| SR.s' rfl <| SR.s' rfl <| SR.s' rfl <| SR.q' (r_pick false rfl (v := .bool false) rfl) <| SR.q' (r_as (v := .bool _) rfl) <| SR.nil ?_
    refine W.ret ?_
    refine ret1 rfl (v := .bool _) rfl ?_
    exact ⟨eR (eDF (z_c_impl_isVisit_25 v h13)), hB12⟩

theorem z_c_spec_l30Meet_10 (v : Visit) (a : Int) (b : Int) (h9 : v.From < b) : (a < v.Until) ↔ (meetV v a b) := by
  unfold meetV; omega
theorem z_c_spec_l30Meet_11 (v : Visit) (a : Int) (b : Int) (h9 : ¬ (v.From < b)) : ¬ (meetV v a b) := by
  unfold meetV; omega
theorem c_spec_l30Meet (w : World) (v : Visit) (a : Int) (b : Int) : Calls Try.prog 72 #[.agg (List.toArray (encVisit v)), .int .i64 a, .int .i64 b] w fun e w' => e = .returned (.bool (decide (meetV v a b))) ∧ Lo w w' := by
  refine calls_W 17 Try.func72 rfl rfl rfl ?_
  refine W.seq ?_
  refine W.regS (SR.box (v := .agg (List.toArray _)) (l := [.int .i64 v.Reader, .int .i64 v.Seat, .int .i64 v.From, .int .i64 v.Until]) rfl rfl ?_)
  intro g1 w2 hg3 hk4 hs5 hb6
  have hz7 := hk4.size
  have hB8 := (Lo.refl w).lo hk4
  refine SR.q' (r_as (v := .bool false) rfl) <| SR.nil ?_
  refine W.seq ?_
  refine W.regS (SR.q' (r_fa fa59_2 rfl) <| SR.q' (r_ld (v := .int .i64 v.From) sca3 rfl ((hb6).cell rfl)) <| SR.q' (r_mv (v := .int .i64 _) rfl) <| SR.q' (r_lt rfl rfl) <| SR.q' (r_mv (v := .bool _) rfl) <| SR.splitD (fun h9 => ?_) (fun h9 => ?_))
  · refine SR.g' rfl (r_mv (v := .int .i64 _) rfl) <| SR.g' rfl (r_fa fa59_3 rfl) <| SR.g' rfl (r_ld (v := .int .i64 v.Until) sca3 rfl ((hb6).cell rfl)) <| SR.g' rfl (r_lt rfl rfl) <| SR.q' (r_pick true rfl (v := .bool _) rfl) <| SR.q' (r_as (v := .bool _) rfl) <| SR.nil ?_
    refine W.ret ?_
    refine ret1 rfl (v := .bool _) rfl ?_
    exact ⟨eR (eDD (z_c_spec_l30Meet_10 v a b h9)), hB8⟩
  · refine SR.s' rfl <| SR.s' rfl <| SR.s' rfl <| SR.s' rfl <| SR.q' (r_pick false rfl (v := .bool false) rfl) <| SR.q' (r_as (v := .bool _) rfl) <| SR.nil ?_
    refine W.ret ?_
    refine ret1 rfl (v := .bool _) rfl ?_
    exact ⟨eR (eDF (z_c_spec_l30Meet_11 v a b h9)), hB8⟩

theorem z_c__impl_Visit__meets_10 (v : Visit) (a : Int) (b : Int) (h9 : v.From < b) : (a < v.Until) ↔ (meetV v a b) := by
  unfold meetV; omega
theorem z_c__impl_Visit__meets_11 (v : Visit) (a : Int) (b : Int) (h9 : ¬ (v.From < b)) : ¬ (meetV v a b) := by
  unfold meetV; omega
theorem c__impl_Visit__meets (w : World) (v : Visit) (a : Int) (b : Int) : Calls Try.prog 67 #[.agg (List.toArray (encVisit v)), .int .i64 a, .int .i64 b] w fun e w' => e = .returned (.bool (decide (meetV v a b))) ∧ Lo w w' := by
  refine calls_W 17 Try.func67 rfl rfl rfl ?_
  refine W.seq ?_
  refine W.regS (SR.box (v := .agg (List.toArray _)) (l := [.int .i64 v.Reader, .int .i64 v.Seat, .int .i64 v.From, .int .i64 v.Until]) rfl rfl ?_)
  intro g1 w2 hg3 hk4 hs5 hb6
  have hz7 := hk4.size
  have hB8 := (Lo.refl w).lo hk4
  refine SR.q' (r_as (v := .bool false) rfl) <| SR.nil ?_
  refine W.seq ?_
  refine W.regS (SR.q' (r_fa fa59_2 rfl) <| SR.q' (r_ld (v := .int .i64 v.From) sca3 rfl ((hb6).cell rfl)) <| SR.q' (r_mv (v := .int .i64 _) rfl) <| SR.q' (r_lt rfl rfl) <| SR.q' (r_mv (v := .bool _) rfl) <| SR.splitD (fun h9 => ?_) (fun h9 => ?_))
  · refine SR.g' rfl (r_mv (v := .int .i64 _) rfl) <| SR.g' rfl (r_fa fa59_3 rfl) <| SR.g' rfl (r_ld (v := .int .i64 v.Until) sca3 rfl ((hb6).cell rfl)) <| SR.g' rfl (r_lt rfl rfl) <| SR.q' (r_pick true rfl (v := .bool _) rfl) <| SR.q' (r_as (v := .bool _) rfl) <| SR.nil ?_
    refine W.ret ?_
    refine ret1 rfl (v := .bool _) rfl ?_
    exact ⟨eR (eDD (z_c__impl_Visit__meets_10 v a b h9)), hB8⟩
  · refine SR.s' rfl <| SR.s' rfl <| SR.s' rfl <| SR.s' rfl <| SR.q' (r_pick false rfl (v := .bool false) rfl) <| SR.q' (r_as (v := .bool _) rfl) <| SR.nil ?_
    refine W.ret ?_
    refine ret1 rfl (v := .bool _) rfl ?_
    exact ⟨eR (eDF (z_c__impl_Visit__meets_11 v a b h9)), hB8⟩

theorem z_c_slices_IndexFunc___impl_Visit_impl_Visit__1 (L : List Visit) (nL : Nat) (hbdL : (nL : Int) ≤ 9223372036854775807) (hleL : nL = L.length) (p : Visit → Bool) : 0 ≤ nL ∧ NoneTo p L 0 := by
  exact ⟨Nat.zero_le _, NoneTo.zero⟩
theorem z_c_slices_IndexFunc___impl_Visit_impl_Visit__16 (L : List Visit) (nL : Nat) (hbdL : (nL : Int) ≤ 9223372036854775807) (hleL : nL = L.length) (p : Visit → Bool) (k : Nat) (hi7 : k ≤ nL ∧ NoneTo p L k) (h8 : (k : Int) < (nL : Int)) (x9 : Visit) (hx10 : L[k]? = some x9) (h15 : (p x9) = true) : (k : Int) = idxF p L := by
  first | exact idx_at (And.right ‹_ ∧ NoneTo p L _›) ‹L[_]? = some _› ‹_› | exact idx_no (And.right ‹_ ∧ NoneTo p L _›) hleL ‹_›
theorem z_c_slices_IndexFunc___impl_Visit_impl_Visit__17 (L : List Visit) (nL : Nat) (hbdL : (nL : Int) ≤ 9223372036854775807) (hleL : nL = L.length) (p : Visit → Bool) (k : Nat) (hi7 : k ≤ nL ∧ NoneTo p L k) (h8 : (k : Int) < (nL : Int)) (x9 : Visit) (hx10 : L[k]? = some x9) (h15 : (p x9) = false) : k + 1 ≤ nL ∧ NoneTo p L (k + 1) := by
  exact ⟨by omega, NoneTo.next (And.right ‹_ ∧ NoneTo p L _›) ‹L[k]? = some _› ‹_›⟩
theorem z_c_slices_IndexFunc___impl_Visit_impl_Visit__18 (L : List Visit) (nL : Nat) (hbdL : (nL : Int) ≤ 9223372036854775807) (hleL : nL = L.length) (p : Visit → Bool) (k : Nat) (hi7 : k ≤ nL ∧ NoneTo p L k) (h8 : (k : Int) < (nL : Int)) (x9 : Visit) (hx10 : L[k]? = some x9) (h15 : (p x9) = false) : nL - (k + 1) < nL - k := by
  omega
theorem z_c_slices_IndexFunc___impl_Visit_impl_Visit__19 (L : List Visit) (nL : Nat) (hbdL : (nL : Int) ≤ 9223372036854775807) (hleL : nL = L.length) (p : Visit → Bool) (k : Nat) (hi7 : k ≤ nL ∧ NoneTo p L k) (h8 : ¬ ((k : Int) < (nL : Int))) : (-1) = idxF p L := by
  first | exact idx_at (And.right ‹_ ∧ NoneTo p L _›) ‹L[_]? = some _› ‹_› | exact idx_no (And.right ‹_ ∧ NoneTo p L _›) hleL ‹_›
theorem c_slices_IndexFunc___impl_Visit_impl_Visit_ (w : World) {AL : Option Addr} {nL cL BL : Nat}  (L : List Visit) (hL : SlR w BL encVisit 4 AL nL cL L) {kp : Nat} {capp : List Value} (p : Visit → Bool) (hp : Fnc Try.prog w kp capp (fun x => .agg (List.toArray (encVisit x))) p) : Calls Try.prog 73 #[.slice AL nL cL, .func (.func kp) #[] (List.toArray capp)] w fun e w' => e = .returned (.int .i64 (idxF p L)) ∧ Lo w w' := by
  refine calls_W 19 Try.func73 rfl rfl rfl ?_
  have hbdL := hL.bound
  have hleL := hL.len
  have hBbL := hL.bd
  refine W.seq ?_
  refine W.regS (SR.q' (r_as (v := .int .i64 0) rfl) <| SR.nil ?_)
  refine W.seq ?_
  refine W.seq ?_
  refine W.regS (SR.q' (r_mv (v := .slice _ _ _) rfl) <| SR.q' (r_len und24 rfl) <| SR.q' (r_mv (v := .int .i64 0) rfl) <| SR.nil ?_)
  refine W.block ?_
  refine W.loop (σ := Nat) (fun g => [(0, .slice AL nL cL), (1, .func (.func kp) #[] (List.toArray capp)), (7, .int .i64 (nL : Int)), (8, .int .i64 (g : Int))]) (fun g w' => (Lo w w') ∧ (SlR w' BL encVisit 4 AL nL cL L) ∧ (g ≤ nL ∧ NoneTo p L g)) (fun g => nL - g) 0 ?_ ?_ ?_
  · exact ⟨rfl, rfl, rfl, rfl, trivial⟩
  · exact ⟨(Lo.refl w), hL, (z_c_slices_IndexFunc___impl_Visit_impl_Visit__1 L nL hbdL hleL p)⟩
  · rintro k f2 w3 hP5
    obtain ⟨hB4, hm6, hi7⟩ : (Lo w w3) ∧ (SlR w3 BL encVisit 4 AL nL cL L) ∧ (k ≤ nL ∧ NoneTo p L k) := hP5
    refine (?_ : W _ _ _ _ _ (act _ (sets f2 [(0, .slice AL nL cL), (1, .func (.func kp) #[] (List.toArray capp)), (7, .int .i64 (nL : Int)), (8, .int .i64 (k : Int))])) _)
    have hzw3 := hB4.size
    refine W.seq ?_
    refine W.regS (SR.q' (r_lt rfl rfl) <| SR.nil ?_)
    refine W.seq ?_
    refine W.cond_d rfl (fun h8 => ?_) (fun h8 => ?_)
    · refine W.skip ?_
      refine W.seq ?_
      refine W.block ?_
      refine W.seq ?_
      refine W.regS (SR.q' (r_mv (v := .int .i64 _) rfl) <| SR.q' (r_as (v := .int .i64 _) rfl) <| SR.nil ?_)
      refine W.seq ?_
      refine W.regS (SR.q' (r_mv (v := .func _ #[] (List.toArray _)) rfl) <| SR.q' (r_mv (v := .slice _ _ _) rfl) <| SR.q' (r_mv (v := .int .i64 _) rfl) <| ?_)
      obtain ⟨x9, hx10⟩ := (hm6).get (i := k) (by omega)
      refine SR.q' (r_ixR tsl24 (hm6) rfl rfl (by omega)) <| SR.q' (r_lda (l := encVisit x9) agg59 rfl (fun _ _ hu => (hm6).cell hx10 hu) ((hm6).esz _)) <| SR.callv (hp).1 rfl ((hp).2 _ hB4 x9) rfl ?_
      rintro e w11 ⟨rfl, hk12⟩
      refine ⟨_, rfl, ?_⟩
      have hz13 := hk12.size
      have hB14 := hB4.lo hk12
      refine SR.nil ?_
      refine W.cond_b rfl (fun h15 => ?_) (fun h15 => ?_)
      · refine W.seq ?_
        refine W.regS (SR.q' (r_mv (v := .int .i64 _) rfl) <| SR.q' (r_as (v := .int .i64 _) rfl) <| SR.nil ?_)
        refine W.ret ?_
        refine ret1 rfl (v := .int .i64 _) rfl ?_
        exact ⟨eR (eI (z_c_slices_IndexFunc___impl_Visit_impl_Visit__16 L nL hbdL hleL p k hi7 h8 x9 hx10 h15)), hB14⟩
      · refine W.skip ?_
        refine W.regS (SR.q' (r_add rfl rfl (by omega)) <| SR.q' (r_mv (v := .int .i64 _) rfl) <| SR.nil ?_)
        refine ⟨k + 1, _, rfl, ⟨rfl, rfl, rfl, rfl, trivial⟩, ⟨hB14, (hm6).lo hk12, ?_⟩, ?_⟩
        · exact (z_c_slices_IndexFunc___impl_Visit_impl_Visit__17 L nL hbdL hleL p k hi7 h8 x9 hx10 h15)
        · exact (z_c_slices_IndexFunc___impl_Visit_impl_Visit__18 L nL hbdL hleL p k hi7 h8 x9 hx10 h15)
    · refine W.exit (xin_here ?_)
      refine W.seq ?_
      refine W.regS (SR.q' (r_as (v := .int .i64 (-1)) rfl) <| SR.nil ?_)
      refine W.ret ?_
      refine ret1 rfl (v := .int .i64 _) rfl ?_
      exact ⟨eR (eI (z_c_slices_IndexFunc___impl_Visit_impl_Visit__19 L nL hbdL hleL p k hi7 h8)), hB4⟩

theorem z_c_slices_ContainsFunc___impl_Visit_impl_Visit__6 (L : List Visit) (nL : Nat) (hbdL : (nL : Int) ≤ 9223372036854775807) (hleL : nL = L.length) (p : Visit → Bool) (hq5 : idxF p L < (L.length : Int) ∧ -1 ≤ idxF p L) : decide (0 ≤ (idxF p L)) = L.any p := by
  rw [Bool.eq_iff_iff, decide_eq_true_eq]; exact any_idx
theorem c_slices_ContainsFunc___impl_Visit_impl_Visit_ (w : World) {AL : Option Addr} {nL cL BL : Nat}  (L : List Visit) (hL : SlR w BL encVisit 4 AL nL cL L) {kp : Nat} {capp : List Value} (p : Visit → Bool) (hp : Fnc Try.prog w kp capp (fun x => .agg (List.toArray (encVisit x))) p) : Calls Try.prog 65 #[.slice AL nL cL, .func (.func kp) #[] (List.toArray capp)] w fun e w' => e = .returned (.bool (L.any p)) ∧ Lo w w' := by
  refine calls_W 9 Try.func65 rfl rfl rfl ?_
  have hbdL := hL.bound
  have hleL := hL.len
  have hBbL := hL.bd
  refine W.seq ?_
  refine W.regS (SR.q' (r_as (v := .bool false) rfl) <| SR.nil ?_)
  refine W.seq ?_
  refine W.regS (SR.q' (r_mv (v := .slice _ _ _) rfl) <| SR.q' (r_mv (v := .func _ #[] (List.toArray _)) rfl) <| SR.call ent73 (c_slices_IndexFunc___impl_Visit_impl_Visit_ w L ((hL)) p (hp.lo (Lo.refl w))) rfl ?_)
  rintro e w1 ⟨rfl, hk2⟩
  refine ⟨_, rfl, ?_⟩
  have hz3 := hk2.size
  have hB4 := (Lo.refl w).lo hk2
  have hq5 : idxF p L < (L.length : Int) ∧ -1 ≤ idxF p L := idx_lt
  refine SR.q' (r_ge rfl rfl) <| SR.q' (r_as (v := .bool _) rfl) <| SR.nil ?_
  refine W.ret ?_
  refine ret1 rfl (v := .bool _) rfl ?_
  exact ⟨eR (eB (z_c_slices_ContainsFunc___impl_Visit_impl_Visit__6 L nL hbdL hleL p hq5)), hB4⟩

theorem z_c_slices_Clone___impl_Visit_impl_Visit__3 (L : List Visit) (nL : Nat) (hbdL : (nL : Int) ≤ 9223372036854775807) (hleL : nL = L.length) (hp0 : (nL : Int) ≤ 1048576) (hq2 : nL = 0) : ([] : List Visit) = L := by
  first | rfl | (exact (List.eq_nil_of_length_eq_zero (by omega)).symm)
theorem c_slices_Clone___impl_Visit_impl_Visit_ (w : World) {AL : Option Addr} {nL cL BL : Nat}  (L : List Visit) (hL : SlR w BL encVisit 4 AL nL cL L) (hp0 : (nL : Int) ≤ 1048576) : Calls Try.prog 47 #[.slice AL nL cL] w fun e w' => ∃ (A1' : Option Addr) (n1' c1' : Nat), e = .returned (.slice A1' n1' c1') ∧ SlO w' w.heap.size encVisit 4 59 A1' n1' c1' L ∧ Lo w w' := by
  refine calls_W 8 Try.func47 rfl rfl rfl ?_
  have hbdL := hL.bound
  have hleL := hL.len
  have hBbL := hL.bd
  refine W.seq ?_
  refine W.regS (SR.q' (r_as (v := .slice none 0 0) rfl) <| SR.nil ?_)
  refine W.seq ?_
  refine W.seq ?_
  refine W.regS (SR.q' (r_mv (v := .slice _ _ _) rfl) <| SR.q' (r_eqlnil und24 rfl rfl) <| SR.nil ?_)
  refine W.cond_b rfl (fun h1 => ?_) (fun h1 => ?_)
  · have hq2 := slR_nil hL h1
    refine W.seq ?_
    refine W.regS (SR.q' (r_as (v := .slice none 0 0) rfl) <| SR.nil ?_)
    refine W.ret ?_
    refine ret1 rfl (v := .slice none 0 0) rfl ?_
    exact ⟨none, 0, 0, eR rfl, (SlO.eqv (SlO.nil (e := 59) (enc := encVisit) (fun _ => rfl) (Nat.le_refl _)) (z_c_slices_Clone___impl_Visit_impl_Visit__3 L nL hbdL hleL hp0 hq2)), (Lo.refl w)⟩
  · refine W.skip ?_
    refine W.seq ?_
    refine W.regS (SR.lit (vs := []) (L := ([] : List Visit)) (enc := encVisit) tel24 (fun _ => rfl) rfl rfl rfl (by decide) ?_)
    intro g4 w5 hg6 hk7 hO8
    have hz9 := hk7.size
    have hB10 := (Lo.refl w).lo hk7
    refine SR.q' (r_mv (v := .slice _ _ _) rfl) <| SR.app tel24 rfl rfl (hO8) ((hL).lo hk7) (fun _ => rfl) (by omega) (by omega) ?_
    intro A11 c12 w13 hk14 hO15 hN16
    have hz17 := hk14.size
    have hB18 := hB10.step hk14 (fun i_ hi_ e' => by have := ((hO8)).base_le e'; first | omega | (exfalso; omega) | exact e' | exact .inl e' | exact .inr e')
    rw [List.nil_append] at hO15
    refine SR.q' (r_as (v := .slice _ _ _) rfl) <| SR.nil ?_
    refine W.ret ?_
    refine ret1 rfl (v := .slice _ _ _) rfl ?_
    exact ⟨A11, 0 + nL, c12, eR rfl, ((hO15).down (by omega)), hB18⟩

theorem z_c_impl_AreVisits_1_15 (y : Visit) (x : Visit) (h13 : meetV y x.From x.Until) (h14 : y.Seat = x.Seat) : clash y x := by
  unfold clash; simp_all
theorem z_c_impl_AreVisits_1_16 (y : Visit) (x : Visit) (h13 : meetV y x.From x.Until) (h14 : ¬ (y.Seat = x.Seat)) : (y.Reader = x.Reader) ↔ (clash y x) := by
  unfold clash; simp_all
theorem z_c_impl_AreVisits_1_17 (y : Visit) (x : Visit) (h13 : ¬ (meetV y x.From x.Until)) : ¬ (clash y x) := by
  unfold clash; simp_all
theorem c_impl_AreVisits_1 (w : World) (y : Visit) {gx ex : Nat} (x : Visit) (hx : Blk w gx ex [.int .i64 x.Reader, .int .i64 x.Seat, .int .i64 x.From, .int .i64 x.Until]) : Calls Try.prog 66 #[.agg (List.toArray (encVisit y)), .pointer (some ⟨gx, 0, none⟩)] w fun e w' => e = .returned (.bool (decide (clash y x))) ∧ Lo w w' := by
  refine calls_W 24 Try.func66 rfl rfl rfl ?_
  have hBlx := hx.lt
  refine W.seq ?_
  refine W.regS (SR.box (v := .agg (List.toArray _)) (l := [.int .i64 y.Reader, .int .i64 y.Seat, .int .i64 y.From, .int .i64 y.Until]) rfl rfl ?_)
  intro g1 w2 hg3 hk4 hs5 hb6
  have hz7 := hk4.size
  have hB8 := (Lo.refl w).lo hk4
  refine SR.q' (r_as (v := .bool false) rfl) <| SR.nil ?_
  refine W.seq ?_
  refine W.regS (SR.q' (r_lda (l := [.int .i64 y.Reader, .int .i64 y.Seat, .int .i64 y.From, .int .i64 y.Until]) agg59 rfl (fun _ _ hu => (hb6).cell hu) rfl) <| SR.q' (r_fa fa59_2 rfl) <| SR.q' (r_ld (v := .int .i64 x.From) sca3 rfl (((hx).lo hk4).cell rfl)) <| SR.q' (r_fa fa59_3 rfl) <| SR.q' (r_ld (v := .int .i64 x.Until) sca3 rfl (((hx).lo hk4).cell rfl)) <| SR.call ent67 (c__impl_Visit__meets w2 y x.From x.Until) rfl ?_)
  rintro e w9 ⟨rfl, hk10⟩
  refine ⟨_, rfl, ?_⟩
  have hz11 := hk10.size
  have hB12 := hB8.lo hk10
  refine SR.q' (r_mv (v := .bool _) rfl) <| SR.splitD (fun h13 => ?_) (fun h13 => ?_)
  · refine SR.g' rfl (r_fa fa59_1 rfl) <| SR.g' rfl (r_ld (v := .int .i64 y.Seat) sca3 rfl (((hb6).lo hk10).cell rfl)) <| SR.g' rfl (r_fa fa59_1 rfl) <| SR.g' rfl (r_ld (v := .int .i64 x.Seat) sca3 rfl ((((hx).lo hk4).lo hk10).cell rfl)) <| SR.g' rfl (r_eq rfl rfl) <| SR.g' rfl (r_mv (v := .bool _) rfl) <| SR.splitD (fun h14 => ?_) (fun h14 => ?_)
    · refine SR.s' rfl <| SR.s' rfl <| SR.s' rfl <| SR.s' rfl <| SR.s' rfl <| SR.g' rfl (r_pick true rfl (v := .bool true) rfl) <| SR.q' (r_pick true rfl (v := .bool _) rfl) <| SR.q' (r_as (v := .bool _) rfl) <| SR.nil ?_
      refine W.ret ?_
      refine ret1 rfl (v := .bool _) rfl ?_
      exact ⟨eR (eDT (z_c_impl_AreVisits_1_15 y x h13 h14)), hB12⟩
    · refine SR.g' rfl (r_fa fa59_0 rfl) <| SR.g' rfl (r_ld (v := .int .i64 y.Reader) sca3 rfl (((hb6).lo hk10).cell rfl)) <| SR.g' rfl (r_fa fa59_0 rfl) <| SR.g' rfl (r_ld (v := .int .i64 x.Reader) sca3 rfl ((((hx).lo hk4).lo hk10).cell rfl)) <| SR.g' rfl (r_eq rfl rfl) <| SR.g' rfl (r_pick false rfl (v := .bool _) rfl) <| SR.q' (r_pick true rfl (v := .bool _) rfl) <| SR.q' (r_as (v := .bool _) rfl) <| SR.nil ?_
      refine W.ret ?_
      refine ret1 rfl (v := .bool _) rfl ?_
      exact ⟨eR (eDD (z_c_impl_AreVisits_1_16 y x h13 h14)), hB12⟩
  · refine SR.s' rfl <| SR.s' rfl <| SR.s' rfl <| SR.s' rfl <| SR.s' rfl <| SR.s' rfl <| SR.u' rfl <| SR.u' rfl <| SR.u' rfl <| SR.u' rfl <| SR.u' rfl <| SR.s' rfl <| SR.q' (r_pick false rfl (v := .bool false) rfl) <| SR.q' (r_as (v := .bool _) rfl) <| SR.nil ?_
    refine W.ret ?_
    refine ret1 rfl (v := .bool _) rfl ?_
    exact ⟨eR (eDF (z_c_impl_AreVisits_1_17 y x h13)), hB12⟩

theorem z_c_impl_AreVisits_1 (L : List Visit) (nL : Nat) (hbdL : (nL : Int) ≤ 9223372036854775807) (hleL : nL = L.length) : 0 ≤ nL ∧ VsTo L 0 := by
  exact ⟨Nat.zero_le _, VsTo.zero⟩
theorem z_c_impl_AreVisits_30 (L : List Visit) (nL : Nat) (hbdL : (nL : Int) ≤ 9223372036854775807) (hleL : nL = L.length) (k : Nat) (hi7 : k ≤ nL ∧ VsTo L k) (h8 : (k : Int) < (nL : Int)) (x9 : Visit) (hx10 : L[k]? = some x9) (h25 : ¬ (VOK x9)) : ¬ (VsOK L) := by
  first | exact vs_end (And.right ‹_ ∧ VsTo L _›) hleL (by omega) | exact cl_bad ‹_ = true› ‹L[k]? = some _› | exact fun hr => (by have hs := hr.1 _ _ ‹L[k]? = some _›; first | exact ‹¬ VOK _› hs.1 | (have := hs.2.1 _ (by omega) ‹L[k - 1]? = some _›; omega))
theorem z_c_impl_AreVisits_40 (L : List Visit) (nL : Nat) (hbdL : (nL : Int) ≤ 9223372036854775807) (hleL : nL = L.length) (k : Nat) (hi7 : k ≤ nL ∧ VsTo L k) (h8 : (k : Int) < (nL : Int)) (x9 : Visit) (hx10 : L[k]? = some x9) (h25 : VOK x9) (h31 : 0 < (k : Int)) (x32 : Visit) (hx34 : L[k - 1]? = some x32) (h39 : x9.From < x32.From) : ¬ (VsOK L) := by
  first | exact vs_end (And.right ‹_ ∧ VsTo L _›) hleL (by omega) | exact cl_bad ‹_ = true› ‹L[k]? = some _› | exact fun hr => (by have hs := hr.1 _ _ ‹L[k]? = some _›; first | exact ‹¬ VOK _› hs.1 | (have := hs.2.1 _ (by omega) ‹L[k - 1]? = some _›; omega))
theorem z_c_impl_AreVisits_46 (L : List Visit) (nL : Nat) (hbdL : (nL : Int) ≤ 9223372036854775807) (hleL : nL = L.length) (k : Nat) (hi7 : k ≤ nL ∧ VsTo L k) (h8 : (k : Int) < (nL : Int)) (x9 : Visit) (hx10 : L[k]? = some x9) (h25 : VOK x9) (h31 : 0 < (k : Int)) (x32 : Visit) (hx34 : L[k - 1]? = some x32) (h39 : ¬ (x9.From < x32.From)) (h45 : ((L.take k).any (fun u_ : Visit => decide (clash u_ x9))) = true) : ¬ (VsOK L) := by
  first | exact vs_end (And.right ‹_ ∧ VsTo L _›) hleL (by omega) | exact cl_bad ‹_ = true› ‹L[k]? = some _› | exact fun hr => (by have hs := hr.1 _ _ ‹L[k]? = some _›; first | exact ‹¬ VOK _› hs.1 | (have := hs.2.1 _ (by omega) ‹L[k - 1]? = some _›; omega))
theorem z_c_impl_AreVisits_47 (L : List Visit) (nL : Nat) (hbdL : (nL : Int) ≤ 9223372036854775807) (hleL : nL = L.length) (k : Nat) (hi7 : k ≤ nL ∧ VsTo L k) (h8 : (k : Int) < (nL : Int)) (x9 : Visit) (hx10 : L[k]? = some x9) (h25 : VOK x9) (h31 : 0 < (k : Int)) (x32 : Visit) (hx34 : L[k - 1]? = some x32) (h39 : ¬ (x9.From < x32.From)) (h45 : ((L.take k).any (fun u_ : Visit => decide (clash u_ x9))) = false) : k + 1 ≤ nL ∧ VsTo L (k + 1) := by
  refine ⟨by omega, vs_next (And.right ‹_ ∧ VsTo L _›) ‹L[k]? = some _› ?_⟩
  first | exact vstep_of (by simp_all) ‹_› (cl_any (by simp_all)) | exact vstep_of' (by simp_all) ‹L[k - 1]? = some _› (by omega) (cl_any (by simp_all))
theorem z_c_impl_AreVisits_48 (L : List Visit) (nL : Nat) (hbdL : (nL : Int) ≤ 9223372036854775807) (hleL : nL = L.length) (k : Nat) (hi7 : k ≤ nL ∧ VsTo L k) (h8 : (k : Int) < (nL : Int)) (x9 : Visit) (hx10 : L[k]? = some x9) (h25 : VOK x9) (h31 : 0 < (k : Int)) (x32 : Visit) (hx34 : L[k - 1]? = some x32) (h39 : ¬ (x9.From < x32.From)) (h45 : ((L.take k).any (fun u_ : Visit => decide (clash u_ x9))) = false) : nL - (k + 1) < nL - k := by
  omega
theorem z_c_impl_AreVisits_58 (L : List Visit) (nL : Nat) (hbdL : (nL : Int) ≤ 9223372036854775807) (hleL : nL = L.length) (k : Nat) (hi7 : k ≤ nL ∧ VsTo L k) (h8 : (k : Int) < (nL : Int)) (x9 : Visit) (hx10 : L[k]? = some x9) (h25 : VOK x9) (h31 : ¬ (0 < (k : Int))) (h57 : ((L.take k).any (fun u_ : Visit => decide (clash u_ x9))) = true) : ¬ (VsOK L) := by
  first | exact vs_end (And.right ‹_ ∧ VsTo L _›) hleL (by omega) | exact cl_bad ‹_ = true› ‹L[k]? = some _› | exact fun hr => (by have hs := hr.1 _ _ ‹L[k]? = some _›; first | exact ‹¬ VOK _› hs.1 | (have := hs.2.1 _ (by omega) ‹L[k - 1]? = some _›; omega))
theorem z_c_impl_AreVisits_59 (L : List Visit) (nL : Nat) (hbdL : (nL : Int) ≤ 9223372036854775807) (hleL : nL = L.length) (k : Nat) (hi7 : k ≤ nL ∧ VsTo L k) (h8 : (k : Int) < (nL : Int)) (x9 : Visit) (hx10 : L[k]? = some x9) (h25 : VOK x9) (h31 : ¬ (0 < (k : Int))) (h57 : ((L.take k).any (fun u_ : Visit => decide (clash u_ x9))) = false) : k + 1 ≤ nL ∧ VsTo L (k + 1) := by
  refine ⟨by omega, vs_next (And.right ‹_ ∧ VsTo L _›) ‹L[k]? = some _› ?_⟩
  first | exact vstep_of (by simp_all) ‹_› (cl_any (by simp_all)) | exact vstep_of' (by simp_all) ‹L[k - 1]? = some _› (by omega) (cl_any (by simp_all))
theorem z_c_impl_AreVisits_60 (L : List Visit) (nL : Nat) (hbdL : (nL : Int) ≤ 9223372036854775807) (hleL : nL = L.length) (k : Nat) (hi7 : k ≤ nL ∧ VsTo L k) (h8 : (k : Int) < (nL : Int)) (x9 : Visit) (hx10 : L[k]? = some x9) (h25 : VOK x9) (h31 : ¬ (0 < (k : Int))) (h57 : ((L.take k).any (fun u_ : Visit => decide (clash u_ x9))) = false) : nL - (k + 1) < nL - k := by
  omega
theorem z_c_impl_AreVisits_61 (L : List Visit) (nL : Nat) (hbdL : (nL : Int) ≤ 9223372036854775807) (hleL : nL = L.length) (k : Nat) (hi7 : k ≤ nL ∧ VsTo L k) (h8 : ¬ ((k : Int) < (nL : Int))) : ((nL : Int) ≤ 15) ↔ (VsOK L) := by
  first | exact vs_end (And.right ‹_ ∧ VsTo L _›) hleL (by omega) | exact cl_bad ‹_ = true› ‹L[k]? = some _› | exact fun hr => (by have hs := hr.1 _ _ ‹L[k]? = some _›; first | exact ‹¬ VOK _› hs.1 | (have := hs.2.1 _ (by omega) ‹L[k - 1]? = some _›; omega))
theorem c_impl_AreVisits (w : World) {AL : Option Addr} {nL cL BL : Nat}  (L : List Visit) (hL : SlR w BL encVisit 4 AL nL cL L) : Calls Try.prog 33 #[.slice AL nL cL] w fun e w' => e = .returned (.bool (decide (VsOK L))) ∧ Lo w w' := by
  refine calls_W 39 Try.func33 rfl rfl rfl ?_
  have hbdL := hL.bound
  have hleL := hL.len
  have hBbL := hL.bd
  refine W.seq ?_
  refine W.regS (SR.q' (r_as (v := .bool false) rfl) <| SR.nil ?_)
  refine W.seq ?_
  refine W.seq ?_
  refine W.regS (SR.q' (r_mv (v := .slice _ _ _) rfl) <| SR.q' (r_len und24 rfl) <| SR.q' (r_mv (v := .int .i64 0) rfl) <| SR.nil ?_)
  refine W.block ?_
  refine W.loop (σ := Nat) (fun g => [(0, .slice AL nL cL), (5, .slice AL nL cL), (6, .int .i64 (nL : Int)), (7, .int .i64 (g : Int))]) (fun g w' => (Lo w w') ∧ (SlR w' BL encVisit 4 AL nL cL L) ∧ (g ≤ nL ∧ VsTo L g)) (fun g => nL - g) 0 ?_ ?_ ?_
  · exact ⟨rfl, rfl, rfl, rfl, trivial⟩
  · exact ⟨(Lo.refl w), hL, (z_c_impl_AreVisits_1 L nL hbdL hleL)⟩
  · rintro k f2 w3 hP5
    obtain ⟨hB4, hm6, hi7⟩ : (Lo w w3) ∧ (SlR w3 BL encVisit 4 AL nL cL L) ∧ (k ≤ nL ∧ VsTo L k) := hP5
    refine (?_ : W _ _ _ _ _ (act _ (sets f2 [(0, .slice AL nL cL), (5, .slice AL nL cL), (6, .int .i64 (nL : Int)), (7, .int .i64 (k : Int))])) _)
    have hzw3 := hB4.size
    refine W.seq ?_
    refine W.regS (SR.q' (r_lt rfl rfl) <| SR.nil ?_)
    refine W.seq ?_
    refine W.cond_d rfl (fun h8 => ?_) (fun h8 => ?_)
    · refine W.skip ?_
      refine W.seq ?_
      refine W.block ?_
      refine W.seq ?_
      refine W.regS (SR.q' (r_mv (v := .int .i64 _) rfl) <| ?_)
      obtain ⟨x9, hx10⟩ := (hm6).get (i := k) (by omega)
      refine SR.q' (r_ixR tsl24 (hm6) rfl rfl (by omega)) <| SR.q' (r_lda (l := encVisit x9) agg59 rfl (fun _ _ hu => (hm6).cell hx10 hu) ((hm6).esz _)) <| SR.alloc (l := [.int .i64 0, .int .i64 0, .int .i64 0, .int .i64 0]) tz59 rfl ?_
      intro g11 w12 hg13 hk14 hs15 hb16
      have hz17 := hk14.size
      have hB18 := hB4.lo hk14
      refine SR.q' (r_as (v := .int .i64 _) rfl) <| SR.store (o := 0) (vs := [.int .i64 x9.Reader, .int .i64 x9.Seat, .int .i64 x9.From, .int .i64 x9.Until]) agg59.2 rfl rfl rfl rfl (hb16) (Nat.le_of_ble_eq_true rfl) rfl ?_
      intro w19 hk20 hs21 hb22
      have hz23 := hk20.size
      have hB24 := hB18.new hk20 (by omega)
      refine SR.nil ?_
      refine W.seq ?_
      refine W.seq ?_
      refine W.regD mo (by kernel_rfl) (QR.q' (fun w' hw' => r_lda (l := [.int .i64 x9.Reader, .int .i64 x9.Seat, .int .i64 x9.From, .int .i64 x9.Until]) agg59 rfl (fun _ _ hu => ((hb22).lo hw').cell hu) rfl) <| QR.call ent64 (fun w' hw' => (c_impl_isVisit w' x9).mono fun _ _ h => ⟨h.1, hw'.trans h.2⟩) rfl <| QR.q' (fun w' hw' => r_not rfl) <| QR.q' (fun w' hw' => r_mv (v := .bool _) rfl) <| QR.splitN (fun h25 => ?_) (fun h25 => ?_))
      · refine QR.s' rfl <| QR.s' rfl <| QR.s' rfl <| QR.u' rfl <| QR.u' rfl <| QR.u' rfl <| QR.u' rfl <| QR.u' rfl <| QR.u' rfl <| QR.u' rfl <| QR.u' rfl <| QR.u' rfl <| QR.s' rfl <| QR.q' (fun w' hw' => r_pick true rfl (v := .bool true) rfl) <| QR.nil ?_
        intro w26 hk27
        have hz28 := hk27.size
        have hB29 := hB24.lo hk27
        refine W.cond_t rfl ?_
        refine W.seq ?_
        refine W.regS (SR.q' (r_as (v := .bool false) rfl) <| SR.nil ?_)
        refine W.ret ?_
        refine ret1 rfl (v := .bool _) rfl ?_
        exact ⟨eR (eDF (z_c_impl_AreVisits_30 L nL hbdL hleL k hi7 h8 x9 hx10 h25)), hB29⟩
      · refine QR.g' rfl (fun w' hw' => r_mv (v := .int .i64 _) rfl) <| QR.g' rfl (fun w' hw' => r_gt rfl rfl) <| QR.g' rfl (fun w' hw' => r_mv (v := .bool _) rfl) <| QR.splitD (fun h31 => ?_) (fun h31 => ?_)
        · refine QR.g' rfl (fun w' hw' => r_fa fa59_2 rfl) <| QR.g' rfl (fun w' hw' => r_ld (v := .int .i64 x9.From) sca3 rfl (((hb22).lo hw').cell rfl)) <| QR.g' rfl (fun w' hw' => r_mv (v := .slice _ _ _) rfl) <| QR.g' rfl (fun w' hw' => r_mv (v := .int .i64 _) rfl) <| QR.g' rfl (fun w' hw' => r_sub rfl rfl (by omega)) <| ?_
          obtain ⟨x32, hx33⟩ := (((hm6).lo hk14).kp hk20 (fun b_ hb e' => by have e'' : b_ = g11 := e'; omega)).get (i := ((k : Int) - 1).toNat) (by omega)
          have hx34 : L[k - 1]? = some x32 := (show ((k : Int) - 1).toNat = k - 1 from by omega) ▸ hx33
          refine QR.g' rfl (fun w' hw' => r_ixR tsl24 (((((hm6).lo hk14).kp hk20 (fun b_ hb e' => by have e'' : b_ = g11 := e'; omega)).lo hw')) rfl rfl (by omega)) <| QR.g' rfl (fun w' hw' => r_fa fa59_2 rfl) <| QR.g' rfl (fun w' hw' => r_ld (v := .int .i64 x32.From) sca3 rfl ((((((hm6).lo hk14).kp hk20 (fun b_ hb e' => by have e'' : b_ = g11 := e'; omega)).lo hw')).cell hx33 rfl)) <| QR.g' rfl (fun w' hw' => r_lt rfl rfl) <| QR.g' rfl (fun w' hw' => r_pick true rfl (v := .bool _) rfl) <| QR.q' (fun w' hw' => r_pick false rfl (v := .bool _) rfl) <| QR.nil ?_
          intro w35 hk36
          have hz37 := hk36.size
          have hB38 := hB24.lo hk36
          refine W.cond_d rfl (fun h39 => ?_) (fun h39 => ?_)
          · refine W.seq ?_
            refine W.regS (SR.q' (r_as (v := .bool false) rfl) <| SR.nil ?_)
            refine W.ret ?_
            refine ret1 rfl (v := .bool _) rfl ?_
            exact ⟨eR (eDF (z_c_impl_AreVisits_40 L nL hbdL hleL k hi7 h8 x9 hx10 h25 h31 x32 hx34 h39)), hB38⟩
          · refine W.skip ?_
            refine W.seq ?_
            refine W.regS (SR.q' (r_mv (v := .slice _ _ _) rfl) <| SR.q' (r_mv (v := .int .i64 _) rfl) <| SR.q' (r_cuth (h := k) tsl24 rfl rfl rfl (Nat.le_trans (by omega : k ≤ nL) ((((hm6).lo hk14).kp hk20 (fun b_ hb e' => by have e'' : b_ = g11 := e'; omega)).lo hk36).cap)) <| SR.q' (r_mkf rfl rfl) <| SR.call ent65 (c_slices_ContainsFunc___impl_Visit_impl_Visit_ w35 (L.take k) ((((((hm6).lo hk14).kp hk20 (fun b_ hb e' => by have e'' : b_ = g11 := e'; omega)).lo hk36).head (h := k) (by omega))) (fun u_ : Visit => decide (clash u_ x9)) ⟨ent66, fun w'' hw'' x => (c_impl_AreVisits_1 w'' x x9 ((((hb22).lo hk36)).lo hw'')).mono fun _ _ h => ⟨h.1, h.2⟩⟩) rfl ?_)
            rintro e w41 ⟨rfl, hk42⟩
            refine ⟨_, rfl, ?_⟩
            have hz43 := hk42.size
            have hB44 := hB38.lo hk42
            refine SR.nil ?_
            refine W.cond_b rfl (fun h45 => ?_) (fun h45 => ?_)
            · refine W.seq ?_
              refine W.regS (SR.q' (r_as (v := .bool false) rfl) <| SR.nil ?_)
              refine W.ret ?_
              refine ret1 rfl (v := .bool _) rfl ?_
              exact ⟨eR (eDF (z_c_impl_AreVisits_46 L nL hbdL hleL k hi7 h8 x9 hx10 h25 h31 x32 hx34 h39 h45)), hB44⟩
            · refine W.skip ?_
              refine W.regS (SR.q' (r_add rfl rfl (by omega)) <| SR.q' (r_mv (v := .int .i64 _) rfl) <| SR.nil ?_)
              refine ⟨k + 1, _, rfl, ⟨rfl, rfl, rfl, rfl, trivial⟩, ⟨hB44, ((((hm6).lo hk14).kp hk20 (fun b_ hb e' => by have e'' : b_ = g11 := e'; omega)).lo hk36).lo hk42, ?_⟩, ?_⟩
              · exact (z_c_impl_AreVisits_47 L nL hbdL hleL k hi7 h8 x9 hx10 h25 h31 x32 hx34 h39 h45)
              · exact (z_c_impl_AreVisits_48 L nL hbdL hleL k hi7 h8 x9 hx10 h25 h31 x32 hx34 h39 h45)
        · refine QR.s' rfl <| QR.s' rfl <| QR.s' rfl <| QR.s' rfl <| QR.s' rfl <| QR.s' rfl <| QR.s' rfl <| QR.s' rfl <| QR.s' rfl <| QR.g' rfl (fun w' hw' => r_pick false rfl (v := .bool false) rfl) <| QR.q' (fun w' hw' => r_pick false rfl (v := .bool _) rfl) <| QR.nil ?_
          intro w49 hk50
          have hz51 := hk50.size
          have hB52 := hB24.lo hk50
          refine W.cond_f rfl ?_
          refine W.skip ?_
          refine W.seq ?_
          refine W.regS (SR.q' (r_mv (v := .slice _ _ _) rfl) <| SR.q' (r_mv (v := .int .i64 _) rfl) <| SR.q' (r_cuth (h := k) tsl24 rfl rfl rfl (Nat.le_trans (by omega : k ≤ nL) ((((hm6).lo hk14).kp hk20 (fun b_ hb e' => by have e'' : b_ = g11 := e'; omega)).lo hk50).cap)) <| SR.q' (r_mkf rfl rfl) <| SR.call ent65 (c_slices_ContainsFunc___impl_Visit_impl_Visit_ w49 (L.take k) ((((((hm6).lo hk14).kp hk20 (fun b_ hb e' => by have e'' : b_ = g11 := e'; omega)).lo hk50).head (h := k) (by omega))) (fun u_ : Visit => decide (clash u_ x9)) ⟨ent66, fun w'' hw'' x => (c_impl_AreVisits_1 w'' x x9 ((((hb22).lo hk50)).lo hw'')).mono fun _ _ h => ⟨h.1, h.2⟩⟩) rfl ?_)
          rintro e w53 ⟨rfl, hk54⟩
          refine ⟨_, rfl, ?_⟩
          have hz55 := hk54.size
          have hB56 := hB52.lo hk54
          refine SR.nil ?_
          refine W.cond_b rfl (fun h57 => ?_) (fun h57 => ?_)
          · refine W.seq ?_
            refine W.regS (SR.q' (r_as (v := .bool false) rfl) <| SR.nil ?_)
            refine W.ret ?_
            refine ret1 rfl (v := .bool _) rfl ?_
            exact ⟨eR (eDF (z_c_impl_AreVisits_58 L nL hbdL hleL k hi7 h8 x9 hx10 h25 h31 h57)), hB56⟩
          · refine W.skip ?_
            refine W.regS (SR.q' (r_add rfl rfl (by omega)) <| SR.q' (r_mv (v := .int .i64 _) rfl) <| SR.nil ?_)
            refine ⟨k + 1, _, rfl, ⟨rfl, rfl, rfl, rfl, trivial⟩, ⟨hB56, ((((hm6).lo hk14).kp hk20 (fun b_ hb e' => by have e'' : b_ = g11 := e'; omega)).lo hk50).lo hk54, ?_⟩, ?_⟩
            · exact (z_c_impl_AreVisits_59 L nL hbdL hleL k hi7 h8 x9 hx10 h25 h31 h57)
            · exact (z_c_impl_AreVisits_60 L nL hbdL hleL k hi7 h8 x9 hx10 h25 h31 h57)
    · refine W.exit (xin_here ?_)
      refine W.seq ?_
      refine W.regS (SR.q' (r_mv (v := .slice _ _ _) rfl) <| SR.q' (r_len und24 rfl) <| SR.q' (r_le rfl rfl) <| SR.q' (r_as (v := .bool _) rfl) <| SR.nil ?_)
      refine W.ret ?_
      refine ret1 rfl (v := .bool _) rfl ?_
      exact ⟨eR (eDD (z_c_impl_AreVisits_61 L nL hbdL hleL k hi7 h8)), hB4⟩

theorem z_c_spec_l30Good_1 (L : List Visit) (nL : Nat) (hbdL : (nL : Int) ≤ 9223372036854775807) (hleL : nL = L.length) : 0 ≤ nL ∧ VsTo L 0 := by
  exact ⟨Nat.zero_le _, VsTo.zero⟩
theorem z_c_spec_l30Good_31 (L : List Visit) (nL : Nat) (hbdL : (nL : Int) ≤ 9223372036854775807) (hleL : nL = L.length) (k : Nat) (hi7 : k ≤ nL ∧ VsTo L k) (h8 : (k : Int) < (nL : Int)) (h9 : (k : Int) ≤ 15) (x10 : Visit) (hx11 : L[k]? = some x10) (h26 : ¬ (VOK x10)) : ¬ (VsOK L) := by
  first | exact vs_end (And.right ‹_ ∧ VsTo L _›) hleL (by omega) | exact fun hr => (hr.1 _ _ ‹L[k]? = some _›).2.2 j _ (by omega) ‹L[j]? = some _› (by unfold clash; simp_all) | exact fun hr => (by have hs := hr.1 _ _ ‹L[k]? = some _›; first | exact ‹¬ VOK _› hs.1 | (have := hs.2.1 _ (by omega) ‹L[k - 1]? = some _›; omega))
theorem z_c_spec_l30Good_41 (L : List Visit) (nL : Nat) (hbdL : (nL : Int) ≤ 9223372036854775807) (hleL : nL = L.length) (k : Nat) (hi7 : k ≤ nL ∧ VsTo L k) (h8 : (k : Int) < (nL : Int)) (h9 : (k : Int) ≤ 15) (x10 : Visit) (hx11 : L[k]? = some x10) (h26 : VOK x10) (h32 : 0 < (k : Int)) (x33 : Visit) (hx35 : L[k - 1]? = some x33) (h40 : x10.From < x33.From) : ¬ (VsOK L) := by
  first | exact vs_end (And.right ‹_ ∧ VsTo L _›) hleL (by omega) | exact fun hr => (hr.1 _ _ ‹L[k]? = some _›).2.2 j _ (by omega) ‹L[j]? = some _› (by unfold clash; simp_all) | exact fun hr => (by have hs := hr.1 _ _ ‹L[k]? = some _›; first | exact ‹¬ VOK _› hs.1 | (have := hs.2.1 _ (by omega) ‹L[k - 1]? = some _›; omega))
theorem z_c_spec_l30Good_42 (L : List Visit) (nL : Nat) (hbdL : (nL : Int) ≤ 9223372036854775807) (hleL : nL = L.length) (k : Nat) (hi7 : k ≤ nL ∧ VsTo L k) (h8 : (k : Int) < (nL : Int)) (h9 : (k : Int) ≤ 15) (x10 : Visit) (hx11 : L[k]? = some x10) (h26 : VOK x10) (h32 : 0 < (k : Int)) (x33 : Visit) (hx35 : L[k - 1]? = some x33) (h40 : ¬ (x10.From < x33.From)) : 0 ≤ k ∧ ClTo L x10 0 := by
  exact ⟨Nat.zero_le _, ClTo.zero⟩
theorem z_c_spec_l30Good_60 (L : List Visit) (nL : Nat) (hbdL : (nL : Int) ≤ 9223372036854775807) (hleL : nL = L.length) (k : Nat) (hi7 : k ≤ nL ∧ VsTo L k) (h8 : (k : Int) < (nL : Int)) (h9 : (k : Int) ≤ 15) (x10 : Visit) (hx11 : L[k]? = some x10) (h26 : VOK x10) (h32 : 0 < (k : Int)) (x33 : Visit) (hx35 : L[k - 1]? = some x33) (h40 : ¬ (x10.From < x33.From)) (j : Nat) (hi49 : j ≤ k ∧ ClTo L x10 j) (h51 : (j : Int) < (k : Int)) (x52 : Visit) (hx53 : L[j]? = some x52) (h54 : meetV x52 x10.From x10.Until) (h55 : x52.Seat = x10.Seat) : ¬ (VsOK L) := by
  first | exact vs_end (And.right ‹_ ∧ VsTo L _›) hleL (by omega) | exact fun hr => (hr.1 _ _ ‹L[k]? = some _›).2.2 j _ (by omega) ‹L[j]? = some _› (by unfold clash; simp_all) | exact fun hr => (by have hs := hr.1 _ _ ‹L[k]? = some _›; first | exact ‹¬ VOK _› hs.1 | (have := hs.2.1 _ (by omega) ‹L[k - 1]? = some _›; omega))
theorem z_c_spec_l30Good_66 (L : List Visit) (nL : Nat) (hbdL : (nL : Int) ≤ 9223372036854775807) (hleL : nL = L.length) (k : Nat) (hi7 : k ≤ nL ∧ VsTo L k) (h8 : (k : Int) < (nL : Int)) (h9 : (k : Int) ≤ 15) (x10 : Visit) (hx11 : L[k]? = some x10) (h26 : VOK x10) (h32 : 0 < (k : Int)) (x33 : Visit) (hx35 : L[k - 1]? = some x33) (h40 : ¬ (x10.From < x33.From)) (j : Nat) (hi49 : j ≤ k ∧ ClTo L x10 j) (h51 : (j : Int) < (k : Int)) (x52 : Visit) (hx53 : L[j]? = some x52) (h54 : meetV x52 x10.From x10.Until) (h55 : ¬ (x52.Seat = x10.Seat)) (h65 : x52.Reader = x10.Reader) : ¬ (VsOK L) := by
  first | exact vs_end (And.right ‹_ ∧ VsTo L _›) hleL (by omega) | exact fun hr => (hr.1 _ _ ‹L[k]? = some _›).2.2 j _ (by omega) ‹L[j]? = some _› (by unfold clash; simp_all) | exact fun hr => (by have hs := hr.1 _ _ ‹L[k]? = some _›; first | exact ‹¬ VOK _› hs.1 | (have := hs.2.1 _ (by omega) ‹L[k - 1]? = some _›; omega))
theorem z_c_spec_l30Good_67 (L : List Visit) (nL : Nat) (hbdL : (nL : Int) ≤ 9223372036854775807) (hleL : nL = L.length) (k : Nat) (hi7 : k ≤ nL ∧ VsTo L k) (h8 : (k : Int) < (nL : Int)) (h9 : (k : Int) ≤ 15) (x10 : Visit) (hx11 : L[k]? = some x10) (h26 : VOK x10) (h32 : 0 < (k : Int)) (x33 : Visit) (hx35 : L[k - 1]? = some x33) (h40 : ¬ (x10.From < x33.From)) (j : Nat) (hi49 : j ≤ k ∧ ClTo L x10 j) (h51 : (j : Int) < (k : Int)) (x52 : Visit) (hx53 : L[j]? = some x52) (h54 : meetV x52 x10.From x10.Until) (h55 : ¬ (x52.Seat = x10.Seat)) (h65 : ¬ (x52.Reader = x10.Reader)) : j + 1 ≤ k ∧ ClTo L x10 (j + 1) := by
  exact ⟨by omega, ClTo.next (And.right ‹_ ∧ ClTo L _ _›) ‹L[j]? = some _› (by unfold clash; simp_all)⟩
theorem z_c_spec_l30Good_68 (L : List Visit) (nL : Nat) (hbdL : (nL : Int) ≤ 9223372036854775807) (hleL : nL = L.length) (k : Nat) (hi7 : k ≤ nL ∧ VsTo L k) (h8 : (k : Int) < (nL : Int)) (h9 : (k : Int) ≤ 15) (x10 : Visit) (hx11 : L[k]? = some x10) (h26 : VOK x10) (h32 : 0 < (k : Int)) (x33 : Visit) (hx35 : L[k - 1]? = some x33) (h40 : ¬ (x10.From < x33.From)) (j : Nat) (hi49 : j ≤ k ∧ ClTo L x10 j) (h51 : (j : Int) < (k : Int)) (x52 : Visit) (hx53 : L[j]? = some x52) (h54 : meetV x52 x10.From x10.Until) (h55 : ¬ (x52.Seat = x10.Seat)) (h65 : ¬ (x52.Reader = x10.Reader)) : k - (j + 1) < k - j := by
  omega
theorem z_c_spec_l30Good_73 (L : List Visit) (nL : Nat) (hbdL : (nL : Int) ≤ 9223372036854775807) (hleL : nL = L.length) (k : Nat) (hi7 : k ≤ nL ∧ VsTo L k) (h8 : (k : Int) < (nL : Int)) (h9 : (k : Int) ≤ 15) (x10 : Visit) (hx11 : L[k]? = some x10) (h26 : VOK x10) (h32 : 0 < (k : Int)) (x33 : Visit) (hx35 : L[k - 1]? = some x33) (h40 : ¬ (x10.From < x33.From)) (j : Nat) (hi49 : j ≤ k ∧ ClTo L x10 j) (h51 : (j : Int) < (k : Int)) (x52 : Visit) (hx53 : L[j]? = some x52) (h54 : ¬ (meetV x52 x10.From x10.Until)) : j + 1 ≤ k ∧ ClTo L x10 (j + 1) := by
  exact ⟨by omega, ClTo.next (And.right ‹_ ∧ ClTo L _ _›) ‹L[j]? = some _› (by unfold clash; simp_all)⟩
theorem z_c_spec_l30Good_74 (L : List Visit) (nL : Nat) (hbdL : (nL : Int) ≤ 9223372036854775807) (hleL : nL = L.length) (k : Nat) (hi7 : k ≤ nL ∧ VsTo L k) (h8 : (k : Int) < (nL : Int)) (h9 : (k : Int) ≤ 15) (x10 : Visit) (hx11 : L[k]? = some x10) (h26 : VOK x10) (h32 : 0 < (k : Int)) (x33 : Visit) (hx35 : L[k - 1]? = some x33) (h40 : ¬ (x10.From < x33.From)) (j : Nat) (hi49 : j ≤ k ∧ ClTo L x10 j) (h51 : (j : Int) < (k : Int)) (x52 : Visit) (hx53 : L[j]? = some x52) (h54 : ¬ (meetV x52 x10.From x10.Until)) : k - (j + 1) < k - j := by
  omega
theorem z_c_spec_l30Good_75 (L : List Visit) (nL : Nat) (hbdL : (nL : Int) ≤ 9223372036854775807) (hleL : nL = L.length) (k : Nat) (hi7 : k ≤ nL ∧ VsTo L k) (h8 : (k : Int) < (nL : Int)) (h9 : (k : Int) ≤ 15) (x10 : Visit) (hx11 : L[k]? = some x10) (h26 : VOK x10) (h32 : 0 < (k : Int)) (x33 : Visit) (hx35 : L[k - 1]? = some x33) (h40 : ¬ (x10.From < x33.From)) (j : Nat) (hi49 : j ≤ k ∧ ClTo L x10 j) (h51 : ¬ ((j : Int) < (k : Int))) : k + 1 ≤ nL ∧ VsTo L (k + 1) := by
  refine ⟨by omega, vs_next (And.right ‹_ ∧ VsTo L _›) ‹L[k]? = some _› ?_⟩
  obtain rfl : j = k := by omega
  first | exact vstep_of (by simp_all) ‹_› (And.right ‹_ ∧ ClTo L _ _›) | exact vstep_of' (by simp_all) ‹L[j - 1]? = some _› (by omega) (And.right ‹_ ∧ ClTo L _ _›)
theorem z_c_spec_l30Good_76 (L : List Visit) (nL : Nat) (hbdL : (nL : Int) ≤ 9223372036854775807) (hleL : nL = L.length) (k : Nat) (hi7 : k ≤ nL ∧ VsTo L k) (h8 : (k : Int) < (nL : Int)) (h9 : (k : Int) ≤ 15) (x10 : Visit) (hx11 : L[k]? = some x10) (h26 : VOK x10) (h32 : 0 < (k : Int)) (x33 : Visit) (hx35 : L[k - 1]? = some x33) (h40 : ¬ (x10.From < x33.From)) (j : Nat) (hi49 : j ≤ k ∧ ClTo L x10 j) (h51 : ¬ ((j : Int) < (k : Int))) : nL - (k + 1) < nL - k := by
  omega
theorem z_c_spec_l30Good_81 (L : List Visit) (nL : Nat) (hbdL : (nL : Int) ≤ 9223372036854775807) (hleL : nL = L.length) (k : Nat) (hi7 : k ≤ nL ∧ VsTo L k) (h8 : (k : Int) < (nL : Int)) (h9 : (k : Int) ≤ 15) (x10 : Visit) (hx11 : L[k]? = some x10) (h26 : VOK x10) (h32 : ¬ (0 < (k : Int))) : 0 ≤ k ∧ ClTo L x10 0 := by
  exact ⟨Nat.zero_le _, ClTo.zero⟩
theorem z_c_spec_l30Good_99 (L : List Visit) (nL : Nat) (hbdL : (nL : Int) ≤ 9223372036854775807) (hleL : nL = L.length) (k : Nat) (hi7 : k ≤ nL ∧ VsTo L k) (h8 : (k : Int) < (nL : Int)) (h9 : (k : Int) ≤ 15) (x10 : Visit) (hx11 : L[k]? = some x10) (h26 : VOK x10) (h32 : ¬ (0 < (k : Int))) (j : Nat) (hi88 : j ≤ k ∧ ClTo L x10 j) (h90 : (j : Int) < (k : Int)) (x91 : Visit) (hx92 : L[j]? = some x91) (h93 : meetV x91 x10.From x10.Until) (h94 : x91.Seat = x10.Seat) : ¬ (VsOK L) := by
  first | exact vs_end (And.right ‹_ ∧ VsTo L _›) hleL (by omega) | exact fun hr => (hr.1 _ _ ‹L[k]? = some _›).2.2 j _ (by omega) ‹L[j]? = some _› (by unfold clash; simp_all) | exact fun hr => (by have hs := hr.1 _ _ ‹L[k]? = some _›; first | exact ‹¬ VOK _› hs.1 | (have := hs.2.1 _ (by omega) ‹L[k - 1]? = some _›; omega))
theorem z_c_spec_l30Good_105 (L : List Visit) (nL : Nat) (hbdL : (nL : Int) ≤ 9223372036854775807) (hleL : nL = L.length) (k : Nat) (hi7 : k ≤ nL ∧ VsTo L k) (h8 : (k : Int) < (nL : Int)) (h9 : (k : Int) ≤ 15) (x10 : Visit) (hx11 : L[k]? = some x10) (h26 : VOK x10) (h32 : ¬ (0 < (k : Int))) (j : Nat) (hi88 : j ≤ k ∧ ClTo L x10 j) (h90 : (j : Int) < (k : Int)) (x91 : Visit) (hx92 : L[j]? = some x91) (h93 : meetV x91 x10.From x10.Until) (h94 : ¬ (x91.Seat = x10.Seat)) (h104 : x91.Reader = x10.Reader) : ¬ (VsOK L) := by
  first | exact vs_end (And.right ‹_ ∧ VsTo L _›) hleL (by omega) | exact fun hr => (hr.1 _ _ ‹L[k]? = some _›).2.2 j _ (by omega) ‹L[j]? = some _› (by unfold clash; simp_all) | exact fun hr => (by have hs := hr.1 _ _ ‹L[k]? = some _›; first | exact ‹¬ VOK _› hs.1 | (have := hs.2.1 _ (by omega) ‹L[k - 1]? = some _›; omega))
theorem z_c_spec_l30Good_106 (L : List Visit) (nL : Nat) (hbdL : (nL : Int) ≤ 9223372036854775807) (hleL : nL = L.length) (k : Nat) (hi7 : k ≤ nL ∧ VsTo L k) (h8 : (k : Int) < (nL : Int)) (h9 : (k : Int) ≤ 15) (x10 : Visit) (hx11 : L[k]? = some x10) (h26 : VOK x10) (h32 : ¬ (0 < (k : Int))) (j : Nat) (hi88 : j ≤ k ∧ ClTo L x10 j) (h90 : (j : Int) < (k : Int)) (x91 : Visit) (hx92 : L[j]? = some x91) (h93 : meetV x91 x10.From x10.Until) (h94 : ¬ (x91.Seat = x10.Seat)) (h104 : ¬ (x91.Reader = x10.Reader)) : j + 1 ≤ k ∧ ClTo L x10 (j + 1) := by
  exact ⟨by omega, ClTo.next (And.right ‹_ ∧ ClTo L _ _›) ‹L[j]? = some _› (by unfold clash; simp_all)⟩
theorem z_c_spec_l30Good_107 (L : List Visit) (nL : Nat) (hbdL : (nL : Int) ≤ 9223372036854775807) (hleL : nL = L.length) (k : Nat) (hi7 : k ≤ nL ∧ VsTo L k) (h8 : (k : Int) < (nL : Int)) (h9 : (k : Int) ≤ 15) (x10 : Visit) (hx11 : L[k]? = some x10) (h26 : VOK x10) (h32 : ¬ (0 < (k : Int))) (j : Nat) (hi88 : j ≤ k ∧ ClTo L x10 j) (h90 : (j : Int) < (k : Int)) (x91 : Visit) (hx92 : L[j]? = some x91) (h93 : meetV x91 x10.From x10.Until) (h94 : ¬ (x91.Seat = x10.Seat)) (h104 : ¬ (x91.Reader = x10.Reader)) : k - (j + 1) < k - j := by
  omega
theorem z_c_spec_l30Good_112 (L : List Visit) (nL : Nat) (hbdL : (nL : Int) ≤ 9223372036854775807) (hleL : nL = L.length) (k : Nat) (hi7 : k ≤ nL ∧ VsTo L k) (h8 : (k : Int) < (nL : Int)) (h9 : (k : Int) ≤ 15) (x10 : Visit) (hx11 : L[k]? = some x10) (h26 : VOK x10) (h32 : ¬ (0 < (k : Int))) (j : Nat) (hi88 : j ≤ k ∧ ClTo L x10 j) (h90 : (j : Int) < (k : Int)) (x91 : Visit) (hx92 : L[j]? = some x91) (h93 : ¬ (meetV x91 x10.From x10.Until)) : j + 1 ≤ k ∧ ClTo L x10 (j + 1) := by
  exact ⟨by omega, ClTo.next (And.right ‹_ ∧ ClTo L _ _›) ‹L[j]? = some _› (by unfold clash; simp_all)⟩
theorem z_c_spec_l30Good_113 (L : List Visit) (nL : Nat) (hbdL : (nL : Int) ≤ 9223372036854775807) (hleL : nL = L.length) (k : Nat) (hi7 : k ≤ nL ∧ VsTo L k) (h8 : (k : Int) < (nL : Int)) (h9 : (k : Int) ≤ 15) (x10 : Visit) (hx11 : L[k]? = some x10) (h26 : VOK x10) (h32 : ¬ (0 < (k : Int))) (j : Nat) (hi88 : j ≤ k ∧ ClTo L x10 j) (h90 : (j : Int) < (k : Int)) (x91 : Visit) (hx92 : L[j]? = some x91) (h93 : ¬ (meetV x91 x10.From x10.Until)) : k - (j + 1) < k - j := by
  omega
theorem z_c_spec_l30Good_114 (L : List Visit) (nL : Nat) (hbdL : (nL : Int) ≤ 9223372036854775807) (hleL : nL = L.length) (k : Nat) (hi7 : k ≤ nL ∧ VsTo L k) (h8 : (k : Int) < (nL : Int)) (h9 : (k : Int) ≤ 15) (x10 : Visit) (hx11 : L[k]? = some x10) (h26 : VOK x10) (h32 : ¬ (0 < (k : Int))) (j : Nat) (hi88 : j ≤ k ∧ ClTo L x10 j) (h90 : ¬ ((j : Int) < (k : Int))) : k + 1 ≤ nL ∧ VsTo L (k + 1) := by
  refine ⟨by omega, vs_next (And.right ‹_ ∧ VsTo L _›) ‹L[k]? = some _› ?_⟩
  obtain rfl : j = k := by omega
  first | exact vstep_of (by simp_all) ‹_› (And.right ‹_ ∧ ClTo L _ _›) | exact vstep_of' (by simp_all) ‹L[j - 1]? = some _› (by omega) (And.right ‹_ ∧ ClTo L _ _›)
theorem z_c_spec_l30Good_115 (L : List Visit) (nL : Nat) (hbdL : (nL : Int) ≤ 9223372036854775807) (hleL : nL = L.length) (k : Nat) (hi7 : k ≤ nL ∧ VsTo L k) (h8 : (k : Int) < (nL : Int)) (h9 : (k : Int) ≤ 15) (x10 : Visit) (hx11 : L[k]? = some x10) (h26 : VOK x10) (h32 : ¬ (0 < (k : Int))) (j : Nat) (hi88 : j ≤ k ∧ ClTo L x10 j) (h90 : ¬ ((j : Int) < (k : Int))) : nL - (k + 1) < nL - k := by
  omega
theorem z_c_spec_l30Good_116 (L : List Visit) (nL : Nat) (hbdL : (nL : Int) ≤ 9223372036854775807) (hleL : nL = L.length) (k : Nat) (hi7 : k ≤ nL ∧ VsTo L k) (h8 : (k : Int) < (nL : Int)) (h9 : ¬ ((k : Int) ≤ 15)) : ((nL : Int) ≤ 15) ↔ (VsOK L) := by
  first | exact vs_end (And.right ‹_ ∧ VsTo L _›) hleL (by omega) | exact fun hr => (hr.1 _ _ ‹L[k]? = some _›).2.2 j _ (by omega) ‹L[j]? = some _› (by unfold clash; simp_all) | exact fun hr => (by have hs := hr.1 _ _ ‹L[k]? = some _›; first | exact ‹¬ VOK _› hs.1 | (have := hs.2.1 _ (by omega) ‹L[k - 1]? = some _›; omega))
theorem z_c_spec_l30Good_117 (L : List Visit) (nL : Nat) (hbdL : (nL : Int) ≤ 9223372036854775807) (hleL : nL = L.length) (k : Nat) (hi7 : k ≤ nL ∧ VsTo L k) (h8 : ¬ ((k : Int) < (nL : Int))) : ((nL : Int) ≤ 15) ↔ (VsOK L) := by
  first | exact vs_end (And.right ‹_ ∧ VsTo L _›) hleL (by omega) | exact fun hr => (hr.1 _ _ ‹L[k]? = some _›).2.2 j _ (by omega) ‹L[j]? = some _› (by unfold clash; simp_all) | exact fun hr => (by have hs := hr.1 _ _ ‹L[k]? = some _›; first | exact ‹¬ VOK _› hs.1 | (have := hs.2.1 _ (by omega) ‹L[k - 1]? = some _›; omega))
theorem c_spec_l30Good (w : World) {AL : Option Addr} {nL cL BL : Nat}  (L : List Visit) (hL : SlR w BL encVisit 4 AL nL cL L) : Calls Try.prog 42 #[.slice AL nL cL] w fun e w' => e = .returned (.bool (decide (VsOK L))) ∧ Lo w w' := by
  refine calls_W 75 Try.func42 rfl rfl rfl ?_
  have hbdL := hL.bound
  have hleL := hL.len
  have hBbL := hL.bd
  refine W.seq ?_
  refine W.regS (SR.q' (r_as (v := .bool false) rfl) <| SR.nil ?_)
  refine W.seq ?_
  refine W.seq ?_
  refine W.regS (SR.q' (r_as (v := .int .i64 0) rfl) <| SR.nil ?_)
  refine W.block ?_
  refine W.loop (σ := Nat) (fun g => [(0, .slice AL nL cL), (3, .int .i64 (g : Int))]) (fun g w' => (Lo w w') ∧ (SlR w' BL encVisit 4 AL nL cL L) ∧ (g ≤ nL ∧ VsTo L g)) (fun g => nL - g) 0 ?_ ?_ ?_
  · exact ⟨rfl, rfl, trivial⟩
  · exact ⟨(Lo.refl w), hL, (z_c_spec_l30Good_1 L nL hbdL hleL)⟩
  · rintro k f2 w3 hP5
    obtain ⟨hB4, hm6, hi7⟩ : (Lo w w3) ∧ (SlR w3 BL encVisit 4 AL nL cL L) ∧ (k ≤ nL ∧ VsTo L k) := hP5
    refine (?_ : W _ _ _ _ _ (act _ (sets f2 [(0, .slice AL nL cL), (3, .int .i64 (k : Int))])) _)
    have hzw3 := hB4.size
    refine W.seq ?_
    refine W.seq ?_
    refine W.regS (SR.q' (r_mv (v := .int .i64 _) rfl) <| SR.q' (r_mv (v := .slice _ _ _) rfl) <| SR.q' (r_len und24 rfl) <| SR.q' (r_lt rfl rfl) <| SR.q' (r_mv (v := .bool _) rfl) <| SR.splitD (fun h8 => ?_) (fun h8 => ?_))
    · refine SR.g' rfl (r_mv (v := .int .i64 _) rfl) <| SR.g' rfl (r_le rfl rfl) <| SR.q' (r_pick true rfl (v := .bool _) rfl) <| SR.nil ?_
      refine W.cond_d rfl (fun h9 => ?_) (fun h9 => ?_)
      · refine W.skip ?_
        refine W.seq ?_
        refine W.block ?_
        refine W.seq ?_
        refine W.regS (SR.q' (r_mv (v := .slice _ _ _) rfl) <| SR.q' (r_mv (v := .int .i64 _) rfl) <| ?_)
        obtain ⟨x10, hx11⟩ := (hm6).get (i := k) (by omega)
        refine SR.q' (r_ixR tsl24 (hm6) rfl rfl (by omega)) <| SR.q' (r_lda (l := encVisit x10) agg59 rfl (fun _ _ hu => (hm6).cell hx11 hu) ((hm6).esz _)) <| SR.alloc (l := [.int .i64 0, .int .i64 0, .int .i64 0, .int .i64 0]) tz59 rfl ?_
        intro g12 w13 hg14 hk15 hs16 hb17
        have hz18 := hk15.size
        have hB19 := hB4.lo hk15
        refine SR.store (o := 0) (vs := [.int .i64 x10.Reader, .int .i64 x10.Seat, .int .i64 x10.From, .int .i64 x10.Until]) agg59.2 rfl rfl rfl rfl (hb17) (Nat.le_of_ble_eq_true rfl) rfl ?_
        intro w20 hk21 hs22 hb23
        have hz24 := hk21.size
        have hB25 := hB19.new hk21 (by omega)
        refine SR.nil ?_
        refine W.seq ?_
        refine W.seq ?_
        refine W.regD mo (by kernel_rfl) (QR.q' (fun w' hw' => r_lda (l := [.int .i64 x10.Reader, .int .i64 x10.Seat, .int .i64 x10.From, .int .i64 x10.Until]) agg59 rfl (fun _ _ hu => ((hb23).lo hw').cell hu) rfl) <| QR.call ent71 (fun w' hw' => (c_spec_l30One w' x10).mono fun _ _ h => ⟨h.1, hw'.trans h.2⟩) rfl <| QR.q' (fun w' hw' => r_not rfl) <| QR.q' (fun w' hw' => r_mv (v := .bool _) rfl) <| QR.splitN (fun h26 => ?_) (fun h26 => ?_))
        · refine QR.s' rfl <| QR.s' rfl <| QR.s' rfl <| QR.u' rfl <| QR.u' rfl <| QR.u' rfl <| QR.u' rfl <| QR.u' rfl <| QR.u' rfl <| QR.u' rfl <| QR.u' rfl <| QR.u' rfl <| QR.s' rfl <| QR.q' (fun w' hw' => r_pick true rfl (v := .bool true) rfl) <| QR.nil ?_
          intro w27 hk28
          have hz29 := hk28.size
          have hB30 := hB25.lo hk28
          refine W.cond_t rfl ?_
          refine W.seq ?_
          refine W.regS (SR.q' (r_as (v := .bool false) rfl) <| SR.nil ?_)
          refine W.ret ?_
          refine ret1 rfl (v := .bool _) rfl ?_
          exact ⟨eR (eDF (z_c_spec_l30Good_31 L nL hbdL hleL k hi7 h8 h9 x10 hx11 h26)), hB30⟩
        · refine QR.g' rfl (fun w' hw' => r_mv (v := .int .i64 _) rfl) <| QR.g' rfl (fun w' hw' => r_gt rfl rfl) <| QR.g' rfl (fun w' hw' => r_mv (v := .bool _) rfl) <| QR.splitD (fun h32 => ?_) (fun h32 => ?_)
          · refine QR.g' rfl (fun w' hw' => r_mv (v := .slice _ _ _) rfl) <| QR.g' rfl (fun w' hw' => r_mv (v := .int .i64 _) rfl) <| QR.g' rfl (fun w' hw' => r_sub rfl rfl (by omega)) <| ?_
            obtain ⟨x33, hx34⟩ := (((hm6).lo hk15).kp hk21 (fun b_ hb e' => by have e'' : b_ = g12 := e'; omega)).get (i := ((k : Int) - 1).toNat) (by omega)
            have hx35 : L[k - 1]? = some x33 := (show ((k : Int) - 1).toNat = k - 1 from by omega) ▸ hx34
            refine QR.g' rfl (fun w' hw' => r_ixR tsl24 (((((hm6).lo hk15).kp hk21 (fun b_ hb e' => by have e'' : b_ = g12 := e'; omega)).lo hw')) rfl rfl (by omega)) <| QR.g' rfl (fun w' hw' => r_fa fa59_2 rfl) <| QR.g' rfl (fun w' hw' => r_ld (v := .int .i64 x33.From) sca3 rfl ((((((hm6).lo hk15).kp hk21 (fun b_ hb e' => by have e'' : b_ = g12 := e'; omega)).lo hw')).cell hx34 rfl)) <| QR.g' rfl (fun w' hw' => r_fa fa59_2 rfl) <| QR.g' rfl (fun w' hw' => r_ld (v := .int .i64 x10.From) sca3 rfl (((hb23).lo hw').cell rfl)) <| QR.g' rfl (fun w' hw' => r_gt rfl rfl) <| QR.g' rfl (fun w' hw' => r_pick true rfl (v := .bool _) rfl) <| QR.q' (fun w' hw' => r_pick false rfl (v := .bool _) rfl) <| QR.nil ?_
            intro w36 hk37
            have hz38 := hk37.size
            have hB39 := hB25.lo hk37
            refine W.cond_d rfl (fun h40 => ?_) (fun h40 => ?_)
            · refine W.seq ?_
              refine W.regS (SR.q' (r_as (v := .bool false) rfl) <| SR.nil ?_)
              refine W.ret ?_
              refine ret1 rfl (v := .bool _) rfl ?_
              exact ⟨eR (eDF (z_c_spec_l30Good_41 L nL hbdL hleL k hi7 h8 h9 x10 hx11 h26 h32 x33 hx35 h40)), hB39⟩
            · refine W.skip ?_
              refine W.seq ?_
              refine W.regS (SR.q' (r_as (v := .int .i64 0) rfl) <| SR.nil ?_)
              refine W.block ?_
              refine W.loop (σ := Nat) (fun g => [(0, .slice AL nL cL), (3, .int .i64 (k : Int)), (4, .pointer (some ((⟨g12, 0, none⟩ : Addr)))), (5, .int .i64 (g : Int))]) (fun g w' => (Lo w w') ∧ (SlR w' BL encVisit 4 AL nL cL L) ∧ (Blk w' g12 59 [.int .i64 x10.Reader, .int .i64 x10.Seat, .int .i64 x10.From, .int .i64 x10.Until]) ∧ (g ≤ k ∧ ClTo L x10 g)) (fun g => k - g) 0 ?_ ?_ ?_
              · exact ⟨rfl, rfl, rfl, rfl, trivial⟩
              · exact ⟨hB39, (((hm6).lo hk15).kp hk21 (fun b_ hb e' => by have e'' : b_ = g12 := e'; omega)).lo hk37, (hb23).lo hk37, (z_c_spec_l30Good_42 L nL hbdL hleL k hi7 h8 h9 x10 hx11 h26 h32 x33 hx35 h40)⟩
              · rintro j f43 w44 hP46
                obtain ⟨hB45, hm47, hm48, hi49⟩ : (Lo w w44) ∧ (SlR w44 BL encVisit 4 AL nL cL L) ∧ (Blk w44 g12 59 [.int .i64 x10.Reader, .int .i64 x10.Seat, .int .i64 x10.From, .int .i64 x10.Until]) ∧ (j ≤ k ∧ ClTo L x10 j) := hP46
                refine (?_ : W _ _ _ _ _ (act _ (sets f43 [(0, .slice AL nL cL), (3, .int .i64 (k : Int)), (4, .pointer (some ((⟨g12, 0, none⟩ : Addr)))), (5, .int .i64 (j : Int))])) _)
                have hzw44 := hB45.size
                have hl50 := hm48.lt
                refine W.seq ?_
                refine W.seq ?_
                refine W.regS (SR.q' (r_mv (v := .int .i64 _) rfl) <| SR.q' (r_mv (v := .int .i64 _) rfl) <| SR.q' (r_lt rfl rfl) <| SR.nil ?_)
                refine W.cond_d rfl (fun h51 => ?_) (fun h51 => ?_)
                · refine W.skip ?_
                  refine W.seq ?_
                  refine W.block ?_
                  refine W.seq ?_
                  refine W.regD mo (by kernel_rfl) (QR.q' (fun w' hw' => r_mv (v := .slice _ _ _) rfl) <| QR.q' (fun w' hw' => r_mv (v := .int .i64 _) rfl) <| ?_)
                  obtain ⟨x52, hx53⟩ := (hm47).get (i := j) (by omega)
                  refine QR.q' (fun w' hw' => r_ixR tsl24 (((hm47).lo hw')) rfl rfl (by omega)) <| QR.q' (fun w' hw' => r_lda (l := encVisit x52) agg59 rfl (fun _ _ hu => (((hm47).lo hw')).cell hx53 hu) ((((hm47).lo hw')).esz _)) <| QR.q' (fun w' hw' => r_fa fa59_2 rfl) <| QR.q' (fun w' hw' => r_ld (v := .int .i64 x10.From) sca3 rfl (((hm48).lo hw').cell rfl)) <| QR.q' (fun w' hw' => r_fa fa59_3 rfl) <| QR.q' (fun w' hw' => r_ld (v := .int .i64 x10.Until) sca3 rfl (((hm48).lo hw').cell rfl)) <| QR.call ent72 (fun w' hw' => (c_spec_l30Meet w' x52 x10.From x10.Until).mono fun _ _ h => ⟨h.1, hw'.trans h.2⟩) rfl <| QR.q' (fun w' hw' => r_mv (v := .bool _) rfl) <| QR.splitD (fun h54 => ?_) (fun h54 => ?_)
                  · refine QR.g' rfl (fun w' hw' => r_mv (v := .slice _ _ _) rfl) <| QR.g' rfl (fun w' hw' => r_mv (v := .int .i64 _) rfl) <| QR.g' rfl (fun w' hw' => r_ixR tsl24 (((hm47).lo hw')) rfl rfl (by omega)) <| QR.g' rfl (fun w' hw' => r_fa fa59_1 rfl) <| QR.g' rfl (fun w' hw' => r_ld (v := .int .i64 x52.Seat) sca3 rfl ((((hm47).lo hw')).cell hx53 rfl)) <| QR.g' rfl (fun w' hw' => r_fa fa59_1 rfl) <| QR.g' rfl (fun w' hw' => r_ld (v := .int .i64 x10.Seat) sca3 rfl (((hm48).lo hw').cell rfl)) <| QR.g' rfl (fun w' hw' => r_eq rfl rfl) <| QR.g' rfl (fun w' hw' => r_mv (v := .bool _) rfl) <| QR.splitD (fun h55 => ?_) (fun h55 => ?_)
                    · refine QR.s' rfl <| QR.s' rfl <| QR.s' rfl <| QR.s' rfl <| QR.s' rfl <| QR.s' rfl <| QR.s' rfl <| QR.s' rfl <| QR.g' rfl (fun w' hw' => r_pick true rfl (v := .bool true) rfl) <| QR.q' (fun w' hw' => r_pick true rfl (v := .bool _) rfl) <| QR.nil ?_
                      intro w56 hk57
                      have hz58 := hk57.size
                      have hB59 := hB45.lo hk57
                      refine W.cond_t rfl ?_
                      refine W.seq ?_
                      refine W.regS (SR.q' (r_as (v := .bool false) rfl) <| SR.nil ?_)
                      refine W.ret ?_
                      refine ret1 rfl (v := .bool _) rfl ?_
                      exact ⟨eR (eDF (z_c_spec_l30Good_60 L nL hbdL hleL k hi7 h8 h9 x10 hx11 h26 h32 x33 hx35 h40 j hi49 h51 x52 hx53 h54 h55)), hB59⟩
                    · refine QR.g' rfl (fun w' hw' => r_mv (v := .slice _ _ _) rfl) <| QR.g' rfl (fun w' hw' => r_mv (v := .int .i64 _) rfl) <| QR.g' rfl (fun w' hw' => r_ixR tsl24 (((hm47).lo hw')) rfl rfl (by omega)) <| QR.g' rfl (fun w' hw' => r_fa fa59_0 rfl) <| QR.g' rfl (fun w' hw' => r_ld (v := .int .i64 x52.Reader) sca3 rfl ((((hm47).lo hw')).cell hx53 rfl)) <| QR.g' rfl (fun w' hw' => r_fa fa59_0 rfl) <| QR.g' rfl (fun w' hw' => r_ld (v := .int .i64 x10.Reader) sca3 rfl (((hm48).lo hw').cell rfl)) <| QR.g' rfl (fun w' hw' => r_eq rfl rfl) <| QR.g' rfl (fun w' hw' => r_pick false rfl (v := .bool _) rfl) <| QR.q' (fun w' hw' => r_pick true rfl (v := .bool _) rfl) <| QR.nil ?_
                      intro w61 hk62
                      have hz63 := hk62.size
                      have hB64 := hB45.lo hk62
                      refine W.cond_d rfl (fun h65 => ?_) (fun h65 => ?_)
                      · refine W.seq ?_
                        refine W.regS (SR.q' (r_as (v := .bool false) rfl) <| SR.nil ?_)
                        refine W.ret ?_
                        refine ret1 rfl (v := .bool _) rfl ?_
                        exact ⟨eR (eDF (z_c_spec_l30Good_66 L nL hbdL hleL k hi7 h8 h9 x10 hx11 h26 h32 x33 hx35 h40 j hi49 h51 x52 hx53 h54 h55 h65)), hB64⟩
                      · refine W.skip ?_
                        refine W.regS (SR.q' (r_mv (v := .int .i64 _) rfl) <| SR.q' (r_add rfl rfl (by omega)) <| SR.q' (r_as (v := .int .i64 _) rfl) <| SR.nil ?_)
                        refine ⟨j + 1, _, rfl, ⟨rfl, rfl, rfl, rfl, trivial⟩, ⟨hB64, (hm47).lo hk62, (hm48).lo hk62, ?_⟩, ?_⟩
                        · exact (z_c_spec_l30Good_67 L nL hbdL hleL k hi7 h8 h9 x10 hx11 h26 h32 x33 hx35 h40 j hi49 h51 x52 hx53 h54 h55 h65)
                        · exact (z_c_spec_l30Good_68 L nL hbdL hleL k hi7 h8 h9 x10 hx11 h26 h32 x33 hx35 h40 j hi49 h51 x52 hx53 h54 h55 h65)
                  · refine QR.s' rfl <| QR.s' rfl <| QR.s' rfl <| QR.s' rfl <| QR.s' rfl <| QR.s' rfl <| QR.s' rfl <| QR.s' rfl <| QR.s' rfl <| QR.u' rfl <| QR.u' rfl <| QR.u' rfl <| QR.u' rfl <| QR.u' rfl <| QR.u' rfl <| QR.u' rfl <| QR.u' rfl <| QR.s' rfl <| QR.q' (fun w' hw' => r_pick false rfl (v := .bool false) rfl) <| QR.nil ?_
                    intro w69 hk70
                    have hz71 := hk70.size
                    have hB72 := hB45.lo hk70
                    refine W.cond_f rfl ?_
                    refine W.skip ?_
                    refine W.regS (SR.q' (r_mv (v := .int .i64 _) rfl) <| SR.q' (r_add rfl rfl (by omega)) <| SR.q' (r_as (v := .int .i64 _) rfl) <| SR.nil ?_)
                    refine ⟨j + 1, _, rfl, ⟨rfl, rfl, rfl, rfl, trivial⟩, ⟨hB72, (hm47).lo hk70, (hm48).lo hk70, ?_⟩, ?_⟩
                    · exact (z_c_spec_l30Good_73 L nL hbdL hleL k hi7 h8 h9 x10 hx11 h26 h32 x33 hx35 h40 j hi49 h51 x52 hx53 h54)
                    · exact (z_c_spec_l30Good_74 L nL hbdL hleL k hi7 h8 h9 x10 hx11 h26 h32 x33 hx35 h40 j hi49 h51 x52 hx53 h54)
                · refine W.exit (xin_here ?_)
                  refine W.regS (SR.q' (r_mv (v := .int .i64 _) rfl) <| SR.q' (r_add rfl rfl (by omega)) <| SR.q' (r_as (v := .int .i64 _) rfl) <| SR.nil ?_)
                  refine ⟨k + 1, _, rfl, ⟨rfl, rfl, trivial⟩, ⟨hB45, hm47, ?_⟩, ?_⟩
                  · exact (z_c_spec_l30Good_75 L nL hbdL hleL k hi7 h8 h9 x10 hx11 h26 h32 x33 hx35 h40 j hi49 h51)
                  · exact (z_c_spec_l30Good_76 L nL hbdL hleL k hi7 h8 h9 x10 hx11 h26 h32 x33 hx35 h40 j hi49 h51)
          · refine QR.s' rfl <| QR.s' rfl <| QR.s' rfl <| QR.s' rfl <| QR.s' rfl <| QR.s' rfl <| QR.s' rfl <| QR.s' rfl <| QR.s' rfl <| QR.g' rfl (fun w' hw' => r_pick false rfl (v := .bool false) rfl) <| QR.q' (fun w' hw' => r_pick false rfl (v := .bool _) rfl) <| QR.nil ?_
            intro w77 hk78
            have hz79 := hk78.size
            have hB80 := hB25.lo hk78
            refine W.cond_f rfl ?_
            refine W.skip ?_
            refine W.seq ?_
            refine W.regS (SR.q' (r_as (v := .int .i64 0) rfl) <| SR.nil ?_)
            refine W.block ?_
            refine W.loop (σ := Nat) (fun g => [(0, .slice AL nL cL), (3, .int .i64 (k : Int)), (4, .pointer (some ((⟨g12, 0, none⟩ : Addr)))), (5, .int .i64 (g : Int))]) (fun g w' => (Lo w w') ∧ (SlR w' BL encVisit 4 AL nL cL L) ∧ (Blk w' g12 59 [.int .i64 x10.Reader, .int .i64 x10.Seat, .int .i64 x10.From, .int .i64 x10.Until]) ∧ (g ≤ k ∧ ClTo L x10 g)) (fun g => k - g) 0 ?_ ?_ ?_
            · exact ⟨rfl, rfl, rfl, rfl, trivial⟩
            · exact ⟨hB80, (((hm6).lo hk15).kp hk21 (fun b_ hb e' => by have e'' : b_ = g12 := e'; omega)).lo hk78, (hb23).lo hk78, (z_c_spec_l30Good_81 L nL hbdL hleL k hi7 h8 h9 x10 hx11 h26 h32)⟩
            · rintro j f82 w83 hP85
              obtain ⟨hB84, hm86, hm87, hi88⟩ : (Lo w w83) ∧ (SlR w83 BL encVisit 4 AL nL cL L) ∧ (Blk w83 g12 59 [.int .i64 x10.Reader, .int .i64 x10.Seat, .int .i64 x10.From, .int .i64 x10.Until]) ∧ (j ≤ k ∧ ClTo L x10 j) := hP85
              refine (?_ : W _ _ _ _ _ (act _ (sets f82 [(0, .slice AL nL cL), (3, .int .i64 (k : Int)), (4, .pointer (some ((⟨g12, 0, none⟩ : Addr)))), (5, .int .i64 (j : Int))])) _)
              have hzw83 := hB84.size
              have hl89 := hm87.lt
              refine W.seq ?_
              refine W.seq ?_
              refine W.regS (SR.q' (r_mv (v := .int .i64 _) rfl) <| SR.q' (r_mv (v := .int .i64 _) rfl) <| SR.q' (r_lt rfl rfl) <| SR.nil ?_)
              refine W.cond_d rfl (fun h90 => ?_) (fun h90 => ?_)
              · refine W.skip ?_
                refine W.seq ?_
                refine W.block ?_
                refine W.seq ?_
                refine W.regD mo (by kernel_rfl) (QR.q' (fun w' hw' => r_mv (v := .slice _ _ _) rfl) <| QR.q' (fun w' hw' => r_mv (v := .int .i64 _) rfl) <| ?_)
                obtain ⟨x91, hx92⟩ := (hm86).get (i := j) (by omega)
                refine QR.q' (fun w' hw' => r_ixR tsl24 (((hm86).lo hw')) rfl rfl (by omega)) <| QR.q' (fun w' hw' => r_lda (l := encVisit x91) agg59 rfl (fun _ _ hu => (((hm86).lo hw')).cell hx92 hu) ((((hm86).lo hw')).esz _)) <| QR.q' (fun w' hw' => r_fa fa59_2 rfl) <| QR.q' (fun w' hw' => r_ld (v := .int .i64 x10.From) sca3 rfl (((hm87).lo hw').cell rfl)) <| QR.q' (fun w' hw' => r_fa fa59_3 rfl) <| QR.q' (fun w' hw' => r_ld (v := .int .i64 x10.Until) sca3 rfl (((hm87).lo hw').cell rfl)) <| QR.call ent72 (fun w' hw' => (c_spec_l30Meet w' x91 x10.From x10.Until).mono fun _ _ h => ⟨h.1, hw'.trans h.2⟩) rfl <| QR.q' (fun w' hw' => r_mv (v := .bool _) rfl) <| QR.splitD (fun h93 => ?_) (fun h93 => ?_)
                · refine QR.g' rfl (fun w' hw' => r_mv (v := .slice _ _ _) rfl) <| QR.g' rfl (fun w' hw' => r_mv (v := .int .i64 _) rfl) <| QR.g' rfl (fun w' hw' => r_ixR tsl24 (((hm86).lo hw')) rfl rfl (by omega)) <| QR.g' rfl (fun w' hw' => r_fa fa59_1 rfl) <| QR.g' rfl (fun w' hw' => r_ld (v := .int .i64 x91.Seat) sca3 rfl ((((hm86).lo hw')).cell hx92 rfl)) <| QR.g' rfl (fun w' hw' => r_fa fa59_1 rfl) <| QR.g' rfl (fun w' hw' => r_ld (v := .int .i64 x10.Seat) sca3 rfl (((hm87).lo hw').cell rfl)) <| QR.g' rfl (fun w' hw' => r_eq rfl rfl) <| QR.g' rfl (fun w' hw' => r_mv (v := .bool _) rfl) <| QR.splitD (fun h94 => ?_) (fun h94 => ?_)
                  · refine QR.s' rfl <| QR.s' rfl <| QR.s' rfl <| QR.s' rfl <| QR.s' rfl <| QR.s' rfl <| QR.s' rfl <| QR.s' rfl <| QR.g' rfl (fun w' hw' => r_pick true rfl (v := .bool true) rfl) <| QR.q' (fun w' hw' => r_pick true rfl (v := .bool _) rfl) <| QR.nil ?_
                    intro w95 hk96
                    have hz97 := hk96.size
                    have hB98 := hB84.lo hk96
                    refine W.cond_t rfl ?_
                    refine W.seq ?_
                    refine W.regS (SR.q' (r_as (v := .bool false) rfl) <| SR.nil ?_)
                    refine W.ret ?_
                    refine ret1 rfl (v := .bool _) rfl ?_
                    exact ⟨eR (eDF (z_c_spec_l30Good_99 L nL hbdL hleL k hi7 h8 h9 x10 hx11 h26 h32 j hi88 h90 x91 hx92 h93 h94)), hB98⟩
                  · refine QR.g' rfl (fun w' hw' => r_mv (v := .slice _ _ _) rfl) <| QR.g' rfl (fun w' hw' => r_mv (v := .int .i64 _) rfl) <| QR.g' rfl (fun w' hw' => r_ixR tsl24 (((hm86).lo hw')) rfl rfl (by omega)) <| QR.g' rfl (fun w' hw' => r_fa fa59_0 rfl) <| QR.g' rfl (fun w' hw' => r_ld (v := .int .i64 x91.Reader) sca3 rfl ((((hm86).lo hw')).cell hx92 rfl)) <| QR.g' rfl (fun w' hw' => r_fa fa59_0 rfl) <| QR.g' rfl (fun w' hw' => r_ld (v := .int .i64 x10.Reader) sca3 rfl (((hm87).lo hw').cell rfl)) <| QR.g' rfl (fun w' hw' => r_eq rfl rfl) <| QR.g' rfl (fun w' hw' => r_pick false rfl (v := .bool _) rfl) <| QR.q' (fun w' hw' => r_pick true rfl (v := .bool _) rfl) <| QR.nil ?_
                    intro w100 hk101
                    have hz102 := hk101.size
                    have hB103 := hB84.lo hk101
                    refine W.cond_d rfl (fun h104 => ?_) (fun h104 => ?_)
                    · refine W.seq ?_
                      refine W.regS (SR.q' (r_as (v := .bool false) rfl) <| SR.nil ?_)
                      refine W.ret ?_
                      refine ret1 rfl (v := .bool _) rfl ?_
                      exact ⟨eR (eDF (z_c_spec_l30Good_105 L nL hbdL hleL k hi7 h8 h9 x10 hx11 h26 h32 j hi88 h90 x91 hx92 h93 h94 h104)), hB103⟩
                    · refine W.skip ?_
                      refine W.regS (SR.q' (r_mv (v := .int .i64 _) rfl) <| SR.q' (r_add rfl rfl (by omega)) <| SR.q' (r_as (v := .int .i64 _) rfl) <| SR.nil ?_)
                      refine ⟨j + 1, _, rfl, ⟨rfl, rfl, rfl, rfl, trivial⟩, ⟨hB103, (hm86).lo hk101, (hm87).lo hk101, ?_⟩, ?_⟩
                      · exact (z_c_spec_l30Good_106 L nL hbdL hleL k hi7 h8 h9 x10 hx11 h26 h32 j hi88 h90 x91 hx92 h93 h94 h104)
                      · exact (z_c_spec_l30Good_107 L nL hbdL hleL k hi7 h8 h9 x10 hx11 h26 h32 j hi88 h90 x91 hx92 h93 h94 h104)
                · refine QR.s' rfl <| QR.s' rfl <| QR.s' rfl <| QR.s' rfl <| QR.s' rfl <| QR.s' rfl <| QR.s' rfl <| QR.s' rfl <| QR.s' rfl <| QR.u' rfl <| QR.u' rfl <| QR.u' rfl <| QR.u' rfl <| QR.u' rfl <| QR.u' rfl <| QR.u' rfl <| QR.u' rfl <| QR.s' rfl <| QR.q' (fun w' hw' => r_pick false rfl (v := .bool false) rfl) <| QR.nil ?_
                  intro w108 hk109
                  have hz110 := hk109.size
                  have hB111 := hB84.lo hk109
                  refine W.cond_f rfl ?_
                  refine W.skip ?_
                  refine W.regS (SR.q' (r_mv (v := .int .i64 _) rfl) <| SR.q' (r_add rfl rfl (by omega)) <| SR.q' (r_as (v := .int .i64 _) rfl) <| SR.nil ?_)
                  refine ⟨j + 1, _, rfl, ⟨rfl, rfl, rfl, rfl, trivial⟩, ⟨hB111, (hm86).lo hk109, (hm87).lo hk109, ?_⟩, ?_⟩
                  · exact (z_c_spec_l30Good_112 L nL hbdL hleL k hi7 h8 h9 x10 hx11 h26 h32 j hi88 h90 x91 hx92 h93)
                  · exact (z_c_spec_l30Good_113 L nL hbdL hleL k hi7 h8 h9 x10 hx11 h26 h32 j hi88 h90 x91 hx92 h93)
              · refine W.exit (xin_here ?_)
                refine W.regS (SR.q' (r_mv (v := .int .i64 _) rfl) <| SR.q' (r_add rfl rfl (by omega)) <| SR.q' (r_as (v := .int .i64 _) rfl) <| SR.nil ?_)
                refine ⟨k + 1, _, rfl, ⟨rfl, rfl, trivial⟩, ⟨hB84, hm86, ?_⟩, ?_⟩
                · exact (z_c_spec_l30Good_114 L nL hbdL hleL k hi7 h8 h9 x10 hx11 h26 h32 j hi88 h90)
                · exact (z_c_spec_l30Good_115 L nL hbdL hleL k hi7 h8 h9 x10 hx11 h26 h32 j hi88 h90)
      · refine W.exit (xin_here ?_)
        refine W.seq ?_
        refine W.regS (SR.q' (r_mv (v := .slice _ _ _) rfl) <| SR.q' (r_len und24 rfl) <| SR.q' (r_le rfl rfl) <| SR.q' (r_as (v := .bool _) rfl) <| SR.nil ?_)
        refine W.ret ?_
        refine ret1 rfl (v := .bool _) rfl ?_
        exact ⟨eR (eDD (z_c_spec_l30Good_116 L nL hbdL hleL k hi7 h8 h9)), hB4⟩
    · refine SR.s' rfl <| SR.s' rfl <| SR.q' (r_pick false rfl (v := .bool false) rfl) <| SR.nil ?_
      refine W.cond_f rfl ?_
      refine W.exit (xin_here ?_)
      refine W.seq ?_
      refine W.regS (SR.q' (r_mv (v := .slice _ _ _) rfl) <| SR.q' (r_len und24 rfl) <| SR.q' (r_le rfl rfl) <| SR.q' (r_as (v := .bool _) rfl) <| SR.nil ?_)
      refine W.ret ?_
      refine ret1 rfl (v := .bool _) rfl ?_
      exact ⟨eR (eDD (z_c_spec_l30Good_117 L nL hbdL hleL k hi7 h8)), hB4⟩
end Go.Proofs.Ythgbcadgnihdiaa
