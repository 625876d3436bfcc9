/- Walks, printed by a program of this claim's author. -/
import Derived.Test.YtdldiiboanhabaaDoorChecked
import Derived.Test.YtdldiiboanhabaaDoorVa
import Derived.Test.YtdldiiboanhabaaDoorSi
import Derived.Test.YtdldiiboanhabaaDoorFp
namespace Go.Proofs.YtdldiiboanhabaaDoor
open Go Go.RowKit Fw
set_option maxRecDepth 10000
set_option linter.unusedVariables false
theorem mo : Tryd.prog.follows .mixedOrders = true := by kernel_rfl
theorem agg23 : TAgg Tryd.prog 23 4 := ⟨fun _ => by kernel_rfl, fun _ => by kernel_rfl⟩
theorem agg26 : TAgg Tryd.prog 26 4 := ⟨fun _ => by kernel_rfl, fun _ => by kernel_rfl⟩
theorem ent13 : Ent Tryd.prog 13 := ent_of Tryd.func13 (by decide +kernel) rfl
theorem ent14 : Ent Tryd.prog 14 := ent_of Tryd.func14 (by decide +kernel) rfl
theorem ent15 : Ent Tryd.prog 15 := ent_of Tryd.func15 (by decide +kernel) rfl
theorem ent46 : Ent Tryd.prog 46 := ent_of Tryd.func46 (by decide +kernel) rfl
theorem ent47 : Ent Tryd.prog 47 := ent_of Tryd.func47 (by decide +kernel) rfl
theorem ent48 : Ent Tryd.prog 48 := ent_of Tryd.func48 (by decide +kernel) rfl
theorem ent49 : Ent Tryd.prog 49 := ent_of Tryd.func49 (by decide +kernel) rfl
theorem ent50 : Ent Tryd.prog 50 := ent_of Tryd.func50 (by decide +kernel) rfl
theorem ent51 : Ent Tryd.prog 51 := ent_of Tryd.func51 (by decide +kernel) rfl
theorem ent60 : Ent Tryd.prog 60 := ent_of Tryd.func60 (by decide +kernel) rfl
theorem ent63 : Ent Tryd.prog 63 := ent_of Tryd.func63 (by decide +kernel) rfl
theorem ent71 : Ent Tryd.prog 71 := ent_of Tryd.func71 (by decide +kernel) rfl
theorem ent72 : Ent Tryd.prog 72 := ent_of Tryd.func72 (by decide +kernel) rfl
theorem ent73 : Ent Tryd.prog 73 := ent_of Tryd.func73 (by decide +kernel) rfl
theorem ent74 : Ent Tryd.prog 74 := ent_of Tryd.func74 (by decide +kernel) rfl
theorem ent75 : Ent Tryd.prog 75 := ent_of Tryd.func75 (by decide +kernel) rfl
theorem ent76 : Ent Tryd.prog 76 := ent_of Tryd.func76 (by decide +kernel) rfl
theorem ent77 : Ent Tryd.prog 77 := ent_of Tryd.func77 (by decide +kernel) rfl
theorem ent78 : Ent Tryd.prog 78 := ent_of Tryd.func78 (by decide +kernel) rfl
theorem ent90 : Ent Tryd.prog 90 := ent_of Tryd.func90 (by decide +kernel) rfl
theorem ent91 : Ent Tryd.prog 91 := ent_of Tryd.func91 (by decide +kernel) rfl
theorem fa23_0 : FA Tryd.prog 23 0 0 := fun _ _ => by kernel_rfl
theorem fa23_1 : FA Tryd.prog 23 1 1 := fun _ _ => by kernel_rfl
theorem fa23_2 : FA Tryd.prog 23 2 2 := fun _ _ => by kernel_rfl
theorem fa23_3 : FA Tryd.prog 23 3 3 := fun _ _ => by kernel_rfl
theorem fa26_0 : FA Tryd.prog 26 0 0 := fun _ _ => by kernel_rfl
theorem fa26_1 : FA Tryd.prog 26 1 1 := fun _ _ => by kernel_rfl
theorem fa26_2 : FA Tryd.prog 26 2 2 := fun _ _ => by kernel_rfl
theorem fa26_3 : FA Tryd.prog 26 3 3 := fun _ _ => by kernel_rfl
theorem sca3 : TSca Tryd.prog 3 := ⟨fun _ => by kernel_rfl, fun _ => by kernel_rfl⟩
theorem tz26 : TZ Tryd.prog 26 (.agg (List.toArray [.int .i64 0, .int .i64 0, .int .i64 0, .int .i64 0])) := fun _ => by kernel_rfl
theorem und4 : Tryd.prog.underlying 4 = some (.bool) := by kernel_rfl
theorem und9 : Tryd.prog.underlying 9 = some (.string) := by kernel_rfl

theorem z_c_spec_l1In_8 (n : Int) (a : Int) (b : Int) : ((a ≤ n) ∧ (n ≤ b)) ↔ (a ≤ n ∧ n ≤ b) := by
  omega
theorem c_spec_l1In (w : World) (n : Int) (a : Int) (b : Int) : Calls Tryd.prog 60 #[.int .i64 n, .int .i64 a, .int .i64 b] w fun e w' => e = .returned (.bool (decide (a ≤ n ∧ n ≤ b))) ∧ Lo w w' := by
  refine calls_W 15 Tryd.func60 rfl rfl rfl ?_
  refine W.seq ?_
  refine W.regS (SR.q' (r_as (v := .bool false) rfl) <| SR.nil ?_)
  refine W.seq ?_
  refine W.regJS (fun f' w' => At f' [(6, .bool (decide ((a ≤ n) ∧ (n ≤ b))))] ∧ Lo w w') ?_ ?_
  · refine SR.q' (r_mv (v := .int .i64 _) rfl) <| SR.q' (r_mv (v := .int .i64 _) rfl) <| SR.q' (r_ge rfl rfl) <| SR.q' (r_mv (v := .bool _) rfl) <| SR.splitD (fun h1 => ?_) (fun h1 => ?_)
    · refine SR.g' rfl (r_mv (v := .int .i64 _) rfl) <| SR.g' rfl (r_mv (v := .int .i64 _) rfl) <| SR.g' rfl (r_le rfl rfl) <| SR.q' (r_pick true rfl (v := .bool _) rfl) <| SR.q' (r_as (v := .bool _) rfl) <| SR.nil ?_
      exact ⟨_, rfl, ⟨⟨(eDD (jat h1)), trivial⟩, (Lo.refl _)⟩⟩
    · refine SR.s' rfl <| SR.s' rfl <| SR.s' rfl <| SR.q' (r_pick false rfl (v := .bool false) rfl) <| SR.q' (r_as (v := .bool _) rfl) <| SR.nil ?_
      exact ⟨_, rfl, ⟨⟨(eDF (jaf h1).2), trivial⟩, (Lo.refl _)⟩⟩
  rintro f2 w3 ⟨hat4, hk5⟩
  rw [← sets_of_at hat4]
  have hz6 := hk5.size
  have hB7 := (Lo.refl w).lo hk5
  refine W.ret ?_
  refine ret1 rfl (v := .bool _) rfl ?_
  exact ⟨eR (eDD (z_c_spec_l1In_8 n a b)), hB7⟩

theorem z_c_impl_within_8 (n : Int) (a : Int) (b : Int) : ((a ≤ n) ∧ (n ≤ b)) ↔ (a ≤ n ∧ n ≤ b) := by
  omega
theorem c_impl_within (w : World) (n : Int) (a : Int) (b : Int) : Calls Tryd.prog 63 #[.int .i64 n, .int .i64 a, .int .i64 b] w fun e w' => e = .returned (.bool (decide (a ≤ n ∧ n ≤ b))) ∧ Lo w w' := by
  refine calls_W 15 Tryd.func63 rfl rfl rfl ?_
  refine W.seq ?_
  refine W.regS (SR.q' (r_as (v := .bool false) rfl) <| SR.nil ?_)
  refine W.seq ?_
  refine W.regJS (fun f' w' => At f' [(6, .bool (decide ((a ≤ n) ∧ (n ≤ b))))] ∧ Lo w w') ?_ ?_
  · refine SR.q' (r_mv (v := .int .i64 _) rfl) <| SR.q' (r_mv (v := .int .i64 _) rfl) <| SR.q' (r_ge rfl rfl) <| SR.q' (r_mv (v := .bool _) rfl) <| SR.splitD (fun h1 => ?_) (fun h1 => ?_)
    · refine SR.g' rfl (r_mv (v := .int .i64 _) rfl) <| SR.g' rfl (r_mv (v := .int .i64 _) rfl) <| SR.g' rfl (r_le rfl rfl) <| SR.q' (r_pick true rfl (v := .bool _) rfl) <| SR.q' (r_as (v := .bool _) rfl) <| SR.nil ?_
      exact ⟨_, rfl, ⟨⟨(eDD (jat h1)), trivial⟩, (Lo.refl _)⟩⟩
    · refine SR.s' rfl <| SR.s' rfl <| SR.s' rfl <| SR.q' (r_pick false rfl (v := .bool false) rfl) <| SR.q' (r_as (v := .bool _) rfl) <| SR.nil ?_
      exact ⟨_, rfl, ⟨⟨(eDF (jaf h1).2), trivial⟩, (Lo.refl _)⟩⟩
  rintro f2 w3 ⟨hat4, hk5⟩
  rw [← sets_of_at hat4]
  have hz6 := hk5.size
  have hB7 := (Lo.refl w).lo hk5
  refine W.ret ?_
  refine ret1 rfl (v := .bool _) rfl ?_
  exact ⟨eR (eDD (z_c_impl_within_8 n a b)), hB7⟩

theorem c_spec_l30Minute (w : World) (n : Int) : Calls Tryd.prog 90 #[.int .i64 n] w fun e w' => e = .returned (.bool (decide (480 ≤ n ∧ n ≤ 1200))) ∧ Lo w w' := by
  refine calls_W 5 Tryd.func90 rfl rfl rfl ?_
  refine W.seq ?_
  refine W.regS (SR.q' (r_as (v := .bool false) rfl) <| SR.nil ?_)
  refine W.seq ?_
  refine W.regS (SR.q' (r_mv (v := .int .i64 _) rfl) <| SR.call ent60 (c_spec_l1In w n 480 1200) rfl ?_)
  rintro e w1 ⟨rfl, hk2⟩
  refine ⟨_, rfl, ?_⟩
  have hz3 := hk2.size
  have hB4 := (Lo.refl w).lo hk2
  refine SR.q' (r_as (v := .bool _) rfl) <| SR.nil ?_
  refine W.ret ?_
  refine ret1 rfl (v := .bool _) rfl ?_
  exact ⟨eR rfl, hB4⟩

theorem c_spec_l30Reader (w : World) (n : Int) : Calls Tryd.prog 71 #[.int .i64 n] w fun e w' => e = .returned (.bool (decide (1 ≤ n ∧ n ≤ 999))) ∧ Lo w w' := by
  refine calls_W 5 Tryd.func71 rfl rfl rfl ?_
  refine W.seq ?_
  refine W.regS (SR.q' (r_as (v := .bool false) rfl) <| SR.nil ?_)
  refine W.seq ?_
  refine W.regS (SR.q' (r_mv (v := .int .i64 _) rfl) <| SR.call ent60 (c_spec_l1In w n 1 999) rfl ?_)
  rintro e w1 ⟨rfl, hk2⟩
  refine ⟨_, rfl, ?_⟩
  have hz3 := hk2.size
  have hB4 := (Lo.refl w).lo hk2
  refine SR.q' (r_as (v := .bool _) rfl) <| SR.nil ?_
  refine W.ret ?_
  refine ret1 rfl (v := .bool _) rfl ?_
  exact ⟨eR rfl, hB4⟩

theorem c_spec_l30Seat (w : World) (n : Int) : Calls Tryd.prog 72 #[.int .i64 n] w fun e w' => e = .returned (.bool (decide (1 ≤ n ∧ n ≤ 6))) ∧ Lo w w' := by
  refine calls_W 5 Tryd.func72 rfl rfl rfl ?_
  refine W.seq ?_
  refine W.regS (SR.q' (r_as (v := .bool false) rfl) <| SR.nil ?_)
  refine W.seq ?_
  refine W.regS (SR.q' (r_mv (v := .int .i64 _) rfl) <| SR.call ent60 (c_spec_l1In w n 1 6) rfl ?_)
  rintro e w1 ⟨rfl, hk2⟩
  refine ⟨_, rfl, ?_⟩
  have hz3 := hk2.size
  have hB4 := (Lo.refl w).lo hk2
  refine SR.q' (r_as (v := .bool _) rfl) <| SR.nil ?_
  refine W.ret ?_
  refine ret1 rfl (v := .bool _) rfl ?_
  exact ⟨eR rfl, hB4⟩

theorem c_impl_isId (w : World) (n : Int) : Calls Tryd.prog 74 #[.int .i64 n] w fun e w' => e = .returned (.bool (decide (1 ≤ n ∧ n ≤ 999))) ∧ Lo w w' := by
  refine calls_W 5 Tryd.func74 rfl rfl rfl ?_
  refine W.seq ?_
  refine W.regS (SR.q' (r_as (v := .bool false) rfl) <| SR.nil ?_)
  refine W.seq ?_
  refine W.regS (SR.q' (r_mv (v := .int .i64 _) rfl) <| SR.call ent63 (c_impl_within w n 1 999) rfl ?_)
  rintro e w1 ⟨rfl, hk2⟩
  refine ⟨_, rfl, ?_⟩
  have hz3 := hk2.size
  have hB4 := (Lo.refl w).lo hk2
  refine SR.q' (r_as (v := .bool _) rfl) <| SR.nil ?_
  refine W.ret ?_
  refine ret1 rfl (v := .bool _) rfl ?_
  exact ⟨eR rfl, hB4⟩

theorem c_impl_isSeat (w : World) (n : Int) : Calls Tryd.prog 75 #[.int .i64 n] w fun e w' => e = .returned (.bool (decide (1 ≤ n ∧ n ≤ 6))) ∧ Lo w w' := by
  refine calls_W 5 Tryd.func75 rfl rfl rfl ?_
  refine W.seq ?_
  refine W.regS (SR.q' (r_as (v := .bool false) rfl) <| SR.nil ?_)
  refine W.seq ?_
  refine W.regS (SR.q' (r_mv (v := .int .i64 _) rfl) <| SR.call ent63 (c_impl_within w n 1 6) rfl ?_)
  rintro e w1 ⟨rfl, hk2⟩
  refine ⟨_, rfl, ?_⟩
  have hz3 := hk2.size
  have hB4 := (Lo.refl w).lo hk2
  refine SR.q' (r_as (v := .bool _) rfl) <| SR.nil ?_
  refine W.ret ?_
  refine ret1 rfl (v := .bool _) rfl ?_
  exact ⟨eR rfl, hB4⟩

theorem c_impl_isMinute (w : World) (n : Int) : Calls Tryd.prog 91 #[.int .i64 n] w fun e w' => e = .returned (.bool (decide (480 ≤ n ∧ n ≤ 1200))) ∧ Lo w w' := by
  refine calls_W 5 Tryd.func91 rfl rfl rfl ?_
  refine W.seq ?_
  refine W.regS (SR.q' (r_as (v := .bool false) rfl) <| SR.nil ?_)
  refine W.seq ?_
  refine W.regS (SR.q' (r_mv (v := .int .i64 _) rfl) <| SR.call ent63 (c_impl_within w n 480 1200) rfl ?_)
  rintro e w1 ⟨rfl, hk2⟩
  refine ⟨_, rfl, ?_⟩
  have hz3 := hk2.size
  have hB4 := (Lo.refl w).lo hk2
  refine SR.q' (r_as (v := .bool _) rfl) <| SR.nil ?_
  refine W.ret ?_
  refine ret1 rfl (v := .bool _) rfl ?_
  exact ⟨eR rfl, hB4⟩

theorem z_c_spec_l30Time_17 (a : Int) (b : Int) : ((480 ≤ a ∧ a ≤ 1200) ∧ ((480 ≤ b ∧ b ≤ 1200) ∧ (a < b))) ↔ ((480 ≤ a ∧ a ≤ 1200) ∧ (480 ≤ b ∧ b ≤ 1200) ∧ a < b) := by
  omega
theorem c_spec_l30Time (w : World) (a : Int) (b : Int) : Calls Tryd.prog 73 #[.int .i64 a, .int .i64 b] w fun e w' => e = .returned (.bool (decide ((480 ≤ a ∧ a ≤ 1200) ∧ (480 ≤ b ∧ b ≤ 1200) ∧ a < b))) ∧ Lo w w' := by
  refine calls_W 16 Tryd.func73 rfl rfl rfl ?_
  refine W.seq ?_
  refine W.regS (SR.q' (r_as (v := .bool false) rfl) <| SR.nil ?_)
  refine W.seq ?_
  refine W.regJS (fun f' w' => At f' [(4, .bool (decide ((480 ≤ a ∧ a ≤ 1200) ∧ ((480 ≤ b ∧ b ≤ 1200) ∧ (a < b)))))] ∧ Lo w w') ?_ ?_
  · refine SR.q' (r_mv (v := .int .i64 _) rfl) <| SR.call ent90 (c_spec_l30Minute w a) rfl ?_
    rintro e w1 ⟨rfl, hk2⟩
    refine ⟨_, rfl, ?_⟩
    have hz3 := hk2.size
    have hB4 := (Lo.refl w).lo hk2
    refine SR.q' (r_mv (v := .bool _) rfl) <| SR.splitD (fun h5 => ?_) (fun h5 => ?_)
    · refine SR.g' rfl (r_mv (v := .int .i64 _) rfl) <| SR.gcall rfl ent90 (c_spec_l30Minute w1 b) rfl ?_
      rintro e w6 ⟨rfl, hk7⟩
      refine ⟨_, rfl, ?_⟩
      have hz8 := hk7.size
      have hB9 := hB4.lo hk7
      refine SR.q' (r_pick true rfl (v := .bool _) rfl) <| SR.q' (r_mv (v := .bool _) rfl) <| SR.splitD (fun h10 => ?_) (fun h10 => ?_)
      · refine SR.g' rfl (r_mv (v := .int .i64 _) rfl) <| SR.g' rfl (r_mv (v := .int .i64 _) rfl) <| SR.g' rfl (r_lt rfl rfl) <| SR.q' (r_pick true rfl (v := .bool _) rfl) <| SR.q' (r_as (v := .bool _) rfl) <| SR.nil ?_
        exact ⟨_, rfl, ⟨⟨(eDD ((jat h10).trans (jat h5))), trivial⟩, ((hk2).trans hk7)⟩⟩
      · refine SR.s' rfl <| SR.s' rfl <| SR.s' rfl <| SR.q' (r_pick false rfl (v := .bool false) rfl) <| SR.q' (r_as (v := .bool _) rfl) <| SR.nil ?_
        exact ⟨_, rfl, ⟨⟨(eDF ((jaf h10).trans (jat h5)).2), trivial⟩, ((hk2).trans hk7)⟩⟩
    · refine SR.s' rfl <| SR.s' rfl <| SR.q' (r_pick false rfl (v := .bool false) rfl) <| SR.q' (r_mv (v := .bool _) rfl) <| SR.s' rfl <| SR.s' rfl <| SR.s' rfl <| SR.q' (r_pick false rfl (v := .bool false) rfl) <| SR.q' (r_as (v := .bool _) rfl) <| SR.nil ?_
      exact ⟨_, rfl, ⟨⟨(eDF (jaf h5).2), trivial⟩, (hk2)⟩⟩
  rintro f11 w12 ⟨hat13, hk14⟩
  rw [← sets_of_at hat13]
  have hz15 := hk14.size
  have hB16 := (Lo.refl w).lo hk14
  refine W.ret ?_
  refine ret1 rfl (v := .bool _) rfl ?_
  exact ⟨eR (eDD (z_c_spec_l30Time_17 a b)), hB16⟩

theorem z_c_impl_isTime_17 (a : Int) (b : Int) : ((480 ≤ a ∧ a ≤ 1200) ∧ ((480 ≤ b ∧ b ≤ 1200) ∧ (a < b))) ↔ ((480 ≤ a ∧ a ≤ 1200) ∧ (480 ≤ b ∧ b ≤ 1200) ∧ a < b) := by
  omega
theorem c_impl_isTime (w : World) (a : Int) (b : Int) : Calls Tryd.prog 76 #[.int .i64 a, .int .i64 b] w fun e w' => e = .returned (.bool (decide ((480 ≤ a ∧ a ≤ 1200) ∧ (480 ≤ b ∧ b ≤ 1200) ∧ a < b))) ∧ Lo w w' := by
  refine calls_W 16 Tryd.func76 rfl rfl rfl ?_
  refine W.seq ?_
  refine W.regS (SR.q' (r_as (v := .bool false) rfl) <| SR.nil ?_)
  refine W.seq ?_
  refine W.regJS (fun f' w' => At f' [(4, .bool (decide ((480 ≤ a ∧ a ≤ 1200) ∧ ((480 ≤ b ∧ b ≤ 1200) ∧ (a < b)))))] ∧ Lo w w') ?_ ?_
  · refine SR.q' (r_mv (v := .int .i64 _) rfl) <| SR.call ent91 (c_impl_isMinute w a) rfl ?_
    rintro e w1 ⟨rfl, hk2⟩
    refine ⟨_, rfl, ?_⟩
    have hz3 := hk2.size
    have hB4 := (Lo.refl w).lo hk2
    refine SR.q' (r_mv (v := .bool _) rfl) <| SR.splitD (fun h5 => ?_) (fun h5 => ?_)
    · refine SR.g' rfl (r_mv (v := .int .i64 _) rfl) <| SR.gcall rfl ent91 (c_impl_isMinute w1 b) rfl ?_
      rintro e w6 ⟨rfl, hk7⟩
      refine ⟨_, rfl, ?_⟩
      have hz8 := hk7.size
      have hB9 := hB4.lo hk7
      refine SR.q' (r_pick true rfl (v := .bool _) rfl) <| SR.q' (r_mv (v := .bool _) rfl) <| SR.splitD (fun h10 => ?_) (fun h10 => ?_)
      · refine SR.g' rfl (r_mv (v := .int .i64 _) rfl) <| SR.g' rfl (r_mv (v := .int .i64 _) rfl) <| SR.g' rfl (r_lt rfl rfl) <| SR.q' (r_pick true rfl (v := .bool _) rfl) <| SR.q' (r_as (v := .bool _) rfl) <| SR.nil ?_
        exact ⟨_, rfl, ⟨⟨(eDD ((jat h10).trans (jat h5))), trivial⟩, ((hk2).trans hk7)⟩⟩
      · refine SR.s' rfl <| SR.s' rfl <| SR.s' rfl <| SR.q' (r_pick false rfl (v := .bool false) rfl) <| SR.q' (r_as (v := .bool _) rfl) <| SR.nil ?_
        exact ⟨_, rfl, ⟨⟨(eDF ((jaf h10).trans (jat h5)).2), trivial⟩, ((hk2).trans hk7)⟩⟩
    · refine SR.s' rfl <| SR.s' rfl <| SR.q' (r_pick false rfl (v := .bool false) rfl) <| SR.q' (r_mv (v := .bool _) rfl) <| SR.s' rfl <| SR.s' rfl <| SR.s' rfl <| SR.q' (r_pick false rfl (v := .bool false) rfl) <| SR.q' (r_as (v := .bool _) rfl) <| SR.nil ?_
      exact ⟨_, rfl, ⟨⟨(eDF (jaf h5).2), trivial⟩, (hk2)⟩⟩
  rintro f11 w12 ⟨hat13, hk14⟩
  rw [← sets_of_at hat13]
  have hz15 := hk14.size
  have hB16 := (Lo.refl w).lo hk14
  refine W.ret ?_
  refine ret1 rfl (v := .bool _) rfl ?_
  exact ⟨eR (eDD (z_c_impl_isTime_17 a b)), hB16⟩

theorem z_c_spec_l30One_29 (v : Visit) : ((1 ≤ v.Reader ∧ v.Reader ≤ 999) ∧ ((1 ≤ v.Seat ∧ v.Seat ≤ 6) ∧ ((480 ≤ v.From ∧ v.From ≤ 1200) ∧ (480 ≤ v.Until ∧ v.Until ≤ 1200) ∧ v.From < v.Until))) ↔ (VOK v) := by
  unfold VOK; omega
theorem c_spec_l30One (w : World) (v : Visit) : Calls Tryd.prog 46 #[.agg (List.toArray (encVisit v))] w fun e w' => e = .returned (.bool (decide (VOK v))) ∧ Lo w w' := by
  refine calls_W 18 Tryd.func46 rfl rfl rfl ?_
  refine W.seq ?_
  refine W.regS (SR.box (v := .agg (List.toArray _)) (l := [.int .i64 v.Reader, .int .i64 v.Seat, .int .i64 v.From, .int .i64 v.Until]) rfl rfl ?_)
  intro g1 w2 hg3 hk4 hs5 hb6
  have hz7 := hk4.size
  have hB8 := (Lo.refl w).lo hk4
  refine SR.q' (r_as (v := .bool false) rfl) <| SR.nil ?_
  refine W.seq ?_
  refine W.regJS (fun f' w' => At f' [(2, .bool (decide ((1 ≤ v.Reader ∧ v.Reader ≤ 999) ∧ ((1 ≤ v.Seat ∧ v.Seat ≤ 6) ∧ ((480 ≤ v.From ∧ v.From ≤ 1200) ∧ (480 ≤ v.Until ∧ v.Until ≤ 1200) ∧ v.From < v.Until)))))] ∧ Lo w2 w') ?_ ?_
  · refine SR.q' (r_fa fa26_0 rfl) <| SR.q' (r_ld (v := .int .i64 v.Reader) sca3 rfl ((hb6).cell rfl)) <| SR.call ent71 (c_spec_l30Reader w2 v.Reader) rfl ?_
    rintro e w9 ⟨rfl, hk10⟩
    refine ⟨_, rfl, ?_⟩
    have hz11 := hk10.size
    have hB12 := hB8.lo hk10
    refine SR.q' (r_mv (v := .bool _) rfl) <| SR.splitD (fun h13 => ?_) (fun h13 => ?_)
    · refine SR.g' rfl (r_fa fa26_1 rfl) <| SR.g' rfl (r_ld (v := .int .i64 v.Seat) sca3 rfl (((hb6).lo hk10).cell rfl)) <| SR.gcall rfl ent72 (c_spec_l30Seat w9 v.Seat) rfl ?_
      rintro e w14 ⟨rfl, hk15⟩
      refine ⟨_, rfl, ?_⟩
      have hz16 := hk15.size
      have hB17 := hB12.lo hk15
      refine SR.q' (r_pick true rfl (v := .bool _) rfl) <| SR.q' (r_mv (v := .bool _) rfl) <| SR.splitD (fun h18 => ?_) (fun h18 => ?_)
      · refine SR.g' rfl (r_fa fa26_2 rfl) <| SR.g' rfl (r_ld (v := .int .i64 v.From) sca3 rfl ((((hb6).lo hk10).lo hk15).cell rfl)) <| SR.g' rfl (r_fa fa26_3 rfl) <| SR.g' rfl (r_ld (v := .int .i64 v.Until) sca3 rfl ((((hb6).lo hk10).lo hk15).cell rfl)) <| SR.gcall rfl ent73 (c_spec_l30Time w14 v.From v.Until) rfl ?_
        rintro e w19 ⟨rfl, hk20⟩
        refine ⟨_, rfl, ?_⟩
        have hz21 := hk20.size
        have hB22 := hB17.lo hk20
        refine SR.q' (r_pick true rfl (v := .bool _) rfl) <| SR.q' (r_as (v := .bool _) rfl) <| SR.nil ?_
        exact ⟨_, rfl, ⟨⟨(eDD ((jat h18).trans (jat h13))), trivial⟩, (((hk10).trans hk15).trans hk20)⟩⟩
      · refine SR.s' rfl <| SR.s' rfl <| SR.s' rfl <| SR.s' rfl <| SR.s' rfl <| SR.q' (r_pick false rfl (v := .bool false) rfl) <| SR.q' (r_as (v := .bool _) rfl) <| SR.nil ?_
        exact ⟨_, rfl, ⟨⟨(eDF ((jaf h18).trans (jat h13)).2), trivial⟩, ((hk10).trans hk15)⟩⟩
    · refine SR.s' rfl <| SR.s' rfl <| SR.s' rfl <| SR.q' (r_pick false rfl (v := .bool false) rfl) <| SR.q' (r_mv (v := .bool _) rfl) <| SR.s' rfl <| SR.s' rfl <| SR.s' rfl <| SR.s' rfl <| SR.s' rfl <| SR.q' (r_pick false rfl (v := .bool false) rfl) <| SR.q' (r_as (v := .bool _) rfl) <| SR.nil ?_
      exact ⟨_, rfl, ⟨⟨(eDF (jaf h13).2), trivial⟩, (hk10)⟩⟩
  rintro f23 w24 ⟨hat25, hk26⟩
  rw [← sets_of_at hat25]
  have hz27 := hk26.size
  have hB28 := hB8.lo hk26
  refine W.ret ?_
  refine ret1 rfl (v := .bool _) rfl ?_
  exact ⟨eR (eDD (z_c_spec_l30One_29 v)), hB28⟩

theorem z_c_impl_isVisit_29 (v : Visit) : ((1 ≤ v.Reader ∧ v.Reader ≤ 999) ∧ ((1 ≤ v.Seat ∧ v.Seat ≤ 6) ∧ ((480 ≤ v.From ∧ v.From ≤ 1200) ∧ (480 ≤ v.Until ∧ v.Until ≤ 1200) ∧ v.From < v.Until))) ↔ (VOK v) := by
  unfold VOK; omega
theorem c_impl_isVisit (w : World) (v : Visit) : Calls Tryd.prog 49 #[.agg (List.toArray (encVisit v))] w fun e w' => e = .returned (.bool (decide (VOK v))) ∧ Lo w w' := by
  refine calls_W 18 Tryd.func49 rfl rfl rfl ?_
  refine W.seq ?_
  refine W.regS (SR.box (v := .agg (List.toArray _)) (l := [.int .i64 v.Reader, .int .i64 v.Seat, .int .i64 v.From, .int .i64 v.Until]) rfl rfl ?_)
  intro g1 w2 hg3 hk4 hs5 hb6
  have hz7 := hk4.size
  have hB8 := (Lo.refl w).lo hk4
  refine SR.q' (r_as (v := .bool false) rfl) <| SR.nil ?_
  refine W.seq ?_
  refine W.regJS (fun f' w' => At f' [(2, .bool (decide ((1 ≤ v.Reader ∧ v.Reader ≤ 999) ∧ ((1 ≤ v.Seat ∧ v.Seat ≤ 6) ∧ ((480 ≤ v.From ∧ v.From ≤ 1200) ∧ (480 ≤ v.Until ∧ v.Until ≤ 1200) ∧ v.From < v.Until)))))] ∧ Lo w2 w') ?_ ?_
  · refine SR.q' (r_fa fa26_0 rfl) <| SR.q' (r_ld (v := .int .i64 v.Reader) sca3 rfl ((hb6).cell rfl)) <| SR.call ent74 (c_impl_isId w2 v.Reader) rfl ?_
    rintro e w9 ⟨rfl, hk10⟩
    refine ⟨_, rfl, ?_⟩
    have hz11 := hk10.size
    have hB12 := hB8.lo hk10
    refine SR.q' (r_mv (v := .bool _) rfl) <| SR.splitD (fun h13 => ?_) (fun h13 => ?_)
    · refine SR.g' rfl (r_fa fa26_1 rfl) <| SR.g' rfl (r_ld (v := .int .i64 v.Seat) sca3 rfl (((hb6).lo hk10).cell rfl)) <| SR.gcall rfl ent75 (c_impl_isSeat w9 v.Seat) rfl ?_
      rintro e w14 ⟨rfl, hk15⟩
      refine ⟨_, rfl, ?_⟩
      have hz16 := hk15.size
      have hB17 := hB12.lo hk15
      refine SR.q' (r_pick true rfl (v := .bool _) rfl) <| SR.q' (r_mv (v := .bool _) rfl) <| SR.splitD (fun h18 => ?_) (fun h18 => ?_)
      · refine SR.g' rfl (r_fa fa26_2 rfl) <| SR.g' rfl (r_ld (v := .int .i64 v.From) sca3 rfl ((((hb6).lo hk10).lo hk15).cell rfl)) <| SR.g' rfl (r_fa fa26_3 rfl) <| SR.g' rfl (r_ld (v := .int .i64 v.Until) sca3 rfl ((((hb6).lo hk10).lo hk15).cell rfl)) <| SR.gcall rfl ent76 (c_impl_isTime w14 v.From v.Until) rfl ?_
        rintro e w19 ⟨rfl, hk20⟩
        refine ⟨_, rfl, ?_⟩
        have hz21 := hk20.size
        have hB22 := hB17.lo hk20
        refine SR.q' (r_pick true rfl (v := .bool _) rfl) <| SR.q' (r_as (v := .bool _) rfl) <| SR.nil ?_
        exact ⟨_, rfl, ⟨⟨(eDD ((jat h18).trans (jat h13))), trivial⟩, (((hk10).trans hk15).trans hk20)⟩⟩
      · refine SR.s' rfl <| SR.s' rfl <| SR.s' rfl <| SR.s' rfl <| SR.s' rfl <| SR.q' (r_pick false rfl (v := .bool false) rfl) <| SR.q' (r_as (v := .bool _) rfl) <| SR.nil ?_
        exact ⟨_, rfl, ⟨⟨(eDF ((jaf h18).trans (jat h13)).2), trivial⟩, ((hk10).trans hk15)⟩⟩
    · refine SR.s' rfl <| SR.s' rfl <| SR.s' rfl <| SR.q' (r_pick false rfl (v := .bool false) rfl) <| SR.q' (r_mv (v := .bool _) rfl) <| SR.s' rfl <| SR.s' rfl <| SR.s' rfl <| SR.s' rfl <| SR.s' rfl <| SR.q' (r_pick false rfl (v := .bool false) rfl) <| SR.q' (r_as (v := .bool _) rfl) <| SR.nil ?_
      exact ⟨_, rfl, ⟨⟨(eDF (jaf h13).2), trivial⟩, (hk10)⟩⟩
  rintro f23 w24 ⟨hat25, hk26⟩
  rw [← sets_of_at hat25]
  have hz27 := hk26.size
  have hB28 := hB8.lo hk26
  refine W.ret ?_
  refine ret1 rfl (v := .bool _) rfl ?_
  exact ⟨eR (eDD (z_c_impl_isVisit_29 v)), hB28⟩

theorem z_c_laws_toVisit_55 (r : Visit) : ([.int .i64 r.Reader, .int .i64 r.Seat, .int .i64 r.From, .int .i64 r.Until] : List Value) = encVisit r := by
  first | rfl | (first | rfl | omega | grind)
theorem c_laws_toVisit (w : World) (r : Visit) : Calls Tryd.prog 14 #[.agg (List.toArray (encVisit r))] w fun e w' => e = .returned (.agg (List.toArray (encVisit r))) ∧ Lo w w' := by
  refine calls_W 17 Tryd.func14 rfl rfl rfl ?_
  refine W.seq ?_
  refine W.regS (SR.box (v := .agg (List.toArray _)) (l := [.int .i64 r.Reader, .int .i64 r.Seat, .int .i64 r.From, .int .i64 r.Until]) rfl rfl ?_)
  intro g1 w2 hg3 hk4 hs5 hb6
  have hz7 := hk4.size
  have hB8 := (Lo.refl w).lo hk4
  refine SR.alloc (l := [.int .i64 0, .int .i64 0, .int .i64 0, .int .i64 0]) tz26 rfl ?_
  intro g9 w10 hg11 hk12 hs13 hb14
  have hz15 := hk12.size
  have hB16 := hB8.lo hk12
  refine SR.nil ?_
  refine W.seq ?_
  refine W.regS (SR.alloc (l := [.int .i64 0, .int .i64 0, .int .i64 0, .int .i64 0]) tz26 rfl ?_)
  intro g17 w18 hg19 hk20 hs21 hb22
  have hz23 := hk20.size
  have hB24 := hB16.lo hk20
  refine SR.nil ?_
  refine W.seq ?_
  refine W.regS (SR.q' (r_fa fa23_0 rfl) <| SR.q' (r_ld (v := .int .i64 r.Reader) sca3 rfl ((((hb6).lo hk12).lo hk20).cell rfl)) <| SR.q' (r_fa fa26_0 rfl) <| SR.store (o := 0) (vs := [.int .i64 r.Reader]) sca3.2 rfl rfl rfl rfl (hb22) (Nat.le_of_ble_eq_true rfl) rfl ?_)
  intro w25 hk26 hs27 hb28
  have hz29 := hk26.size
  have hB30 := hB24.new hk26 (by omega)
  refine SR.nil ?_
  refine W.seq ?_
  refine W.regS (SR.q' (r_fa fa23_1 rfl) <| SR.q' (r_ld (v := .int .i64 r.Seat) sca3 rfl (((((hb6).lo hk12).lo hk20).kp hk26 (fun e' => by have e'' : g1 = g17 := e'; omega)).cell rfl)) <| SR.q' (r_fa fa26_1 rfl) <| SR.store (o := 1) (vs := [.int .i64 r.Seat]) sca3.2 rfl rfl rfl rfl (hb28) (Nat.le_of_ble_eq_true rfl) rfl ?_)
  intro w31 hk32 hs33 hb34
  have hz35 := hk32.size
  have hB36 := hB30.new hk32 (by omega)
  refine SR.nil ?_
  refine W.seq ?_
  refine W.regS (SR.q' (r_fa fa23_2 rfl) <| SR.q' (r_ld (v := .int .i64 r.From) sca3 rfl ((((((hb6).lo hk12).lo hk20).kp hk26 (fun e' => by have e'' : g1 = g17 := e'; omega)).kp hk32 (fun e' => by have e'' : g1 = g17 := e'; omega)).cell rfl)) <| SR.q' (r_fa fa26_2 rfl) <| SR.store (o := 2) (vs := [.int .i64 r.From]) sca3.2 rfl rfl rfl rfl (hb34) (Nat.le_of_ble_eq_true rfl) rfl ?_)
  intro w37 hk38 hs39 hb40
  have hz41 := hk38.size
  have hB42 := hB36.new hk38 (by omega)
  refine SR.nil ?_
  refine W.seq ?_
  refine W.regS (SR.q' (r_fa fa23_3 rfl) <| SR.q' (r_ld (v := .int .i64 r.Until) sca3 rfl (((((((hb6).lo hk12).lo hk20).kp hk26 (fun e' => by have e'' : g1 = g17 := e'; omega)).kp hk32 (fun e' => by have e'' : g1 = g17 := e'; omega)).kp hk38 (fun e' => by have e'' : g1 = g17 := e'; omega)).cell rfl)) <| SR.q' (r_fa fa26_3 rfl) <| SR.store (o := 3) (vs := [.int .i64 r.Until]) sca3.2 rfl rfl rfl rfl (hb40) (Nat.le_of_ble_eq_true rfl) rfl ?_)
  intro w43 hk44 hs45 hb46
  have hz47 := hk44.size
  have hB48 := hB42.new hk44 (by omega)
  refine SR.nil ?_
  refine W.seq ?_
  refine W.regS (SR.q' (r_lda (l := [.int .i64 r.Reader, .int .i64 r.Seat, .int .i64 r.From, .int .i64 r.Until]) agg26 rfl (fun _ _ hu => (hb46).cell hu) rfl) <| SR.store (o := 0) (vs := [.int .i64 r.Reader, .int .i64 r.Seat, .int .i64 r.From, .int .i64 r.Until]) agg26.2 rfl rfl rfl rfl ((((((hb14).lo hk20).kp hk26 (fun e' => by have e'' : g9 = g17 := e'; omega)).kp hk32 (fun e' => by have e'' : g9 = g17 := e'; omega)).kp hk38 (fun e' => by have e'' : g9 = g17 := e'; omega)).kp hk44 (fun e' => by have e'' : g9 = g17 := e'; omega)) (Nat.le_of_ble_eq_true rfl) rfl ?_)
  intro w49 hk50 hs51 hb52
  have hz53 := hk50.size
  have hB54 := hB48.new hk50 (by omega)
  refine SR.nil ?_
  refine W.ret ?_
  refine retC rfl rfl agg26 (hb52) rfl ?_
  exact ⟨eR (eA (z_c_laws_toVisit_55 r)), hB54⟩

theorem c_impl_text (w : World) (n : Int) (hp0 : -9223372036854775808 ≤ n ∧ n ≤ 9223372036854775807) (hE : EnvW w) : Calls Tryd.prog 50 #[.int .i64 n] w fun e w' => e = .returned (str (Lib.itoa n)) ∧ Lo w w' := by
  refine calls_W 5 Tryd.func50 rfl rfl rfl ?_
  refine W.seq ?_
  refine W.regS (SR.q' (r_as (v := str ([] : List UInt8)) rfl) <| SR.nil ?_)
  refine W.seq ?_
  refine W.regS (SR.q' (r_mv (v := .int .i64 _) rfl) <| SR.call ent77 (c_strconv_Itoa w n (by omega) (hE.lo ((Lo.refl w)))) rfl ?_)
  rintro e w1 ⟨rfl, hk2⟩
  refine ⟨_, rfl, ?_⟩
  have hz3 := hk2.size
  have hB4 := (Lo.refl w).lo hk2
  have hq5 : (Lib.itoa n).length ≤ 21 := itoa_len (n := n) (by omega) (by omega)
  refine SR.q' (r_as (v := str _) rfl) <| SR.nil ?_
  refine W.ret ?_
  refine ret1 rfl (v := str _) rfl ?_
  exact ⟨eR rfl, hB4⟩

theorem z_c_spec_l1Num_7 (n : Int) (hp0 : -9223372036854775807 ≤ n ∧ n ≤ 9223372036854775807) (h1 : n < 0) (hq6 : (Lib.itoa (-n)).length ≤ 21) : ([45] : List UInt8) ++ (Lib.itoa (-n)) = Lib.itoa n := by
  first | exact itoa_m ‹_› | exact itoa_d (by omega) ‹_› | exact itoa_b (by omega)
theorem z_c_spec_l1Num_9 (n : Int) (hp0 : -9223372036854775807 ≤ n ∧ n ≤ 9223372036854775807) (h1 : ¬ (n < 0)) (h8 : n < 10) : (([48, 49, 50, 51, 52, 53, 54, 55, 56, 57] : List UInt8).drop n.toNat).take (((n + 1).toNat) - n.toNat) = Lib.itoa n := by
  first | exact itoa_m ‹_› | exact itoa_d (by omega) ‹_› | exact itoa_b (by omega)
theorem z_c_spec_l1Num_15 (n : Int) (hp0 : -9223372036854775807 ≤ n ∧ n ≤ 9223372036854775807) (h1 : ¬ (n < 0)) (h8 : ¬ (n < 10)) (hq10 : (Lib.itoa (n / 10)).length ≤ 21) : (Lib.itoa (n / 10)) ++ ((([48, 49, 50, 51, 52, 53, 54, 55, 56, 57] : List UInt8).drop ((n % 10).toNat)).take ((((n % 10) + 1).toNat) - ((n % 10).toNat))) = Lib.itoa n := by
  first | exact itoa_m ‹_› | exact itoa_d (by omega) ‹_› | exact itoa_b (by omega)
theorem c_spec_l1Num (w : World) (n : Int) (hp0 : -9223372036854775807 ≤ n ∧ n ≤ 9223372036854775807) : Calls Tryd.prog 47 #[.int .i64 n] w fun e w' => e = .returned (str (Lib.itoa n)) ∧ Lo w w' := by
  refine calls_W 25 Tryd.func47 rfl rfl rfl ?_
  refine W.seq ?_
  refine W.regS (SR.q' (r_as (v := str ([] : List UInt8)) rfl) <| SR.nil ?_)
  refine W.seq ?_
  refine W.seq ?_
  refine W.regS (SR.q' (r_mv (v := .int .i64 _) rfl) <| SR.q' (r_lt rfl rfl) <| SR.nil ?_)
  refine W.cond_d rfl (fun h1 => ?_) (fun h1 => ?_)
  · refine W.seq ?_
    refine W.regS (SR.q' (r_mv (v := .int .i64 _) rfl) <| SR.q' (r_neg rfl (by omega)) <| SR.call ent47 (c_spec_l1Num w (-n) (by omega)) rfl ?_)
    rintro e w2 ⟨rfl, hk3⟩
    refine ⟨_, rfl, ?_⟩
    have hz4 := hk3.size
    have hB5 := (Lo.refl w).lo hk3
    have hq6 : (Lib.itoa (-n)).length ≤ 21 := itoa_len (n := -n) (by omega) (by omega)
    refine SR.q' (r_cat rfl rfl (by first | omega | (simp only [List.length_append, List.length_cons, List.length_nil, List.length_take, List.length_drop]; omega))) <| SR.q' (r_as (v := str _) rfl) <| SR.nil ?_
    refine W.ret ?_
    refine ret1 rfl (v := str _) rfl ?_
    exact ⟨eR (eS (z_c_spec_l1Num_7 n hp0 h1 hq6)), hB5⟩
  · refine W.skip ?_
    refine W.seq ?_
    refine W.seq ?_
    refine W.regS (SR.q' (r_mv (v := .int .i64 _) rfl) <| SR.q' (r_lt rfl rfl) <| SR.nil ?_)
    refine W.cond_d rfl (fun h8 => ?_) (fun h8 => ?_)
    · refine W.seq ?_
      refine W.regS (SR.q' (r_mv (v := .int .i64 _) rfl) <| SR.q' (r_mv (v := .int .i64 _) rfl) <| SR.q' (r_add rfl rfl (by omega)) <| SR.q' (r_cutS (l := n.toNat) (h := (n + 1).toNat) und9 rfl rfl rfl (by omega) (by omega) (by omega) (by first | omega | (simp only [List.length_append, List.length_cons, List.length_nil, List.length_take, List.length_drop]; omega))) <| SR.q' (r_as (v := str _) rfl) <| SR.nil ?_)
      refine W.ret ?_
      refine ret1 rfl (v := str _) rfl ?_
      exact ⟨eR (eS (z_c_spec_l1Num_9 n hp0 h1 h8)), (Lo.refl w)⟩
    · refine W.skip ?_
      refine W.seq ?_
      refine W.regD mo (by kernel_rfl) (QR.q' (fun w' hw' => r_mv (v := .int .i64 _) rfl) <| QR.q' (fun w' hw' => r_quo rfl rfl (by omega)) <| QR.call ent47 (fun w' hw' => (c_spec_l1Num w' (n / 10) (by omega)).mono fun _ _ h => ⟨h.1, hw'.trans h.2⟩) rfl <| ?_)
      have hq10 : (Lib.itoa (n / 10)).length ≤ 21 := itoa_len (n := n / 10) (by omega) (by omega)
      refine QR.q' (fun w' hw' => r_mv (v := .int .i64 _) rfl) <| QR.q' (fun w' hw' => r_rem rfl rfl (by omega)) <| QR.q' (fun w' hw' => r_mv (v := .int .i64 _) rfl) <| QR.q' (fun w' hw' => r_rem rfl rfl (by omega)) <| QR.q' (fun w' hw' => r_add rfl rfl (by omega)) <| QR.q' (fun w' hw' => r_cutS (l := (n % 10).toNat) (h := ((n % 10) + 1).toNat) und9 rfl rfl rfl (by omega) (by omega) (by omega) (by first | omega | (simp only [List.length_append, List.length_cons, List.length_nil, List.length_take, List.length_drop]; omega))) <| QR.q' (fun w' hw' => r_cat rfl rfl (by first | omega | (simp only [List.length_append, List.length_cons, List.length_nil, List.length_take, List.length_drop]; omega))) <| QR.q' (fun w' hw' => r_as (v := str _) rfl) <| QR.nil ?_
      intro w11 hk12
      have hz13 := hk12.size
      have hB14 := (Lo.refl w).lo hk12
      refine W.ret ?_
      refine ret1 rfl (v := str _) rfl ?_
      exact ⟨eR (eS (z_c_spec_l1Num_15 n hp0 h1 h8 hq10)), hB14⟩
termination_by n.toNat + 2 * (-n).toNat
decreasing_by all_goals omega

theorem z_c_impl_twoDigits_11 (n : Int) (hp0 : 0 ≤ n ∧ n ≤ 99) (hq5 : (Lib.itoa (n / 10)).length ≤ 21) (hq10 : (Lib.itoa (n % 10)).length ≤ 21) : (Lib.itoa (n / 10)) ++ (Lib.itoa (n % 10)) = twoD n := by
  rfl
theorem c_impl_twoDigits (w : World) (n : Int) (hp0 : 0 ≤ n ∧ n ≤ 99) (hE : EnvW w) : Calls Tryd.prog 78 #[.int .i64 n] w fun e w' => e = .returned (str (twoD n)) ∧ Lo w w' := by
  refine calls_W 10 Tryd.func78 rfl rfl rfl ?_
  refine W.seq ?_
  refine W.regS (SR.q' (r_as (v := str ([] : List UInt8)) rfl) <| SR.nil ?_)
  refine W.seq ?_
  refine W.regS (SR.q' (r_mv (v := .int .i64 _) rfl) <| SR.q' (r_quo rfl rfl (by omega)) <| SR.call ent50 (c_impl_text w (n / 10) (by omega) (hE.lo ((Lo.refl w)))) rfl ?_)
  rintro e w1 ⟨rfl, hk2⟩
  refine ⟨_, rfl, ?_⟩
  have hz3 := hk2.size
  have hB4 := (Lo.refl w).lo hk2
  have hq5 : (Lib.itoa (n / 10)).length ≤ 21 := itoa_len (n := n / 10) (by omega) (by omega)
  refine SR.q' (r_mv (v := .int .i64 _) rfl) <| SR.q' (r_rem rfl rfl (by omega)) <| SR.call ent50 (c_impl_text w1 (n % 10) (by omega) (hE.lo (hB4))) rfl ?_
  rintro e w6 ⟨rfl, hk7⟩
  refine ⟨_, rfl, ?_⟩
  have hz8 := hk7.size
  have hB9 := hB4.lo hk7
  have hq10 : (Lib.itoa (n % 10)).length ≤ 21 := itoa_len (n := n % 10) (by omega) (by omega)
  refine SR.q' (r_cat rfl rfl (by first | omega | (simp only [List.length_append, List.length_cons, List.length_nil, List.length_take, List.length_drop]; omega))) <| SR.q' (r_as (v := str _) rfl) <| SR.nil ?_
  refine W.ret ?_
  refine ret1 rfl (v := str _) rfl ?_
  exact ⟨eR (eS (z_c_impl_twoDigits_11 n hp0 hq5 hq10)), hB9⟩

theorem z_c_spec_l30Clock_12 (m : Int) (hp0 : 0 ≤ m ∧ m ≤ 100000) (hq5 : (Lib.itoa (m / 60)).length ≤ 21) (h6 : (m % 60) < 10) (hq11 : (Lib.itoa (m % 60)).length ≤ 21) : (((Lib.itoa (m / 60)) ++ ([58] : List UInt8)) ++ ([48] : List UInt8)) ++ (Lib.itoa (m % 60)) = clockT m := by
  first | exact clock_eq m | exact clock_lt (by omega) ‹_› | exact clock_ge (by omega) ‹_›
theorem z_c_spec_l30Clock_18 (m : Int) (hp0 : 0 ≤ m ∧ m ≤ 100000) (hq5 : (Lib.itoa (m / 60)).length ≤ 21) (h6 : ¬ ((m % 60) < 10)) (hq17 : (Lib.itoa (m % 60)).length ≤ 21) : ((Lib.itoa (m / 60)) ++ ([58] : List UInt8)) ++ (Lib.itoa (m % 60)) = clockT m := by
  first | exact clock_eq m | exact clock_lt (by omega) ‹_› | exact clock_ge (by omega) ‹_›
theorem c_spec_l30Clock (w : World) (m : Int) (hp0 : 0 ≤ m ∧ m ≤ 100000) : Calls Tryd.prog 48 #[.int .i64 m] w fun e w' => e = .returned (str (clockT m)) ∧ Lo w w' := by
  refine calls_W 18 Tryd.func48 rfl rfl rfl ?_
  refine W.seq ?_
  refine W.regS (SR.q' (r_as (v := str ([] : List UInt8)) rfl) <| SR.nil ?_)
  refine W.seq ?_
  refine W.regS (SR.q' (r_mv (v := .int .i64 _) rfl) <| SR.q' (r_quo rfl rfl (by omega)) <| SR.call ent47 (c_spec_l1Num w (m / 60) (by omega)) rfl ?_)
  rintro e w1 ⟨rfl, hk2⟩
  refine ⟨_, rfl, ?_⟩
  have hz3 := hk2.size
  have hB4 := (Lo.refl w).lo hk2
  have hq5 : (Lib.itoa (m / 60)).length ≤ 21 := itoa_len (n := m / 60) (by omega) (by omega)
  refine SR.q' (r_cat rfl rfl (by first | omega | (simp only [List.length_append, List.length_cons, List.length_nil, List.length_take, List.length_drop]; omega))) <| SR.q' (r_as (v := str _) rfl) <| SR.nil ?_
  refine W.seq ?_
  refine W.seq ?_
  refine W.regS (SR.q' (r_mv (v := .int .i64 _) rfl) <| SR.q' (r_rem rfl rfl (by omega)) <| SR.q' (r_lt rfl rfl) <| SR.nil ?_)
  refine W.cond_d rfl (fun h6 => ?_) (fun h6 => ?_)
  · refine W.regS (SR.q' (r_mv (v := str _) rfl) <| SR.q' (r_cat rfl rfl (by first | omega | (simp only [List.length_append, List.length_cons, List.length_nil, List.length_take, List.length_drop]; omega))) <| SR.q' (r_as (v := str _) rfl) <| SR.nil ?_)
    refine W.seq ?_
    refine W.regS (SR.q' (r_mv (v := str _) rfl) <| SR.q' (r_mv (v := .int .i64 _) rfl) <| SR.q' (r_rem rfl rfl (by omega)) <| SR.call ent47 (c_spec_l1Num w1 (m % 60) (by omega)) rfl ?_)
    rintro e w7 ⟨rfl, hk8⟩
    refine ⟨_, rfl, ?_⟩
    have hz9 := hk8.size
    have hB10 := hB4.lo hk8
    have hq11 : (Lib.itoa (m % 60)).length ≤ 21 := itoa_len (n := m % 60) (by omega) (by omega)
    refine SR.q' (r_cat rfl rfl (by first | omega | (simp only [List.length_append, List.length_cons, List.length_nil, List.length_take, List.length_drop]; omega))) <| SR.q' (r_as (v := str _) rfl) <| SR.nil ?_
    refine W.ret ?_
    refine ret1 rfl (v := str _) rfl ?_
    exact ⟨eR (eS (z_c_spec_l30Clock_12 m hp0 hq5 h6 hq11)), hB10⟩
  · refine W.skip ?_
    refine W.seq ?_
    refine W.regS (SR.q' (r_mv (v := str _) rfl) <| SR.q' (r_mv (v := .int .i64 _) rfl) <| SR.q' (r_rem rfl rfl (by omega)) <| SR.call ent47 (c_spec_l1Num w1 (m % 60) (by omega)) rfl ?_)
    rintro e w13 ⟨rfl, hk14⟩
    refine ⟨_, rfl, ?_⟩
    have hz15 := hk14.size
    have hB16 := hB4.lo hk14
    have hq17 : (Lib.itoa (m % 60)).length ≤ 21 := itoa_len (n := m % 60) (by omega) (by omega)
    refine SR.q' (r_cat rfl rfl (by first | omega | (simp only [List.length_append, List.length_cons, List.length_nil, List.length_take, List.length_drop]; omega))) <| SR.q' (r_as (v := str _) rfl) <| SR.nil ?_
    refine W.ret ?_
    refine ret1 rfl (v := str _) rfl ?_
    exact ⟨eR (eS (z_c_spec_l30Clock_18 m hp0 hq5 h6 hq17)), hB16⟩

theorem z_c_impl_clock_11 (m : Int) (hp0 : 0 ≤ m ∧ m ≤ 100000) (hq5 : (Lib.itoa (m / 60)).length ≤ 21) (hq10 : (twoD (m % 60)).length ≤ 42) : ((Lib.itoa (m / 60)) ++ ([58] : List UInt8)) ++ (twoD (m % 60)) = clockT m := by
  first | exact clock_eq m | exact clock_lt (by omega) ‹_› | exact clock_ge (by omega) ‹_›
theorem c_impl_clock (w : World) (m : Int) (hp0 : 0 ≤ m ∧ m ≤ 100000) (hE : EnvW w) : Calls Tryd.prog 51 #[.int .i64 m] w fun e w' => e = .returned (str (clockT m)) ∧ Lo w w' := by
  refine calls_W 11 Tryd.func51 rfl rfl rfl ?_
  refine W.seq ?_
  refine W.regS (SR.q' (r_as (v := str ([] : List UInt8)) rfl) <| SR.nil ?_)
  refine W.seq ?_
  refine W.regS (SR.q' (r_mv (v := .int .i64 _) rfl) <| SR.q' (r_quo rfl rfl (by omega)) <| SR.call ent50 (c_impl_text w (m / 60) (by omega) (hE.lo ((Lo.refl w)))) rfl ?_)
  rintro e w1 ⟨rfl, hk2⟩
  refine ⟨_, rfl, ?_⟩
  have hz3 := hk2.size
  have hB4 := (Lo.refl w).lo hk2
  have hq5 : (Lib.itoa (m / 60)).length ≤ 21 := itoa_len (n := m / 60) (by omega) (by omega)
  refine SR.q' (r_cat rfl rfl (by first | omega | (simp only [List.length_append, List.length_cons, List.length_nil, List.length_take, List.length_drop]; omega))) <| SR.q' (r_mv (v := .int .i64 _) rfl) <| SR.q' (r_rem rfl rfl (by omega)) <| SR.call ent78 (c_impl_twoDigits w1 (m % 60) (by omega) (hE.lo (hB4))) rfl ?_
  rintro e w6 ⟨rfl, hk7⟩
  refine ⟨_, rfl, ?_⟩
  have hz8 := hk7.size
  have hB9 := hB4.lo hk7
  have hq10 : (twoD (m % 60)).length ≤ 42 := two_len (n := m % 60) (by omega)
  refine SR.q' (r_cat rfl rfl (by first | omega | (simp only [List.length_append, List.length_cons, List.length_nil, List.length_take, List.length_drop]; omega))) <| SR.q' (r_as (v := str _) rfl) <| SR.nil ?_
  refine W.ret ?_
  refine ret1 rfl (v := str _) rfl ?_
  exact ⟨eR (eS (z_c_impl_clock_11 m hp0 hq5 hq10)), hB9⟩

open Classical in
noncomputable def spec_VisitText (v : Visit) : List UInt8 × Bool :=
  if VOK v then (((((((([114] : List UInt8) ++ (Lib.itoa v.Reader)) ++ ([32, 115, 101, 97, 116, 32] : List UInt8)) ++ (Lib.itoa v.Seat)) ++ ([32] : List UInt8)) ++ (clockT v.From)) ++ ([45] : List UInt8)) ++ (clockT v.Until), true) else (([] : List UInt8), false)
theorem c_spec_VisitText (w : World) (v : Visit) : Calls Tryd.prog 13 #[.agg (List.toArray (encVisit v))] w fun e w' => e = .returned (.tuple (List.toArray [str ((spec_VisitText v).1), .bool ((spec_VisitText v).2)])) ∧ Lo w w' := by
  refine calls_W 26 Tryd.func13 rfl rfl rfl ?_
  refine W.seq ?_
  refine W.regS (SR.box (v := .agg (List.toArray _)) (l := [.int .i64 v.Reader, .int .i64 v.Seat, .int .i64 v.From, .int .i64 v.Until]) rfl rfl ?_)
  intro g1 w2 hg3 hk4 hs5 hb6
  have hz7 := hk4.size
  have hB8 := (Lo.refl w).lo hk4
  refine SR.q' (r_as (v := str ([] : List UInt8)) rfl) <| SR.q' (r_as (v := .bool false) rfl) <| SR.nil ?_
  refine W.seq ?_
  refine W.seq ?_
  refine W.regS (SR.q' (r_lda (l := [.int .i64 v.Reader, .int .i64 v.Seat, .int .i64 v.From, .int .i64 v.Until]) agg26 rfl (fun _ _ hu => (hb6).cell hu) rfl) <| SR.call ent46 (c_spec_l30One w2 v) rfl ?_)
  rintro e w9 ⟨rfl, hk10⟩
  refine ⟨_, rfl, ?_⟩
  have hz11 := hk10.size
  have hB12 := hB8.lo hk10
  refine SR.q' (r_not rfl) <| SR.nil ?_
  refine W.cond_n rfl (fun h13 => ?_) (fun h13 => ?_)
  · refine W.seq ?_
    refine W.regS (SR.q' (r_as (v := str ([] : List UInt8)) rfl) <| SR.q' (r_as (v := .bool false) rfl) <| SR.nil ?_)
    refine W.ret ?_
    refine ret2 rfl (v := str _) (v' := .bool _) rfl rfl ?_
    exact ⟨eR (eT2 (eS (by unfold spec_VisitText; rw [if_neg h13] <;> rfl)) (eB (by unfold spec_VisitText; rw [if_neg h13] <;> rfl))), hB12⟩
  · have hq14 := vok_rng h13
    refine W.skip ?_
    refine W.seq ?_
    refine W.regD mo (by kernel_rfl) (QR.q' (fun w' hw' => r_fa fa26_0 rfl) <| QR.q' (fun w' hw' => r_ld (v := .int .i64 v.Reader) sca3 rfl ((((hb6).lo hk10).lo hw').cell rfl)) <| QR.call ent47 (fun w' hw' => (c_spec_l1Num w' v.Reader (by omega)).mono fun _ _ h => ⟨h.1, hw'.trans h.2⟩) rfl <| ?_)
    have hq15 : (Lib.itoa v.Reader).length ≤ 21 := itoa_len (n := v.Reader) (by omega) (by omega)
    refine QR.q' (fun w' hw' => r_cat rfl rfl (by first | omega | (simp only [List.length_append, List.length_cons, List.length_nil, List.length_take, List.length_drop]; omega))) <| QR.q' (fun w' hw' => r_cat rfl rfl (by first | omega | (simp only [List.length_append, List.length_cons, List.length_nil, List.length_take, List.length_drop]; omega))) <| QR.q' (fun w' hw' => r_fa fa26_1 rfl) <| QR.q' (fun w' hw' => r_ld (v := .int .i64 v.Seat) sca3 rfl ((((hb6).lo hk10).lo hw').cell rfl)) <| QR.call ent47 (fun w' hw' => (c_spec_l1Num w' v.Seat (by omega)).mono fun _ _ h => ⟨h.1, hw'.trans h.2⟩) rfl <| ?_
    have hq16 : (Lib.itoa v.Seat).length ≤ 21 := itoa_len (n := v.Seat) (by omega) (by omega)
    refine QR.q' (fun w' hw' => r_cat rfl rfl (by first | omega | (simp only [List.length_append, List.length_cons, List.length_nil, List.length_take, List.length_drop]; omega))) <| QR.q' (fun w' hw' => r_cat rfl rfl (by first | omega | (simp only [List.length_append, List.length_cons, List.length_nil, List.length_take, List.length_drop]; omega))) <| QR.q' (fun w' hw' => r_fa fa26_2 rfl) <| QR.q' (fun w' hw' => r_ld (v := .int .i64 v.From) sca3 rfl ((((hb6).lo hk10).lo hw').cell rfl)) <| QR.call ent48 (fun w' hw' => (c_spec_l30Clock w' v.From (by omega)).mono fun _ _ h => ⟨h.1, hw'.trans h.2⟩) rfl <| ?_
    have hq17 : (clockT v.From).length ≤ 100 := clock_len (m := v.From) (by omega)
    refine QR.q' (fun w' hw' => r_cat rfl rfl (by first | omega | (simp only [List.length_append, List.length_cons, List.length_nil, List.length_take, List.length_drop]; omega))) <| QR.q' (fun w' hw' => r_cat rfl rfl (by first | omega | (simp only [List.length_append, List.length_cons, List.length_nil, List.length_take, List.length_drop]; omega))) <| QR.q' (fun w' hw' => r_fa fa26_3 rfl) <| QR.q' (fun w' hw' => r_ld (v := .int .i64 v.Until) sca3 rfl ((((hb6).lo hk10).lo hw').cell rfl)) <| QR.call ent48 (fun w' hw' => (c_spec_l30Clock w' v.Until (by omega)).mono fun _ _ h => ⟨h.1, hw'.trans h.2⟩) rfl <| ?_
    have hq18 : (clockT v.Until).length ≤ 100 := clock_len (m := v.Until) (by omega)
    refine QR.q' (fun w' hw' => r_cat rfl rfl (by first | omega | (simp only [List.length_append, List.length_cons, List.length_nil, List.length_take, List.length_drop]; omega))) <| QR.q' (fun w' hw' => r_as (v := str _) rfl) <| QR.q' (fun w' hw' => r_as (v := .bool true) rfl) <| QR.nil ?_
    intro w19 hk20
    have hz21 := hk20.size
    have hB22 := hB12.lo hk20
    refine W.ret ?_
    refine ret2 rfl (v := str _) (v' := .bool _) rfl rfl ?_
    exact ⟨eR (eT2 (eS (by unfold spec_VisitText; rw [if_pos h13] <;> rfl)) (eB (by unfold spec_VisitText; rw [if_pos h13] <;> rfl))), hB22⟩

open Classical in
noncomputable def impl_VisitText (v : Visit) : List UInt8 × Bool :=
  if VOK v then (((((((([114] : List UInt8) ++ (Lib.itoa v.Reader)) ++ ([32, 115, 101, 97, 116, 32] : List UInt8)) ++ (Lib.itoa v.Seat)) ++ ([32] : List UInt8)) ++ (clockT v.From)) ++ ([45] : List UInt8)) ++ (clockT v.Until), true) else (([] : List UInt8), false)
theorem c_impl_VisitText (w : World) (v : Visit) (hE : EnvW w) : Calls Tryd.prog 15 #[.agg (List.toArray (encVisit v))] w fun e w' => e = .returned (.tuple (List.toArray [str ((impl_VisitText v).1), .bool ((impl_VisitText v).2)])) ∧ Lo w w' := by
  refine calls_W 26 Tryd.func15 rfl rfl rfl ?_
  refine W.seq ?_
  refine W.regS (SR.box (v := .agg (List.toArray _)) (l := [.int .i64 v.Reader, .int .i64 v.Seat, .int .i64 v.From, .int .i64 v.Until]) rfl rfl ?_)
  intro g1 w2 hg3 hk4 hs5 hb6
  have hz7 := hk4.size
  have hB8 := (Lo.refl w).lo hk4
  refine SR.q' (r_as (v := str ([] : List UInt8)) rfl) <| SR.q' (r_as (v := .bool false) rfl) <| SR.nil ?_
  refine W.seq ?_
  refine W.seq ?_
  refine W.regS (SR.q' (r_lda (l := [.int .i64 v.Reader, .int .i64 v.Seat, .int .i64 v.From, .int .i64 v.Until]) agg26 rfl (fun _ _ hu => (hb6).cell hu) rfl) <| SR.call ent49 (c_impl_isVisit w2 v) rfl ?_)
  rintro e w9 ⟨rfl, hk10⟩
  refine ⟨_, rfl, ?_⟩
  have hz11 := hk10.size
  have hB12 := hB8.lo hk10
  refine SR.q' (r_not rfl) <| SR.nil ?_
  refine W.cond_n rfl (fun h13 => ?_) (fun h13 => ?_)
  · refine W.seq ?_
    refine W.regS (SR.q' (r_as (v := str ([] : List UInt8)) rfl) <| SR.q' (r_as (v := .bool false) rfl) <| SR.nil ?_)
    refine W.ret ?_
    refine ret2 rfl (v := str _) (v' := .bool _) rfl rfl ?_
    exact ⟨eR (eT2 (eS (by unfold impl_VisitText; rw [if_neg h13] <;> rfl)) (eB (by unfold impl_VisitText; rw [if_neg h13] <;> rfl))), hB12⟩
  · have hq14 := vok_rng h13
    refine W.skip ?_
    refine W.seq ?_
    refine W.regD mo (by kernel_rfl) (QR.q' (fun w' hw' => r_fa fa26_0 rfl) <| QR.q' (fun w' hw' => r_ld (v := .int .i64 v.Reader) sca3 rfl ((((hb6).lo hk10).lo hw').cell rfl)) <| QR.call ent50 (fun w' hw' => (c_impl_text w' v.Reader (by omega) (hE.lo (hB12.trans hw'))).mono fun _ _ h => ⟨h.1, hw'.trans h.2⟩) rfl <| ?_)
    have hq15 : (Lib.itoa v.Reader).length ≤ 21 := itoa_len (n := v.Reader) (by omega) (by omega)
    refine QR.q' (fun w' hw' => r_cat rfl rfl (by first | omega | (simp only [List.length_append, List.length_cons, List.length_nil, List.length_take, List.length_drop]; omega))) <| QR.q' (fun w' hw' => r_cat rfl rfl (by first | omega | (simp only [List.length_append, List.length_cons, List.length_nil, List.length_take, List.length_drop]; omega))) <| QR.q' (fun w' hw' => r_fa fa26_1 rfl) <| QR.q' (fun w' hw' => r_ld (v := .int .i64 v.Seat) sca3 rfl ((((hb6).lo hk10).lo hw').cell rfl)) <| QR.call ent50 (fun w' hw' => (c_impl_text w' v.Seat (by omega) (hE.lo (hB12.trans hw'))).mono fun _ _ h => ⟨h.1, hw'.trans h.2⟩) rfl <| ?_
    have hq16 : (Lib.itoa v.Seat).length ≤ 21 := itoa_len (n := v.Seat) (by omega) (by omega)
    refine QR.q' (fun w' hw' => r_cat rfl rfl (by first | omega | (simp only [List.length_append, List.length_cons, List.length_nil, List.length_take, List.length_drop]; omega))) <| QR.q' (fun w' hw' => r_cat rfl rfl (by first | omega | (simp only [List.length_append, List.length_cons, List.length_nil, List.length_take, List.length_drop]; omega))) <| QR.q' (fun w' hw' => r_fa fa26_2 rfl) <| QR.q' (fun w' hw' => r_ld (v := .int .i64 v.From) sca3 rfl ((((hb6).lo hk10).lo hw').cell rfl)) <| QR.call ent51 (fun w' hw' => (c_impl_clock w' v.From (by omega) (hE.lo (hB12.trans hw'))).mono fun _ _ h => ⟨h.1, hw'.trans h.2⟩) rfl <| ?_
    have hq17 : (clockT v.From).length ≤ 100 := clock_len (m := v.From) (by omega)
    refine QR.q' (fun w' hw' => r_cat rfl rfl (by first | omega | (simp only [List.length_append, List.length_cons, List.length_nil, List.length_take, List.length_drop]; omega))) <| QR.q' (fun w' hw' => r_cat rfl rfl (by first | omega | (simp only [List.length_append, List.length_cons, List.length_nil, List.length_take, List.length_drop]; omega))) <| QR.q' (fun w' hw' => r_fa fa26_3 rfl) <| QR.q' (fun w' hw' => r_ld (v := .int .i64 v.Until) sca3 rfl ((((hb6).lo hk10).lo hw').cell rfl)) <| QR.call ent51 (fun w' hw' => (c_impl_clock w' v.Until (by omega) (hE.lo (hB12.trans hw'))).mono fun _ _ h => ⟨h.1, hw'.trans h.2⟩) rfl <| ?_
    have hq18 : (clockT v.Until).length ≤ 100 := clock_len (m := v.Until) (by omega)
    refine QR.q' (fun w' hw' => r_cat rfl rfl (by first | omega | (simp only [List.length_append, List.length_cons, List.length_nil, List.length_take, List.length_drop]; omega))) <| QR.q' (fun w' hw' => r_as (v := str _) rfl) <| QR.q' (fun w' hw' => r_as (v := .bool true) rfl) <| QR.nil ?_
    intro w19 hk20
    have hz21 := hk20.size
    have hB22 := hB12.lo hk20
    refine W.ret ?_
    refine ret2 rfl (v := str _) (v' := .bool _) rfl rfl ?_
    exact ⟨eR (eT2 (eS (by unfold impl_VisitText; rw [if_pos h13] <;> rfl)) (eB (by unfold impl_VisitText; rw [if_pos h13] <;> rfl))), hB22⟩

theorem z_c_laws_FnExactVisitText_33 (v : Visit) (h32 : (¬ (((impl_VisitText v).1) = ((spec_VisitText v).1))) ∨ ((!(((impl_VisitText v).2) == ((spec_VisitText v).2))) = true)) : false = true := by
  (have e0 : spec_VisitText v = impl_VisitText v := (by first | rfl | (unfold spec_VisitText impl_VisitText; first | rfl | simp)); first | (simp [e0] at *; done) | (simp_all [e0]; done) | omega)
theorem c_laws_FnExactVisitText (w : World) (v : Visit) (hE : EnvW w) : Calls Tryd.prog 3 #[.agg (List.toArray (encVisit v))] w fun e w' => e = .returned (.bool true) ∧ Lo w w' := by
  refine calls_W 27 Tryd.func3 rfl rfl rfl ?_
  refine W.seq ?_
  refine W.regS (SR.box (v := .agg (List.toArray _)) (l := [.int .i64 v.Reader, .int .i64 v.Seat, .int .i64 v.From, .int .i64 v.Until]) rfl rfl ?_)
  intro g1 w2 hg3 hk4 hs5 hb6
  have hz7 := hk4.size
  have hB8 := (Lo.refl w).lo hk4
  refine SR.q' (r_as (v := .bool false) rfl) <| SR.nil ?_
  refine W.seq ?_
  refine W.regS (SR.q' (r_lda (l := [.int .i64 v.Reader, .int .i64 v.Seat, .int .i64 v.From, .int .i64 v.Until]) agg23 rfl (fun _ _ hu => (hb6).cell hu) rfl) <| SR.call ent14 (c_laws_toVisit w2 v) rfl ?_)
  rintro e w9 ⟨rfl, hk10⟩
  refine ⟨_, rfl, ?_⟩
  have hz11 := hk10.size
  have hB12 := hB8.lo hk10
  refine SR.call ent13 (c_spec_VisitText w9 v) rfl ?_
  rintro e w13 ⟨rfl, hk14⟩
  refine ⟨_, rfl, ?_⟩
  have hz15 := hk14.size
  have hB16 := hB12.lo hk14
  refine SR.q' (r_mv (v := .tuple (List.toArray _)) rfl) <| SR.q' (r_ext (v := str _) rfl rfl) <| SR.q' (r_ext (v := .bool _) rfl rfl) <| SR.q' (r_as (v := str _) rfl) <| SR.q' (r_as (v := .bool _) rfl) <| SR.nil ?_
  refine W.seq ?_
  refine W.regS (SR.q' (r_lda (l := [.int .i64 v.Reader, .int .i64 v.Seat, .int .i64 v.From, .int .i64 v.Until]) agg23 rfl (fun _ _ hu => (((hb6).lo hk10).lo hk14).cell hu) rfl) <| SR.call ent14 (c_laws_toVisit w13 v) rfl ?_)
  rintro e w17 ⟨rfl, hk18⟩
  refine ⟨_, rfl, ?_⟩
  have hz19 := hk18.size
  have hB20 := hB16.lo hk18
  refine SR.call ent15 (c_impl_VisitText w17 v (hE.lo (hB20))) rfl ?_
  rintro e w21 ⟨rfl, hk22⟩
  refine ⟨_, rfl, ?_⟩
  have hz23 := hk22.size
  have hB24 := hB20.lo hk22
  refine SR.q' (r_mv (v := .tuple (List.toArray _)) rfl) <| SR.q' (r_ext (v := str _) rfl rfl) <| SR.q' (r_ext (v := .bool _) rfl rfl) <| SR.q' (r_as (v := str _) rfl) <| SR.q' (r_as (v := .bool _) rfl) <| SR.nil ?_
  refine W.seq ?_
  refine W.seq ?_
  refine W.regJS (fun f' w' => At f' [(2, .bool false), (26, .bool (decide ((¬ (((impl_VisitText v).1) = ((spec_VisitText v).1))) ∨ ((!(((impl_VisitText v).2) == ((spec_VisitText v).2))) = true))))] ∧ Lo w21 w') ?_ ?_
  · refine SR.q' (r_mv (v := str _) rfl) <| SR.q' (r_mv (v := str _) rfl) <| SR.q' (r_nes (s := (impl_VisitText v).1) (r := (spec_VisitText v).1) rfl rfl) <| SR.q' (r_mv (v := .bool _) rfl) <| SR.splitN (fun h25 => ?_) (fun h25 => ?_)
    · refine SR.s' rfl <| SR.s' rfl <| SR.s' rfl <| SR.q' (r_pick true rfl (v := .bool true) rfl) <| SR.nil ?_
      exact ⟨_, rfl, ⟨⟨rfl, (eDT ((jmf h25).1 trivial)), trivial⟩, (Lo.refl _)⟩⟩
    · refine SR.g' rfl (r_mv (v := .bool _) rfl) <| SR.g' rfl (r_mv (v := .bool _) rfl) <| SR.g' rfl (r_neb und4 rfl rfl) <| SR.q' (r_pick false rfl (v := .bool _) rfl) <| SR.nil ?_
      exact ⟨_, rfl, ⟨⟨rfl, (eBD (jmt h25)), trivial⟩, (Lo.refl _)⟩⟩
  rintro f26 w27 ⟨hat28, hk29⟩
  rw [← sets_of_at hat28]
  have hz30 := hk29.size
  have hB31 := hB24.lo hk29
  refine W.cond_d rfl (fun h32 => ?_) (fun h32 => ?_)
  · refine W.seq ?_
    refine W.regS (SR.q' (r_as (v := .bool false) rfl) <| SR.nil ?_)
    refine W.ret ?_
    refine ret1 rfl (v := .bool _) rfl ?_
    exact ⟨eR (eB (z_c_laws_FnExactVisitText_33 v h32)), hB31⟩
  · have hq34 : ((impl_VisitText v).1) = ((spec_VisitText v).1) := (Classical.not_not.1 (not_or.1 h32).1)
    have hq35 : ¬ ((!(((impl_VisitText v).2) == ((spec_VisitText v).2))) = true) := (not_or.1 h32).2
    refine W.skip ?_
    refine W.seq ?_
    refine W.regS (SR.q' (r_as (v := .bool true) rfl) <| SR.nil ?_)
    refine W.ret ?_
    refine ret1 rfl (v := .bool _) rfl ?_
    exact ⟨eR rfl, hB31⟩
end Go.Proofs.YtdldiiboanhabaaDoor
