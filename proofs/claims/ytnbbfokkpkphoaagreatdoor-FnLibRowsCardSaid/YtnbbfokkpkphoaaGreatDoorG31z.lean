/- Walks, printed by a program of this claim's author. -/
import Derived.Test.YtnbbfokkpkphoaaGreatDoorChecked
import Derived.Test.YtnbbfokkpkphoaaGreatDoorLa
import Derived.Test.YtnbbfokkpkphoaaGreatDoorFo
import Derived.Test.YtnbbfokkpkphoaaGreatDoorFs
import Derived.Test.YtnbbfokkpkphoaaGreatDoorFq
import Derived.Test.YtnbbfokkpkphoaaGreatDoorFp
import Derived.Test.YtnbbfokkpkphoaaGreatDoorFu
import Derived.Test.YtnbbfokkpkphoaaGreatDoorFt
import Derived.Test.YtnbbfokkpkphoaaGreatDoorSi
import Derived.Test.YtnbbfokkpkphoaaGreatDoorVb
namespace Go.Proofs.YtnbbfokkpkphoaaGreatDoor
open Go Go.RowKit Fw
set_option maxRecDepth 10000
set_option linter.unusedVariables false
theorem mo : Tryz.prog.follows .mixedOrders = true := by kernel_rfl
theorem ent26 : Ent Tryz.prog 26 := ent_of Tryz.func26 (by decide +kernel) rfl
theorem ent43 : Ent Tryz.prog 43 := ent_of Tryz.func43 (by decide +kernel) rfl
theorem ent45 : Ent Tryz.prog 45 := ent_of Tryz.func45 (by decide +kernel) rfl
theorem ent48 : Ent Tryz.prog 48 := ent_of Tryz.func48 (by decide +kernel) rfl
theorem ent49 : Ent Tryz.prog 49 := ent_of Tryz.func49 (by decide +kernel) rfl
theorem ent57 : Ent Tryz.prog 57 := ent_of Tryz.func57 (by decide +kernel) rfl
theorem fa25_0 : FA Tryz.prog 25 0 0 := fun _ _ => by kernel_rfl
theorem fa25_1 : FA Tryz.prog 25 1 1 := fun _ _ => by kernel_rfl
theorem fa25_2 : FA Tryz.prog 25 2 2 := fun _ _ => by kernel_rfl
theorem fa25_3 : FA Tryz.prog 25 3 3 := fun _ _ => by kernel_rfl
theorem fa25_4 : FA Tryz.prog 25 4 4 := fun _ _ => by kernel_rfl
theorem sca3 : TSca Tryz.prog 3 := ⟨fun _ => by kernel_rfl, fun _ => by kernel_rfl⟩
theorem und9 : Tryz.prog.underlying 9 = some (.string) := by kernel_rfl

theorem z_c_spec_l1In_8 (n : Int) (a : Int) (b : Int) : ((a ≤ n) ∧ (n ≤ b)) ↔ (a ≤ n ∧ n ≤ b) := by
  omega
theorem c_spec_l1In (w : World) (n : Int) (a : Int) (b : Int) : Calls Tryz.prog 49 #[.int .i64 n, .int .i64 a, .int .i64 b] w fun e w' => e = .returned (.bool (decide (a ≤ n ∧ n ≤ b))) ∧ Lo w w' := by
  refine calls_W 15 Tryz.func49 rfl rfl rfl ?_
  refine W.seq ?_
  refine W.regS (SR.q' (r_as (v := .bool false) rfl) <| SR.nil ?_)
  refine W.seq ?_
  refine W.regJS (fun f' w' => At f' [(6, .bool (decide ((a ≤ n) ∧ (n ≤ b))))] ∧ Lo w w') ?_ ?_
  · refine SR.q' (r_mv (v := .int .i64 _) rfl) <| SR.q' (r_mv (v := .int .i64 _) rfl) <| SR.q' (r_ge rfl rfl) <| SR.q' (r_mv (v := .bool _) rfl) <| SR.splitD (fun h1 => ?_) (fun h1 => ?_)
    · refine SR.g' rfl (r_mv (v := .int .i64 _) rfl) <| SR.g' rfl (r_mv (v := .int .i64 _) rfl) <| SR.g' rfl (r_le rfl rfl) <| SR.q' (r_pick true rfl (v := .bool _) rfl) <| SR.q' (r_as (v := .bool _) rfl) <| SR.nil ?_
      exact ⟨_, rfl, ⟨⟨(eDD (jat h1)), trivial⟩, (Lo.refl _)⟩⟩
    · refine SR.s' rfl <| SR.s' rfl <| SR.s' rfl <| SR.q' (r_pick false rfl (v := .bool false) rfl) <| SR.q' (r_as (v := .bool _) rfl) <| SR.nil ?_
      exact ⟨_, rfl, ⟨⟨(eDF (jaf h1).2), trivial⟩, (Lo.refl _)⟩⟩
  rintro f2 w3 ⟨hat4, hk5⟩
  rw [← sets_of_at hat4]
  have hz6 := hk5.size
  have hB7 := (Lo.refl w).lo hk5
  refine W.ret ?_
  refine ret1 rfl (v := .bool _) rfl ?_
  exact ⟨eR (eDD (z_c_spec_l1In_8 n a b)), hB7⟩

theorem z_c_impl_within_8 (n : Int) (a : Int) (b : Int) : ((a ≤ n) ∧ (n ≤ b)) ↔ (a ≤ n ∧ n ≤ b) := by
  omega
theorem c_impl_within (w : World) (n : Int) (a : Int) (b : Int) : Calls Tryz.prog 26 #[.int .i64 n, .int .i64 a, .int .i64 b] w fun e w' => e = .returned (.bool (decide (a ≤ n ∧ n ≤ b))) ∧ Lo w w' := by
  refine calls_W 15 Tryz.func26 rfl rfl rfl ?_
  refine W.seq ?_
  refine W.regS (SR.q' (r_as (v := .bool false) rfl) <| SR.nil ?_)
  refine W.seq ?_
  refine W.regJS (fun f' w' => At f' [(6, .bool (decide ((a ≤ n) ∧ (n ≤ b))))] ∧ Lo w w') ?_ ?_
  · refine SR.q' (r_mv (v := .int .i64 _) rfl) <| SR.q' (r_mv (v := .int .i64 _) rfl) <| SR.q' (r_ge rfl rfl) <| SR.q' (r_mv (v := .bool _) rfl) <| SR.splitD (fun h1 => ?_) (fun h1 => ?_)
    · refine SR.g' rfl (r_mv (v := .int .i64 _) rfl) <| SR.g' rfl (r_mv (v := .int .i64 _) rfl) <| SR.g' rfl (r_le rfl rfl) <| SR.q' (r_pick true rfl (v := .bool _) rfl) <| SR.q' (r_as (v := .bool _) rfl) <| SR.nil ?_
      exact ⟨_, rfl, ⟨⟨(eDD (jat h1)), trivial⟩, (Lo.refl _)⟩⟩
    · refine SR.s' rfl <| SR.s' rfl <| SR.s' rfl <| SR.q' (r_pick false rfl (v := .bool false) rfl) <| SR.q' (r_as (v := .bool _) rfl) <| SR.nil ?_
      exact ⟨_, rfl, ⟨⟨(eDF (jaf h1).2), trivial⟩, (Lo.refl _)⟩⟩
  rintro f2 w3 ⟨hat4, hk5⟩
  rw [← sets_of_at hat4]
  have hz6 := hk5.size
  have hB7 := (Lo.refl w).lo hk5
  refine W.ret ?_
  refine ret1 rfl (v := .bool _) rfl ?_
  exact ⟨eR (eDD (z_c_impl_within_8 n a b)), hB7⟩

theorem z_c_spec_l31One_39 (r : LibRow) : ((1 ≤ r.Month ∧ r.Month ≤ 1200) ∧ ((0 ≤ r.Lent ∧ r.Lent ≤ 9999) ∧ ((0 ≤ r.Copied ∧ r.Copied ≤ 9999) ∧ ((0 ≤ r.Given ∧ r.Given ≤ 999) ∧ (0 ≤ r.Fines ∧ r.Fines ≤ 99999))))) ↔ (RowOK r) := by
  unfold RowOK; omega
theorem c_spec_l31One (w : World) (r : LibRow) : Calls Tryz.prog 24 #[.agg (List.toArray (encLibRow r))] w fun e w' => e = .returned (.bool (decide (RowOK r))) ∧ Lo w w' := by
  refine calls_W 26 Tryz.func24 rfl rfl rfl ?_
  refine W.seq ?_
  refine W.regS (SR.box (v := .agg (List.toArray _)) (l := [.int .i64 r.Month, .int .i64 r.Lent, .int .i64 r.Copied, .int .i64 r.Given, .int .i64 r.Fines]) rfl rfl ?_)
  intro g1 w2 hg3 hk4 hs5 hb6
  have hz7 := hk4.size
  have hB8 := (Lo.refl w).lo hk4
  refine SR.q' (r_as (v := .bool false) rfl) <| SR.nil ?_
  refine W.seq ?_
  refine W.regJS (fun f' w' => At f' [(2, .bool (decide ((1 ≤ r.Month ∧ r.Month ≤ 1200) ∧ ((0 ≤ r.Lent ∧ r.Lent ≤ 9999) ∧ ((0 ≤ r.Copied ∧ r.Copied ≤ 9999) ∧ ((0 ≤ r.Given ∧ r.Given ≤ 999) ∧ (0 ≤ r.Fines ∧ r.Fines ≤ 99999)))))))] ∧ Lo w2 w') ?_ ?_
  · refine SR.q' (r_fa fa25_0 rfl) <| SR.q' (r_ld (v := .int .i64 r.Month) sca3 rfl ((hb6).cell rfl)) <| SR.call ent49 (c_spec_l1In w2 r.Month 1 1200) rfl ?_
    rintro e w9 ⟨rfl, hk10⟩
    refine ⟨_, rfl, ?_⟩
    have hz11 := hk10.size
    have hB12 := hB8.lo hk10
    refine SR.q' (r_mv (v := .bool _) rfl) <| SR.splitD (fun h13 => ?_) (fun h13 => ?_)
    · refine SR.g' rfl (r_fa fa25_1 rfl) <| SR.g' rfl (r_ld (v := .int .i64 r.Lent) sca3 rfl (((hb6).lo hk10).cell rfl)) <| SR.gcall rfl ent49 (c_spec_l1In w9 r.Lent 0 9999) rfl ?_
      rintro e w14 ⟨rfl, hk15⟩
      refine ⟨_, rfl, ?_⟩
      have hz16 := hk15.size
      have hB17 := hB12.lo hk15
      refine SR.q' (r_pick true rfl (v := .bool _) rfl) <| SR.q' (r_mv (v := .bool _) rfl) <| SR.splitD (fun h18 => ?_) (fun h18 => ?_)
      · refine SR.g' rfl (r_fa fa25_2 rfl) <| SR.g' rfl (r_ld (v := .int .i64 r.Copied) sca3 rfl ((((hb6).lo hk10).lo hk15).cell rfl)) <| SR.gcall rfl ent49 (c_spec_l1In w14 r.Copied 0 9999) rfl ?_
        rintro e w19 ⟨rfl, hk20⟩
        refine ⟨_, rfl, ?_⟩
        have hz21 := hk20.size
        have hB22 := hB17.lo hk20
        refine SR.q' (r_pick true rfl (v := .bool _) rfl) <| SR.q' (r_mv (v := .bool _) rfl) <| SR.splitD (fun h23 => ?_) (fun h23 => ?_)
        · refine SR.g' rfl (r_fa fa25_3 rfl) <| SR.g' rfl (r_ld (v := .int .i64 r.Given) sca3 rfl (((((hb6).lo hk10).lo hk15).lo hk20).cell rfl)) <| SR.gcall rfl ent49 (c_spec_l1In w19 r.Given 0 999) rfl ?_
          rintro e w24 ⟨rfl, hk25⟩
          refine ⟨_, rfl, ?_⟩
          have hz26 := hk25.size
          have hB27 := hB22.lo hk25
          refine SR.q' (r_pick true rfl (v := .bool _) rfl) <| SR.q' (r_mv (v := .bool _) rfl) <| SR.splitD (fun h28 => ?_) (fun h28 => ?_)
          · refine SR.g' rfl (r_fa fa25_4 rfl) <| SR.g' rfl (r_ld (v := .int .i64 r.Fines) sca3 rfl ((((((hb6).lo hk10).lo hk15).lo hk20).lo hk25).cell rfl)) <| SR.gcall rfl ent49 (c_spec_l1In w24 r.Fines 0 99999) rfl ?_
            rintro e w29 ⟨rfl, hk30⟩
            refine ⟨_, rfl, ?_⟩
            have hz31 := hk30.size
            have hB32 := hB27.lo hk30
            refine SR.q' (r_pick true rfl (v := .bool _) rfl) <| SR.q' (r_as (v := .bool _) rfl) <| SR.nil ?_
            exact ⟨_, rfl, ⟨⟨(eDD ((((jat h28).trans (jat h23)).trans (jat h18)).trans (jat h13))), trivial⟩, (((((hk10).trans hk15).trans hk20).trans hk25).trans hk30)⟩⟩
          · refine SR.s' rfl <| SR.s' rfl <| SR.s' rfl <| SR.q' (r_pick false rfl (v := .bool false) rfl) <| SR.q' (r_as (v := .bool _) rfl) <| SR.nil ?_
            exact ⟨_, rfl, ⟨⟨(eDF ((((jaf h28).trans (jat h23)).trans (jat h18)).trans (jat h13)).2), trivial⟩, ((((hk10).trans hk15).trans hk20).trans hk25)⟩⟩
        · refine SR.s' rfl <| SR.s' rfl <| SR.s' rfl <| SR.q' (r_pick false rfl (v := .bool false) rfl) <| SR.q' (r_mv (v := .bool _) rfl) <| SR.s' rfl <| SR.s' rfl <| SR.s' rfl <| SR.q' (r_pick false rfl (v := .bool false) rfl) <| SR.q' (r_as (v := .bool _) rfl) <| SR.nil ?_
          exact ⟨_, rfl, ⟨⟨(eDF (((jaf h23).trans (jat h18)).trans (jat h13)).2), trivial⟩, (((hk10).trans hk15).trans hk20)⟩⟩
      · refine SR.s' rfl <| SR.s' rfl <| SR.s' rfl <| SR.q' (r_pick false rfl (v := .bool false) rfl) <| SR.q' (r_mv (v := .bool _) rfl) <| SR.s' rfl <| SR.s' rfl <| SR.s' rfl <| SR.q' (r_pick false rfl (v := .bool false) rfl) <| SR.q' (r_mv (v := .bool _) rfl) <| SR.s' rfl <| SR.s' rfl <| SR.s' rfl <| SR.q' (r_pick false rfl (v := .bool false) rfl) <| SR.q' (r_as (v := .bool _) rfl) <| SR.nil ?_
        exact ⟨_, rfl, ⟨⟨(eDF ((jaf h18).trans (jat h13)).2), trivial⟩, ((hk10).trans hk15)⟩⟩
    · refine SR.s' rfl <| SR.s' rfl <| SR.s' rfl <| SR.q' (r_pick false rfl (v := .bool false) rfl) <| SR.q' (r_mv (v := .bool _) rfl) <| SR.s' rfl <| SR.s' rfl <| SR.s' rfl <| SR.q' (r_pick false rfl (v := .bool false) rfl) <| SR.q' (r_mv (v := .bool _) rfl) <| SR.s' rfl <| SR.s' rfl <| SR.s' rfl <| SR.q' (r_pick false rfl (v := .bool false) rfl) <| SR.q' (r_mv (v := .bool _) rfl) <| SR.s' rfl <| SR.s' rfl <| SR.s' rfl <| SR.q' (r_pick false rfl (v := .bool false) rfl) <| SR.q' (r_as (v := .bool _) rfl) <| SR.nil ?_
      exact ⟨_, rfl, ⟨⟨(eDF (jaf h13).2), trivial⟩, (hk10)⟩⟩
  rintro f33 w34 ⟨hat35, hk36⟩
  rw [← sets_of_at hat35]
  have hz37 := hk36.size
  have hB38 := hB8.lo hk36
  refine W.ret ?_
  refine ret1 rfl (v := .bool _) rfl ?_
  exact ⟨eR (eDD (z_c_spec_l31One_39 r)), hB38⟩

theorem z_c_impl_IsLibRow_39 (r : LibRow) : ((1 ≤ r.Month ∧ r.Month ≤ 1200) ∧ ((0 ≤ r.Lent ∧ r.Lent ≤ 9999) ∧ ((0 ≤ r.Copied ∧ r.Copied ≤ 9999) ∧ ((0 ≤ r.Given ∧ r.Given ≤ 999) ∧ (0 ≤ r.Fines ∧ r.Fines ≤ 99999))))) ↔ (RowOK r) := by
  unfold RowOK; omega
theorem c_impl_IsLibRow (w : World) (r : LibRow) : Calls Tryz.prog 8 #[.agg (List.toArray (encLibRow r))] w fun e w' => e = .returned (.bool (decide (RowOK r))) ∧ Lo w w' := by
  refine calls_W 26 Tryz.func8 rfl rfl rfl ?_
  refine W.seq ?_
  refine W.regS (SR.box (v := .agg (List.toArray _)) (l := [.int .i64 r.Month, .int .i64 r.Lent, .int .i64 r.Copied, .int .i64 r.Given, .int .i64 r.Fines]) rfl rfl ?_)
  intro g1 w2 hg3 hk4 hs5 hb6
  have hz7 := hk4.size
  have hB8 := (Lo.refl w).lo hk4
  refine SR.q' (r_as (v := .bool false) rfl) <| SR.nil ?_
  refine W.seq ?_
  refine W.regJS (fun f' w' => At f' [(2, .bool (decide ((1 ≤ r.Month ∧ r.Month ≤ 1200) ∧ ((0 ≤ r.Lent ∧ r.Lent ≤ 9999) ∧ ((0 ≤ r.Copied ∧ r.Copied ≤ 9999) ∧ ((0 ≤ r.Given ∧ r.Given ≤ 999) ∧ (0 ≤ r.Fines ∧ r.Fines ≤ 99999)))))))] ∧ Lo w2 w') ?_ ?_
  · refine SR.q' (r_fa fa25_0 rfl) <| SR.q' (r_ld (v := .int .i64 r.Month) sca3 rfl ((hb6).cell rfl)) <| SR.call ent26 (c_impl_within w2 r.Month 1 1200) rfl ?_
    rintro e w9 ⟨rfl, hk10⟩
    refine ⟨_, rfl, ?_⟩
    have hz11 := hk10.size
    have hB12 := hB8.lo hk10
    refine SR.q' (r_mv (v := .bool _) rfl) <| SR.splitD (fun h13 => ?_) (fun h13 => ?_)
    · refine SR.g' rfl (r_fa fa25_1 rfl) <| SR.g' rfl (r_ld (v := .int .i64 r.Lent) sca3 rfl (((hb6).lo hk10).cell rfl)) <| SR.gcall rfl ent26 (c_impl_within w9 r.Lent 0 9999) rfl ?_
      rintro e w14 ⟨rfl, hk15⟩
      refine ⟨_, rfl, ?_⟩
      have hz16 := hk15.size
      have hB17 := hB12.lo hk15
      refine SR.q' (r_pick true rfl (v := .bool _) rfl) <| SR.q' (r_mv (v := .bool _) rfl) <| SR.splitD (fun h18 => ?_) (fun h18 => ?_)
      · refine SR.g' rfl (r_fa fa25_2 rfl) <| SR.g' rfl (r_ld (v := .int .i64 r.Copied) sca3 rfl ((((hb6).lo hk10).lo hk15).cell rfl)) <| SR.gcall rfl ent26 (c_impl_within w14 r.Copied 0 9999) rfl ?_
        rintro e w19 ⟨rfl, hk20⟩
        refine ⟨_, rfl, ?_⟩
        have hz21 := hk20.size
        have hB22 := hB17.lo hk20
        refine SR.q' (r_pick true rfl (v := .bool _) rfl) <| SR.q' (r_mv (v := .bool _) rfl) <| SR.splitD (fun h23 => ?_) (fun h23 => ?_)
        · refine SR.g' rfl (r_fa fa25_3 rfl) <| SR.g' rfl (r_ld (v := .int .i64 r.Given) sca3 rfl (((((hb6).lo hk10).lo hk15).lo hk20).cell rfl)) <| SR.gcall rfl ent26 (c_impl_within w19 r.Given 0 999) rfl ?_
          rintro e w24 ⟨rfl, hk25⟩
          refine ⟨_, rfl, ?_⟩
          have hz26 := hk25.size
          have hB27 := hB22.lo hk25
          refine SR.q' (r_pick true rfl (v := .bool _) rfl) <| SR.q' (r_mv (v := .bool _) rfl) <| SR.splitD (fun h28 => ?_) (fun h28 => ?_)
          · refine SR.g' rfl (r_fa fa25_4 rfl) <| SR.g' rfl (r_ld (v := .int .i64 r.Fines) sca3 rfl ((((((hb6).lo hk10).lo hk15).lo hk20).lo hk25).cell rfl)) <| SR.gcall rfl ent26 (c_impl_within w24 r.Fines 0 99999) rfl ?_
            rintro e w29 ⟨rfl, hk30⟩
            refine ⟨_, rfl, ?_⟩
            have hz31 := hk30.size
            have hB32 := hB27.lo hk30
            refine SR.q' (r_pick true rfl (v := .bool _) rfl) <| SR.q' (r_as (v := .bool _) rfl) <| SR.nil ?_
            exact ⟨_, rfl, ⟨⟨(eDD ((((jat h28).trans (jat h23)).trans (jat h18)).trans (jat h13))), trivial⟩, (((((hk10).trans hk15).trans hk20).trans hk25).trans hk30)⟩⟩
          · refine SR.s' rfl <| SR.s' rfl <| SR.s' rfl <| SR.q' (r_pick false rfl (v := .bool false) rfl) <| SR.q' (r_as (v := .bool _) rfl) <| SR.nil ?_
            exact ⟨_, rfl, ⟨⟨(eDF ((((jaf h28).trans (jat h23)).trans (jat h18)).trans (jat h13)).2), trivial⟩, ((((hk10).trans hk15).trans hk20).trans hk25)⟩⟩
        · refine SR.s' rfl <| SR.s' rfl <| SR.s' rfl <| SR.q' (r_pick false rfl (v := .bool false) rfl) <| SR.q' (r_mv (v := .bool _) rfl) <| SR.s' rfl <| SR.s' rfl <| SR.s' rfl <| SR.q' (r_pick false rfl (v := .bool false) rfl) <| SR.q' (r_as (v := .bool _) rfl) <| SR.nil ?_
          exact ⟨_, rfl, ⟨⟨(eDF (((jaf h23).trans (jat h18)).trans (jat h13)).2), trivial⟩, (((hk10).trans hk15).trans hk20)⟩⟩
      · refine SR.s' rfl <| SR.s' rfl <| SR.s' rfl <| SR.q' (r_pick false rfl (v := .bool false) rfl) <| SR.q' (r_mv (v := .bool _) rfl) <| SR.s' rfl <| SR.s' rfl <| SR.s' rfl <| SR.q' (r_pick false rfl (v := .bool false) rfl) <| SR.q' (r_mv (v := .bool _) rfl) <| SR.s' rfl <| SR.s' rfl <| SR.s' rfl <| SR.q' (r_pick false rfl (v := .bool false) rfl) <| SR.q' (r_as (v := .bool _) rfl) <| SR.nil ?_
        exact ⟨_, rfl, ⟨⟨(eDF ((jaf h18).trans (jat h13)).2), trivial⟩, ((hk10).trans hk15)⟩⟩
    · refine SR.s' rfl <| SR.s' rfl <| SR.s' rfl <| SR.q' (r_pick false rfl (v := .bool false) rfl) <| SR.q' (r_mv (v := .bool _) rfl) <| SR.s' rfl <| SR.s' rfl <| SR.s' rfl <| SR.q' (r_pick false rfl (v := .bool false) rfl) <| SR.q' (r_mv (v := .bool _) rfl) <| SR.s' rfl <| SR.s' rfl <| SR.s' rfl <| SR.q' (r_pick false rfl (v := .bool false) rfl) <| SR.q' (r_mv (v := .bool _) rfl) <| SR.s' rfl <| SR.s' rfl <| SR.s' rfl <| SR.q' (r_pick false rfl (v := .bool false) rfl) <| SR.q' (r_as (v := .bool _) rfl) <| SR.nil ?_
      exact ⟨_, rfl, ⟨⟨(eDF (jaf h13).2), trivial⟩, (hk10)⟩⟩
  rintro f33 w34 ⟨hat35, hk36⟩
  rw [← sets_of_at hat35]
  have hz37 := hk36.size
  have hB38 := hB8.lo hk36
  refine W.ret ?_
  refine ret1 rfl (v := .bool _) rfl ?_
  exact ⟨eR (eDD (z_c_impl_IsLibRow_39 r)), hB38⟩

theorem c_impl_text (w : World) (n : Int) (hp0 : -9223372036854775808 ≤ n ∧ n ≤ 9223372036854775807) (hE : EnvW w) : Calls Tryz.prog 43 #[.int .i64 n] w fun e w' => e = .returned (str (Lib.itoa n)) ∧ Lo w w' := by
  refine calls_W 5 Tryz.func43 rfl rfl rfl ?_
  refine W.seq ?_
  refine W.regS (SR.q' (r_as (v := str ([] : List UInt8)) rfl) <| SR.nil ?_)
  refine W.seq ?_
  refine W.regS (SR.q' (r_mv (v := .int .i64 _) rfl) <| SR.call ent57 (c_strconv_Itoa w n (by omega) (hE.lo ((Lo.refl w)))) rfl ?_)
  rintro e w1 ⟨rfl, hk2⟩
  refine ⟨_, rfl, ?_⟩
  have hz3 := hk2.size
  have hB4 := (Lo.refl w).lo hk2
  have hq5 : (Lib.itoa n).length ≤ 21 := itoa_len (n := n) (by omega) (by omega)
  refine SR.q' (r_as (v := str _) rfl) <| SR.nil ?_
  refine W.ret ?_
  refine ret1 rfl (v := str _) rfl ?_
  exact ⟨eR rfl, hB4⟩

theorem z_c_spec_l1Num_7 (n : Int) (hp0 : -9223372036854775807 ≤ n ∧ n ≤ 9223372036854775807) (h1 : n < 0) (hq6 : (Lib.itoa (-n)).length ≤ 21) : ([45] : List UInt8) ++ (Lib.itoa (-n)) = Lib.itoa n := by
  first | exact itoa_m ‹_› | exact itoa_d (by omega) ‹_› | exact itoa_b (by omega)
theorem z_c_spec_l1Num_9 (n : Int) (hp0 : -9223372036854775807 ≤ n ∧ n ≤ 9223372036854775807) (h1 : ¬ (n < 0)) (h8 : n < 10) : (([48, 49, 50, 51, 52, 53, 54, 55, 56, 57] : List UInt8).drop n.toNat).take (((n + 1).toNat) - n.toNat) = Lib.itoa n := by
  first | exact itoa_m ‹_› | exact itoa_d (by omega) ‹_› | exact itoa_b (by omega)
theorem z_c_spec_l1Num_15 (n : Int) (hp0 : -9223372036854775807 ≤ n ∧ n ≤ 9223372036854775807) (h1 : ¬ (n < 0)) (h8 : ¬ (n < 10)) (hq10 : (Lib.itoa (n / 10)).length ≤ 21) : (Lib.itoa (n / 10)) ++ ((([48, 49, 50, 51, 52, 53, 54, 55, 56, 57] : List UInt8).drop ((n % 10).toNat)).take ((((n % 10) + 1).toNat) - ((n % 10).toNat))) = Lib.itoa n := by
  first | exact itoa_m ‹_› | exact itoa_d (by omega) ‹_› | exact itoa_b (by omega)
theorem c_spec_l1Num (w : World) (n : Int) (hp0 : -9223372036854775807 ≤ n ∧ n ≤ 9223372036854775807) : Calls Tryz.prog 45 #[.int .i64 n] w fun e w' => e = .returned (str (Lib.itoa n)) ∧ Lo w w' := by
  refine calls_W 25 Tryz.func45 rfl rfl rfl ?_
  refine W.seq ?_
  refine W.regS (SR.q' (r_as (v := str ([] : List UInt8)) rfl) <| SR.nil ?_)
  refine W.seq ?_
  refine W.seq ?_
  refine W.regS (SR.q' (r_mv (v := .int .i64 _) rfl) <| SR.q' (r_lt rfl rfl) <| SR.nil ?_)
  refine W.cond_d rfl (fun h1 => ?_) (fun h1 => ?_)
  · refine W.seq ?_
    refine W.regS (SR.q' (r_mv (v := .int .i64 _) rfl) <| SR.q' (r_neg rfl (by omega)) <| SR.call ent45 (c_spec_l1Num w (-n) (by omega)) rfl ?_)
    rintro e w2 ⟨rfl, hk3⟩
    refine ⟨_, rfl, ?_⟩
    have hz4 := hk3.size
    have hB5 := (Lo.refl w).lo hk3
    have hq6 : (Lib.itoa (-n)).length ≤ 21 := itoa_len (n := -n) (by omega) (by omega)
    refine SR.q' (r_cat rfl rfl (by first | omega | (simp only [List.length_append, List.length_cons, List.length_nil, List.length_take, List.length_drop]; omega) | (simp only [List.length_append, List.length_cons, List.length_nil, List.length_take, List.length_drop] at *; omega))) <| SR.q' (r_as (v := str _) rfl) <| SR.nil ?_
    refine W.ret ?_
    refine ret1 rfl (v := str _) rfl ?_
    exact ⟨eR (eS (z_c_spec_l1Num_7 n hp0 h1 hq6)), hB5⟩
  · refine W.skip ?_
    refine W.seq ?_
    refine W.seq ?_
    refine W.regS (SR.q' (r_mv (v := .int .i64 _) rfl) <| SR.q' (r_lt rfl rfl) <| SR.nil ?_)
    refine W.cond_d rfl (fun h8 => ?_) (fun h8 => ?_)
    · refine W.seq ?_
      refine W.regS (SR.q' (r_mv (v := .int .i64 _) rfl) <| SR.q' (r_mv (v := .int .i64 _) rfl) <| SR.q' (r_add rfl rfl (by omega)) <| SR.q' (r_cutS (l := n.toNat) (h := (n + 1).toNat) und9 rfl rfl rfl (by omega) (by omega) (by omega) (by first | omega | (simp only [List.length_append, List.length_cons, List.length_nil, List.length_take, List.length_drop]; omega) | (simp only [List.length_append, List.length_cons, List.length_nil, List.length_take, List.length_drop] at *; omega))) <| SR.q' (r_as (v := str _) rfl) <| SR.nil ?_)
      refine W.ret ?_
      refine ret1 rfl (v := str _) rfl ?_
      exact ⟨eR (eS (z_c_spec_l1Num_9 n hp0 h1 h8)), (Lo.refl w)⟩
    · refine W.skip ?_
      refine W.seq ?_
      refine W.regD mo (by kernel_rfl) (QR.q' (fun w' hw' => r_mv (v := .int .i64 _) rfl) <| QR.q' (fun w' hw' => r_quo rfl rfl (by omega)) <| QR.call ent45 (fun w' hw' => (c_spec_l1Num w' (n / 10) (by omega)).mono fun _ _ h => ⟨h.1, hw'.trans h.2⟩) rfl <| ?_)
      have hq10 : (Lib.itoa (n / 10)).length ≤ 21 := itoa_len (n := n / 10) (by omega) (by omega)
      refine QR.q' (fun w' hw' => r_mv (v := .int .i64 _) rfl) <| QR.q' (fun w' hw' => r_rem rfl rfl (by omega)) <| QR.q' (fun w' hw' => r_mv (v := .int .i64 _) rfl) <| QR.q' (fun w' hw' => r_rem rfl rfl (by omega)) <| QR.q' (fun w' hw' => r_add rfl rfl (by omega)) <| QR.q' (fun w' hw' => r_cutS (l := (n % 10).toNat) (h := ((n % 10) + 1).toNat) und9 rfl rfl rfl (by omega) (by omega) (by omega) (by first | omega | (simp only [List.length_append, List.length_cons, List.length_nil, List.length_take, List.length_drop]; omega) | (simp only [List.length_append, List.length_cons, List.length_nil, List.length_take, List.length_drop] at *; omega))) <| QR.q' (fun w' hw' => r_cat rfl rfl (by first | omega | (simp only [List.length_append, List.length_cons, List.length_nil, List.length_take, List.length_drop]; omega) | (simp only [List.length_append, List.length_cons, List.length_nil, List.length_take, List.length_drop] at *; omega))) <| QR.q' (fun w' hw' => r_as (v := str _) rfl) <| QR.nil ?_
      intro w11 hk12
      have hz13 := hk12.size
      have hB14 := (Lo.refl w).lo hk12
      refine W.ret ?_
      refine ret1 rfl (v := str _) rfl ?_
      exact ⟨eR (eS (z_c_spec_l1Num_15 n hp0 h1 h8 hq10)), hB14⟩
termination_by n.toNat + 2 * (-n).toNat
decreasing_by all_goals omega

theorem z_c_impl_twoDigits_11 (n : Int) (hp0 : 0 ≤ n ∧ n ≤ 99) (hq5 : (Lib.itoa (n / 10)).length ≤ 21) (hq10 : (Lib.itoa (n % 10)).length ≤ 21) : (Lib.itoa (n / 10)) ++ (Lib.itoa (n % 10)) = twoD n := by
  rfl
theorem c_impl_twoDigits (w : World) (n : Int) (hp0 : 0 ≤ n ∧ n ≤ 99) (hE : EnvW w) : Calls Tryz.prog 48 #[.int .i64 n] w fun e w' => e = .returned (str (twoD n)) ∧ Lo w w' := by
  refine calls_W 10 Tryz.func48 rfl rfl rfl ?_
  refine W.seq ?_
  refine W.regS (SR.q' (r_as (v := str ([] : List UInt8)) rfl) <| SR.nil ?_)
  refine W.seq ?_
  refine W.regS (SR.q' (r_mv (v := .int .i64 _) rfl) <| SR.q' (r_quo rfl rfl (by omega)) <| SR.call ent43 (c_impl_text w (n / 10) (by omega) (hE.lo ((Lo.refl w)))) rfl ?_)
  rintro e w1 ⟨rfl, hk2⟩
  refine ⟨_, rfl, ?_⟩
  have hz3 := hk2.size
  have hB4 := (Lo.refl w).lo hk2
  have hq5 : (Lib.itoa (n / 10)).length ≤ 21 := itoa_len (n := n / 10) (by omega) (by omega)
  refine SR.q' (r_mv (v := .int .i64 _) rfl) <| SR.q' (r_rem rfl rfl (by omega)) <| SR.call ent43 (c_impl_text w1 (n % 10) (by omega) (hE.lo (hB4))) rfl ?_
  rintro e w6 ⟨rfl, hk7⟩
  refine ⟨_, rfl, ?_⟩
  have hz8 := hk7.size
  have hB9 := hB4.lo hk7
  have hq10 : (Lib.itoa (n % 10)).length ≤ 21 := itoa_len (n := n % 10) (by omega) (by omega)
  refine SR.q' (r_cat rfl rfl (by first | omega | (simp only [List.length_append, List.length_cons, List.length_nil, List.length_take, List.length_drop]; omega) | (simp only [List.length_append, List.length_cons, List.length_nil, List.length_take, List.length_drop] at *; omega))) <| SR.q' (r_as (v := str _) rfl) <| SR.nil ?_
  refine W.ret ?_
  refine ret1 rfl (v := str _) rfl ?_
  exact ⟨eR (eS (z_c_impl_twoDigits_11 n hp0 hq5 hq10)), hB9⟩

theorem z_c_spec_l31Line_30 (r : LibRow) (hp0 : RowOK r) (hq9 : (Lib.itoa r.Month).length ≤ 21) (hq10 : (Lib.itoa r.Lent).length ≤ 21) (hq11 : (Lib.itoa r.Copied).length ≤ 21) (h16 : 0 < r.Given) (hq21 : (Lib.itoa r.Given).length ≤ 21) (h22 : 0 < r.Fines) (hq23 : (Lib.itoa (r.Fines / 100)).length ≤ 21) (hq24 : (Lib.itoa ((r.Fines / 10) % 10)).length ≤ 21) (hq25 : (Lib.itoa (r.Fines % 10)).length ≤ 21) : (((((((((((((([109, 111, 110, 116, 104, 32] : List UInt8) ++ (Lib.itoa r.Month)) ++ ([58, 32] : List UInt8)) ++ (Lib.itoa r.Lent)) ++ ([32, 108, 101, 110, 116, 44, 32] : List UInt8)) ++ (Lib.itoa r.Copied)) ++ ([32, 99, 111, 112, 105, 101, 100] : List UInt8)) ++ ([44, 32] : List UInt8)) ++ (Lib.itoa r.Given)) ++ ([32, 103, 105, 118, 101, 110] : List UInt8)) ++ ([44, 32, 102, 105, 110, 101, 115, 32] : List UInt8)) ++ (Lib.itoa (r.Fines / 100))) ++ ([46] : List UInt8)) ++ (Lib.itoa ((r.Fines / 10) % 10))) ++ (Lib.itoa (r.Fines % 10)) = lineT r := by
  have hrg := row_rng hp0; unfold lineT; (first | rw [if_pos (show r.Given = 0 by omega)] | rw [if_neg (show ¬ r.Given = 0 by omega)]); (first | rw [if_pos (show r.Fines = 0 by omega)] | rw [if_neg (show ¬ r.Fines = 0 by omega)]); first | done | (simp only [List.append_assoc, List.append_nil]; done) | (unfold twoD; rw [show r.Fines % 100 / 10 = r.Fines / 10 % 10 from by omega, show r.Fines % 100 % 10 = r.Fines % 10 from by omega]; simp only [List.append_assoc, List.append_nil]; done)
theorem z_c_spec_l31Line_31 (r : LibRow) (hp0 : RowOK r) (hq9 : (Lib.itoa r.Month).length ≤ 21) (hq10 : (Lib.itoa r.Lent).length ≤ 21) (hq11 : (Lib.itoa r.Copied).length ≤ 21) (h16 : 0 < r.Given) (hq21 : (Lib.itoa r.Given).length ≤ 21) (h22 : ¬ (0 < r.Fines)) : ((((((((([109, 111, 110, 116, 104, 32] : List UInt8) ++ (Lib.itoa r.Month)) ++ ([58, 32] : List UInt8)) ++ (Lib.itoa r.Lent)) ++ ([32, 108, 101, 110, 116, 44, 32] : List UInt8)) ++ (Lib.itoa r.Copied)) ++ ([32, 99, 111, 112, 105, 101, 100] : List UInt8)) ++ ([44, 32] : List UInt8)) ++ (Lib.itoa r.Given)) ++ ([32, 103, 105, 118, 101, 110] : List UInt8) = lineT r := by
  have hrg := row_rng hp0; unfold lineT; (first | rw [if_pos (show r.Given = 0 by omega)] | rw [if_neg (show ¬ r.Given = 0 by omega)]); (first | rw [if_pos (show r.Fines = 0 by omega)] | rw [if_neg (show ¬ r.Fines = 0 by omega)]); first | done | (simp only [List.append_assoc, List.append_nil]; done) | (unfold twoD; rw [show r.Fines % 100 / 10 = r.Fines / 10 % 10 from by omega, show r.Fines % 100 % 10 = r.Fines % 10 from by omega]; simp only [List.append_assoc, List.append_nil]; done)
theorem z_c_spec_l31Line_40 (r : LibRow) (hp0 : RowOK r) (hq9 : (Lib.itoa r.Month).length ≤ 21) (hq10 : (Lib.itoa r.Lent).length ≤ 21) (hq11 : (Lib.itoa r.Copied).length ≤ 21) (h16 : ¬ (0 < r.Given)) (h32 : 0 < r.Fines) (hq33 : (Lib.itoa (r.Fines / 100)).length ≤ 21) (hq34 : (Lib.itoa ((r.Fines / 10) % 10)).length ≤ 21) (hq35 : (Lib.itoa (r.Fines % 10)).length ≤ 21) : ((((((((((([109, 111, 110, 116, 104, 32] : List UInt8) ++ (Lib.itoa r.Month)) ++ ([58, 32] : List UInt8)) ++ (Lib.itoa r.Lent)) ++ ([32, 108, 101, 110, 116, 44, 32] : List UInt8)) ++ (Lib.itoa r.Copied)) ++ ([32, 99, 111, 112, 105, 101, 100] : List UInt8)) ++ ([44, 32, 102, 105, 110, 101, 115, 32] : List UInt8)) ++ (Lib.itoa (r.Fines / 100))) ++ ([46] : List UInt8)) ++ (Lib.itoa ((r.Fines / 10) % 10))) ++ (Lib.itoa (r.Fines % 10)) = lineT r := by
  have hrg := row_rng hp0; unfold lineT; (first | rw [if_pos (show r.Given = 0 by omega)] | rw [if_neg (show ¬ r.Given = 0 by omega)]); (first | rw [if_pos (show r.Fines = 0 by omega)] | rw [if_neg (show ¬ r.Fines = 0 by omega)]); first | done | (simp only [List.append_assoc, List.append_nil]; done) | (unfold twoD; rw [show r.Fines % 100 / 10 = r.Fines / 10 % 10 from by omega, show r.Fines % 100 % 10 = r.Fines % 10 from by omega]; simp only [List.append_assoc, List.append_nil]; done)
theorem z_c_spec_l31Line_41 (r : LibRow) (hp0 : RowOK r) (hq9 : (Lib.itoa r.Month).length ≤ 21) (hq10 : (Lib.itoa r.Lent).length ≤ 21) (hq11 : (Lib.itoa r.Copied).length ≤ 21) (h16 : ¬ (0 < r.Given)) (h32 : ¬ (0 < r.Fines)) : (((((([109, 111, 110, 116, 104, 32] : List UInt8) ++ (Lib.itoa r.Month)) ++ ([58, 32] : List UInt8)) ++ (Lib.itoa r.Lent)) ++ ([32, 108, 101, 110, 116, 44, 32] : List UInt8)) ++ (Lib.itoa r.Copied)) ++ ([32, 99, 111, 112, 105, 101, 100] : List UInt8) = lineT r := by
  have hrg := row_rng hp0; unfold lineT; (first | rw [if_pos (show r.Given = 0 by omega)] | rw [if_neg (show ¬ r.Given = 0 by omega)]); (first | rw [if_pos (show r.Fines = 0 by omega)] | rw [if_neg (show ¬ r.Fines = 0 by omega)]); first | done | (simp only [List.append_assoc, List.append_nil]; done) | (unfold twoD; rw [show r.Fines % 100 / 10 = r.Fines / 10 % 10 from by omega, show r.Fines % 100 % 10 = r.Fines % 10 from by omega]; simp only [List.append_assoc, List.append_nil]; done)
theorem c_spec_l31Line (w : World) (r : LibRow) (hp0 : RowOK r) : Calls Tryz.prog 25 #[.agg (List.toArray (encLibRow r))] w fun e w' => e = .returned (str (lineT r)) ∧ Lo w w' := by
  refine calls_W 52 Tryz.func25 rfl rfl rfl ?_
  have hrg := row_rng hp0
  refine W.seq ?_
  refine W.regS (SR.box (v := .agg (List.toArray _)) (l := [.int .i64 r.Month, .int .i64 r.Lent, .int .i64 r.Copied, .int .i64 r.Given, .int .i64 r.Fines]) rfl rfl ?_)
  intro g1 w2 hg3 hk4 hs5 hb6
  have hz7 := hk4.size
  have hB8 := (Lo.refl w).lo hk4
  refine SR.q' (r_as (v := str ([] : List UInt8)) rfl) <| SR.nil ?_
  refine W.seq ?_
  refine W.regD mo (by kernel_rfl) (QR.q' (fun w' hw' => r_fa fa25_0 rfl) <| QR.q' (fun w' hw' => r_ld (v := .int .i64 r.Month) sca3 rfl (((hb6).lo hw').cell rfl)) <| QR.call ent45 (fun w' hw' => (c_spec_l1Num w' r.Month (by omega)).mono fun _ _ h => ⟨h.1, hw'.trans h.2⟩) rfl <| ?_)
  have hq9 : (Lib.itoa r.Month).length ≤ 21 := itoa_len (n := r.Month) (by omega) (by omega)
  refine QR.q' (fun w' hw' => r_cat rfl rfl (by first | omega | (simp only [List.length_append, List.length_cons, List.length_nil, List.length_take, List.length_drop]; omega) | (simp only [List.length_append, List.length_cons, List.length_nil, List.length_take, List.length_drop] at *; omega))) <| QR.q' (fun w' hw' => r_cat rfl rfl (by first | omega | (simp only [List.length_append, List.length_cons, List.length_nil, List.length_take, List.length_drop]; omega) | (simp only [List.length_append, List.length_cons, List.length_nil, List.length_take, List.length_drop] at *; omega))) <| QR.q' (fun w' hw' => r_fa fa25_1 rfl) <| QR.q' (fun w' hw' => r_ld (v := .int .i64 r.Lent) sca3 rfl (((hb6).lo hw').cell rfl)) <| QR.call ent45 (fun w' hw' => (c_spec_l1Num w' r.Lent (by omega)).mono fun _ _ h => ⟨h.1, hw'.trans h.2⟩) rfl <| ?_
  have hq10 : (Lib.itoa r.Lent).length ≤ 21 := itoa_len (n := r.Lent) (by omega) (by omega)
  refine QR.q' (fun w' hw' => r_cat rfl rfl (by first | omega | (simp only [List.length_append, List.length_cons, List.length_nil, List.length_take, List.length_drop]; omega) | (simp only [List.length_append, List.length_cons, List.length_nil, List.length_take, List.length_drop] at *; omega))) <| QR.q' (fun w' hw' => r_cat rfl rfl (by first | omega | (simp only [List.length_append, List.length_cons, List.length_nil, List.length_take, List.length_drop]; omega) | (simp only [List.length_append, List.length_cons, List.length_nil, List.length_take, List.length_drop] at *; omega))) <| QR.q' (fun w' hw' => r_fa fa25_2 rfl) <| QR.q' (fun w' hw' => r_ld (v := .int .i64 r.Copied) sca3 rfl (((hb6).lo hw').cell rfl)) <| QR.call ent45 (fun w' hw' => (c_spec_l1Num w' r.Copied (by omega)).mono fun _ _ h => ⟨h.1, hw'.trans h.2⟩) rfl <| ?_
  have hq11 : (Lib.itoa r.Copied).length ≤ 21 := itoa_len (n := r.Copied) (by omega) (by omega)
  refine QR.q' (fun w' hw' => r_cat rfl rfl (by first | omega | (simp only [List.length_append, List.length_cons, List.length_nil, List.length_take, List.length_drop]; omega) | (simp only [List.length_append, List.length_cons, List.length_nil, List.length_take, List.length_drop] at *; omega))) <| QR.q' (fun w' hw' => r_cat rfl rfl (by first | omega | (simp only [List.length_append, List.length_cons, List.length_nil, List.length_take, List.length_drop]; omega) | (simp only [List.length_append, List.length_cons, List.length_nil, List.length_take, List.length_drop] at *; omega))) <| QR.q' (fun w' hw' => r_as (v := str _) rfl) <| QR.nil ?_
  intro w12 hk13
  have hz14 := hk13.size
  have hB15 := hB8.lo hk13
  refine W.seq ?_
  refine W.seq ?_
  refine W.regS (SR.q' (r_fa fa25_3 rfl) <| SR.q' (r_ld (v := .int .i64 r.Given) sca3 rfl (((hb6).lo hk13).cell rfl)) <| SR.q' (r_gt rfl rfl) <| SR.nil ?_)
  refine W.cond_d rfl (fun h16 => ?_) (fun h16 => ?_)
  · refine W.regS (SR.q' (r_mv (v := str _) rfl) <| SR.q' (r_cat rfl rfl (by first | omega | (simp only [List.length_append, List.length_cons, List.length_nil, List.length_take, List.length_drop]; omega) | (simp only [List.length_append, List.length_cons, List.length_nil, List.length_take, List.length_drop] at *; omega))) <| SR.q' (r_fa fa25_3 rfl) <| SR.q' (r_ld (v := .int .i64 r.Given) sca3 rfl (((hb6).lo hk13).cell rfl)) <| SR.call ent45 (c_spec_l1Num w12 r.Given (by omega)) rfl ?_)
    rintro e w17 ⟨rfl, hk18⟩
    refine ⟨_, rfl, ?_⟩
    have hz19 := hk18.size
    have hB20 := hB15.lo hk18
    have hq21 : (Lib.itoa r.Given).length ≤ 21 := itoa_len (n := r.Given) (by omega) (by omega)
    refine SR.q' (r_cat rfl rfl (by first | omega | (simp only [List.length_append, List.length_cons, List.length_nil, List.length_take, List.length_drop]; omega) | (simp only [List.length_append, List.length_cons, List.length_nil, List.length_take, List.length_drop] at *; omega))) <| SR.q' (r_cat rfl rfl (by first | omega | (simp only [List.length_append, List.length_cons, List.length_nil, List.length_take, List.length_drop]; omega) | (simp only [List.length_append, List.length_cons, List.length_nil, List.length_take, List.length_drop] at *; omega))) <| SR.q' (r_as (v := str _) rfl) <| SR.nil ?_
    refine W.seq ?_
    refine W.seq ?_
    refine W.regS (SR.q' (r_fa fa25_4 rfl) <| SR.q' (r_ld (v := .int .i64 r.Fines) sca3 rfl ((((hb6).lo hk13).lo hk18).cell rfl)) <| SR.q' (r_gt rfl rfl) <| SR.nil ?_)
    refine W.cond_d rfl (fun h22 => ?_) (fun h22 => ?_)
    · refine W.regD mo (by kernel_rfl) (QR.q' (fun w' hw' => r_mv (v := str _) rfl) <| QR.q' (fun w' hw' => r_cat rfl rfl (by first | omega | (simp only [List.length_append, List.length_cons, List.length_nil, List.length_take, List.length_drop]; omega) | (simp only [List.length_append, List.length_cons, List.length_nil, List.length_take, List.length_drop] at *; omega))) <| QR.q' (fun w' hw' => r_fa fa25_4 rfl) <| QR.q' (fun w' hw' => r_ld (v := .int .i64 r.Fines) sca3 rfl (((((hb6).lo hk13).lo hk18).lo hw').cell rfl)) <| QR.q' (fun w' hw' => r_quo rfl rfl (by omega)) <| QR.call ent45 (fun w' hw' => (c_spec_l1Num w' (r.Fines / 100) (by omega)).mono fun _ _ h => ⟨h.1, hw'.trans h.2⟩) rfl <| ?_)
      have hq23 : (Lib.itoa (r.Fines / 100)).length ≤ 21 := itoa_len (n := r.Fines / 100) (by omega) (by omega)
      refine QR.q' (fun w' hw' => r_cat rfl rfl (by first | omega | (simp only [List.length_append, List.length_cons, List.length_nil, List.length_take, List.length_drop]; omega) | (simp only [List.length_append, List.length_cons, List.length_nil, List.length_take, List.length_drop] at *; omega))) <| QR.q' (fun w' hw' => r_cat rfl rfl (by first | omega | (simp only [List.length_append, List.length_cons, List.length_nil, List.length_take, List.length_drop]; omega) | (simp only [List.length_append, List.length_cons, List.length_nil, List.length_take, List.length_drop] at *; omega))) <| QR.q' (fun w' hw' => r_fa fa25_4 rfl) <| QR.q' (fun w' hw' => r_ld (v := .int .i64 r.Fines) sca3 rfl (((((hb6).lo hk13).lo hk18).lo hw').cell rfl)) <| QR.q' (fun w' hw' => r_quo rfl rfl (by omega)) <| QR.q' (fun w' hw' => r_rem rfl rfl (by omega)) <| QR.call ent45 (fun w' hw' => (c_spec_l1Num w' ((r.Fines / 10) % 10) (by omega)).mono fun _ _ h => ⟨h.1, hw'.trans h.2⟩) rfl <| ?_
      have hq24 : (Lib.itoa ((r.Fines / 10) % 10)).length ≤ 21 := itoa_len (n := (r.Fines / 10) % 10) (by omega) (by omega)
      refine QR.q' (fun w' hw' => r_cat rfl rfl (by first | omega | (simp only [List.length_append, List.length_cons, List.length_nil, List.length_take, List.length_drop]; omega) | (simp only [List.length_append, List.length_cons, List.length_nil, List.length_take, List.length_drop] at *; omega))) <| QR.q' (fun w' hw' => r_fa fa25_4 rfl) <| QR.q' (fun w' hw' => r_ld (v := .int .i64 r.Fines) sca3 rfl (((((hb6).lo hk13).lo hk18).lo hw').cell rfl)) <| QR.q' (fun w' hw' => r_rem rfl rfl (by omega)) <| QR.call ent45 (fun w' hw' => (c_spec_l1Num w' (r.Fines % 10) (by omega)).mono fun _ _ h => ⟨h.1, hw'.trans h.2⟩) rfl <| ?_
      have hq25 : (Lib.itoa (r.Fines % 10)).length ≤ 21 := itoa_len (n := r.Fines % 10) (by omega) (by omega)
      refine QR.q' (fun w' hw' => r_cat rfl rfl (by first | omega | (simp only [List.length_append, List.length_cons, List.length_nil, List.length_take, List.length_drop]; omega) | (simp only [List.length_append, List.length_cons, List.length_nil, List.length_take, List.length_drop] at *; omega))) <| QR.q' (fun w' hw' => r_as (v := str _) rfl) <| QR.nil ?_
      intro w26 hk27
      have hz28 := hk27.size
      have hB29 := hB20.lo hk27
      refine W.seq ?_
      refine W.regS (SR.q' (r_mv (v := str _) rfl) <| SR.q' (r_as (v := str _) rfl) <| SR.nil ?_)
      refine W.ret ?_
      refine ret1 rfl (v := str _) rfl ?_
      exact ⟨eR (eS (z_c_spec_l31Line_30 r hp0 hq9 hq10 hq11 h16 hq21 h22 hq23 hq24 hq25)), hB29⟩
    · refine W.skip ?_
      refine W.seq ?_
      refine W.regS (SR.q' (r_mv (v := str _) rfl) <| SR.q' (r_as (v := str _) rfl) <| SR.nil ?_)
      refine W.ret ?_
      refine ret1 rfl (v := str _) rfl ?_
      exact ⟨eR (eS (z_c_spec_l31Line_31 r hp0 hq9 hq10 hq11 h16 hq21 h22)), hB20⟩
  · refine W.skip ?_
    refine W.seq ?_
    refine W.seq ?_
    refine W.regS (SR.q' (r_fa fa25_4 rfl) <| SR.q' (r_ld (v := .int .i64 r.Fines) sca3 rfl (((hb6).lo hk13).cell rfl)) <| SR.q' (r_gt rfl rfl) <| SR.nil ?_)
    refine W.cond_d rfl (fun h32 => ?_) (fun h32 => ?_)
    · refine W.regD mo (by kernel_rfl) (QR.q' (fun w' hw' => r_mv (v := str _) rfl) <| QR.q' (fun w' hw' => r_cat rfl rfl (by first | omega | (simp only [List.length_append, List.length_cons, List.length_nil, List.length_take, List.length_drop]; omega) | (simp only [List.length_append, List.length_cons, List.length_nil, List.length_take, List.length_drop] at *; omega))) <| QR.q' (fun w' hw' => r_fa fa25_4 rfl) <| QR.q' (fun w' hw' => r_ld (v := .int .i64 r.Fines) sca3 rfl ((((hb6).lo hk13).lo hw').cell rfl)) <| QR.q' (fun w' hw' => r_quo rfl rfl (by omega)) <| QR.call ent45 (fun w' hw' => (c_spec_l1Num w' (r.Fines / 100) (by omega)).mono fun _ _ h => ⟨h.1, hw'.trans h.2⟩) rfl <| ?_)
      have hq33 : (Lib.itoa (r.Fines / 100)).length ≤ 21 := itoa_len (n := r.Fines / 100) (by omega) (by omega)
      refine QR.q' (fun w' hw' => r_cat rfl rfl (by first | omega | (simp only [List.length_append, List.length_cons, List.length_nil, List.length_take, List.length_drop]; omega) | (simp only [List.length_append, List.length_cons, List.length_nil, List.length_take, List.length_drop] at *; omega))) <| QR.q' (fun w' hw' => r_cat rfl rfl (by first | omega | (simp only [List.length_append, List.length_cons, List.length_nil, List.length_take, List.length_drop]; omega) | (simp only [List.length_append, List.length_cons, List.length_nil, List.length_take, List.length_drop] at *; omega))) <| QR.q' (fun w' hw' => r_fa fa25_4 rfl) <| QR.q' (fun w' hw' => r_ld (v := .int .i64 r.Fines) sca3 rfl ((((hb6).lo hk13).lo hw').cell rfl)) <| QR.q' (fun w' hw' => r_quo rfl rfl (by omega)) <| QR.q' (fun w' hw' => r_rem rfl rfl (by omega)) <| QR.call ent45 (fun w' hw' => (c_spec_l1Num w' ((r.Fines / 10) % 10) (by omega)).mono fun _ _ h => ⟨h.1, hw'.trans h.2⟩) rfl <| ?_
      have hq34 : (Lib.itoa ((r.Fines / 10) % 10)).length ≤ 21 := itoa_len (n := (r.Fines / 10) % 10) (by omega) (by omega)
      refine QR.q' (fun w' hw' => r_cat rfl rfl (by first | omega | (simp only [List.length_append, List.length_cons, List.length_nil, List.length_take, List.length_drop]; omega) | (simp only [List.length_append, List.length_cons, List.length_nil, List.length_take, List.length_drop] at *; omega))) <| QR.q' (fun w' hw' => r_fa fa25_4 rfl) <| QR.q' (fun w' hw' => r_ld (v := .int .i64 r.Fines) sca3 rfl ((((hb6).lo hk13).lo hw').cell rfl)) <| QR.q' (fun w' hw' => r_rem rfl rfl (by omega)) <| QR.call ent45 (fun w' hw' => (c_spec_l1Num w' (r.Fines % 10) (by omega)).mono fun _ _ h => ⟨h.1, hw'.trans h.2⟩) rfl <| ?_
      have hq35 : (Lib.itoa (r.Fines % 10)).length ≤ 21 := itoa_len (n := r.Fines % 10) (by omega) (by omega)
      refine QR.q' (fun w' hw' => r_cat rfl rfl (by first | omega | (simp only [List.length_append, List.length_cons, List.length_nil, List.length_take, List.length_drop]; omega) | (simp only [List.length_append, List.length_cons, List.length_nil, List.length_take, List.length_drop] at *; omega))) <| QR.q' (fun w' hw' => r_as (v := str _) rfl) <| QR.nil ?_
      intro w36 hk37
      have hz38 := hk37.size
      have hB39 := hB15.lo hk37
      refine W.seq ?_
      refine W.regS (SR.q' (r_mv (v := str _) rfl) <| SR.q' (r_as (v := str _) rfl) <| SR.nil ?_)
      refine W.ret ?_
      refine ret1 rfl (v := str _) rfl ?_
      exact ⟨eR (eS (z_c_spec_l31Line_40 r hp0 hq9 hq10 hq11 h16 h32 hq33 hq34 hq35)), hB39⟩
    · refine W.skip ?_
      refine W.seq ?_
      refine W.regS (SR.q' (r_mv (v := str _) rfl) <| SR.q' (r_as (v := str _) rfl) <| SR.nil ?_)
      refine W.ret ?_
      refine ret1 rfl (v := str _) rfl ?_
      exact ⟨eR (eS (z_c_spec_l31Line_41 r hp0 hq9 hq10 hq11 h16 h32)), hB15⟩

theorem z_c_impl_libLine_29 (r : LibRow) (hp0 : RowOK r) (hq9 : (Lib.itoa r.Month).length ≤ 21) (hq10 : (Lib.itoa r.Lent).length ≤ 21) (hq11 : (Lib.itoa r.Copied).length ≤ 21) (h16 : ¬ (r.Given = 0)) (hq21 : (Lib.itoa r.Given).length ≤ 21) (h22 : ¬ (r.Fines = 0)) (hq23 : (Lib.itoa (r.Fines / 100)).length ≤ 21) (hq24 : (twoD (r.Fines % 100)).length ≤ 42) : (((((((([109, 111, 110, 116, 104, 32] : List UInt8) ++ (Lib.itoa r.Month)) ++ ([58, 32] : List UInt8)) ++ (Lib.itoa r.Lent)) ++ ([32, 108, 101, 110, 116, 44, 32] : List UInt8)) ++ (Lib.itoa r.Copied)) ++ ([32, 99, 111, 112, 105, 101, 100] : List UInt8)) ++ ((([44, 32] : List UInt8) ++ (Lib.itoa r.Given)) ++ ([32, 103, 105, 118, 101, 110] : List UInt8))) ++ (((([44, 32, 102, 105, 110, 101, 115, 32] : List UInt8) ++ (Lib.itoa (r.Fines / 100))) ++ ([46] : List UInt8)) ++ (twoD (r.Fines % 100))) = lineT r := by
  have hrg := row_rng hp0; unfold lineT; (first | rw [if_pos (show r.Given = 0 by omega)] | rw [if_neg (show ¬ r.Given = 0 by omega)]); (first | rw [if_pos (show r.Fines = 0 by omega)] | rw [if_neg (show ¬ r.Fines = 0 by omega)]); first | done | (simp only [List.append_assoc, List.append_nil]; done) | (unfold twoD; rw [show r.Fines % 100 / 10 = r.Fines / 10 % 10 from by omega, show r.Fines % 100 % 10 = r.Fines % 10 from by omega]; simp only [List.append_assoc, List.append_nil]; done)
theorem z_c_impl_libLine_30 (r : LibRow) (hp0 : RowOK r) (hq9 : (Lib.itoa r.Month).length ≤ 21) (hq10 : (Lib.itoa r.Lent).length ≤ 21) (hq11 : (Lib.itoa r.Copied).length ≤ 21) (h16 : ¬ (r.Given = 0)) (hq21 : (Lib.itoa r.Given).length ≤ 21) (h22 : r.Fines = 0) : ((((((([109, 111, 110, 116, 104, 32] : List UInt8) ++ (Lib.itoa r.Month)) ++ ([58, 32] : List UInt8)) ++ (Lib.itoa r.Lent)) ++ ([32, 108, 101, 110, 116, 44, 32] : List UInt8)) ++ (Lib.itoa r.Copied)) ++ ([32, 99, 111, 112, 105, 101, 100] : List UInt8)) ++ ((([44, 32] : List UInt8) ++ (Lib.itoa r.Given)) ++ ([32, 103, 105, 118, 101, 110] : List UInt8)) = lineT r := by
  have hrg := row_rng hp0; unfold lineT; (first | rw [if_pos (show r.Given = 0 by omega)] | rw [if_neg (show ¬ r.Given = 0 by omega)]); (first | rw [if_pos (show r.Fines = 0 by omega)] | rw [if_neg (show ¬ r.Fines = 0 by omega)]); first | done | (simp only [List.append_assoc, List.append_nil]; done) | (unfold twoD; rw [show r.Fines % 100 / 10 = r.Fines / 10 % 10 from by omega, show r.Fines % 100 % 10 = r.Fines % 10 from by omega]; simp only [List.append_assoc, List.append_nil]; done)
theorem z_c_impl_libLine_38 (r : LibRow) (hp0 : RowOK r) (hq9 : (Lib.itoa r.Month).length ≤ 21) (hq10 : (Lib.itoa r.Lent).length ≤ 21) (hq11 : (Lib.itoa r.Copied).length ≤ 21) (h16 : r.Given = 0) (h31 : ¬ (r.Fines = 0)) (hq32 : (Lib.itoa (r.Fines / 100)).length ≤ 21) (hq33 : (twoD (r.Fines % 100)).length ≤ 42) : ((((((([109, 111, 110, 116, 104, 32] : List UInt8) ++ (Lib.itoa r.Month)) ++ ([58, 32] : List UInt8)) ++ (Lib.itoa r.Lent)) ++ ([32, 108, 101, 110, 116, 44, 32] : List UInt8)) ++ (Lib.itoa r.Copied)) ++ ([32, 99, 111, 112, 105, 101, 100] : List UInt8)) ++ (((([44, 32, 102, 105, 110, 101, 115, 32] : List UInt8) ++ (Lib.itoa (r.Fines / 100))) ++ ([46] : List UInt8)) ++ (twoD (r.Fines % 100))) = lineT r := by
  have hrg := row_rng hp0; unfold lineT; (first | rw [if_pos (show r.Given = 0 by omega)] | rw [if_neg (show ¬ r.Given = 0 by omega)]); (first | rw [if_pos (show r.Fines = 0 by omega)] | rw [if_neg (show ¬ r.Fines = 0 by omega)]); first | done | (simp only [List.append_assoc, List.append_nil]; done) | (unfold twoD; rw [show r.Fines % 100 / 10 = r.Fines / 10 % 10 from by omega, show r.Fines % 100 % 10 = r.Fines % 10 from by omega]; simp only [List.append_assoc, List.append_nil]; done)
theorem z_c_impl_libLine_39 (r : LibRow) (hp0 : RowOK r) (hq9 : (Lib.itoa r.Month).length ≤ 21) (hq10 : (Lib.itoa r.Lent).length ≤ 21) (hq11 : (Lib.itoa r.Copied).length ≤ 21) (h16 : r.Given = 0) (h31 : r.Fines = 0) : (((((([109, 111, 110, 116, 104, 32] : List UInt8) ++ (Lib.itoa r.Month)) ++ ([58, 32] : List UInt8)) ++ (Lib.itoa r.Lent)) ++ ([32, 108, 101, 110, 116, 44, 32] : List UInt8)) ++ (Lib.itoa r.Copied)) ++ ([32, 99, 111, 112, 105, 101, 100] : List UInt8) = lineT r := by
  have hrg := row_rng hp0; unfold lineT; (first | rw [if_pos (show r.Given = 0 by omega)] | rw [if_neg (show ¬ r.Given = 0 by omega)]); (first | rw [if_pos (show r.Fines = 0 by omega)] | rw [if_neg (show ¬ r.Fines = 0 by omega)]); first | done | (simp only [List.append_assoc, List.append_nil]; done) | (unfold twoD; rw [show r.Fines % 100 / 10 = r.Fines / 10 % 10 from by omega, show r.Fines % 100 % 10 = r.Fines % 10 from by omega]; simp only [List.append_assoc, List.append_nil]; done)
theorem c_impl_libLine (w : World) (r : LibRow) (hp0 : RowOK r) (hE : EnvW w) : Calls Tryz.prog 23 #[.agg (List.toArray (encLibRow r))] w fun e w' => e = .returned (str (lineT r)) ∧ Lo w w' := by
  refine calls_W 46 Tryz.func23 rfl rfl rfl ?_
  have hrg := row_rng hp0
  refine W.seq ?_
  refine W.regS (SR.box (v := .agg (List.toArray _)) (l := [.int .i64 r.Month, .int .i64 r.Lent, .int .i64 r.Copied, .int .i64 r.Given, .int .i64 r.Fines]) rfl rfl ?_)
  intro g1 w2 hg3 hk4 hs5 hb6
  have hz7 := hk4.size
  have hB8 := (Lo.refl w).lo hk4
  refine SR.q' (r_as (v := str ([] : List UInt8)) rfl) <| SR.nil ?_
  refine W.seq ?_
  refine W.regD mo (by kernel_rfl) (QR.q' (fun w' hw' => r_fa fa25_0 rfl) <| QR.q' (fun w' hw' => r_ld (v := .int .i64 r.Month) sca3 rfl (((hb6).lo hw').cell rfl)) <| QR.call ent43 (fun w' hw' => (c_impl_text w' r.Month (by omega) (hE.lo (hB8.trans hw'))).mono fun _ _ h => ⟨h.1, hw'.trans h.2⟩) rfl <| ?_)
  have hq9 : (Lib.itoa r.Month).length ≤ 21 := itoa_len (n := r.Month) (by omega) (by omega)
  refine QR.q' (fun w' hw' => r_cat rfl rfl (by first | omega | (simp only [List.length_append, List.length_cons, List.length_nil, List.length_take, List.length_drop]; omega) | (simp only [List.length_append, List.length_cons, List.length_nil, List.length_take, List.length_drop] at *; omega))) <| QR.q' (fun w' hw' => r_cat rfl rfl (by first | omega | (simp only [List.length_append, List.length_cons, List.length_nil, List.length_take, List.length_drop]; omega) | (simp only [List.length_append, List.length_cons, List.length_nil, List.length_take, List.length_drop] at *; omega))) <| QR.q' (fun w' hw' => r_fa fa25_1 rfl) <| QR.q' (fun w' hw' => r_ld (v := .int .i64 r.Lent) sca3 rfl (((hb6).lo hw').cell rfl)) <| QR.call ent43 (fun w' hw' => (c_impl_text w' r.Lent (by omega) (hE.lo (hB8.trans hw'))).mono fun _ _ h => ⟨h.1, hw'.trans h.2⟩) rfl <| ?_
  have hq10 : (Lib.itoa r.Lent).length ≤ 21 := itoa_len (n := r.Lent) (by omega) (by omega)
  refine QR.q' (fun w' hw' => r_cat rfl rfl (by first | omega | (simp only [List.length_append, List.length_cons, List.length_nil, List.length_take, List.length_drop]; omega) | (simp only [List.length_append, List.length_cons, List.length_nil, List.length_take, List.length_drop] at *; omega))) <| QR.q' (fun w' hw' => r_cat rfl rfl (by first | omega | (simp only [List.length_append, List.length_cons, List.length_nil, List.length_take, List.length_drop]; omega) | (simp only [List.length_append, List.length_cons, List.length_nil, List.length_take, List.length_drop] at *; omega))) <| QR.q' (fun w' hw' => r_fa fa25_2 rfl) <| QR.q' (fun w' hw' => r_ld (v := .int .i64 r.Copied) sca3 rfl (((hb6).lo hw').cell rfl)) <| QR.call ent43 (fun w' hw' => (c_impl_text w' r.Copied (by omega) (hE.lo (hB8.trans hw'))).mono fun _ _ h => ⟨h.1, hw'.trans h.2⟩) rfl <| ?_
  have hq11 : (Lib.itoa r.Copied).length ≤ 21 := itoa_len (n := r.Copied) (by omega) (by omega)
  refine QR.q' (fun w' hw' => r_cat rfl rfl (by first | omega | (simp only [List.length_append, List.length_cons, List.length_nil, List.length_take, List.length_drop]; omega) | (simp only [List.length_append, List.length_cons, List.length_nil, List.length_take, List.length_drop] at *; omega))) <| QR.q' (fun w' hw' => r_cat rfl rfl (by first | omega | (simp only [List.length_append, List.length_cons, List.length_nil, List.length_take, List.length_drop]; omega) | (simp only [List.length_append, List.length_cons, List.length_nil, List.length_take, List.length_drop] at *; omega))) <| QR.q' (fun w' hw' => r_as (v := str _) rfl) <| QR.nil ?_
  intro w12 hk13
  have hz14 := hk13.size
  have hB15 := hB8.lo hk13
  refine W.seq ?_
  refine W.seq ?_
  refine W.regS (SR.q' (r_fa fa25_3 rfl) <| SR.q' (r_ld (v := .int .i64 r.Given) sca3 rfl (((hb6).lo hk13).cell rfl)) <| SR.q' (r_ne rfl rfl) <| SR.nil ?_)
  refine W.cond_n rfl (fun h16 => ?_) (fun h16 => ?_)
  · refine W.regS (SR.q' (r_mv (v := str _) rfl) <| SR.q' (r_fa fa25_3 rfl) <| SR.q' (r_ld (v := .int .i64 r.Given) sca3 rfl (((hb6).lo hk13).cell rfl)) <| SR.call ent43 (c_impl_text w12 r.Given (by omega) (hE.lo (hB15))) rfl ?_)
    rintro e w17 ⟨rfl, hk18⟩
    refine ⟨_, rfl, ?_⟩
    have hz19 := hk18.size
    have hB20 := hB15.lo hk18
    have hq21 : (Lib.itoa r.Given).length ≤ 21 := itoa_len (n := r.Given) (by omega) (by omega)
    refine SR.q' (r_cat rfl rfl (by first | omega | (simp only [List.length_append, List.length_cons, List.length_nil, List.length_take, List.length_drop]; omega) | (simp only [List.length_append, List.length_cons, List.length_nil, List.length_take, List.length_drop] at *; omega))) <| SR.q' (r_cat rfl rfl (by first | omega | (simp only [List.length_append, List.length_cons, List.length_nil, List.length_take, List.length_drop]; omega) | (simp only [List.length_append, List.length_cons, List.length_nil, List.length_take, List.length_drop] at *; omega))) <| SR.q' (r_cat rfl rfl (by first | omega | (simp only [List.length_append, List.length_cons, List.length_nil, List.length_take, List.length_drop]; omega) | (simp only [List.length_append, List.length_cons, List.length_nil, List.length_take, List.length_drop] at *; omega))) <| SR.q' (r_as (v := str _) rfl) <| SR.nil ?_
    refine W.seq ?_
    refine W.seq ?_
    refine W.regS (SR.q' (r_fa fa25_4 rfl) <| SR.q' (r_ld (v := .int .i64 r.Fines) sca3 rfl ((((hb6).lo hk13).lo hk18).cell rfl)) <| SR.q' (r_ne rfl rfl) <| SR.nil ?_)
    refine W.cond_n rfl (fun h22 => ?_) (fun h22 => ?_)
    · refine W.regD mo (by kernel_rfl) (QR.q' (fun w' hw' => r_mv (v := str _) rfl) <| QR.q' (fun w' hw' => r_fa fa25_4 rfl) <| QR.q' (fun w' hw' => r_ld (v := .int .i64 r.Fines) sca3 rfl (((((hb6).lo hk13).lo hk18).lo hw').cell rfl)) <| QR.q' (fun w' hw' => r_quo rfl rfl (by omega)) <| QR.call ent43 (fun w' hw' => (c_impl_text w' (r.Fines / 100) (by omega) (hE.lo (hB20.trans hw'))).mono fun _ _ h => ⟨h.1, hw'.trans h.2⟩) rfl <| ?_)
      have hq23 : (Lib.itoa (r.Fines / 100)).length ≤ 21 := itoa_len (n := r.Fines / 100) (by omega) (by omega)
      refine QR.q' (fun w' hw' => r_cat rfl rfl (by first | omega | (simp only [List.length_append, List.length_cons, List.length_nil, List.length_take, List.length_drop]; omega) | (simp only [List.length_append, List.length_cons, List.length_nil, List.length_take, List.length_drop] at *; omega))) <| QR.q' (fun w' hw' => r_cat rfl rfl (by first | omega | (simp only [List.length_append, List.length_cons, List.length_nil, List.length_take, List.length_drop]; omega) | (simp only [List.length_append, List.length_cons, List.length_nil, List.length_take, List.length_drop] at *; omega))) <| QR.q' (fun w' hw' => r_fa fa25_4 rfl) <| QR.q' (fun w' hw' => r_ld (v := .int .i64 r.Fines) sca3 rfl (((((hb6).lo hk13).lo hk18).lo hw').cell rfl)) <| QR.q' (fun w' hw' => r_rem rfl rfl (by omega)) <| QR.call ent48 (fun w' hw' => (c_impl_twoDigits w' (r.Fines % 100) (by omega) (hE.lo (hB20.trans hw'))).mono fun _ _ h => ⟨h.1, hw'.trans h.2⟩) rfl <| ?_
      have hq24 : (twoD (r.Fines % 100)).length ≤ 42 := two_len (n := r.Fines % 100) (by omega)
      refine QR.q' (fun w' hw' => r_cat rfl rfl (by first | omega | (simp only [List.length_append, List.length_cons, List.length_nil, List.length_take, List.length_drop]; omega) | (simp only [List.length_append, List.length_cons, List.length_nil, List.length_take, List.length_drop] at *; omega))) <| QR.q' (fun w' hw' => r_cat rfl rfl (by first | omega | (simp only [List.length_append, List.length_cons, List.length_nil, List.length_take, List.length_drop]; omega) | (simp only [List.length_append, List.length_cons, List.length_nil, List.length_take, List.length_drop] at *; omega))) <| QR.q' (fun w' hw' => r_as (v := str _) rfl) <| QR.nil ?_
      intro w25 hk26
      have hz27 := hk26.size
      have hB28 := hB20.lo hk26
      refine W.seq ?_
      refine W.regS (SR.q' (r_mv (v := str _) rfl) <| SR.q' (r_as (v := str _) rfl) <| SR.nil ?_)
      refine W.ret ?_
      refine ret1 rfl (v := str _) rfl ?_
      exact ⟨eR (eS (z_c_impl_libLine_29 r hp0 hq9 hq10 hq11 h16 hq21 h22 hq23 hq24)), hB28⟩
    · refine W.skip ?_
      refine W.seq ?_
      refine W.regS (SR.q' (r_mv (v := str _) rfl) <| SR.q' (r_as (v := str _) rfl) <| SR.nil ?_)
      refine W.ret ?_
      refine ret1 rfl (v := str _) rfl ?_
      exact ⟨eR (eS (z_c_impl_libLine_30 r hp0 hq9 hq10 hq11 h16 hq21 h22)), hB20⟩
  · refine W.skip ?_
    refine W.seq ?_
    refine W.seq ?_
    refine W.regS (SR.q' (r_fa fa25_4 rfl) <| SR.q' (r_ld (v := .int .i64 r.Fines) sca3 rfl (((hb6).lo hk13).cell rfl)) <| SR.q' (r_ne rfl rfl) <| SR.nil ?_)
    refine W.cond_n rfl (fun h31 => ?_) (fun h31 => ?_)
    · refine W.regD mo (by kernel_rfl) (QR.q' (fun w' hw' => r_mv (v := str _) rfl) <| QR.q' (fun w' hw' => r_fa fa25_4 rfl) <| QR.q' (fun w' hw' => r_ld (v := .int .i64 r.Fines) sca3 rfl ((((hb6).lo hk13).lo hw').cell rfl)) <| QR.q' (fun w' hw' => r_quo rfl rfl (by omega)) <| QR.call ent43 (fun w' hw' => (c_impl_text w' (r.Fines / 100) (by omega) (hE.lo (hB15.trans hw'))).mono fun _ _ h => ⟨h.1, hw'.trans h.2⟩) rfl <| ?_)
      have hq32 : (Lib.itoa (r.Fines / 100)).length ≤ 21 := itoa_len (n := r.Fines / 100) (by omega) (by omega)
      refine QR.q' (fun w' hw' => r_cat rfl rfl (by first | omega | (simp only [List.length_append, List.length_cons, List.length_nil, List.length_take, List.length_drop]; omega) | (simp only [List.length_append, List.length_cons, List.length_nil, List.length_take, List.length_drop] at *; omega))) <| QR.q' (fun w' hw' => r_cat rfl rfl (by first | omega | (simp only [List.length_append, List.length_cons, List.length_nil, List.length_take, List.length_drop]; omega) | (simp only [List.length_append, List.length_cons, List.length_nil, List.length_take, List.length_drop] at *; omega))) <| QR.q' (fun w' hw' => r_fa fa25_4 rfl) <| QR.q' (fun w' hw' => r_ld (v := .int .i64 r.Fines) sca3 rfl ((((hb6).lo hk13).lo hw').cell rfl)) <| QR.q' (fun w' hw' => r_rem rfl rfl (by omega)) <| QR.call ent48 (fun w' hw' => (c_impl_twoDigits w' (r.Fines % 100) (by omega) (hE.lo (hB15.trans hw'))).mono fun _ _ h => ⟨h.1, hw'.trans h.2⟩) rfl <| ?_
      have hq33 : (twoD (r.Fines % 100)).length ≤ 42 := two_len (n := r.Fines % 100) (by omega)
      refine QR.q' (fun w' hw' => r_cat rfl rfl (by first | omega | (simp only [List.length_append, List.length_cons, List.length_nil, List.length_take, List.length_drop]; omega) | (simp only [List.length_append, List.length_cons, List.length_nil, List.length_take, List.length_drop] at *; omega))) <| QR.q' (fun w' hw' => r_cat rfl rfl (by first | omega | (simp only [List.length_append, List.length_cons, List.length_nil, List.length_take, List.length_drop]; omega) | (simp only [List.length_append, List.length_cons, List.length_nil, List.length_take, List.length_drop] at *; omega))) <| QR.q' (fun w' hw' => r_as (v := str _) rfl) <| QR.nil ?_
      intro w34 hk35
      have hz36 := hk35.size
      have hB37 := hB15.lo hk35
      refine W.seq ?_
      refine W.regS (SR.q' (r_mv (v := str _) rfl) <| SR.q' (r_as (v := str _) rfl) <| SR.nil ?_)
      refine W.ret ?_
      refine ret1 rfl (v := str _) rfl ?_
      exact ⟨eR (eS (z_c_impl_libLine_38 r hp0 hq9 hq10 hq11 h16 h31 hq32 hq33)), hB37⟩
    · refine W.skip ?_
      refine W.seq ?_
      refine W.regS (SR.q' (r_mv (v := str _) rfl) <| SR.q' (r_as (v := str _) rfl) <| SR.nil ?_)
      refine W.ret ?_
      refine ret1 rfl (v := str _) rfl ?_
      exact ⟨eR (eS (z_c_impl_libLine_39 r hp0 hq9 hq10 hq11 h16 h31)), hB15⟩
end Go.Proofs.YtnbbfokkpkphoaaGreatDoor
