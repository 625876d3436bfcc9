/- Walks, printed by a program of this claim's author. -/
import Derived.Test.YtmigipacjadpeaaChecked
import Derived.Test.YtmigipacjadpeaaLa
import Derived.Test.YtmigipacjadpeaaLb
import Derived.Test.YtmigipacjadpeaaFo
import Derived.Test.YtmigipacjadpeaaFs
import Derived.Test.YtmigipacjadpeaaFq
import Derived.Test.YtmigipacjadpeaaFp
import Derived.Test.YtmigipacjadpeaaFu
import Derived.Test.YtmigipacjadpeaaFt
namespace Go.Proofs.Ytmigipacjadpeaa
open Go Go.RowKit Fw
set_option maxRecDepth 10000
set_option linter.unusedVariables false
theorem mo : Try.prog.follows .mixedOrders = true := by kernel_rfl
theorem agg29 : TAgg Try.prog 29 5 := ⟨fun _ => by kernel_rfl, fun _ => by kernel_rfl⟩
theorem ent28 : Ent Try.prog 28 := ent_of Try.func28 (by decide +kernel) rfl
theorem ent31 : Ent Try.prog 31 := ent_of Try.func31 (by decide +kernel) rfl
theorem ent38 : Ent Try.prog 38 := ent_of Try.func38 (by decide +kernel) rfl
theorem ent50 : Ent Try.prog 50 := ent_of Try.func50 (by decide +kernel) rfl
theorem fa29_0 : FA Try.prog 29 0 0 := fun _ _ => by kernel_rfl
theorem fa29_1 : FA Try.prog 29 1 1 := fun _ _ => by kernel_rfl
theorem fa29_2 : FA Try.prog 29 2 2 := fun _ _ => by kernel_rfl
theorem fa29_3 : FA Try.prog 29 3 3 := fun _ _ => by kernel_rfl
theorem fa29_4 : FA Try.prog 29 4 4 := fun _ _ => by kernel_rfl
theorem sca3 : TSca Try.prog 3 := ⟨fun _ => by kernel_rfl, fun _ => by kernel_rfl⟩
theorem tsl24 : TSl Try.prog 24 29 5 := ⟨by kernel_rfl, fun _ => by kernel_rfl⟩
theorem tz29 : TZ Try.prog 29 (.agg (List.toArray [.int .i64 0, .int .i64 0, .int .i64 0, .int .i64 0, .int .i64 0])) := fun _ => by kernel_rfl
theorem und24 : Try.prog.underlying 24 = some (.slice 29) := by kernel_rfl

theorem z_c_spec_l1In_2 (n : Int) (a : Int) (b : Int) (h1 : a ≤ n) : (n ≤ b) ↔ (a ≤ n ∧ n ≤ b) := by
  omega
theorem z_c_spec_l1In_3 (n : Int) (a : Int) (b : Int) (h1 : ¬ (a ≤ n)) : ¬ (a ≤ n ∧ n ≤ b) := by
  omega
theorem c_spec_l1In (w : World) (n : Int) (a : Int) (b : Int) : Calls Try.prog 50 #[.int .i64 n, .int .i64 a, .int .i64 b] w fun e w' => e = .returned (.bool (decide (a ≤ n ∧ n ≤ b))) ∧ Lo w w' := by
  refine calls_W 15 Try.func50 rfl rfl rfl ?_
  refine W.seq ?_
  refine W.regS (SR.q' (r_as (v := .bool false) rfl) <| SR.nil ?_)
  refine W.seq ?_
  refine W.regS (SR.q' (r_mv (v := .int .i64 _) rfl) <| SR.q' (r_mv (v := .int .i64 _) rfl) <| SR.q' (r_ge rfl rfl) <| SR.q' (r_mv (v := .bool _) rfl) <| SR.splitD (fun h1 => ?_) (fun h1 => ?_))
  · refine SR.g' rfl (r_mv (v := .int .i64 _) rfl) <| SR.g' rfl (r_mv (v := .int .i64 _) rfl) <| SR.g' rfl (r_le rfl rfl) <| SR.q' (r_pick true rfl (v := .bool _) rfl) <| SR.q' (r_as (v := .bool _) rfl) <| SR.nil ?_
    refine W.ret ?_
    refine ret1 rfl (v := .bool _) rfl ?_
    exact ⟨eR (eDD (z_c_spec_l1In_2 n a b h1)), (Lo.refl w)⟩
  · refine SR.s' rfl <| SR.s' rfl <| SR.s' rfl <| SR.q' (r_pick false rfl (v := .bool false) rfl) <| SR.q' (r_as (v := .bool _) rfl) <| SR.nil ?_
    refine W.ret ?_
    refine ret1 rfl (v := .bool _) rfl ?_
    exact ⟨eR (eDF (z_c_spec_l1In_3 n a b h1)), (Lo.refl w)⟩

theorem z_c_impl_within_2 (n : Int) (a : Int) (b : Int) (h1 : a ≤ n) : (n ≤ b) ↔ (a ≤ n ∧ n ≤ b) := by
  omega
theorem z_c_impl_within_3 (n : Int) (a : Int) (b : Int) (h1 : ¬ (a ≤ n)) : ¬ (a ≤ n ∧ n ≤ b) := by
  omega
theorem c_impl_within (w : World) (n : Int) (a : Int) (b : Int) : Calls Try.prog 38 #[.int .i64 n, .int .i64 a, .int .i64 b] w fun e w' => e = .returned (.bool (decide (a ≤ n ∧ n ≤ b))) ∧ Lo w w' := by
  refine calls_W 15 Try.func38 rfl rfl rfl ?_
  refine W.seq ?_
  refine W.regS (SR.q' (r_as (v := .bool false) rfl) <| SR.nil ?_)
  refine W.seq ?_
  refine W.regS (SR.q' (r_mv (v := .int .i64 _) rfl) <| SR.q' (r_mv (v := .int .i64 _) rfl) <| SR.q' (r_ge rfl rfl) <| SR.q' (r_mv (v := .bool _) rfl) <| SR.splitD (fun h1 => ?_) (fun h1 => ?_))
  · refine SR.g' rfl (r_mv (v := .int .i64 _) rfl) <| SR.g' rfl (r_mv (v := .int .i64 _) rfl) <| SR.g' rfl (r_le rfl rfl) <| SR.q' (r_pick true rfl (v := .bool _) rfl) <| SR.q' (r_as (v := .bool _) rfl) <| SR.nil ?_
    refine W.ret ?_
    refine ret1 rfl (v := .bool _) rfl ?_
    exact ⟨eR (eDD (z_c_impl_within_2 n a b h1)), (Lo.refl w)⟩
  · refine SR.s' rfl <| SR.s' rfl <| SR.s' rfl <| SR.q' (r_pick false rfl (v := .bool false) rfl) <| SR.q' (r_as (v := .bool _) rfl) <| SR.nil ?_
    refine W.ret ?_
    refine ret1 rfl (v := .bool _) rfl ?_
    exact ⟨eR (eDF (z_c_impl_within_3 n a b h1)), (Lo.refl w)⟩

theorem z_c_spec_l31One_33 (r : LibRow) (h13 : 1 ≤ r.Month ∧ r.Month ≤ 1200) (h18 : 0 ≤ r.Lent ∧ r.Lent ≤ 9999) (h23 : 0 ≤ r.Copied ∧ r.Copied ≤ 9999) (h28 : 0 ≤ r.Given ∧ r.Given ≤ 999) : (0 ≤ r.Fines ∧ r.Fines ≤ 99999) ↔ (RowOK r) := by
  unfold RowOK; omega
theorem z_c_spec_l31One_34 (r : LibRow) (h13 : 1 ≤ r.Month ∧ r.Month ≤ 1200) (h18 : 0 ≤ r.Lent ∧ r.Lent ≤ 9999) (h23 : 0 ≤ r.Copied ∧ r.Copied ≤ 9999) (h28 : ¬ (0 ≤ r.Given ∧ r.Given ≤ 999)) : ¬ (RowOK r) := by
  unfold RowOK; omega
theorem z_c_spec_l31One_35 (r : LibRow) (h13 : 1 ≤ r.Month ∧ r.Month ≤ 1200) (h18 : 0 ≤ r.Lent ∧ r.Lent ≤ 9999) (h23 : ¬ (0 ≤ r.Copied ∧ r.Copied ≤ 9999)) : ¬ (RowOK r) := by
  unfold RowOK; omega
theorem z_c_spec_l31One_36 (r : LibRow) (h13 : 1 ≤ r.Month ∧ r.Month ≤ 1200) (h18 : ¬ (0 ≤ r.Lent ∧ r.Lent ≤ 9999)) : ¬ (RowOK r) := by
  unfold RowOK; omega
theorem z_c_spec_l31One_37 (r : LibRow) (h13 : ¬ (1 ≤ r.Month ∧ r.Month ≤ 1200)) : ¬ (RowOK r) := by
  unfold RowOK; omega
theorem c_spec_l31One (w : World) (r : LibRow) : Calls Try.prog 31 #[.agg (List.toArray (encLibRow r))] w fun e w' => e = .returned (.bool (decide (RowOK r))) ∧ Lo w w' := by
  refine calls_W 26 Try.func31 rfl rfl rfl ?_
  refine W.seq ?_
  refine W.regS (SR.box (v := .agg (List.toArray _)) (l := [.int .i64 r.Month, .int .i64 r.Lent, .int .i64 r.Copied, .int .i64 r.Given, .int .i64 r.Fines]) rfl rfl ?_)
  intro g1 w2 hg3 hk4 hs5 hb6
  have hz7 := hk4.size
  have hB8 := (Lo.refl w).lo hk4
  refine SR.q' (r_as (v := .bool false) rfl) <| SR.nil ?_
  refine W.seq ?_
  refine W.regS (SR.q' (r_fa fa29_0 rfl) <| SR.q' (r_ld (v := .int .i64 r.Month) sca3 rfl ((hb6).cell rfl)) <| SR.call ent50 (c_spec_l1In w2 r.Month 1 1200) rfl ?_)
  rintro e w9 ⟨rfl, hk10⟩
  refine ⟨_, rfl, ?_⟩
  have hz11 := hk10.size
  have hB12 := hB8.lo hk10
  refine SR.q' (r_mv (v := .bool _) rfl) <| SR.splitD (fun h13 => ?_) (fun h13 => ?_)
  · refine SR.g' rfl (r_fa fa29_1 rfl) <| SR.g' rfl (r_ld (v := .int .i64 r.Lent) sca3 rfl (((hb6).lo hk10).cell rfl)) <| SR.gcall rfl ent50 (c_spec_l1In w9 r.Lent 0 9999) rfl ?_
    rintro e w14 ⟨rfl, hk15⟩
    refine ⟨_, rfl, ?_⟩
    have hz16 := hk15.size
    have hB17 := hB12.lo hk15
    refine SR.q' (r_pick true rfl (v := .bool _) rfl) <| SR.q' (r_mv (v := .bool _) rfl) <| SR.splitD (fun h18 => ?_) (fun h18 => ?_)
    · refine SR.g' rfl (r_fa fa29_2 rfl) <| SR.g' rfl (r_ld (v := .int .i64 r.Copied) sca3 rfl ((((hb6).lo hk10).lo hk15).cell rfl)) <| SR.gcall rfl ent50 (c_spec_l1In w14 r.Copied 0 9999) rfl ?_
      rintro e w19 ⟨rfl, hk20⟩
      refine ⟨_, rfl, ?_⟩
      have hz21 := hk20.size
      have hB22 := hB17.lo hk20
      refine SR.q' (r_pick true rfl (v := .bool _) rfl) <| SR.q' (r_mv (v := .bool _) rfl) <| SR.splitD (fun h23 => ?_) (fun h23 => ?_)
      · refine SR.g' rfl (r_fa fa29_3 rfl) <| SR.g' rfl (r_ld (v := .int .i64 r.Given) sca3 rfl (((((hb6).lo hk10).lo hk15).lo hk20).cell rfl)) <| SR.gcall rfl ent50 (c_spec_l1In w19 r.Given 0 999) rfl ?_
        rintro e w24 ⟨rfl, hk25⟩
        refine ⟨_, rfl, ?_⟩
        have hz26 := hk25.size
        have hB27 := hB22.lo hk25
        refine SR.q' (r_pick true rfl (v := .bool _) rfl) <| SR.q' (r_mv (v := .bool _) rfl) <| SR.splitD (fun h28 => ?_) (fun h28 => ?_)
        · refine SR.g' rfl (r_fa fa29_4 rfl) <| SR.g' rfl (r_ld (v := .int .i64 r.Fines) sca3 rfl ((((((hb6).lo hk10).lo hk15).lo hk20).lo hk25).cell rfl)) <| SR.gcall rfl ent50 (c_spec_l1In w24 r.Fines 0 99999) rfl ?_
          rintro e w29 ⟨rfl, hk30⟩
          refine ⟨_, rfl, ?_⟩
          have hz31 := hk30.size
          have hB32 := hB27.lo hk30
          refine SR.q' (r_pick true rfl (v := .bool _) rfl) <| SR.q' (r_as (v := .bool _) rfl) <| SR.nil ?_
          refine W.ret ?_
          refine ret1 rfl (v := .bool _) rfl ?_
          exact ⟨eR (eDD (z_c_spec_l31One_33 r h13 h18 h23 h28)), hB32⟩
        · refine SR.s' rfl <| SR.s' rfl <| SR.s' rfl <| SR.q' (r_pick false rfl (v := .bool false) rfl) <| SR.q' (r_as (v := .bool _) rfl) <| SR.nil ?_
          refine W.ret ?_
          refine ret1 rfl (v := .bool _) rfl ?_
          exact ⟨eR (eDF (z_c_spec_l31One_34 r h13 h18 h23 h28)), hB27⟩
      · refine SR.s' rfl <| SR.s' rfl <| SR.s' rfl <| SR.q' (r_pick false rfl (v := .bool false) rfl) <| SR.q' (r_mv (v := .bool _) rfl) <| SR.s' rfl <| SR.s' rfl <| SR.s' rfl <| SR.q' (r_pick false rfl (v := .bool false) rfl) <| SR.q' (r_as (v := .bool _) rfl) <| SR.nil ?_
        refine W.ret ?_
        refine ret1 rfl (v := .bool _) rfl ?_
        exact ⟨eR (eDF (z_c_spec_l31One_35 r h13 h18 h23)), hB22⟩
    · refine SR.s' rfl <| SR.s' rfl <| SR.s' rfl <| SR.q' (r_pick false rfl (v := .bool false) rfl) <| SR.q' (r_mv (v := .bool _) rfl) <| SR.s' rfl <| SR.s' rfl <| SR.s' rfl <| SR.q' (r_pick false rfl (v := .bool false) rfl) <| SR.q' (r_mv (v := .bool _) rfl) <| SR.s' rfl <| SR.s' rfl <| SR.s' rfl <| SR.q' (r_pick false rfl (v := .bool false) rfl) <| SR.q' (r_as (v := .bool _) rfl) <| SR.nil ?_
      refine W.ret ?_
      refine ret1 rfl (v := .bool _) rfl ?_
      exact ⟨eR (eDF (z_c_spec_l31One_36 r h13 h18)), hB17⟩
  · refine SR.s' rfl <| SR.s' rfl <| SR.s' rfl <| SR.q' (r_pick false rfl (v := .bool false) rfl) <| SR.q' (r_mv (v := .bool _) rfl) <| SR.s' rfl <| SR.s' rfl <| SR.s' rfl <| SR.q' (r_pick false rfl (v := .bool false) rfl) <| SR.q' (r_mv (v := .bool _) rfl) <| SR.s' rfl <| SR.s' rfl <| SR.s' rfl <| SR.q' (r_pick false rfl (v := .bool false) rfl) <| SR.q' (r_mv (v := .bool _) rfl) <| SR.s' rfl <| SR.s' rfl <| SR.s' rfl <| SR.q' (r_pick false rfl (v := .bool false) rfl) <| SR.q' (r_as (v := .bool _) rfl) <| SR.nil ?_
    refine W.ret ?_
    refine ret1 rfl (v := .bool _) rfl ?_
    exact ⟨eR (eDF (z_c_spec_l31One_37 r h13)), hB12⟩

theorem z_c_impl_IsLibRow_33 (r : LibRow) (h13 : 1 ≤ r.Month ∧ r.Month ≤ 1200) (h18 : 0 ≤ r.Lent ∧ r.Lent ≤ 9999) (h23 : 0 ≤ r.Copied ∧ r.Copied ≤ 9999) (h28 : 0 ≤ r.Given ∧ r.Given ≤ 999) : (0 ≤ r.Fines ∧ r.Fines ≤ 99999) ↔ (RowOK r) := by
  unfold RowOK; omega
theorem z_c_impl_IsLibRow_34 (r : LibRow) (h13 : 1 ≤ r.Month ∧ r.Month ≤ 1200) (h18 : 0 ≤ r.Lent ∧ r.Lent ≤ 9999) (h23 : 0 ≤ r.Copied ∧ r.Copied ≤ 9999) (h28 : ¬ (0 ≤ r.Given ∧ r.Given ≤ 999)) : ¬ (RowOK r) := by
  unfold RowOK; omega
theorem z_c_impl_IsLibRow_35 (r : LibRow) (h13 : 1 ≤ r.Month ∧ r.Month ≤ 1200) (h18 : 0 ≤ r.Lent ∧ r.Lent ≤ 9999) (h23 : ¬ (0 ≤ r.Copied ∧ r.Copied ≤ 9999)) : ¬ (RowOK r) := by
  unfold RowOK; omega
theorem z_c_impl_IsLibRow_36 (r : LibRow) (h13 : 1 ≤ r.Month ∧ r.Month ≤ 1200) (h18 : ¬ (0 ≤ r.Lent ∧ r.Lent ≤ 9999)) : ¬ (RowOK r) := by
  unfold RowOK; omega
theorem z_c_impl_IsLibRow_37 (r : LibRow) (h13 : ¬ (1 ≤ r.Month ∧ r.Month ≤ 1200)) : ¬ (RowOK r) := by
  unfold RowOK; omega
theorem c_impl_IsLibRow (w : World) (r : LibRow) : Calls Try.prog 28 #[.agg (List.toArray (encLibRow r))] w fun e w' => e = .returned (.bool (decide (RowOK r))) ∧ Lo w w' := by
  refine calls_W 26 Try.func28 rfl rfl rfl ?_
  refine W.seq ?_
  refine W.regS (SR.box (v := .agg (List.toArray _)) (l := [.int .i64 r.Month, .int .i64 r.Lent, .int .i64 r.Copied, .int .i64 r.Given, .int .i64 r.Fines]) rfl rfl ?_)
  intro g1 w2 hg3 hk4 hs5 hb6
  have hz7 := hk4.size
  have hB8 := (Lo.refl w).lo hk4
  refine SR.q' (r_as (v := .bool false) rfl) <| SR.nil ?_
  refine W.seq ?_
  refine W.regS (SR.q' (r_fa fa29_0 rfl) <| SR.q' (r_ld (v := .int .i64 r.Month) sca3 rfl ((hb6).cell rfl)) <| SR.call ent38 (c_impl_within w2 r.Month 1 1200) rfl ?_)
  rintro e w9 ⟨rfl, hk10⟩
  refine ⟨_, rfl, ?_⟩
  have hz11 := hk10.size
  have hB12 := hB8.lo hk10
  refine SR.q' (r_mv (v := .bool _) rfl) <| SR.splitD (fun h13 => ?_) (fun h13 => ?_)
  · refine SR.g' rfl (r_fa fa29_1 rfl) <| SR.g' rfl (r_ld (v := .int .i64 r.Lent) sca3 rfl (((hb6).lo hk10).cell rfl)) <| SR.gcall rfl ent38 (c_impl_within w9 r.Lent 0 9999) rfl ?_
    rintro e w14 ⟨rfl, hk15⟩
    refine ⟨_, rfl, ?_⟩
    have hz16 := hk15.size
    have hB17 := hB12.lo hk15
    refine SR.q' (r_pick true rfl (v := .bool _) rfl) <| SR.q' (r_mv (v := .bool _) rfl) <| SR.splitD (fun h18 => ?_) (fun h18 => ?_)
    · refine SR.g' rfl (r_fa fa29_2 rfl) <| SR.g' rfl (r_ld (v := .int .i64 r.Copied) sca3 rfl ((((hb6).lo hk10).lo hk15).cell rfl)) <| SR.gcall rfl ent38 (c_impl_within w14 r.Copied 0 9999) rfl ?_
      rintro e w19 ⟨rfl, hk20⟩
      refine ⟨_, rfl, ?_⟩
      have hz21 := hk20.size
      have hB22 := hB17.lo hk20
      refine SR.q' (r_pick true rfl (v := .bool _) rfl) <| SR.q' (r_mv (v := .bool _) rfl) <| SR.splitD (fun h23 => ?_) (fun h23 => ?_)
      · refine SR.g' rfl (r_fa fa29_3 rfl) <| SR.g' rfl (r_ld (v := .int .i64 r.Given) sca3 rfl (((((hb6).lo hk10).lo hk15).lo hk20).cell rfl)) <| SR.gcall rfl ent38 (c_impl_within w19 r.Given 0 999) rfl ?_
        rintro e w24 ⟨rfl, hk25⟩
        refine ⟨_, rfl, ?_⟩
        have hz26 := hk25.size
        have hB27 := hB22.lo hk25
        refine SR.q' (r_pick true rfl (v := .bool _) rfl) <| SR.q' (r_mv (v := .bool _) rfl) <| SR.splitD (fun h28 => ?_) (fun h28 => ?_)
        · refine SR.g' rfl (r_fa fa29_4 rfl) <| SR.g' rfl (r_ld (v := .int .i64 r.Fines) sca3 rfl ((((((hb6).lo hk10).lo hk15).lo hk20).lo hk25).cell rfl)) <| SR.gcall rfl ent38 (c_impl_within w24 r.Fines 0 99999) rfl ?_
          rintro e w29 ⟨rfl, hk30⟩
          refine ⟨_, rfl, ?_⟩
          have hz31 := hk30.size
          have hB32 := hB27.lo hk30
          refine SR.q' (r_pick true rfl (v := .bool _) rfl) <| SR.q' (r_as (v := .bool _) rfl) <| SR.nil ?_
          refine W.ret ?_
          refine ret1 rfl (v := .bool _) rfl ?_
          exact ⟨eR (eDD (z_c_impl_IsLibRow_33 r h13 h18 h23 h28)), hB32⟩
        · refine SR.s' rfl <| SR.s' rfl <| SR.s' rfl <| SR.q' (r_pick false rfl (v := .bool false) rfl) <| SR.q' (r_as (v := .bool _) rfl) <| SR.nil ?_
          refine W.ret ?_
          refine ret1 rfl (v := .bool _) rfl ?_
          exact ⟨eR (eDF (z_c_impl_IsLibRow_34 r h13 h18 h23 h28)), hB27⟩
      · refine SR.s' rfl <| SR.s' rfl <| SR.s' rfl <| SR.q' (r_pick false rfl (v := .bool false) rfl) <| SR.q' (r_mv (v := .bool _) rfl) <| SR.s' rfl <| SR.s' rfl <| SR.s' rfl <| SR.q' (r_pick false rfl (v := .bool false) rfl) <| SR.q' (r_as (v := .bool _) rfl) <| SR.nil ?_
        refine W.ret ?_
        refine ret1 rfl (v := .bool _) rfl ?_
        exact ⟨eR (eDF (z_c_impl_IsLibRow_35 r h13 h18 h23)), hB22⟩
    · refine SR.s' rfl <| SR.s' rfl <| SR.s' rfl <| SR.q' (r_pick false rfl (v := .bool false) rfl) <| SR.q' (r_mv (v := .bool _) rfl) <| SR.s' rfl <| SR.s' rfl <| SR.s' rfl <| SR.q' (r_pick false rfl (v := .bool false) rfl) <| SR.q' (r_mv (v := .bool _) rfl) <| SR.s' rfl <| SR.s' rfl <| SR.s' rfl <| SR.q' (r_pick false rfl (v := .bool false) rfl) <| SR.q' (r_as (v := .bool _) rfl) <| SR.nil ?_
      refine W.ret ?_
      refine ret1 rfl (v := .bool _) rfl ?_
      exact ⟨eR (eDF (z_c_impl_IsLibRow_36 r h13 h18)), hB17⟩
  · refine SR.s' rfl <| SR.s' rfl <| SR.s' rfl <| SR.q' (r_pick false rfl (v := .bool false) rfl) <| SR.q' (r_mv (v := .bool _) rfl) <| SR.s' rfl <| SR.s' rfl <| SR.s' rfl <| SR.q' (r_pick false rfl (v := .bool false) rfl) <| SR.q' (r_mv (v := .bool _) rfl) <| SR.s' rfl <| SR.s' rfl <| SR.s' rfl <| SR.q' (r_pick false rfl (v := .bool false) rfl) <| SR.q' (r_mv (v := .bool _) rfl) <| SR.s' rfl <| SR.s' rfl <| SR.s' rfl <| SR.q' (r_pick false rfl (v := .bool false) rfl) <| SR.q' (r_as (v := .bool _) rfl) <| SR.nil ?_
    refine W.ret ?_
    refine ret1 rfl (v := .bool _) rfl ?_
    exact ⟨eR (eDF (z_c_impl_IsLibRow_37 r h13)), hB12⟩

theorem z_c_spec_l31Good_1 (L : List LibRow) (nL : Nat) (hbdL : (nL : Int) ≤ 9223372036854775807) (hleL : nL = L.length) : 0 ≤ nL ∧ RowsTo L 0 := by
  exact ⟨Nat.zero_le _, RowsTo.zero _⟩
theorem z_c_spec_l31Good_16 (L : List LibRow) (nL : Nat) (hbdL : (nL : Int) ≤ 9223372036854775807) (hleL : nL = L.length) (k : Nat) (hi7 : k ≤ nL ∧ RowsTo L k) (h8 : (k : Int) < (nL : Int)) (x9 : LibRow) (hx10 : L[k]? = some x9) (h11 : ¬ (RowOK x9)) : ¬ (RowsOK L) := by
  first | exact (fun hr => rows_bad ‹L[k]? = some _› (by intro hs; unfold RowStep at hs; grind) hr) | exact rows_end (And.right ‹_ ∧ RowsTo L _›) ‹_› ‹_›
theorem z_c_spec_l31Good_26 (L : List LibRow) (nL : Nat) (hbdL : (nL : Int) ≤ 9223372036854775807) (hleL : nL = L.length) (k : Nat) (hi7 : k ≤ nL ∧ RowsTo L k) (h8 : (k : Int) < (nL : Int)) (x9 : LibRow) (hx10 : L[k]? = some x9) (h11 : RowOK x9) (h17 : 0 < (k : Int)) (x18 : LibRow) (hx20 : L[k - 1]? = some x18) (h25 : x9.Month ≤ x18.Month) : ¬ (RowsOK L) := by
  first | exact (fun hr => rows_bad ‹L[k]? = some _› (by intro hs; unfold RowStep at hs; grind) hr) | exact rows_end (And.right ‹_ ∧ RowsTo L _›) ‹_› ‹_›
theorem z_c_spec_l31Good_27 (L : List LibRow) (nL : Nat) (hbdL : (nL : Int) ≤ 9223372036854775807) (hleL : nL = L.length) (k : Nat) (hi7 : k ≤ nL ∧ RowsTo L k) (h8 : (k : Int) < (nL : Int)) (x9 : LibRow) (hx10 : L[k]? = some x9) (h11 : RowOK x9) (h17 : 0 < (k : Int)) (x18 : LibRow) (hx20 : L[k - 1]? = some x18) (h25 : ¬ (x9.Month ≤ x18.Month)) : k + 1 ≤ nL ∧ RowsTo L (k + 1) := by
  refine ⟨by omega, rows_next (And.right ‹_ ∧ RowsTo L _›) ‹L[k]? = some _› ?_⟩; unfold RowStep; grind
theorem z_c_spec_l31Good_28 (L : List LibRow) (nL : Nat) (hbdL : (nL : Int) ≤ 9223372036854775807) (hleL : nL = L.length) (k : Nat) (hi7 : k ≤ nL ∧ RowsTo L k) (h8 : (k : Int) < (nL : Int)) (x9 : LibRow) (hx10 : L[k]? = some x9) (h11 : RowOK x9) (h17 : 0 < (k : Int)) (x18 : LibRow) (hx20 : L[k - 1]? = some x18) (h25 : ¬ (x9.Month ≤ x18.Month)) : nL - (k + 1) < nL - k := by
  omega
theorem z_c_spec_l31Good_33 (L : List LibRow) (nL : Nat) (hbdL : (nL : Int) ≤ 9223372036854775807) (hleL : nL = L.length) (k : Nat) (hi7 : k ≤ nL ∧ RowsTo L k) (h8 : (k : Int) < (nL : Int)) (x9 : LibRow) (hx10 : L[k]? = some x9) (h11 : RowOK x9) (h17 : ¬ (0 < (k : Int))) : k + 1 ≤ nL ∧ RowsTo L (k + 1) := by
  refine ⟨by omega, rows_next (And.right ‹_ ∧ RowsTo L _›) ‹L[k]? = some _› ?_⟩; unfold RowStep; grind
theorem z_c_spec_l31Good_34 (L : List LibRow) (nL : Nat) (hbdL : (nL : Int) ≤ 9223372036854775807) (hleL : nL = L.length) (k : Nat) (hi7 : k ≤ nL ∧ RowsTo L k) (h8 : (k : Int) < (nL : Int)) (x9 : LibRow) (hx10 : L[k]? = some x9) (h11 : RowOK x9) (h17 : ¬ (0 < (k : Int))) : nL - (k + 1) < nL - k := by
  omega
theorem z_c_spec_l31Good_35 (L : List LibRow) (nL : Nat) (hbdL : (nL : Int) ≤ 9223372036854775807) (hleL : nL = L.length) (k : Nat) (hi7 : k ≤ nL ∧ RowsTo L k) (h8 : ¬ ((k : Int) < (nL : Int))) : ((nL : Int) ≤ 12) ↔ (RowsOK L) := by
  first | exact (fun hr => rows_bad ‹L[k]? = some _› (by intro hs; unfold RowStep at hs; grind) hr) | exact rows_end (And.right ‹_ ∧ RowsTo L _›) ‹_› ‹_›
theorem c_spec_l31Good (w : World) {AL : Option Addr} {nL cL BL : Nat}  (L : List LibRow) (hL : SlR w BL encLibRow 5 AL nL cL L) : Calls Try.prog 22 #[.slice AL nL cL] w fun e w' => e = .returned (.bool (decide (RowsOK L))) ∧ Lo w w' := by
  refine calls_W 37 Try.func22 rfl rfl rfl ?_
  have hbdL := hL.bound
  have hleL := hL.len
  have hBbL := hL.bd
  refine W.seq ?_
  refine W.regS (SR.q' (r_as (v := .bool false) rfl) <| SR.nil ?_)
  refine W.seq ?_
  refine W.seq ?_
  refine W.regS (SR.q' (r_as (v := .int .i64 0) rfl) <| SR.nil ?_)
  refine W.block ?_
  refine W.loop (σ := Nat) (fun g => [(0, .slice AL nL cL), (3, .int .i64 (g : Int))]) (fun g w' => (Lo w w') ∧ (SlR w' BL encLibRow 5 AL nL cL L) ∧ (g ≤ nL ∧ RowsTo L g)) (fun g => nL - g) 0 ?_ ?_ ?_
  · exact ⟨rfl, rfl, trivial⟩
  · exact ⟨(Lo.refl w), hL, (z_c_spec_l31Good_1 L nL hbdL hleL)⟩
  · rintro k f2 w3 hP5
    obtain ⟨hB4, hm6, hi7⟩ : (Lo w w3) ∧ (SlR w3 BL encLibRow 5 AL nL cL L) ∧ (k ≤ nL ∧ RowsTo L k) := hP5
    refine (?_ : W _ _ _ _ _ (act _ (sets f2 [(0, .slice AL nL cL), (3, .int .i64 (k : Int))])) _)
    have hzw3 := hB4.size
    refine W.seq ?_
    refine W.seq ?_
    refine W.regS (SR.q' (r_mv (v := .int .i64 _) rfl) <| SR.q' (r_mv (v := .slice _ _ _) rfl) <| SR.q' (r_len und24 rfl) <| SR.q' (r_lt rfl rfl) <| SR.nil ?_)
    refine W.cond_d rfl (fun h8 => ?_) (fun h8 => ?_)
    · refine W.skip ?_
      refine W.seq ?_
      refine W.block ?_
      refine W.seq ?_
      refine W.regD mo (by kernel_rfl) (QR.q' (fun w' hw' => r_mv (v := .slice _ _ _) rfl) <| QR.q' (fun w' hw' => r_mv (v := .int .i64 _) rfl) <| ?_)
      obtain ⟨x9, hx10⟩ := (hm6).get (i := k) (by omega)
      refine QR.q' (fun w' hw' => r_ixR tsl24 (((hm6).lo hw')) rfl rfl (by omega)) <| QR.q' (fun w' hw' => r_lda (l := encLibRow x9) agg29 rfl (fun _ _ hu => (((hm6).lo hw')).cell hx10 hu) ((((hm6).lo hw')).esz _)) <| QR.call ent31 (fun w' hw' => (c_spec_l31One w' x9).mono fun _ _ h => ⟨h.1, hw'.trans h.2⟩) rfl <| QR.q' (fun w' hw' => r_not rfl) <| QR.q' (fun w' hw' => r_mv (v := .bool _) rfl) <| QR.splitN (fun h11 => ?_) (fun h11 => ?_)
      · refine QR.s' rfl <| QR.s' rfl <| QR.s' rfl <| QR.u' rfl <| QR.u' rfl <| QR.u' rfl <| QR.u' rfl <| QR.u' rfl <| QR.u' rfl <| QR.u' rfl <| QR.u' rfl <| QR.u' rfl <| QR.u' rfl <| QR.u' rfl <| QR.u' rfl <| QR.s' rfl <| QR.q' (fun w' hw' => r_pick true rfl (v := .bool true) rfl) <| QR.nil ?_
        intro w12 hk13
        have hz14 := hk13.size
        have hB15 := hB4.lo hk13
        refine W.cond_t rfl ?_
        refine W.seq ?_
        refine W.regS (SR.q' (r_as (v := .bool false) rfl) <| SR.nil ?_)
        refine W.ret ?_
        refine ret1 rfl (v := .bool _) rfl ?_
        exact ⟨eR (eDF (z_c_spec_l31Good_16 L nL hbdL hleL k hi7 h8 x9 hx10 h11)), hB15⟩
      · refine QR.g' rfl (fun w' hw' => r_mv (v := .int .i64 _) rfl) <| QR.g' rfl (fun w' hw' => r_gt rfl rfl) <| QR.g' rfl (fun w' hw' => r_mv (v := .bool _) rfl) <| QR.splitD (fun h17 => ?_) (fun h17 => ?_)
        · refine QR.g' rfl (fun w' hw' => r_mv (v := .slice _ _ _) rfl) <| QR.g' rfl (fun w' hw' => r_mv (v := .int .i64 _) rfl) <| QR.g' rfl (fun w' hw' => r_sub rfl rfl (by omega)) <| ?_
          obtain ⟨x18, hx19⟩ := (hm6).get (i := ((k : Int) - 1).toNat) (by omega)
          have hx20 : L[k - 1]? = some x18 := (show ((k : Int) - 1).toNat = k - 1 from by omega) ▸ hx19
          refine QR.g' rfl (fun w' hw' => r_ixR tsl24 (((hm6).lo hw')) rfl rfl (by omega)) <| QR.g' rfl (fun w' hw' => r_fa fa29_0 rfl) <| QR.g' rfl (fun w' hw' => r_ld (v := .int .i64 x18.Month) sca3 rfl ((((hm6).lo hw')).cell hx19 rfl)) <| QR.g' rfl (fun w' hw' => r_mv (v := .slice _ _ _) rfl) <| QR.g' rfl (fun w' hw' => r_mv (v := .int .i64 _) rfl) <| QR.g' rfl (fun w' hw' => r_ixR tsl24 (((hm6).lo hw')) rfl rfl (by omega)) <| QR.g' rfl (fun w' hw' => r_fa fa29_0 rfl) <| QR.g' rfl (fun w' hw' => r_ld (v := .int .i64 x9.Month) sca3 rfl ((((hm6).lo hw')).cell hx10 rfl)) <| QR.g' rfl (fun w' hw' => r_ge rfl rfl) <| QR.g' rfl (fun w' hw' => r_pick true rfl (v := .bool _) rfl) <| QR.q' (fun w' hw' => r_pick false rfl (v := .bool _) rfl) <| QR.nil ?_
          intro w21 hk22
          have hz23 := hk22.size
          have hB24 := hB4.lo hk22
          refine W.cond_d rfl (fun h25 => ?_) (fun h25 => ?_)
          · refine W.seq ?_
            refine W.regS (SR.q' (r_as (v := .bool false) rfl) <| SR.nil ?_)
            refine W.ret ?_
            refine ret1 rfl (v := .bool _) rfl ?_
            exact ⟨eR (eDF (z_c_spec_l31Good_26 L nL hbdL hleL k hi7 h8 x9 hx10 h11 h17 x18 hx20 h25)), hB24⟩
          · refine W.skip ?_
            refine W.regS (SR.q' (r_mv (v := .int .i64 _) rfl) <| SR.q' (r_add rfl rfl (by omega)) <| SR.q' (r_as (v := .int .i64 _) rfl) <| SR.nil ?_)
            refine ⟨k + 1, _, rfl, ⟨rfl, rfl, trivial⟩, ⟨hB24, (hm6).lo hk22, ?_⟩, ?_⟩
            · exact (z_c_spec_l31Good_27 L nL hbdL hleL k hi7 h8 x9 hx10 h11 h17 x18 hx20 h25)
            · exact (z_c_spec_l31Good_28 L nL hbdL hleL k hi7 h8 x9 hx10 h11 h17 x18 hx20 h25)
        · refine QR.s' rfl <| QR.s' rfl <| QR.s' rfl <| QR.s' rfl <| QR.s' rfl <| QR.s' rfl <| QR.s' rfl <| QR.s' rfl <| QR.s' rfl <| QR.s' rfl <| QR.s' rfl <| QR.s' rfl <| QR.g' rfl (fun w' hw' => r_pick false rfl (v := .bool false) rfl) <| QR.q' (fun w' hw' => r_pick false rfl (v := .bool _) rfl) <| QR.nil ?_
          intro w29 hk30
          have hz31 := hk30.size
          have hB32 := hB4.lo hk30
          refine W.cond_f rfl ?_
          refine W.skip ?_
          refine W.regS (SR.q' (r_mv (v := .int .i64 _) rfl) <| SR.q' (r_add rfl rfl (by omega)) <| SR.q' (r_as (v := .int .i64 _) rfl) <| SR.nil ?_)
          refine ⟨k + 1, _, rfl, ⟨rfl, rfl, trivial⟩, ⟨hB32, (hm6).lo hk30, ?_⟩, ?_⟩
          · exact (z_c_spec_l31Good_33 L nL hbdL hleL k hi7 h8 x9 hx10 h11 h17)
          · exact (z_c_spec_l31Good_34 L nL hbdL hleL k hi7 h8 x9 hx10 h11 h17)
    · refine W.exit (xin_here ?_)
      refine W.seq ?_
      refine W.regS (SR.q' (r_mv (v := .slice _ _ _) rfl) <| SR.q' (r_len und24 rfl) <| SR.q' (r_le rfl rfl) <| SR.q' (r_as (v := .bool _) rfl) <| SR.nil ?_)
      refine W.ret ?_
      refine ret1 rfl (v := .bool _) rfl ?_
      exact ⟨eR (eDD (z_c_spec_l31Good_35 L nL hbdL hleL k hi7 h8)), hB4⟩

theorem z_c_impl_AreLibRows_1 (L : List LibRow) (nL : Nat) (hbdL : (nL : Int) ≤ 9223372036854775807) (hleL : nL = L.length) : 0 ≤ nL ∧ RowsTo L 0 := by
  exact ⟨Nat.zero_le _, RowsTo.zero _⟩
theorem z_c_impl_AreLibRows_30 (L : List LibRow) (nL : Nat) (hbdL : (nL : Int) ≤ 9223372036854775807) (hleL : nL = L.length) (k : Nat) (hi7 : k ≤ nL ∧ RowsTo L k) (h8 : (k : Int) < (nL : Int)) (x9 : LibRow) (hx10 : L[k]? = some x9) (h25 : ¬ (RowOK x9)) : ¬ (RowsOK L) := by
  first | exact (fun hr => rows_bad ‹L[k]? = some _› (by intro hs; unfold RowStep at hs; grind) hr) | exact rows_end (And.right ‹_ ∧ RowsTo L _›) ‹_› ‹_›
theorem z_c_impl_AreLibRows_40 (L : List LibRow) (nL : Nat) (hbdL : (nL : Int) ≤ 9223372036854775807) (hleL : nL = L.length) (k : Nat) (hi7 : k ≤ nL ∧ RowsTo L k) (h8 : (k : Int) < (nL : Int)) (x9 : LibRow) (hx10 : L[k]? = some x9) (h25 : RowOK x9) (h31 : 0 < (k : Int)) (x32 : LibRow) (hx34 : L[k - 1]? = some x32) (h39 : x9.Month ≤ x32.Month) : ¬ (RowsOK L) := by
  first | exact (fun hr => rows_bad ‹L[k]? = some _› (by intro hs; unfold RowStep at hs; grind) hr) | exact rows_end (And.right ‹_ ∧ RowsTo L _›) ‹_› ‹_›
theorem z_c_impl_AreLibRows_41 (L : List LibRow) (nL : Nat) (hbdL : (nL : Int) ≤ 9223372036854775807) (hleL : nL = L.length) (k : Nat) (hi7 : k ≤ nL ∧ RowsTo L k) (h8 : (k : Int) < (nL : Int)) (x9 : LibRow) (hx10 : L[k]? = some x9) (h25 : RowOK x9) (h31 : 0 < (k : Int)) (x32 : LibRow) (hx34 : L[k - 1]? = some x32) (h39 : ¬ (x9.Month ≤ x32.Month)) : k + 1 ≤ nL ∧ RowsTo L (k + 1) := by
  refine ⟨by omega, rows_next (And.right ‹_ ∧ RowsTo L _›) ‹L[k]? = some _› ?_⟩; unfold RowStep; grind
theorem z_c_impl_AreLibRows_42 (L : List LibRow) (nL : Nat) (hbdL : (nL : Int) ≤ 9223372036854775807) (hleL : nL = L.length) (k : Nat) (hi7 : k ≤ nL ∧ RowsTo L k) (h8 : (k : Int) < (nL : Int)) (x9 : LibRow) (hx10 : L[k]? = some x9) (h25 : RowOK x9) (h31 : 0 < (k : Int)) (x32 : LibRow) (hx34 : L[k - 1]? = some x32) (h39 : ¬ (x9.Month ≤ x32.Month)) : nL - (k + 1) < nL - k := by
  omega
theorem z_c_impl_AreLibRows_47 (L : List LibRow) (nL : Nat) (hbdL : (nL : Int) ≤ 9223372036854775807) (hleL : nL = L.length) (k : Nat) (hi7 : k ≤ nL ∧ RowsTo L k) (h8 : (k : Int) < (nL : Int)) (x9 : LibRow) (hx10 : L[k]? = some x9) (h25 : RowOK x9) (h31 : ¬ (0 < (k : Int))) : k + 1 ≤ nL ∧ RowsTo L (k + 1) := by
  refine ⟨by omega, rows_next (And.right ‹_ ∧ RowsTo L _›) ‹L[k]? = some _› ?_⟩; unfold RowStep; grind
theorem z_c_impl_AreLibRows_48 (L : List LibRow) (nL : Nat) (hbdL : (nL : Int) ≤ 9223372036854775807) (hleL : nL = L.length) (k : Nat) (hi7 : k ≤ nL ∧ RowsTo L k) (h8 : (k : Int) < (nL : Int)) (x9 : LibRow) (hx10 : L[k]? = some x9) (h25 : RowOK x9) (h31 : ¬ (0 < (k : Int))) : nL - (k + 1) < nL - k := by
  omega
theorem z_c_impl_AreLibRows_49 (L : List LibRow) (nL : Nat) (hbdL : (nL : Int) ≤ 9223372036854775807) (hleL : nL = L.length) (k : Nat) (hi7 : k ≤ nL ∧ RowsTo L k) (h8 : ¬ ((k : Int) < (nL : Int))) : ((nL : Int) ≤ 12) ↔ (RowsOK L) := by
  first | exact (fun hr => rows_bad ‹L[k]? = some _› (by intro hs; unfold RowStep at hs; grind) hr) | exact rows_end (And.right ‹_ ∧ RowsTo L _›) ‹_› ‹_›
theorem c_impl_AreLibRows (w : World) {AL : Option Addr} {nL cL BL : Nat}  (L : List LibRow) (hL : SlR w BL encLibRow 5 AL nL cL L) : Calls Try.prog 20 #[.slice AL nL cL] w fun e w' => e = .returned (.bool (decide (RowsOK L))) ∧ Lo w w' := by
  refine calls_W 34 Try.func20 rfl rfl rfl ?_
  have hbdL := hL.bound
  have hleL := hL.len
  have hBbL := hL.bd
  refine W.seq ?_
  refine W.regS (SR.q' (r_as (v := .bool false) rfl) <| SR.nil ?_)
  refine W.seq ?_
  refine W.seq ?_
  refine W.regS (SR.q' (r_mv (v := .slice _ _ _) rfl) <| SR.q' (r_len und24 rfl) <| SR.q' (r_mv (v := .int .i64 0) rfl) <| SR.nil ?_)
  refine W.block ?_
  refine W.loop (σ := Nat) (fun g => [(0, .slice AL nL cL), (5, .slice AL nL cL), (6, .int .i64 (nL : Int)), (7, .int .i64 (g : Int))]) (fun g w' => (Lo w w') ∧ (SlR w' BL encLibRow 5 AL nL cL L) ∧ (g ≤ nL ∧ RowsTo L g)) (fun g => nL - g) 0 ?_ ?_ ?_
  · exact ⟨rfl, rfl, rfl, rfl, trivial⟩
  · exact ⟨(Lo.refl w), hL, (z_c_impl_AreLibRows_1 L nL hbdL hleL)⟩
  · rintro k f2 w3 hP5
    obtain ⟨hB4, hm6, hi7⟩ : (Lo w w3) ∧ (SlR w3 BL encLibRow 5 AL nL cL L) ∧ (k ≤ nL ∧ RowsTo L k) := hP5
    refine (?_ : W _ _ _ _ _ (act _ (sets f2 [(0, .slice AL nL cL), (5, .slice AL nL cL), (6, .int .i64 (nL : Int)), (7, .int .i64 (k : Int))])) _)
    have hzw3 := hB4.size
    refine W.seq ?_
    refine W.regS (SR.q' (r_lt rfl rfl) <| SR.nil ?_)
    refine W.seq ?_
    refine W.cond_d rfl (fun h8 => ?_) (fun h8 => ?_)
    · refine W.skip ?_
      refine W.seq ?_
      refine W.block ?_
      refine W.seq ?_
      refine W.regS (SR.q' (r_mv (v := .int .i64 _) rfl) <| ?_)
      obtain ⟨x9, hx10⟩ := (hm6).get (i := k) (by omega)
      refine SR.q' (r_ixR tsl24 (hm6) rfl rfl (by omega)) <| SR.q' (r_lda (l := encLibRow x9) agg29 rfl (fun _ _ hu => (hm6).cell hx10 hu) ((hm6).esz _)) <| SR.alloc (l := [.int .i64 0, .int .i64 0, .int .i64 0, .int .i64 0, .int .i64 0]) tz29 rfl ?_
      intro g11 w12 hg13 hk14 hs15 hb16
      have hz17 := hk14.size
      have hB18 := hB4.lo hk14
      refine SR.q' (r_as (v := .int .i64 _) rfl) <| SR.store (o := 0) (vs := [.int .i64 x9.Month, .int .i64 x9.Lent, .int .i64 x9.Copied, .int .i64 x9.Given, .int .i64 x9.Fines]) agg29.2 rfl rfl rfl rfl (hb16) (Nat.le_of_ble_eq_true rfl) rfl ?_
      intro w19 hk20 hs21 hb22
      have hz23 := hk20.size
      have hB24 := hB18.new hk20 (by omega)
      refine SR.nil ?_
      refine W.seq ?_
      refine W.regD mo (by kernel_rfl) (QR.q' (fun w' hw' => r_lda (l := [.int .i64 x9.Month, .int .i64 x9.Lent, .int .i64 x9.Copied, .int .i64 x9.Given, .int .i64 x9.Fines]) agg29 rfl (fun _ _ hu => ((hb22).lo hw').cell hu) rfl) <| QR.call ent28 (fun w' hw' => (c_impl_IsLibRow w' x9).mono fun _ _ h => ⟨h.1, hw'.trans h.2⟩) rfl <| QR.q' (fun w' hw' => r_not rfl) <| QR.q' (fun w' hw' => r_mv (v := .bool _) rfl) <| QR.splitN (fun h25 => ?_) (fun h25 => ?_))
      · refine QR.s' rfl <| QR.s' rfl <| QR.s' rfl <| QR.u' rfl <| QR.u' rfl <| QR.u' rfl <| QR.u' rfl <| QR.u' rfl <| QR.u' rfl <| QR.u' rfl <| QR.u' rfl <| QR.u' rfl <| QR.s' rfl <| QR.q' (fun w' hw' => r_pick true rfl (v := .bool true) rfl) <| QR.nil ?_
        intro w26 hk27
        have hz28 := hk27.size
        have hB29 := hB24.lo hk27
        refine W.cond_t rfl ?_
        refine W.seq ?_
        refine W.regS (SR.q' (r_as (v := .bool false) rfl) <| SR.nil ?_)
        refine W.ret ?_
        refine ret1 rfl (v := .bool _) rfl ?_
        exact ⟨eR (eDF (z_c_impl_AreLibRows_30 L nL hbdL hleL k hi7 h8 x9 hx10 h25)), hB29⟩
      · refine QR.g' rfl (fun w' hw' => r_mv (v := .int .i64 _) rfl) <| QR.g' rfl (fun w' hw' => r_gt rfl rfl) <| QR.g' rfl (fun w' hw' => r_mv (v := .bool _) rfl) <| QR.splitD (fun h31 => ?_) (fun h31 => ?_)
        · refine QR.g' rfl (fun w' hw' => r_fa fa29_0 rfl) <| QR.g' rfl (fun w' hw' => r_ld (v := .int .i64 x9.Month) sca3 rfl (((hb22).lo hw').cell rfl)) <| QR.g' rfl (fun w' hw' => r_mv (v := .slice _ _ _) rfl) <| QR.g' rfl (fun w' hw' => r_mv (v := .int .i64 _) rfl) <| QR.g' rfl (fun w' hw' => r_sub rfl rfl (by omega)) <| ?_
          obtain ⟨x32, hx33⟩ := (((hm6).lo hk14).kp hk20 (fun b_ hb e' => by have e'' : b_ = g11 := e'; omega)).get (i := ((k : Int) - 1).toNat) (by omega)
          have hx34 : L[k - 1]? = some x32 := (show ((k : Int) - 1).toNat = k - 1 from by omega) ▸ hx33
          refine QR.g' rfl (fun w' hw' => r_ixR tsl24 (((((hm6).lo hk14).kp hk20 (fun b_ hb e' => by have e'' : b_ = g11 := e'; omega)).lo hw')) rfl rfl (by omega)) <| QR.g' rfl (fun w' hw' => r_fa fa29_0 rfl) <| QR.g' rfl (fun w' hw' => r_ld (v := .int .i64 x32.Month) sca3 rfl ((((((hm6).lo hk14).kp hk20 (fun b_ hb e' => by have e'' : b_ = g11 := e'; omega)).lo hw')).cell hx33 rfl)) <| QR.g' rfl (fun w' hw' => r_le rfl rfl) <| QR.g' rfl (fun w' hw' => r_pick true rfl (v := .bool _) rfl) <| QR.q' (fun w' hw' => r_pick false rfl (v := .bool _) rfl) <| QR.nil ?_
          intro w35 hk36
          have hz37 := hk36.size
          have hB38 := hB24.lo hk36
          refine W.cond_d rfl (fun h39 => ?_) (fun h39 => ?_)
          · refine W.seq ?_
            refine W.regS (SR.q' (r_as (v := .bool false) rfl) <| SR.nil ?_)
            refine W.ret ?_
            refine ret1 rfl (v := .bool _) rfl ?_
            exact ⟨eR (eDF (z_c_impl_AreLibRows_40 L nL hbdL hleL k hi7 h8 x9 hx10 h25 h31 x32 hx34 h39)), hB38⟩
          · refine W.skip ?_
            refine W.regS (SR.q' (r_add rfl rfl (by omega)) <| SR.q' (r_mv (v := .int .i64 _) rfl) <| SR.nil ?_)
            refine ⟨k + 1, _, rfl, ⟨rfl, rfl, rfl, rfl, trivial⟩, ⟨hB38, (((hm6).lo hk14).kp hk20 (fun b_ hb e' => by have e'' : b_ = g11 := e'; omega)).lo hk36, ?_⟩, ?_⟩
            · exact (z_c_impl_AreLibRows_41 L nL hbdL hleL k hi7 h8 x9 hx10 h25 h31 x32 hx34 h39)
            · exact (z_c_impl_AreLibRows_42 L nL hbdL hleL k hi7 h8 x9 hx10 h25 h31 x32 hx34 h39)
        · refine QR.s' rfl <| QR.s' rfl <| QR.s' rfl <| QR.s' rfl <| QR.s' rfl <| QR.s' rfl <| QR.s' rfl <| QR.s' rfl <| QR.s' rfl <| QR.g' rfl (fun w' hw' => r_pick false rfl (v := .bool false) rfl) <| QR.q' (fun w' hw' => r_pick false rfl (v := .bool _) rfl) <| QR.nil ?_
          intro w43 hk44
          have hz45 := hk44.size
          have hB46 := hB24.lo hk44
          refine W.cond_f rfl ?_
          refine W.skip ?_
          refine W.regS (SR.q' (r_add rfl rfl (by omega)) <| SR.q' (r_mv (v := .int .i64 _) rfl) <| SR.nil ?_)
          refine ⟨k + 1, _, rfl, ⟨rfl, rfl, rfl, rfl, trivial⟩, ⟨hB46, (((hm6).lo hk14).kp hk20 (fun b_ hb e' => by have e'' : b_ = g11 := e'; omega)).lo hk44, ?_⟩, ?_⟩
          · exact (z_c_impl_AreLibRows_47 L nL hbdL hleL k hi7 h8 x9 hx10 h25 h31)
          · exact (z_c_impl_AreLibRows_48 L nL hbdL hleL k hi7 h8 x9 hx10 h25 h31)
    · refine W.exit (xin_here ?_)
      refine W.seq ?_
      refine W.regS (SR.q' (r_mv (v := .slice _ _ _) rfl) <| SR.q' (r_len und24 rfl) <| SR.q' (r_le rfl rfl) <| SR.q' (r_as (v := .bool _) rfl) <| SR.nil ?_)
      refine W.ret ?_
      refine ret1 rfl (v := .bool _) rfl ?_
      exact ⟨eR (eDD (z_c_impl_AreLibRows_49 L nL hbdL hleL k hi7 h8)), hB4⟩
end Go.Proofs.Ytmigipacjadpeaa
