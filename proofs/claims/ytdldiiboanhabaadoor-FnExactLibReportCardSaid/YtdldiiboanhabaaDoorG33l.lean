/- Walks, printed by a program of this claim's author. -/
import Derived.Test.YtdldiiboanhabaaDoorChecked
import Derived.Test.YtdldiiboanhabaaDoorVb
import Derived.Test.YtdldiiboanhabaaDoorSi
namespace Go.Proofs.YtdldiiboanhabaaDoor
open Go Go.RowKit Fw
set_option maxRecDepth 10000
set_option linter.unusedVariables false
theorem mo : Tryd.prog.follows .mixedOrders = true := by kernel_rfl
theorem agg30 : TAgg Tryd.prog 30 5 := ⟨fun _ => by kernel_rfl, fun _ => by kernel_rfl⟩
theorem agg32 : TAgg Tryd.prog 32 5 := ⟨fun _ => by kernel_rfl, fun _ => by kernel_rfl⟩
theorem ent16 : Ent Tryd.prog 16 := ent_of Tryd.func16 (by decide +kernel) rfl
theorem ent17 : Ent Tryd.prog 17 := ent_of Tryd.func17 (by decide +kernel) rfl
theorem ent18 : Ent Tryd.prog 18 := ent_of Tryd.func18 (by decide +kernel) rfl
theorem ent47 : Ent Tryd.prog 47 := ent_of Tryd.func47 (by decide +kernel) rfl
theorem ent50 : Ent Tryd.prog 50 := ent_of Tryd.func50 (by decide +kernel) rfl
theorem ent52 : Ent Tryd.prog 52 := ent_of Tryd.func52 (by decide +kernel) rfl
theorem ent53 : Ent Tryd.prog 53 := ent_of Tryd.func53 (by decide +kernel) rfl
theorem ent54 : Ent Tryd.prog 54 := ent_of Tryd.func54 (by decide +kernel) rfl
theorem ent55 : Ent Tryd.prog 55 := ent_of Tryd.func55 (by decide +kernel) rfl
theorem ent59 : Ent Tryd.prog 59 := ent_of Tryd.func59 (by decide +kernel) rfl
theorem ent60 : Ent Tryd.prog 60 := ent_of Tryd.func60 (by decide +kernel) rfl
theorem ent63 : Ent Tryd.prog 63 := ent_of Tryd.func63 (by decide +kernel) rfl
theorem ent77 : Ent Tryd.prog 77 := ent_of Tryd.func77 (by decide +kernel) rfl
theorem ent78 : Ent Tryd.prog 78 := ent_of Tryd.func78 (by decide +kernel) rfl
theorem ent79 : Ent Tryd.prog 79 := ent_of Tryd.func79 (by decide +kernel) rfl
theorem fa30_0 : FA Tryd.prog 30 0 0 := fun _ _ => by kernel_rfl
theorem fa30_1 : FA Tryd.prog 30 1 1 := fun _ _ => by kernel_rfl
theorem fa30_2 : FA Tryd.prog 30 2 2 := fun _ _ => by kernel_rfl
theorem fa30_3 : FA Tryd.prog 30 3 3 := fun _ _ => by kernel_rfl
theorem fa30_4 : FA Tryd.prog 30 4 4 := fun _ _ => by kernel_rfl
theorem fa32_0 : FA Tryd.prog 32 0 0 := fun _ _ => by kernel_rfl
theorem fa32_1 : FA Tryd.prog 32 1 1 := fun _ _ => by kernel_rfl
theorem fa32_2 : FA Tryd.prog 32 2 2 := fun _ _ => by kernel_rfl
theorem fa32_3 : FA Tryd.prog 32 3 3 := fun _ _ => by kernel_rfl
theorem fa32_4 : FA Tryd.prog 32 4 4 := fun _ _ => by kernel_rfl
theorem sca3 : TSca Tryd.prog 3 := ⟨fun _ => by kernel_rfl, fun _ => by kernel_rfl⟩
theorem tel38 : TEl Tryd.prog 38 32 (.agg (List.toArray [.int .i64 0, .int .i64 0, .int .i64 0, .int .i64 0, .int .i64 0])) 5 40 := ⟨by kernel_rfl, by kernel_rfl, rfl, by decide⟩
theorem tel76 : TEl Tryd.prog 76 3 (.int .i64 0) 1 8 := ⟨by kernel_rfl, by kernel_rfl, rfl, by decide⟩
theorem tsl35 : TSl Tryd.prog 35 30 5 := ⟨by kernel_rfl, fun _ => by kernel_rfl⟩
theorem tsl38 : TSl Tryd.prog 38 32 5 := ⟨by kernel_rfl, fun _ => by kernel_rfl⟩
theorem tsl76 : TSl Tryd.prog 76 3 1 := ⟨by kernel_rfl, fun _ => by kernel_rfl⟩
theorem tz32 : TZ Tryd.prog 32 (.agg (List.toArray [.int .i64 0, .int .i64 0, .int .i64 0, .int .i64 0, .int .i64 0])) := fun _ => by kernel_rfl
theorem und35 : Tryd.prog.underlying 35 = some (.slice 30) := by kernel_rfl
theorem und38 : Tryd.prog.underlying 38 = some (.slice 32) := by kernel_rfl
theorem und4 : Tryd.prog.underlying 4 = some (.bool) := by kernel_rfl
theorem und76 : Tryd.prog.underlying 76 = some (.slice 3) := by kernel_rfl
theorem und9 : Tryd.prog.underlying 9 = some (.string) := by kernel_rfl

theorem z_c_spec_l1In_2 (n : Int) (a : Int) (b : Int) (h1 : a ≤ n) : (n ≤ b) ↔ (a ≤ n ∧ n ≤ b) := by
  omega
theorem z_c_spec_l1In_3 (n : Int) (a : Int) (b : Int) (h1 : ¬ (a ≤ n)) : ¬ (a ≤ n ∧ n ≤ b) := by
  omega
theorem c_spec_l1In (w : World) (n : Int) (a : Int) (b : Int) : Calls Tryd.prog 60 #[.int .i64 n, .int .i64 a, .int .i64 b] w fun e w' => e = .returned (.bool (decide (a ≤ n ∧ n ≤ b))) ∧ Lo w w' := by
  refine calls_W 15 Tryd.func60 rfl rfl rfl ?_
  refine W.seq ?_
  refine W.regS (SR.q' (r_as (v := .bool false) rfl) <| SR.nil ?_)
  refine W.seq ?_
  refine W.regS (SR.q' (r_mv (v := .int .i64 _) rfl) <| SR.q' (r_mv (v := .int .i64 _) rfl) <| SR.q' (r_ge rfl rfl) <| SR.q' (r_mv (v := .bool _) rfl) <| SR.splitD (fun h1 => ?_) (fun h1 => ?_))
  · refine SR.g' rfl (r_mv (v := .int .i64 _) rfl) <| SR.g' rfl (r_mv (v := .int .i64 _) rfl) <| SR.g' rfl (r_le rfl rfl) <| SR.q' (r_pick true rfl (v := .bool _) rfl) <| SR.q' (r_as (v := .bool _) rfl) <| SR.nil ?_
    refine W.ret ?_
    refine ret1 rfl (v := .bool _) rfl ?_
    exact ⟨eR (eDD (z_c_spec_l1In_2 n a b h1)), (Lo.refl w)⟩
  · refine SR.s' rfl <| SR.s' rfl <| SR.s' rfl <| SR.q' (r_pick false rfl (v := .bool false) rfl) <| SR.q' (r_as (v := .bool _) rfl) <| SR.nil ?_
    refine W.ret ?_
    refine ret1 rfl (v := .bool _) rfl ?_
    exact ⟨eR (eDF (z_c_spec_l1In_3 n a b h1)), (Lo.refl w)⟩

theorem z_c_impl_within_2 (n : Int) (a : Int) (b : Int) (h1 : a ≤ n) : (n ≤ b) ↔ (a ≤ n ∧ n ≤ b) := by
  omega
theorem z_c_impl_within_3 (n : Int) (a : Int) (b : Int) (h1 : ¬ (a ≤ n)) : ¬ (a ≤ n ∧ n ≤ b) := by
  omega
theorem c_impl_within (w : World) (n : Int) (a : Int) (b : Int) : Calls Tryd.prog 63 #[.int .i64 n, .int .i64 a, .int .i64 b] w fun e w' => e = .returned (.bool (decide (a ≤ n ∧ n ≤ b))) ∧ Lo w w' := by
  refine calls_W 15 Tryd.func63 rfl rfl rfl ?_
  refine W.seq ?_
  refine W.regS (SR.q' (r_as (v := .bool false) rfl) <| SR.nil ?_)
  refine W.seq ?_
  refine W.regS (SR.q' (r_mv (v := .int .i64 _) rfl) <| SR.q' (r_mv (v := .int .i64 _) rfl) <| SR.q' (r_ge rfl rfl) <| SR.q' (r_mv (v := .bool _) rfl) <| SR.splitD (fun h1 => ?_) (fun h1 => ?_))
  · refine SR.g' rfl (r_mv (v := .int .i64 _) rfl) <| SR.g' rfl (r_mv (v := .int .i64 _) rfl) <| SR.g' rfl (r_le rfl rfl) <| SR.q' (r_pick true rfl (v := .bool _) rfl) <| SR.q' (r_as (v := .bool _) rfl) <| SR.nil ?_
    refine W.ret ?_
    refine ret1 rfl (v := .bool _) rfl ?_
    exact ⟨eR (eDD (z_c_impl_within_2 n a b h1)), (Lo.refl w)⟩
  · refine SR.s' rfl <| SR.s' rfl <| SR.s' rfl <| SR.q' (r_pick false rfl (v := .bool false) rfl) <| SR.q' (r_as (v := .bool _) rfl) <| SR.nil ?_
    refine W.ret ?_
    refine ret1 rfl (v := .bool _) rfl ?_
    exact ⟨eR (eDF (z_c_impl_within_3 n a b h1)), (Lo.refl w)⟩

theorem z_c_spec_l31One_33 (r : LibRow) (h13 : 1 ≤ r.Month ∧ r.Month ≤ 1200) (h18 : 0 ≤ r.Lent ∧ r.Lent ≤ 9999) (h23 : 0 ≤ r.Copied ∧ r.Copied ≤ 9999) (h28 : 0 ≤ r.Given ∧ r.Given ≤ 999) : (0 ≤ r.Fines ∧ r.Fines ≤ 99999) ↔ (RowOK r) := by
  unfold RowOK; omega
theorem z_c_spec_l31One_34 (r : LibRow) (h13 : 1 ≤ r.Month ∧ r.Month ≤ 1200) (h18 : 0 ≤ r.Lent ∧ r.Lent ≤ 9999) (h23 : 0 ≤ r.Copied ∧ r.Copied ≤ 9999) (h28 : ¬ (0 ≤ r.Given ∧ r.Given ≤ 999)) : ¬ (RowOK r) := by
  unfold RowOK; omega
theorem z_c_spec_l31One_35 (r : LibRow) (h13 : 1 ≤ r.Month ∧ r.Month ≤ 1200) (h18 : 0 ≤ r.Lent ∧ r.Lent ≤ 9999) (h23 : ¬ (0 ≤ r.Copied ∧ r.Copied ≤ 9999)) : ¬ (RowOK r) := by
  unfold RowOK; omega
theorem z_c_spec_l31One_36 (r : LibRow) (h13 : 1 ≤ r.Month ∧ r.Month ≤ 1200) (h18 : ¬ (0 ≤ r.Lent ∧ r.Lent ≤ 9999)) : ¬ (RowOK r) := by
  unfold RowOK; omega
theorem z_c_spec_l31One_37 (r : LibRow) (h13 : ¬ (1 ≤ r.Month ∧ r.Month ≤ 1200)) : ¬ (RowOK r) := by
  unfold RowOK; omega
theorem c_spec_l31One (w : World) (r : LibRow) : Calls Tryd.prog 52 #[.agg (List.toArray (encLibRow r))] w fun e w' => e = .returned (.bool (decide (RowOK r))) ∧ Lo w w' := by
  refine calls_W 26 Tryd.func52 rfl rfl rfl ?_
  refine W.seq ?_
  refine W.regS (SR.box (v := .agg (List.toArray _)) (l := [.int .i64 r.Month, .int .i64 r.Lent, .int .i64 r.Copied, .int .i64 r.Given, .int .i64 r.Fines]) rfl rfl ?_)
  intro g1 w2 hg3 hk4 hs5 hb6
  have hz7 := hk4.size
  have hB8 := (Lo.refl w).lo hk4
  refine SR.q' (r_as (v := .bool false) rfl) <| SR.nil ?_
  refine W.seq ?_
  refine W.regS (SR.q' (r_fa fa32_0 rfl) <| SR.q' (r_ld (v := .int .i64 r.Month) sca3 rfl ((hb6).cell rfl)) <| SR.call ent60 (c_spec_l1In w2 r.Month 1 1200) rfl ?_)
  rintro e w9 ⟨rfl, hk10⟩
  refine ⟨_, rfl, ?_⟩
  have hz11 := hk10.size
  have hB12 := hB8.lo hk10
  refine SR.q' (r_mv (v := .bool _) rfl) <| SR.splitD (fun h13 => ?_) (fun h13 => ?_)
  · refine SR.g' rfl (r_fa fa32_1 rfl) <| SR.g' rfl (r_ld (v := .int .i64 r.Lent) sca3 rfl (((hb6).lo hk10).cell rfl)) <| SR.gcall rfl ent60 (c_spec_l1In w9 r.Lent 0 9999) rfl ?_
    rintro e w14 ⟨rfl, hk15⟩
    refine ⟨_, rfl, ?_⟩
    have hz16 := hk15.size
    have hB17 := hB12.lo hk15
    refine SR.q' (r_pick true rfl (v := .bool _) rfl) <| SR.q' (r_mv (v := .bool _) rfl) <| SR.splitD (fun h18 => ?_) (fun h18 => ?_)
    · refine SR.g' rfl (r_fa fa32_2 rfl) <| SR.g' rfl (r_ld (v := .int .i64 r.Copied) sca3 rfl ((((hb6).lo hk10).lo hk15).cell rfl)) <| SR.gcall rfl ent60 (c_spec_l1In w14 r.Copied 0 9999) rfl ?_
      rintro e w19 ⟨rfl, hk20⟩
      refine ⟨_, rfl, ?_⟩
      have hz21 := hk20.size
      have hB22 := hB17.lo hk20
      refine SR.q' (r_pick true rfl (v := .bool _) rfl) <| SR.q' (r_mv (v := .bool _) rfl) <| SR.splitD (fun h23 => ?_) (fun h23 => ?_)
      · refine SR.g' rfl (r_fa fa32_3 rfl) <| SR.g' rfl (r_ld (v := .int .i64 r.Given) sca3 rfl (((((hb6).lo hk10).lo hk15).lo hk20).cell rfl)) <| SR.gcall rfl ent60 (c_spec_l1In w19 r.Given 0 999) rfl ?_
        rintro e w24 ⟨rfl, hk25⟩
        refine ⟨_, rfl, ?_⟩
        have hz26 := hk25.size
        have hB27 := hB22.lo hk25
        refine SR.q' (r_pick true rfl (v := .bool _) rfl) <| SR.q' (r_mv (v := .bool _) rfl) <| SR.splitD (fun h28 => ?_) (fun h28 => ?_)
        · refine SR.g' rfl (r_fa fa32_4 rfl) <| SR.g' rfl (r_ld (v := .int .i64 r.Fines) sca3 rfl ((((((hb6).lo hk10).lo hk15).lo hk20).lo hk25).cell rfl)) <| SR.gcall rfl ent60 (c_spec_l1In w24 r.Fines 0 99999) rfl ?_
          rintro e w29 ⟨rfl, hk30⟩
          refine ⟨_, rfl, ?_⟩
          have hz31 := hk30.size
          have hB32 := hB27.lo hk30
          refine SR.q' (r_pick true rfl (v := .bool _) rfl) <| SR.q' (r_as (v := .bool _) rfl) <| SR.nil ?_
          refine W.ret ?_
          refine ret1 rfl (v := .bool _) rfl ?_
          exact ⟨eR (eDD (z_c_spec_l31One_33 r h13 h18 h23 h28)), hB32⟩
        · refine SR.s' rfl <| SR.s' rfl <| SR.s' rfl <| SR.q' (r_pick false rfl (v := .bool false) rfl) <| SR.q' (r_as (v := .bool _) rfl) <| SR.nil ?_
          refine W.ret ?_
          refine ret1 rfl (v := .bool _) rfl ?_
          exact ⟨eR (eDF (z_c_spec_l31One_34 r h13 h18 h23 h28)), hB27⟩
      · refine SR.s' rfl <| SR.s' rfl <| SR.s' rfl <| SR.q' (r_pick false rfl (v := .bool false) rfl) <| SR.q' (r_mv (v := .bool _) rfl) <| SR.s' rfl <| SR.s' rfl <| SR.s' rfl <| SR.q' (r_pick false rfl (v := .bool false) rfl) <| SR.q' (r_as (v := .bool _) rfl) <| SR.nil ?_
        refine W.ret ?_
        refine ret1 rfl (v := .bool _) rfl ?_
        exact ⟨eR (eDF (z_c_spec_l31One_35 r h13 h18 h23)), hB22⟩
    · refine SR.s' rfl <| SR.s' rfl <| SR.s' rfl <| SR.q' (r_pick false rfl (v := .bool false) rfl) <| SR.q' (r_mv (v := .bool _) rfl) <| SR.s' rfl <| SR.s' rfl <| SR.s' rfl <| SR.q' (r_pick false rfl (v := .bool false) rfl) <| SR.q' (r_mv (v := .bool _) rfl) <| SR.s' rfl <| SR.s' rfl <| SR.s' rfl <| SR.q' (r_pick false rfl (v := .bool false) rfl) <| SR.q' (r_as (v := .bool _) rfl) <| SR.nil ?_
      refine W.ret ?_
      refine ret1 rfl (v := .bool _) rfl ?_
      exact ⟨eR (eDF (z_c_spec_l31One_36 r h13 h18)), hB17⟩
  · refine SR.s' rfl <| SR.s' rfl <| SR.s' rfl <| SR.q' (r_pick false rfl (v := .bool false) rfl) <| SR.q' (r_mv (v := .bool _) rfl) <| SR.s' rfl <| SR.s' rfl <| SR.s' rfl <| SR.q' (r_pick false rfl (v := .bool false) rfl) <| SR.q' (r_mv (v := .bool _) rfl) <| SR.s' rfl <| SR.s' rfl <| SR.s' rfl <| SR.q' (r_pick false rfl (v := .bool false) rfl) <| SR.q' (r_mv (v := .bool _) rfl) <| SR.s' rfl <| SR.s' rfl <| SR.s' rfl <| SR.q' (r_pick false rfl (v := .bool false) rfl) <| SR.q' (r_as (v := .bool _) rfl) <| SR.nil ?_
    refine W.ret ?_
    refine ret1 rfl (v := .bool _) rfl ?_
    exact ⟨eR (eDF (z_c_spec_l31One_37 r h13)), hB12⟩

theorem z_c_impl_IsLibRow_33 (r : LibRow) (h13 : 1 ≤ r.Month ∧ r.Month ≤ 1200) (h18 : 0 ≤ r.Lent ∧ r.Lent ≤ 9999) (h23 : 0 ≤ r.Copied ∧ r.Copied ≤ 9999) (h28 : 0 ≤ r.Given ∧ r.Given ≤ 999) : (0 ≤ r.Fines ∧ r.Fines ≤ 99999) ↔ (RowOK r) := by
  unfold RowOK; omega
theorem z_c_impl_IsLibRow_34 (r : LibRow) (h13 : 1 ≤ r.Month ∧ r.Month ≤ 1200) (h18 : 0 ≤ r.Lent ∧ r.Lent ≤ 9999) (h23 : 0 ≤ r.Copied ∧ r.Copied ≤ 9999) (h28 : ¬ (0 ≤ r.Given ∧ r.Given ≤ 999)) : ¬ (RowOK r) := by
  unfold RowOK; omega
theorem z_c_impl_IsLibRow_35 (r : LibRow) (h13 : 1 ≤ r.Month ∧ r.Month ≤ 1200) (h18 : 0 ≤ r.Lent ∧ r.Lent ≤ 9999) (h23 : ¬ (0 ≤ r.Copied ∧ r.Copied ≤ 9999)) : ¬ (RowOK r) := by
  unfold RowOK; omega
theorem z_c_impl_IsLibRow_36 (r : LibRow) (h13 : 1 ≤ r.Month ∧ r.Month ≤ 1200) (h18 : ¬ (0 ≤ r.Lent ∧ r.Lent ≤ 9999)) : ¬ (RowOK r) := by
  unfold RowOK; omega
theorem z_c_impl_IsLibRow_37 (r : LibRow) (h13 : ¬ (1 ≤ r.Month ∧ r.Month ≤ 1200)) : ¬ (RowOK r) := by
  unfold RowOK; omega
theorem c_impl_IsLibRow (w : World) (r : LibRow) : Calls Tryd.prog 54 #[.agg (List.toArray (encLibRow r))] w fun e w' => e = .returned (.bool (decide (RowOK r))) ∧ Lo w w' := by
  refine calls_W 26 Tryd.func54 rfl rfl rfl ?_
  refine W.seq ?_
  refine W.regS (SR.box (v := .agg (List.toArray _)) (l := [.int .i64 r.Month, .int .i64 r.Lent, .int .i64 r.Copied, .int .i64 r.Given, .int .i64 r.Fines]) rfl rfl ?_)
  intro g1 w2 hg3 hk4 hs5 hb6
  have hz7 := hk4.size
  have hB8 := (Lo.refl w).lo hk4
  refine SR.q' (r_as (v := .bool false) rfl) <| SR.nil ?_
  refine W.seq ?_
  refine W.regS (SR.q' (r_fa fa32_0 rfl) <| SR.q' (r_ld (v := .int .i64 r.Month) sca3 rfl ((hb6).cell rfl)) <| SR.call ent63 (c_impl_within w2 r.Month 1 1200) rfl ?_)
  rintro e w9 ⟨rfl, hk10⟩
  refine ⟨_, rfl, ?_⟩
  have hz11 := hk10.size
  have hB12 := hB8.lo hk10
  refine SR.q' (r_mv (v := .bool _) rfl) <| SR.splitD (fun h13 => ?_) (fun h13 => ?_)
  · refine SR.g' rfl (r_fa fa32_1 rfl) <| SR.g' rfl (r_ld (v := .int .i64 r.Lent) sca3 rfl (((hb6).lo hk10).cell rfl)) <| SR.gcall rfl ent63 (c_impl_within w9 r.Lent 0 9999) rfl ?_
    rintro e w14 ⟨rfl, hk15⟩
    refine ⟨_, rfl, ?_⟩
    have hz16 := hk15.size
    have hB17 := hB12.lo hk15
    refine SR.q' (r_pick true rfl (v := .bool _) rfl) <| SR.q' (r_mv (v := .bool _) rfl) <| SR.splitD (fun h18 => ?_) (fun h18 => ?_)
    · refine SR.g' rfl (r_fa fa32_2 rfl) <| SR.g' rfl (r_ld (v := .int .i64 r.Copied) sca3 rfl ((((hb6).lo hk10).lo hk15).cell rfl)) <| SR.gcall rfl ent63 (c_impl_within w14 r.Copied 0 9999) rfl ?_
      rintro e w19 ⟨rfl, hk20⟩
      refine ⟨_, rfl, ?_⟩
      have hz21 := hk20.size
      have hB22 := hB17.lo hk20
      refine SR.q' (r_pick true rfl (v := .bool _) rfl) <| SR.q' (r_mv (v := .bool _) rfl) <| SR.splitD (fun h23 => ?_) (fun h23 => ?_)
      · refine SR.g' rfl (r_fa fa32_3 rfl) <| SR.g' rfl (r_ld (v := .int .i64 r.Given) sca3 rfl (((((hb6).lo hk10).lo hk15).lo hk20).cell rfl)) <| SR.gcall rfl ent63 (c_impl_within w19 r.Given 0 999) rfl ?_
        rintro e w24 ⟨rfl, hk25⟩
        refine ⟨_, rfl, ?_⟩
        have hz26 := hk25.size
        have hB27 := hB22.lo hk25
        refine SR.q' (r_pick true rfl (v := .bool _) rfl) <| SR.q' (r_mv (v := .bool _) rfl) <| SR.splitD (fun h28 => ?_) (fun h28 => ?_)
        · refine SR.g' rfl (r_fa fa32_4 rfl) <| SR.g' rfl (r_ld (v := .int .i64 r.Fines) sca3 rfl ((((((hb6).lo hk10).lo hk15).lo hk20).lo hk25).cell rfl)) <| SR.gcall rfl ent63 (c_impl_within w24 r.Fines 0 99999) rfl ?_
          rintro e w29 ⟨rfl, hk30⟩
          refine ⟨_, rfl, ?_⟩
          have hz31 := hk30.size
          have hB32 := hB27.lo hk30
          refine SR.q' (r_pick true rfl (v := .bool _) rfl) <| SR.q' (r_as (v := .bool _) rfl) <| SR.nil ?_
          refine W.ret ?_
          refine ret1 rfl (v := .bool _) rfl ?_
          exact ⟨eR (eDD (z_c_impl_IsLibRow_33 r h13 h18 h23 h28)), hB32⟩
        · refine SR.s' rfl <| SR.s' rfl <| SR.s' rfl <| SR.q' (r_pick false rfl (v := .bool false) rfl) <| SR.q' (r_as (v := .bool _) rfl) <| SR.nil ?_
          refine W.ret ?_
          refine ret1 rfl (v := .bool _) rfl ?_
          exact ⟨eR (eDF (z_c_impl_IsLibRow_34 r h13 h18 h23 h28)), hB27⟩
      · refine SR.s' rfl <| SR.s' rfl <| SR.s' rfl <| SR.q' (r_pick false rfl (v := .bool false) rfl) <| SR.q' (r_mv (v := .bool _) rfl) <| SR.s' rfl <| SR.s' rfl <| SR.s' rfl <| SR.q' (r_pick false rfl (v := .bool false) rfl) <| SR.q' (r_as (v := .bool _) rfl) <| SR.nil ?_
        refine W.ret ?_
        refine ret1 rfl (v := .bool _) rfl ?_
        exact ⟨eR (eDF (z_c_impl_IsLibRow_35 r h13 h18 h23)), hB22⟩
    · refine SR.s' rfl <| SR.s' rfl <| SR.s' rfl <| SR.q' (r_pick false rfl (v := .bool false) rfl) <| SR.q' (r_mv (v := .bool _) rfl) <| SR.s' rfl <| SR.s' rfl <| SR.s' rfl <| SR.q' (r_pick false rfl (v := .bool false) rfl) <| SR.q' (r_mv (v := .bool _) rfl) <| SR.s' rfl <| SR.s' rfl <| SR.s' rfl <| SR.q' (r_pick false rfl (v := .bool false) rfl) <| SR.q' (r_as (v := .bool _) rfl) <| SR.nil ?_
      refine W.ret ?_
      refine ret1 rfl (v := .bool _) rfl ?_
      exact ⟨eR (eDF (z_c_impl_IsLibRow_36 r h13 h18)), hB17⟩
  · refine SR.s' rfl <| SR.s' rfl <| SR.s' rfl <| SR.q' (r_pick false rfl (v := .bool false) rfl) <| SR.q' (r_mv (v := .bool _) rfl) <| SR.s' rfl <| SR.s' rfl <| SR.s' rfl <| SR.q' (r_pick false rfl (v := .bool false) rfl) <| SR.q' (r_mv (v := .bool _) rfl) <| SR.s' rfl <| SR.s' rfl <| SR.s' rfl <| SR.q' (r_pick false rfl (v := .bool false) rfl) <| SR.q' (r_mv (v := .bool _) rfl) <| SR.s' rfl <| SR.s' rfl <| SR.s' rfl <| SR.q' (r_pick false rfl (v := .bool false) rfl) <| SR.q' (r_as (v := .bool _) rfl) <| SR.nil ?_
    refine W.ret ?_
    refine ret1 rfl (v := .bool _) rfl ?_
    exact ⟨eR (eDF (z_c_impl_IsLibRow_37 r h13)), hB12⟩

theorem z_c_spec_l31Good_1 (L : List LibRow) (nL : Nat) (hbdL : (nL : Int) ≤ 9223372036854775807) (hleL : nL = L.length) : 0 ≤ nL ∧ RowsTo L 0 := by
  exact ⟨Nat.zero_le _, RowsTo.zero _⟩
theorem z_c_spec_l31Good_16 (L : List LibRow) (nL : Nat) (hbdL : (nL : Int) ≤ 9223372036854775807) (hleL : nL = L.length) (k : Nat) (hi7 : k ≤ nL ∧ RowsTo L k) (h8 : (k : Int) < (nL : Int)) (x9 : LibRow) (hx10 : L[k]? = some x9) (h11 : ¬ (RowOK x9)) : ¬ (RowsOK L) := by
  first | exact (fun hr => rows_bad ‹L[k]? = some _› (by intro hs; unfold RowStep at hs; grind) hr) | exact rows_end (And.right ‹_ ∧ RowsTo L _›) ‹_› ‹_›
theorem z_c_spec_l31Good_26 (L : List LibRow) (nL : Nat) (hbdL : (nL : Int) ≤ 9223372036854775807) (hleL : nL = L.length) (k : Nat) (hi7 : k ≤ nL ∧ RowsTo L k) (h8 : (k : Int) < (nL : Int)) (x9 : LibRow) (hx10 : L[k]? = some x9) (h11 : RowOK x9) (h17 : 0 < (k : Int)) (x18 : LibRow) (hx20 : L[k - 1]? = some x18) (h25 : x9.Month ≤ x18.Month) : ¬ (RowsOK L) := by
  first | exact (fun hr => rows_bad ‹L[k]? = some _› (by intro hs; unfold RowStep at hs; grind) hr) | exact rows_end (And.right ‹_ ∧ RowsTo L _›) ‹_› ‹_›
theorem z_c_spec_l31Good_27 (L : List LibRow) (nL : Nat) (hbdL : (nL : Int) ≤ 9223372036854775807) (hleL : nL = L.length) (k : Nat) (hi7 : k ≤ nL ∧ RowsTo L k) (h8 : (k : Int) < (nL : Int)) (x9 : LibRow) (hx10 : L[k]? = some x9) (h11 : RowOK x9) (h17 : 0 < (k : Int)) (x18 : LibRow) (hx20 : L[k - 1]? = some x18) (h25 : ¬ (x9.Month ≤ x18.Month)) : k + 1 ≤ nL ∧ RowsTo L (k + 1) := by
  refine ⟨by omega, rows_next (And.right ‹_ ∧ RowsTo L _›) ‹L[k]? = some _› ?_⟩; unfold RowStep; grind
theorem z_c_spec_l31Good_28 (L : List LibRow) (nL : Nat) (hbdL : (nL : Int) ≤ 9223372036854775807) (hleL : nL = L.length) (k : Nat) (hi7 : k ≤ nL ∧ RowsTo L k) (h8 : (k : Int) < (nL : Int)) (x9 : LibRow) (hx10 : L[k]? = some x9) (h11 : RowOK x9) (h17 : 0 < (k : Int)) (x18 : LibRow) (hx20 : L[k - 1]? = some x18) (h25 : ¬ (x9.Month ≤ x18.Month)) : nL - (k + 1) < nL - k := by
  omega
theorem z_c_spec_l31Good_33 (L : List LibRow) (nL : Nat) (hbdL : (nL : Int) ≤ 9223372036854775807) (hleL : nL = L.length) (k : Nat) (hi7 : k ≤ nL ∧ RowsTo L k) (h8 : (k : Int) < (nL : Int)) (x9 : LibRow) (hx10 : L[k]? = some x9) (h11 : RowOK x9) (h17 : ¬ (0 < (k : Int))) : k + 1 ≤ nL ∧ RowsTo L (k + 1) := by
  refine ⟨by omega, rows_next (And.right ‹_ ∧ RowsTo L _›) ‹L[k]? = some _› ?_⟩; unfold RowStep; grind
theorem z_c_spec_l31Good_34 (L : List LibRow) (nL : Nat) (hbdL : (nL : Int) ≤ 9223372036854775807) (hleL : nL = L.length) (k : Nat) (hi7 : k ≤ nL ∧ RowsTo L k) (h8 : (k : Int) < (nL : Int)) (x9 : LibRow) (hx10 : L[k]? = some x9) (h11 : RowOK x9) (h17 : ¬ (0 < (k : Int))) : nL - (k + 1) < nL - k := by
  omega
theorem z_c_spec_l31Good_35 (L : List LibRow) (nL : Nat) (hbdL : (nL : Int) ≤ 9223372036854775807) (hleL : nL = L.length) (k : Nat) (hi7 : k ≤ nL ∧ RowsTo L k) (h8 : ¬ ((k : Int) < (nL : Int))) : ((nL : Int) ≤ 12) ↔ (RowsOK L) := by
  first | exact (fun hr => rows_bad ‹L[k]? = some _› (by intro hs; unfold RowStep at hs; grind) hr) | exact rows_end (And.right ‹_ ∧ RowsTo L _›) ‹_› ‹_›
theorem c_spec_l31Good (w : World) {AL : Option Addr} {nL cL BL : Nat}  (L : List LibRow) (hL : SlR w BL encLibRow 5 AL nL cL L) : Calls Tryd.prog 79 #[.slice AL nL cL] w fun e w' => e = .returned (.bool (decide (RowsOK L))) ∧ Lo w w' := by
  refine calls_W 37 Tryd.func79 rfl rfl rfl ?_
  have hbdL := hL.bound
  have hleL := hL.len
  have hBbL := hL.bd
  refine W.seq ?_
  refine W.regS (SR.q' (r_as (v := .bool false) rfl) <| SR.nil ?_)
  refine W.seq ?_
  refine W.seq ?_
  refine W.regS (SR.q' (r_as (v := .int .i64 0) rfl) <| SR.nil ?_)
  refine W.block ?_
  refine W.loop (σ := Nat) (fun g => [(0, .slice AL nL cL), (3, .int .i64 (g : Int))]) (fun g w' => (Lo w w') ∧ (SlR w' BL encLibRow 5 AL nL cL L) ∧ (g ≤ nL ∧ RowsTo L g)) (fun g => nL - g) 0 ?_ ?_ ?_
  · exact ⟨rfl, rfl, trivial⟩
  · exact ⟨(Lo.refl w), hL, (z_c_spec_l31Good_1 L nL hbdL hleL)⟩
  · rintro k f2 w3 hP5
    obtain ⟨hB4, hm6, hi7⟩ : (Lo w w3) ∧ (SlR w3 BL encLibRow 5 AL nL cL L) ∧ (k ≤ nL ∧ RowsTo L k) := hP5
    refine (?_ : W _ _ _ _ _ (act _ (sets f2 [(0, .slice AL nL cL), (3, .int .i64 (k : Int))])) _)
    have hzw3 := hB4.size
    refine W.seq ?_
    refine W.seq ?_
    refine W.regS (SR.q' (r_mv (v := .int .i64 _) rfl) <| SR.q' (r_mv (v := .slice _ _ _) rfl) <| SR.q' (r_len und38 rfl) <| SR.q' (r_lt rfl rfl) <| SR.nil ?_)
    refine W.cond_d rfl (fun h8 => ?_) (fun h8 => ?_)
    · refine W.skip ?_
      refine W.seq ?_
      refine W.block ?_
      refine W.seq ?_
      refine W.regD mo (by kernel_rfl) (QR.q' (fun w' hw' => r_mv (v := .slice _ _ _) rfl) <| QR.q' (fun w' hw' => r_mv (v := .int .i64 _) rfl) <| ?_)
      obtain ⟨x9, hx10⟩ := (hm6).get (i := k) (by omega)
      refine QR.q' (fun w' hw' => r_ixR tsl38 (((hm6).lo hw')) rfl rfl (by omega)) <| QR.q' (fun w' hw' => r_lda (l := encLibRow x9) agg32 rfl (fun _ _ hu => (((hm6).lo hw')).cell hx10 hu) ((((hm6).lo hw')).esz _)) <| QR.call ent52 (fun w' hw' => (c_spec_l31One w' x9).mono fun _ _ h => ⟨h.1, hw'.trans h.2⟩) rfl <| QR.q' (fun w' hw' => r_not rfl) <| QR.q' (fun w' hw' => r_mv (v := .bool _) rfl) <| QR.splitN (fun h11 => ?_) (fun h11 => ?_)
      · refine QR.s' rfl <| QR.s' rfl <| QR.s' rfl <| QR.u' rfl <| QR.u' rfl <| QR.u' rfl <| QR.u' rfl <| QR.u' rfl <| QR.u' rfl <| QR.u' rfl <| QR.u' rfl <| QR.u' rfl <| QR.u' rfl <| QR.u' rfl <| QR.u' rfl <| QR.s' rfl <| QR.q' (fun w' hw' => r_pick true rfl (v := .bool true) rfl) <| QR.nil ?_
        intro w12 hk13
        have hz14 := hk13.size
        have hB15 := hB4.lo hk13
        refine W.cond_t rfl ?_
        refine W.seq ?_
        refine W.regS (SR.q' (r_as (v := .bool false) rfl) <| SR.nil ?_)
        refine W.ret ?_
        refine ret1 rfl (v := .bool _) rfl ?_
        exact ⟨eR (eDF (z_c_spec_l31Good_16 L nL hbdL hleL k hi7 h8 x9 hx10 h11)), hB15⟩
      · refine QR.g' rfl (fun w' hw' => r_mv (v := .int .i64 _) rfl) <| QR.g' rfl (fun w' hw' => r_gt rfl rfl) <| QR.g' rfl (fun w' hw' => r_mv (v := .bool _) rfl) <| QR.splitD (fun h17 => ?_) (fun h17 => ?_)
        · refine QR.g' rfl (fun w' hw' => r_mv (v := .slice _ _ _) rfl) <| QR.g' rfl (fun w' hw' => r_mv (v := .int .i64 _) rfl) <| QR.g' rfl (fun w' hw' => r_sub rfl rfl (by omega)) <| ?_
          obtain ⟨x18, hx19⟩ := (hm6).get (i := ((k : Int) - 1).toNat) (by omega)
          have hx20 : L[k - 1]? = some x18 := (show ((k : Int) - 1).toNat = k - 1 from by omega) ▸ hx19
          refine QR.g' rfl (fun w' hw' => r_ixR tsl38 (((hm6).lo hw')) rfl rfl (by omega)) <| QR.g' rfl (fun w' hw' => r_fa fa32_0 rfl) <| QR.g' rfl (fun w' hw' => r_ld (v := .int .i64 x18.Month) sca3 rfl ((((hm6).lo hw')).cell hx19 rfl)) <| QR.g' rfl (fun w' hw' => r_mv (v := .slice _ _ _) rfl) <| QR.g' rfl (fun w' hw' => r_mv (v := .int .i64 _) rfl) <| QR.g' rfl (fun w' hw' => r_ixR tsl38 (((hm6).lo hw')) rfl rfl (by omega)) <| QR.g' rfl (fun w' hw' => r_fa fa32_0 rfl) <| QR.g' rfl (fun w' hw' => r_ld (v := .int .i64 x9.Month) sca3 rfl ((((hm6).lo hw')).cell hx10 rfl)) <| QR.g' rfl (fun w' hw' => r_ge rfl rfl) <| QR.g' rfl (fun w' hw' => r_pick true rfl (v := .bool _) rfl) <| QR.q' (fun w' hw' => r_pick false rfl (v := .bool _) rfl) <| QR.nil ?_
          intro w21 hk22
          have hz23 := hk22.size
          have hB24 := hB4.lo hk22
          refine W.cond_d rfl (fun h25 => ?_) (fun h25 => ?_)
          · refine W.seq ?_
            refine W.regS (SR.q' (r_as (v := .bool false) rfl) <| SR.nil ?_)
            refine W.ret ?_
            refine ret1 rfl (v := .bool _) rfl ?_
            exact ⟨eR (eDF (z_c_spec_l31Good_26 L nL hbdL hleL k hi7 h8 x9 hx10 h11 h17 x18 hx20 h25)), hB24⟩
          · refine W.skip ?_
            refine W.regS (SR.q' (r_mv (v := .int .i64 _) rfl) <| SR.q' (r_add rfl rfl (by omega)) <| SR.q' (r_as (v := .int .i64 _) rfl) <| SR.nil ?_)
            refine ⟨k + 1, _, rfl, ⟨rfl, rfl, trivial⟩, ⟨hB24, (hm6).lo hk22, ?_⟩, ?_⟩
            · exact (z_c_spec_l31Good_27 L nL hbdL hleL k hi7 h8 x9 hx10 h11 h17 x18 hx20 h25)
            · exact (z_c_spec_l31Good_28 L nL hbdL hleL k hi7 h8 x9 hx10 h11 h17 x18 hx20 h25)
        · refine QR.s' rfl <| QR.s' rfl <| QR.s' rfl <| QR.s' rfl <| QR.s' rfl <| QR.s' rfl <| QR.s' rfl <| QR.s' rfl <| QR.s' rfl <| QR.s' rfl <| QR.s' rfl <| QR.s' rfl <| QR.g' rfl (fun w' hw' => r_pick false rfl (v := .bool false) rfl) <| QR.q' (fun w' hw' => r_pick false rfl (v := .bool _) rfl) <| QR.nil ?_
          intro w29 hk30
          have hz31 := hk30.size
          have hB32 := hB4.lo hk30
          refine W.cond_f rfl ?_
          refine W.skip ?_
          refine W.regS (SR.q' (r_mv (v := .int .i64 _) rfl) <| SR.q' (r_add rfl rfl (by omega)) <| SR.q' (r_as (v := .int .i64 _) rfl) <| SR.nil ?_)
          refine ⟨k + 1, _, rfl, ⟨rfl, rfl, trivial⟩, ⟨hB32, (hm6).lo hk30, ?_⟩, ?_⟩
          · exact (z_c_spec_l31Good_33 L nL hbdL hleL k hi7 h8 x9 hx10 h11 h17)
          · exact (z_c_spec_l31Good_34 L nL hbdL hleL k hi7 h8 x9 hx10 h11 h17)
    · refine W.exit (xin_here ?_)
      refine W.seq ?_
      refine W.regS (SR.q' (r_mv (v := .slice _ _ _) rfl) <| SR.q' (r_len und38 rfl) <| SR.q' (r_le rfl rfl) <| SR.q' (r_as (v := .bool _) rfl) <| SR.nil ?_)
      refine W.ret ?_
      refine ret1 rfl (v := .bool _) rfl ?_
      exact ⟨eR (eDD (z_c_spec_l31Good_35 L nL hbdL hleL k hi7 h8)), hB4⟩

theorem z_c_impl_AreLibRows_1 (L : List LibRow) (nL : Nat) (hbdL : (nL : Int) ≤ 9223372036854775807) (hleL : nL = L.length) : 0 ≤ nL ∧ RowsTo L 0 := by
  exact ⟨Nat.zero_le _, RowsTo.zero _⟩
theorem z_c_impl_AreLibRows_30 (L : List LibRow) (nL : Nat) (hbdL : (nL : Int) ≤ 9223372036854775807) (hleL : nL = L.length) (k : Nat) (hi7 : k ≤ nL ∧ RowsTo L k) (h8 : (k : Int) < (nL : Int)) (x9 : LibRow) (hx10 : L[k]? = some x9) (h25 : ¬ (RowOK x9)) : ¬ (RowsOK L) := by
  first | exact (fun hr => rows_bad ‹L[k]? = some _› (by intro hs; unfold RowStep at hs; grind) hr) | exact rows_end (And.right ‹_ ∧ RowsTo L _›) ‹_› ‹_›
theorem z_c_impl_AreLibRows_40 (L : List LibRow) (nL : Nat) (hbdL : (nL : Int) ≤ 9223372036854775807) (hleL : nL = L.length) (k : Nat) (hi7 : k ≤ nL ∧ RowsTo L k) (h8 : (k : Int) < (nL : Int)) (x9 : LibRow) (hx10 : L[k]? = some x9) (h25 : RowOK x9) (h31 : 0 < (k : Int)) (x32 : LibRow) (hx34 : L[k - 1]? = some x32) (h39 : x9.Month ≤ x32.Month) : ¬ (RowsOK L) := by
  first | exact (fun hr => rows_bad ‹L[k]? = some _› (by intro hs; unfold RowStep at hs; grind) hr) | exact rows_end (And.right ‹_ ∧ RowsTo L _›) ‹_› ‹_›
theorem z_c_impl_AreLibRows_41 (L : List LibRow) (nL : Nat) (hbdL : (nL : Int) ≤ 9223372036854775807) (hleL : nL = L.length) (k : Nat) (hi7 : k ≤ nL ∧ RowsTo L k) (h8 : (k : Int) < (nL : Int)) (x9 : LibRow) (hx10 : L[k]? = some x9) (h25 : RowOK x9) (h31 : 0 < (k : Int)) (x32 : LibRow) (hx34 : L[k - 1]? = some x32) (h39 : ¬ (x9.Month ≤ x32.Month)) : k + 1 ≤ nL ∧ RowsTo L (k + 1) := by
  refine ⟨by omega, rows_next (And.right ‹_ ∧ RowsTo L _›) ‹L[k]? = some _› ?_⟩; unfold RowStep; grind
theorem z_c_impl_AreLibRows_42 (L : List LibRow) (nL : Nat) (hbdL : (nL : Int) ≤ 9223372036854775807) (hleL : nL = L.length) (k : Nat) (hi7 : k ≤ nL ∧ RowsTo L k) (h8 : (k : Int) < (nL : Int)) (x9 : LibRow) (hx10 : L[k]? = some x9) (h25 : RowOK x9) (h31 : 0 < (k : Int)) (x32 : LibRow) (hx34 : L[k - 1]? = some x32) (h39 : ¬ (x9.Month ≤ x32.Month)) : nL - (k + 1) < nL - k := by
  omega
theorem z_c_impl_AreLibRows_47 (L : List LibRow) (nL : Nat) (hbdL : (nL : Int) ≤ 9223372036854775807) (hleL : nL = L.length) (k : Nat) (hi7 : k ≤ nL ∧ RowsTo L k) (h8 : (k : Int) < (nL : Int)) (x9 : LibRow) (hx10 : L[k]? = some x9) (h25 : RowOK x9) (h31 : ¬ (0 < (k : Int))) : k + 1 ≤ nL ∧ RowsTo L (k + 1) := by
  refine ⟨by omega, rows_next (And.right ‹_ ∧ RowsTo L _›) ‹L[k]? = some _› ?_⟩; unfold RowStep; grind
theorem z_c_impl_AreLibRows_48 (L : List LibRow) (nL : Nat) (hbdL : (nL : Int) ≤ 9223372036854775807) (hleL : nL = L.length) (k : Nat) (hi7 : k ≤ nL ∧ RowsTo L k) (h8 : (k : Int) < (nL : Int)) (x9 : LibRow) (hx10 : L[k]? = some x9) (h25 : RowOK x9) (h31 : ¬ (0 < (k : Int))) : nL - (k + 1) < nL - k := by
  omega
theorem z_c_impl_AreLibRows_49 (L : List LibRow) (nL : Nat) (hbdL : (nL : Int) ≤ 9223372036854775807) (hleL : nL = L.length) (k : Nat) (hi7 : k ≤ nL ∧ RowsTo L k) (h8 : ¬ ((k : Int) < (nL : Int))) : ((nL : Int) ≤ 12) ↔ (RowsOK L) := by
  first | exact (fun hr => rows_bad ‹L[k]? = some _› (by intro hs; unfold RowStep at hs; grind) hr) | exact rows_end (And.right ‹_ ∧ RowsTo L _›) ‹_› ‹_›
theorem c_impl_AreLibRows (w : World) {AL : Option Addr} {nL cL BL : Nat}  (L : List LibRow) (hL : SlR w BL encLibRow 5 AL nL cL L) : Calls Tryd.prog 57 #[.slice AL nL cL] w fun e w' => e = .returned (.bool (decide (RowsOK L))) ∧ Lo w w' := by
  refine calls_W 34 Tryd.func57 rfl rfl rfl ?_
  have hbdL := hL.bound
  have hleL := hL.len
  have hBbL := hL.bd
  refine W.seq ?_
  refine W.regS (SR.q' (r_as (v := .bool false) rfl) <| SR.nil ?_)
  refine W.seq ?_
  refine W.seq ?_
  refine W.regS (SR.q' (r_mv (v := .slice _ _ _) rfl) <| SR.q' (r_len und38 rfl) <| SR.q' (r_mv (v := .int .i64 0) rfl) <| SR.nil ?_)
  refine W.block ?_
  refine W.loop (σ := Nat) (fun g => [(0, .slice AL nL cL), (5, .slice AL nL cL), (6, .int .i64 (nL : Int)), (7, .int .i64 (g : Int))]) (fun g w' => (Lo w w') ∧ (SlR w' BL encLibRow 5 AL nL cL L) ∧ (g ≤ nL ∧ RowsTo L g)) (fun g => nL - g) 0 ?_ ?_ ?_
  · exact ⟨rfl, rfl, rfl, rfl, trivial⟩
  · exact ⟨(Lo.refl w), hL, (z_c_impl_AreLibRows_1 L nL hbdL hleL)⟩
  · rintro k f2 w3 hP5
    obtain ⟨hB4, hm6, hi7⟩ : (Lo w w3) ∧ (SlR w3 BL encLibRow 5 AL nL cL L) ∧ (k ≤ nL ∧ RowsTo L k) := hP5
    refine (?_ : W _ _ _ _ _ (act _ (sets f2 [(0, .slice AL nL cL), (5, .slice AL nL cL), (6, .int .i64 (nL : Int)), (7, .int .i64 (k : Int))])) _)
    have hzw3 := hB4.size
    refine W.seq ?_
    refine W.regS (SR.q' (r_lt rfl rfl) <| SR.nil ?_)
    refine W.seq ?_
    refine W.cond_d rfl (fun h8 => ?_) (fun h8 => ?_)
    · refine W.skip ?_
      refine W.seq ?_
      refine W.block ?_
      refine W.seq ?_
      refine W.regS (SR.q' (r_mv (v := .int .i64 _) rfl) <| ?_)
      obtain ⟨x9, hx10⟩ := (hm6).get (i := k) (by omega)
      refine SR.q' (r_ixR tsl38 (hm6) rfl rfl (by omega)) <| SR.q' (r_lda (l := encLibRow x9) agg32 rfl (fun _ _ hu => (hm6).cell hx10 hu) ((hm6).esz _)) <| SR.alloc (l := [.int .i64 0, .int .i64 0, .int .i64 0, .int .i64 0, .int .i64 0]) tz32 rfl ?_
      intro g11 w12 hg13 hk14 hs15 hb16
      have hz17 := hk14.size
      have hB18 := hB4.lo hk14
      refine SR.q' (r_as (v := .int .i64 _) rfl) <| SR.store (o := 0) (vs := [.int .i64 x9.Month, .int .i64 x9.Lent, .int .i64 x9.Copied, .int .i64 x9.Given, .int .i64 x9.Fines]) agg32.2 rfl rfl rfl rfl (hb16) (Nat.le_of_ble_eq_true rfl) rfl ?_
      intro w19 hk20 hs21 hb22
      have hz23 := hk20.size
      have hB24 := hB18.new hk20 (by omega)
      refine SR.nil ?_
      refine W.seq ?_
      refine W.regD mo (by kernel_rfl) (QR.q' (fun w' hw' => r_lda (l := [.int .i64 x9.Month, .int .i64 x9.Lent, .int .i64 x9.Copied, .int .i64 x9.Given, .int .i64 x9.Fines]) agg32 rfl (fun _ _ hu => ((hb22).lo hw').cell hu) rfl) <| QR.call ent54 (fun w' hw' => (c_impl_IsLibRow w' x9).mono fun _ _ h => ⟨h.1, hw'.trans h.2⟩) rfl <| QR.q' (fun w' hw' => r_not rfl) <| QR.q' (fun w' hw' => r_mv (v := .bool _) rfl) <| QR.splitN (fun h25 => ?_) (fun h25 => ?_))
      · refine QR.s' rfl <| QR.s' rfl <| QR.s' rfl <| QR.u' rfl <| QR.u' rfl <| QR.u' rfl <| QR.u' rfl <| QR.u' rfl <| QR.u' rfl <| QR.u' rfl <| QR.u' rfl <| QR.u' rfl <| QR.s' rfl <| QR.q' (fun w' hw' => r_pick true rfl (v := .bool true) rfl) <| QR.nil ?_
        intro w26 hk27
        have hz28 := hk27.size
        have hB29 := hB24.lo hk27
        refine W.cond_t rfl ?_
        refine W.seq ?_
        refine W.regS (SR.q' (r_as (v := .bool false) rfl) <| SR.nil ?_)
        refine W.ret ?_
        refine ret1 rfl (v := .bool _) rfl ?_
        exact ⟨eR (eDF (z_c_impl_AreLibRows_30 L nL hbdL hleL k hi7 h8 x9 hx10 h25)), hB29⟩
      · refine QR.g' rfl (fun w' hw' => r_mv (v := .int .i64 _) rfl) <| QR.g' rfl (fun w' hw' => r_gt rfl rfl) <| QR.g' rfl (fun w' hw' => r_mv (v := .bool _) rfl) <| QR.splitD (fun h31 => ?_) (fun h31 => ?_)
        · refine QR.g' rfl (fun w' hw' => r_fa fa32_0 rfl) <| QR.g' rfl (fun w' hw' => r_ld (v := .int .i64 x9.Month) sca3 rfl (((hb22).lo hw').cell rfl)) <| QR.g' rfl (fun w' hw' => r_mv (v := .slice _ _ _) rfl) <| QR.g' rfl (fun w' hw' => r_mv (v := .int .i64 _) rfl) <| QR.g' rfl (fun w' hw' => r_sub rfl rfl (by omega)) <| ?_
          obtain ⟨x32, hx33⟩ := (((hm6).lo hk14).kp hk20 (fun b_ hb e' => by have e'' : b_ = g11 := e'; omega)).get (i := ((k : Int) - 1).toNat) (by omega)
          have hx34 : L[k - 1]? = some x32 := (show ((k : Int) - 1).toNat = k - 1 from by omega) ▸ hx33
          refine QR.g' rfl (fun w' hw' => r_ixR tsl38 (((((hm6).lo hk14).kp hk20 (fun b_ hb e' => by have e'' : b_ = g11 := e'; omega)).lo hw')) rfl rfl (by omega)) <| QR.g' rfl (fun w' hw' => r_fa fa32_0 rfl) <| QR.g' rfl (fun w' hw' => r_ld (v := .int .i64 x32.Month) sca3 rfl ((((((hm6).lo hk14).kp hk20 (fun b_ hb e' => by have e'' : b_ = g11 := e'; omega)).lo hw')).cell hx33 rfl)) <| QR.g' rfl (fun w' hw' => r_le rfl rfl) <| QR.g' rfl (fun w' hw' => r_pick true rfl (v := .bool _) rfl) <| QR.q' (fun w' hw' => r_pick false rfl (v := .bool _) rfl) <| QR.nil ?_
          intro w35 hk36
          have hz37 := hk36.size
          have hB38 := hB24.lo hk36
          refine W.cond_d rfl (fun h39 => ?_) (fun h39 => ?_)
          · refine W.seq ?_
            refine W.regS (SR.q' (r_as (v := .bool false) rfl) <| SR.nil ?_)
            refine W.ret ?_
            refine ret1 rfl (v := .bool _) rfl ?_
            exact ⟨eR (eDF (z_c_impl_AreLibRows_40 L nL hbdL hleL k hi7 h8 x9 hx10 h25 h31 x32 hx34 h39)), hB38⟩
          · refine W.skip ?_
            refine W.regS (SR.q' (r_add rfl rfl (by omega)) <| SR.q' (r_mv (v := .int .i64 _) rfl) <| SR.nil ?_)
            refine ⟨k + 1, _, rfl, ⟨rfl, rfl, rfl, rfl, trivial⟩, ⟨hB38, (((hm6).lo hk14).kp hk20 (fun b_ hb e' => by have e'' : b_ = g11 := e'; omega)).lo hk36, ?_⟩, ?_⟩
            · exact (z_c_impl_AreLibRows_41 L nL hbdL hleL k hi7 h8 x9 hx10 h25 h31 x32 hx34 h39)
            · exact (z_c_impl_AreLibRows_42 L nL hbdL hleL k hi7 h8 x9 hx10 h25 h31 x32 hx34 h39)
        · refine QR.s' rfl <| QR.s' rfl <| QR.s' rfl <| QR.s' rfl <| QR.s' rfl <| QR.s' rfl <| QR.s' rfl <| QR.s' rfl <| QR.s' rfl <| QR.g' rfl (fun w' hw' => r_pick false rfl (v := .bool false) rfl) <| QR.q' (fun w' hw' => r_pick false rfl (v := .bool _) rfl) <| QR.nil ?_
          intro w43 hk44
          have hz45 := hk44.size
          have hB46 := hB24.lo hk44
          refine W.cond_f rfl ?_
          refine W.skip ?_
          refine W.regS (SR.q' (r_add rfl rfl (by omega)) <| SR.q' (r_mv (v := .int .i64 _) rfl) <| SR.nil ?_)
          refine ⟨k + 1, _, rfl, ⟨rfl, rfl, rfl, rfl, trivial⟩, ⟨hB46, (((hm6).lo hk14).kp hk20 (fun b_ hb e' => by have e'' : b_ = g11 := e'; omega)).lo hk44, ?_⟩, ?_⟩
          · exact (z_c_impl_AreLibRows_47 L nL hbdL hleL k hi7 h8 x9 hx10 h25 h31)
          · exact (z_c_impl_AreLibRows_48 L nL hbdL hleL k hi7 h8 x9 hx10 h25 h31)
    · refine W.exit (xin_here ?_)
      refine W.seq ?_
      refine W.regS (SR.q' (r_mv (v := .slice _ _ _) rfl) <| SR.q' (r_len und38 rfl) <| SR.q' (r_le rfl rfl) <| SR.q' (r_as (v := .bool _) rfl) <| SR.nil ?_)
      refine W.ret ?_
      refine ret1 rfl (v := .bool _) rfl ?_
      exact ⟨eR (eDD (z_c_impl_AreLibRows_49 L nL hbdL hleL k hi7 h8)), hB4⟩

theorem z_c_laws_toLibRow_61 (r : LibRow) : ([.int .i64 r.Month, .int .i64 r.Lent, .int .i64 r.Copied, .int .i64 r.Given, .int .i64 r.Fines] : List Value) = encLibRow r := by
  first | rfl | (first | rfl | omega | grind)
theorem c_laws_toLibRow (w : World) (r : LibRow) : Calls Tryd.prog 17 #[.agg (List.toArray (encLibRow r))] w fun e w' => e = .returned (.agg (List.toArray (encLibRow r))) ∧ Lo w w' := by
  refine calls_W 20 Tryd.func17 rfl rfl rfl ?_
  refine W.seq ?_
  refine W.regS (SR.box (v := .agg (List.toArray _)) (l := [.int .i64 r.Month, .int .i64 r.Lent, .int .i64 r.Copied, .int .i64 r.Given, .int .i64 r.Fines]) rfl rfl ?_)
  intro g1 w2 hg3 hk4 hs5 hb6
  have hz7 := hk4.size
  have hB8 := (Lo.refl w).lo hk4
  refine SR.alloc (l := [.int .i64 0, .int .i64 0, .int .i64 0, .int .i64 0, .int .i64 0]) tz32 rfl ?_
  intro g9 w10 hg11 hk12 hs13 hb14
  have hz15 := hk12.size
  have hB16 := hB8.lo hk12
  refine SR.nil ?_
  refine W.seq ?_
  refine W.regS (SR.alloc (l := [.int .i64 0, .int .i64 0, .int .i64 0, .int .i64 0, .int .i64 0]) tz32 rfl ?_)
  intro g17 w18 hg19 hk20 hs21 hb22
  have hz23 := hk20.size
  have hB24 := hB16.lo hk20
  refine SR.nil ?_
  refine W.seq ?_
  refine W.regS (SR.q' (r_fa fa30_0 rfl) <| SR.q' (r_ld (v := .int .i64 r.Month) sca3 rfl ((((hb6).lo hk12).lo hk20).cell rfl)) <| SR.q' (r_fa fa32_0 rfl) <| SR.store (o := 0) (vs := [.int .i64 r.Month]) sca3.2 rfl rfl rfl rfl (hb22) (Nat.le_of_ble_eq_true rfl) rfl ?_)
  intro w25 hk26 hs27 hb28
  have hz29 := hk26.size
  have hB30 := hB24.new hk26 (by omega)
  refine SR.nil ?_
  refine W.seq ?_
  refine W.regS (SR.q' (r_fa fa30_1 rfl) <| SR.q' (r_ld (v := .int .i64 r.Lent) sca3 rfl (((((hb6).lo hk12).lo hk20).kp hk26 (fun e' => by have e'' : g1 = g17 := e'; omega)).cell rfl)) <| SR.q' (r_fa fa32_1 rfl) <| SR.store (o := 1) (vs := [.int .i64 r.Lent]) sca3.2 rfl rfl rfl rfl (hb28) (Nat.le_of_ble_eq_true rfl) rfl ?_)
  intro w31 hk32 hs33 hb34
  have hz35 := hk32.size
  have hB36 := hB30.new hk32 (by omega)
  refine SR.nil ?_
  refine W.seq ?_
  refine W.regS (SR.q' (r_fa fa30_2 rfl) <| SR.q' (r_ld (v := .int .i64 r.Copied) sca3 rfl ((((((hb6).lo hk12).lo hk20).kp hk26 (fun e' => by have e'' : g1 = g17 := e'; omega)).kp hk32 (fun e' => by have e'' : g1 = g17 := e'; omega)).cell rfl)) <| SR.q' (r_fa fa32_2 rfl) <| SR.store (o := 2) (vs := [.int .i64 r.Copied]) sca3.2 rfl rfl rfl rfl (hb34) (Nat.le_of_ble_eq_true rfl) rfl ?_)
  intro w37 hk38 hs39 hb40
  have hz41 := hk38.size
  have hB42 := hB36.new hk38 (by omega)
  refine SR.nil ?_
  refine W.seq ?_
  refine W.regS (SR.q' (r_fa fa30_3 rfl) <| SR.q' (r_ld (v := .int .i64 r.Given) sca3 rfl (((((((hb6).lo hk12).lo hk20).kp hk26 (fun e' => by have e'' : g1 = g17 := e'; omega)).kp hk32 (fun e' => by have e'' : g1 = g17 := e'; omega)).kp hk38 (fun e' => by have e'' : g1 = g17 := e'; omega)).cell rfl)) <| SR.q' (r_fa fa32_3 rfl) <| SR.store (o := 3) (vs := [.int .i64 r.Given]) sca3.2 rfl rfl rfl rfl (hb40) (Nat.le_of_ble_eq_true rfl) rfl ?_)
  intro w43 hk44 hs45 hb46
  have hz47 := hk44.size
  have hB48 := hB42.new hk44 (by omega)
  refine SR.nil ?_
  refine W.seq ?_
  refine W.regS (SR.q' (r_fa fa30_4 rfl) <| SR.q' (r_ld (v := .int .i64 r.Fines) sca3 rfl ((((((((hb6).lo hk12).lo hk20).kp hk26 (fun e' => by have e'' : g1 = g17 := e'; omega)).kp hk32 (fun e' => by have e'' : g1 = g17 := e'; omega)).kp hk38 (fun e' => by have e'' : g1 = g17 := e'; omega)).kp hk44 (fun e' => by have e'' : g1 = g17 := e'; omega)).cell rfl)) <| SR.q' (r_fa fa32_4 rfl) <| SR.store (o := 4) (vs := [.int .i64 r.Fines]) sca3.2 rfl rfl rfl rfl (hb46) (Nat.le_of_ble_eq_true rfl) rfl ?_)
  intro w49 hk50 hs51 hb52
  have hz53 := hk50.size
  have hB54 := hB48.new hk50 (by omega)
  refine SR.nil ?_
  refine W.seq ?_
  refine W.regS (SR.q' (r_lda (l := [.int .i64 r.Month, .int .i64 r.Lent, .int .i64 r.Copied, .int .i64 r.Given, .int .i64 r.Fines]) agg32 rfl (fun _ _ hu => (hb52).cell hu) rfl) <| SR.store (o := 0) (vs := [.int .i64 r.Month, .int .i64 r.Lent, .int .i64 r.Copied, .int .i64 r.Given, .int .i64 r.Fines]) agg32.2 rfl rfl rfl rfl (((((((hb14).lo hk20).kp hk26 (fun e' => by have e'' : g9 = g17 := e'; omega)).kp hk32 (fun e' => by have e'' : g9 = g17 := e'; omega)).kp hk38 (fun e' => by have e'' : g9 = g17 := e'; omega)).kp hk44 (fun e' => by have e'' : g9 = g17 := e'; omega)).kp hk50 (fun e' => by have e'' : g9 = g17 := e'; omega)) (Nat.le_of_ble_eq_true rfl) rfl ?_)
  intro w55 hk56 hs57 hb58
  have hz59 := hk56.size
  have hB60 := hB54.new hk56 (by omega)
  refine SR.nil ?_
  refine W.ret ?_
  refine retC rfl rfl agg32 (hb58) rfl ?_
  exact ⟨eR (eA (z_c_laws_toLibRow_61 r)), hB60⟩

theorem z_c_laws_szLibRowS_2 (L : List LibRow) (nL : Nat) (hbdL : (nL : Int) ≤ 9223372036854775807) (hleL : nL = L.length) (left : Int) (hp0 : 0 ≤ left) (hp1 : left ≤ 1048576) (h1 : (left - (nL : Int)) < 0) : (-1) = szN L.length left := by
  unfold szN; split <;> omega
theorem z_c_laws_szLibRowS_3 (L : List LibRow) (nL : Nat) (hbdL : (nL : Int) ≤ 9223372036854775807) (hleL : nL = L.length) (left : Int) (hp0 : 0 ≤ left) (hp1 : left ≤ 1048576) (h1 : ¬ ((left - (nL : Int)) < 0)) : left - (nL : Int) = szN L.length left := by
  unfold szN; split <;> omega
theorem c_laws_szLibRowS (w : World) {AL : Option Addr} {nL cL BL : Nat}  (L : List LibRow) (hL : SlR w BL encLibRow 5 AL nL cL L) (left : Int) (hp0 : 0 ≤ left) (hp1 : left ≤ 1048576) : Calls Tryd.prog 19 #[.slice AL nL cL, .int .i64 left] w fun e w' => e = .returned (.int .i64 (szN L.length left)) ∧ Lo w w' := by
  refine calls_W 12 Tryd.func19 rfl rfl rfl ?_
  have hbdL := hL.bound
  have hleL := hL.len
  have hBbL := hL.bd
  refine W.seq ?_
  refine W.regS (SR.q' (r_as (v := .int .i64 0) rfl) <| SR.nil ?_)
  refine W.seq ?_
  refine W.regS (SR.q' (r_mv (v := .int .i64 _) rfl) <| SR.q' (r_mv (v := .slice _ _ _) rfl) <| SR.q' (r_len und35 rfl) <| SR.q' (r_sub rfl rfl (by omega)) <| SR.q' (r_as (v := .int .i64 _) rfl) <| SR.nil ?_)
  refine W.seq ?_
  refine W.seq ?_
  refine W.regS (SR.q' (r_mv (v := .int .i64 _) rfl) <| SR.q' (r_lt rfl rfl) <| SR.nil ?_)
  refine W.cond_d rfl (fun h1 => ?_) (fun h1 => ?_)
  · refine W.seq ?_
    refine W.regS (SR.q' (r_as (v := .int .i64 (-1)) rfl) <| SR.nil ?_)
    refine W.ret ?_
    refine ret1 rfl (v := .int .i64 _) rfl ?_
    exact ⟨eR (eI (z_c_laws_szLibRowS_2 L nL hbdL hleL left hp0 hp1 h1)), (Lo.refl w)⟩
  · refine W.skip ?_
    refine W.seq ?_
    refine W.regS (SR.q' (r_mv (v := .int .i64 _) rfl) <| SR.q' (r_as (v := .int .i64 _) rfl) <| SR.nil ?_)
    refine W.ret ?_
    refine ret1 rfl (v := .int .i64 _) rfl ?_
    exact ⟨eR (eI (z_c_laws_szLibRowS_3 L nL hbdL hleL left hp0 hp1 h1)), (Lo.refl w)⟩

theorem z_c_laws_toLibRowS_8 (L : List LibRow) (nL : Nat) (hbdL : (nL : Int) ≤ 9223372036854775807) (hleL : nL = L.length) (hp0 : (nL : Int) ≤ 1048576) : 0 ≤ nL := by
  omega
theorem z_c_laws_toLibRowS_9 (L : List LibRow) (nL : Nat) (hbdL : (nL : Int) ≤ 9223372036854775807) (hleL : nL = L.length) (hp0 : (nL : Int) ≤ 1048576) : List.replicate nL (⟨0, 0, 0, 0, 0⟩ : LibRow) = L.take 0 ++ List.replicate (nL - 0) (⟨0, 0, 0, 0, 0⟩ : LibRow) := by
  exact tk_init
theorem z_c_laws_toLibRowS_33 (L : List LibRow) (nL : Nat) (hbdL : (nL : Int) ≤ 9223372036854775807) (hleL : nL = L.length) (hp0 : (nL : Int) ≤ 1048576) (k : Nat) (hi16 : k ≤ nL) (h17 : (k : Int) < (nL : Int)) (x18 : LibRow) (hx19 : L[k]? = some x18) (x24 : LibRow) (hx25 : (L.take k ++ List.replicate (nL - k) (⟨0, 0, 0, 0, 0⟩ : LibRow))[k]? = some x24) : (L.take k ++ List.replicate (nL - k) (⟨0, 0, 0, 0, 0⟩ : LibRow)).set ((k : Int).toNat) x18 = L.take (k + 1) ++ List.replicate (nL - (k + 1)) (⟨0, 0, 0, 0, 0⟩ : LibRow) := by
  exact tk_set (by assumption) hleL
theorem z_c_laws_toLibRowS_34 (L : List LibRow) (nL : Nat) (hbdL : (nL : Int) ≤ 9223372036854775807) (hleL : nL = L.length) (hp0 : (nL : Int) ≤ 1048576) (k : Nat) (hi16 : k ≤ nL) (h17 : (k : Int) < (nL : Int)) (x18 : LibRow) (hx19 : L[k]? = some x18) (x24 : LibRow) (hx25 : (L.take k ++ List.replicate (nL - k) (⟨0, 0, 0, 0, 0⟩ : LibRow))[k]? = some x24) : k + 1 ≤ nL := by
  omega
theorem z_c_laws_toLibRowS_35 (L : List LibRow) (nL : Nat) (hbdL : (nL : Int) ≤ 9223372036854775807) (hleL : nL = L.length) (hp0 : (nL : Int) ≤ 1048576) (k : Nat) (hi16 : k ≤ nL) (h17 : (k : Int) < (nL : Int)) (x18 : LibRow) (hx19 : L[k]? = some x18) (x24 : LibRow) (hx25 : (L.take k ++ List.replicate (nL - k) (⟨0, 0, 0, 0, 0⟩ : LibRow))[k]? = some x24) : nL - (k + 1) < nL - k := by
  omega
theorem z_c_laws_toLibRowS_36 (L : List LibRow) (nL : Nat) (hbdL : (nL : Int) ≤ 9223372036854775807) (hleL : nL = L.length) (hp0 : (nL : Int) ≤ 1048576) (k : Nat) (hi16 : k ≤ nL) (h17 : ¬ ((k : Int) < (nL : Int))) : L.take k ++ List.replicate (nL - k) (⟨0, 0, 0, 0, 0⟩ : LibRow) = L := by
  exact tk_end hleL (by assumption) (by omega)
theorem c_laws_toLibRowS (w : World) {AL : Option Addr} {nL cL BL : Nat}  (L : List LibRow) (hL : SlR w BL encLibRow 5 AL nL cL L) (hp0 : (nL : Int) ≤ 1048576) : Calls Tryd.prog 21 #[.slice AL nL cL] w fun e w' => ∃ (A1' : Option Addr) (n1' c1' : Nat), e = .returned (.slice A1' n1' c1') ∧ SlO w' w.heap.size encLibRow 5 32 A1' n1' c1' L ∧ Lo w w' := by
  refine calls_W 23 Tryd.func21 rfl rfl rfl ?_
  have hbdL := hL.bound
  have hleL := hL.len
  have hBbL := hL.bd
  refine W.seq ?_
  refine W.regS (SR.q' (r_as (v := .slice none 0 0) rfl) <| SR.nil ?_)
  refine W.seq ?_
  refine W.regS (SR.q' (r_mv (v := .slice _ _ _) rfl) <| SR.q' (r_len und35 rfl) <| SR.make (m := nL) (zx := (⟨0, 0, 0, 0, 0⟩ : LibRow)) (enc := encLibRow) tel38 rfl (fun _ => rfl) rfl rfl (by omega) (by omega) ?_)
  intro g1 w2 hg3 hk4 hO5
  have hz6 := hk4.size
  have hB7 := (Lo.refl w).lo hk4
  refine SR.q' (r_as (v := .slice _ _ _) rfl) <| SR.nil ?_
  refine W.seq ?_
  refine W.seq ?_
  refine W.regS (SR.q' (r_as (v := .int .i64 0) rfl) <| SR.nil ?_)
  refine W.block ?_
  refine W.loop (σ := Nat) (fun g => [(0, .slice AL nL cL), (2, .slice none 0 0), (3, .slice (some (⟨g1, 0, none⟩ : Addr)) nL nL), (4, .int .i64 (g : Int))]) (fun g w' => (Lo w w') ∧ (SlR w' BL encLibRow 5 AL nL cL L) ∧ (SlO w' w.heap.size encLibRow 5 32 (some (⟨g1, 0, none⟩ : Addr)) nL nL (L.take g ++ List.replicate (nL - g) (⟨0, 0, 0, 0, 0⟩ : LibRow))) ∧ (g ≤ nL)) (fun g => nL - g) 0 ?_ ?_ ?_
  · exact ⟨rfl, rfl, rfl, rfl, trivial⟩
  · exact ⟨hB7, (hL).lo hk4, (SlO.eqv (hO5) (z_c_laws_toLibRowS_9 L nL hbdL hleL hp0)), (z_c_laws_toLibRowS_8 L nL hbdL hleL hp0)⟩
  · rintro k f10 w11 hP13
    obtain ⟨hB12, hm14, hm15, hi16⟩ : (Lo w w11) ∧ (SlR w11 BL encLibRow 5 AL nL cL L) ∧ (SlO w11 w.heap.size encLibRow 5 32 (some (⟨g1, 0, none⟩ : Addr)) nL nL (L.take k ++ List.replicate (nL - k) (⟨0, 0, 0, 0, 0⟩ : LibRow))) ∧ (k ≤ nL) := hP13
    refine (?_ : W _ _ _ _ _ (act _ (sets f10 [(0, .slice AL nL cL), (2, .slice none 0 0), (3, .slice (some (⟨g1, 0, none⟩ : Addr)) nL nL), (4, .int .i64 (k : Int))])) _)
    have hzw11 := hB12.size
    refine W.seq ?_
    refine W.seq ?_
    refine W.regS (SR.q' (r_mv (v := .int .i64 _) rfl) <| SR.q' (r_mv (v := .slice _ _ _) rfl) <| SR.q' (r_len und35 rfl) <| SR.q' (r_lt rfl rfl) <| SR.nil ?_)
    refine W.cond_d rfl (fun h17 => ?_) (fun h17 => ?_)
    · refine W.skip ?_
      refine W.seq ?_
      refine W.block ?_
      refine W.regS (SR.q' (r_mv (v := .slice _ _ _) rfl) <| SR.q' (r_mv (v := .int .i64 _) rfl) <| SR.q' (r_mv (v := .slice _ _ _) rfl) <| SR.q' (r_mv (v := .int .i64 _) rfl) <| ?_)
      obtain ⟨x18, hx19⟩ := (hm14).get (i := k) (by omega)
      refine SR.q' (r_ixR tsl35 (hm14) rfl rfl (by omega)) <| SR.q' (r_lda (l := encLibRow x18) agg30 rfl (fun _ _ hu => (hm14).cell hx19 hu) ((hm14).esz _)) <| SR.call ent17 (c_laws_toLibRow w11 x18) rfl ?_
      rintro e w20 ⟨rfl, hk21⟩
      refine ⟨_, rfl, ?_⟩
      have hz22 := hk21.size
      have hB23 := hB12.lo hk21
      obtain ⟨x24, hx25⟩ := (((hm15).lo hk21).rd).get (i := k) (by omega)
      refine SR.q' (r_ixR tsl38 (((hm15).lo hk21).rd) rfl rfl (by omega)) <| SR.storeO (o := 0) (vs := [.int .i64 x18.Month, .int .i64 x18.Lent, .int .i64 x18.Copied, .int .i64 x18.Given, .int .i64 x18.Fines]) (x1 := x18) agg32.2 rfl rfl rfl rfl ((hm15).lo hk21) hx25 rfl (Nat.le_of_ble_eq_true rfl) rfl ?_
      intro w26 hk27 hs28 hO29
      have hz30 := hk27.size
      have hB31 := hB23.step hk27 (fun i_ hi_ e' => by have := (((hm15).lo hk21)).base_le e'; first | omega | (exfalso; omega) | exact e' | exact .inl e' | exact .inr e')
      have hx32 : ((L.take k ++ List.replicate (nL - k) (⟨0, 0, 0, 0, 0⟩ : LibRow)).set ((k : Int).toNat) x18)[(k : Int).toNat]? = some (x18) := List.getElem?_set_self (List.getElem?_eq_some_iff.1 hx25).1
      refine SR.nil ?_
      refine W.regS (SR.q' (r_mv (v := .int .i64 _) rfl) <| SR.q' (r_add rfl rfl (by omega)) <| SR.q' (r_as (v := .int .i64 _) rfl) <| SR.nil ?_)
      refine ⟨k + 1, _, rfl, ⟨rfl, rfl, rfl, rfl, trivial⟩, ⟨hB31, ((hm14).lo hk21).kp hk27 (fun b_ hb e' => by have := (((hm15).lo hk21)).base_le e'; omega), (SlO.eqv (hO29) (z_c_laws_toLibRowS_33 L nL hbdL hleL hp0 k hi16 h17 x18 hx19 x24 hx25)), ?_⟩, ?_⟩
      · exact (z_c_laws_toLibRowS_34 L nL hbdL hleL hp0 k hi16 h17 x18 hx19 x24 hx25)
      · exact (z_c_laws_toLibRowS_35 L nL hbdL hleL hp0 k hi16 h17 x18 hx19 x24 hx25)
    · refine W.exit (xin_here ?_)
      refine W.seq ?_
      refine W.regS (SR.q' (r_mv (v := .slice _ _ _) rfl) <| SR.q' (r_as (v := .slice _ _ _) rfl) <| SR.nil ?_)
      refine W.ret ?_
      refine ret1 rfl (v := .slice _ _ _) rfl ?_
      exact ⟨(some (⟨g1, 0, none⟩ : Addr)), nL, nL, eR rfl, (SlO.eqv ((hm15).down (by omega)) (z_c_laws_toLibRowS_36 L nL hbdL hleL hp0 k hi16 h17)), hB12⟩

theorem z_c_laws_eqLibRow_18 (a : LibRow) (b : LibRow) (h17 : ¬ (a.Month = b.Month)) : ¬ (a = b) := by
  cases a; cases b; simp_all
theorem z_c_laws_eqLibRow_20 (a : LibRow) (b : LibRow) (h17 : a.Month = b.Month) (h19 : ¬ (a.Lent = b.Lent)) : ¬ (a = b) := by
  cases a; cases b; simp_all
theorem z_c_laws_eqLibRow_22 (a : LibRow) (b : LibRow) (h17 : a.Month = b.Month) (h19 : a.Lent = b.Lent) (h21 : ¬ (a.Copied = b.Copied)) : ¬ (a = b) := by
  cases a; cases b; simp_all
theorem z_c_laws_eqLibRow_24 (a : LibRow) (b : LibRow) (h17 : a.Month = b.Month) (h19 : a.Lent = b.Lent) (h21 : a.Copied = b.Copied) (h23 : ¬ (a.Given = b.Given)) : ¬ (a = b) := by
  cases a; cases b; simp_all
theorem z_c_laws_eqLibRow_26 (a : LibRow) (b : LibRow) (h17 : a.Month = b.Month) (h19 : a.Lent = b.Lent) (h21 : a.Copied = b.Copied) (h23 : a.Given = b.Given) (h25 : ¬ (a.Fines = b.Fines)) : ¬ (a = b) := by
  cases a; cases b; simp_all
theorem z_c_laws_eqLibRow_27 (a : LibRow) (b : LibRow) (h17 : a.Month = b.Month) (h19 : a.Lent = b.Lent) (h21 : a.Copied = b.Copied) (h23 : a.Given = b.Given) (h25 : a.Fines = b.Fines) : a = b := by
  cases a; cases b; simp_all
theorem c_laws_eqLibRow (w : World) (a : LibRow) (b : LibRow) : Calls Tryd.prog 59 #[.agg (List.toArray (encLibRow a)), .agg (List.toArray (encLibRow b))] w fun e w' => e = .returned (.bool (decide (a = b))) ∧ Lo w w' := by
  refine calls_W 30 Tryd.func59 rfl rfl rfl ?_
  refine W.seq ?_
  refine W.regS (SR.box (v := .agg (List.toArray _)) (l := [.int .i64 a.Month, .int .i64 a.Lent, .int .i64 a.Copied, .int .i64 a.Given, .int .i64 a.Fines]) rfl rfl ?_)
  intro g1 w2 hg3 hk4 hs5 hb6
  have hz7 := hk4.size
  have hB8 := (Lo.refl w).lo hk4
  refine SR.box (v := .agg (List.toArray _)) (l := [.int .i64 b.Month, .int .i64 b.Lent, .int .i64 b.Copied, .int .i64 b.Given, .int .i64 b.Fines]) rfl rfl ?_
  intro g9 w10 hg11 hk12 hs13 hb14
  have hz15 := hk12.size
  have hB16 := hB8.lo hk12
  refine SR.q' (r_as (v := .bool false) rfl) <| SR.nil ?_
  refine W.seq ?_
  refine W.seq ?_
  refine W.regS (SR.q' (r_fa fa32_0 rfl) <| SR.q' (r_ld (v := .int .i64 a.Month) sca3 rfl (((hb6).lo hk12).cell rfl)) <| SR.q' (r_fa fa32_0 rfl) <| SR.q' (r_ld (v := .int .i64 b.Month) sca3 rfl ((hb14).cell rfl)) <| SR.q' (r_ne rfl rfl) <| SR.nil ?_)
  refine W.cond_n rfl (fun h17 => ?_) (fun h17 => ?_)
  · refine W.seq ?_
    refine W.regS (SR.q' (r_as (v := .bool false) rfl) <| SR.nil ?_)
    refine W.ret ?_
    refine ret1 rfl (v := .bool _) rfl ?_
    exact ⟨eR (eDF (z_c_laws_eqLibRow_18 a b h17)), hB16⟩
  · refine W.skip ?_
    refine W.seq ?_
    refine W.seq ?_
    refine W.regS (SR.q' (r_fa fa32_1 rfl) <| SR.q' (r_ld (v := .int .i64 a.Lent) sca3 rfl (((hb6).lo hk12).cell rfl)) <| SR.q' (r_fa fa32_1 rfl) <| SR.q' (r_ld (v := .int .i64 b.Lent) sca3 rfl ((hb14).cell rfl)) <| SR.q' (r_ne rfl rfl) <| SR.nil ?_)
    refine W.cond_n rfl (fun h19 => ?_) (fun h19 => ?_)
    · refine W.seq ?_
      refine W.regS (SR.q' (r_as (v := .bool false) rfl) <| SR.nil ?_)
      refine W.ret ?_
      refine ret1 rfl (v := .bool _) rfl ?_
      exact ⟨eR (eDF (z_c_laws_eqLibRow_20 a b h17 h19)), hB16⟩
    · refine W.skip ?_
      refine W.seq ?_
      refine W.seq ?_
      refine W.regS (SR.q' (r_fa fa32_2 rfl) <| SR.q' (r_ld (v := .int .i64 a.Copied) sca3 rfl (((hb6).lo hk12).cell rfl)) <| SR.q' (r_fa fa32_2 rfl) <| SR.q' (r_ld (v := .int .i64 b.Copied) sca3 rfl ((hb14).cell rfl)) <| SR.q' (r_ne rfl rfl) <| SR.nil ?_)
      refine W.cond_n rfl (fun h21 => ?_) (fun h21 => ?_)
      · refine W.seq ?_
        refine W.regS (SR.q' (r_as (v := .bool false) rfl) <| SR.nil ?_)
        refine W.ret ?_
        refine ret1 rfl (v := .bool _) rfl ?_
        exact ⟨eR (eDF (z_c_laws_eqLibRow_22 a b h17 h19 h21)), hB16⟩
      · refine W.skip ?_
        refine W.seq ?_
        refine W.seq ?_
        refine W.regS (SR.q' (r_fa fa32_3 rfl) <| SR.q' (r_ld (v := .int .i64 a.Given) sca3 rfl (((hb6).lo hk12).cell rfl)) <| SR.q' (r_fa fa32_3 rfl) <| SR.q' (r_ld (v := .int .i64 b.Given) sca3 rfl ((hb14).cell rfl)) <| SR.q' (r_ne rfl rfl) <| SR.nil ?_)
        refine W.cond_n rfl (fun h23 => ?_) (fun h23 => ?_)
        · refine W.seq ?_
          refine W.regS (SR.q' (r_as (v := .bool false) rfl) <| SR.nil ?_)
          refine W.ret ?_
          refine ret1 rfl (v := .bool _) rfl ?_
          exact ⟨eR (eDF (z_c_laws_eqLibRow_24 a b h17 h19 h21 h23)), hB16⟩
        · refine W.skip ?_
          refine W.seq ?_
          refine W.seq ?_
          refine W.regS (SR.q' (r_fa fa32_4 rfl) <| SR.q' (r_ld (v := .int .i64 a.Fines) sca3 rfl (((hb6).lo hk12).cell rfl)) <| SR.q' (r_fa fa32_4 rfl) <| SR.q' (r_ld (v := .int .i64 b.Fines) sca3 rfl ((hb14).cell rfl)) <| SR.q' (r_ne rfl rfl) <| SR.nil ?_)
          refine W.cond_n rfl (fun h25 => ?_) (fun h25 => ?_)
          · refine W.seq ?_
            refine W.regS (SR.q' (r_as (v := .bool false) rfl) <| SR.nil ?_)
            refine W.ret ?_
            refine ret1 rfl (v := .bool _) rfl ?_
            exact ⟨eR (eDF (z_c_laws_eqLibRow_26 a b h17 h19 h21 h23 h25)), hB16⟩
          · refine W.skip ?_
            refine W.seq ?_
            refine W.regS (SR.q' (r_as (v := .bool true) rfl) <| SR.nil ?_)
            refine W.ret ?_
            refine ret1 rfl (v := .bool _) rfl ?_
            exact ⟨eR (eDT (z_c_laws_eqLibRow_27 a b h17 h19 h21 h23 h25)), hB16⟩

theorem z_c_laws_eqLibRowS_2 (L : List LibRow) (nL : Nat) (hbdL : (nL : Int) ≤ 9223372036854775807) (hleL : nL = L.length) (M : List LibRow) (nM : Nat) (hbdM : (nM : Int) ≤ 9223372036854775807) (hleM : nM = M.length) (h1 : ¬ ((nL : Int) = (nM : Int))) : ¬ (L = M) := by
  first | (intro e; subst e; omega) | exact ne_at ‹L[_]? = some _› ‹M[_]? = some _› ‹_› | exact take_end (And.right ‹_ ∧ L.take _ = M.take _›) hleL hleM (by omega) ‹_›
theorem z_c_laws_eqLibRowS_3 (L : List LibRow) (nL : Nat) (hbdL : (nL : Int) ≤ 9223372036854775807) (hleL : nL = L.length) (M : List LibRow) (nM : Nat) (hbdM : (nM : Int) ≤ 9223372036854775807) (hleM : nM = M.length) (h1 : (nL : Int) = (nM : Int)) : 0 ≤ nL ∧ L.take 0 = M.take 0 := by
  simp
theorem z_c_laws_eqLibRowS_21 (L : List LibRow) (nL : Nat) (hbdL : (nL : Int) ≤ 9223372036854775807) (hleL : nL = L.length) (M : List LibRow) (nM : Nat) (hbdM : (nM : Int) ≤ 9223372036854775807) (hleM : nM = M.length) (h1 : (nL : Int) = (nM : Int)) (k : Nat) (hi10 : k ≤ nL ∧ L.take k = M.take k) (h11 : (k : Int) < (nL : Int)) (x12 : LibRow) (hx13 : L[k]? = some x12) (x14 : LibRow) (hx15 : M[k]? = some x14) (h20 : ¬ (x12 = x14)) : ¬ (L = M) := by
  first | (intro e; subst e; omega) | exact ne_at ‹L[_]? = some _› ‹M[_]? = some _› ‹_› | exact take_end (And.right ‹_ ∧ L.take _ = M.take _›) hleL hleM (by omega) ‹_›
theorem z_c_laws_eqLibRowS_22 (L : List LibRow) (nL : Nat) (hbdL : (nL : Int) ≤ 9223372036854775807) (hleL : nL = L.length) (M : List LibRow) (nM : Nat) (hbdM : (nM : Int) ≤ 9223372036854775807) (hleM : nM = M.length) (h1 : (nL : Int) = (nM : Int)) (k : Nat) (hi10 : k ≤ nL ∧ L.take k = M.take k) (h11 : (k : Int) < (nL : Int)) (x12 : LibRow) (hx13 : L[k]? = some x12) (x14 : LibRow) (hx15 : M[k]? = some x14) (h20 : x12 = x14) : k + 1 ≤ nL ∧ L.take (k + 1) = M.take (k + 1) := by
  exact ⟨by omega, take_next (And.right ‹_ ∧ L.take _ = M.take _›) ‹L[_]? = some _› ‹M[_]? = some _› ‹_›⟩
theorem z_c_laws_eqLibRowS_23 (L : List LibRow) (nL : Nat) (hbdL : (nL : Int) ≤ 9223372036854775807) (hleL : nL = L.length) (M : List LibRow) (nM : Nat) (hbdM : (nM : Int) ≤ 9223372036854775807) (hleM : nM = M.length) (h1 : (nL : Int) = (nM : Int)) (k : Nat) (hi10 : k ≤ nL ∧ L.take k = M.take k) (h11 : (k : Int) < (nL : Int)) (x12 : LibRow) (hx13 : L[k]? = some x12) (x14 : LibRow) (hx15 : M[k]? = some x14) (h20 : x12 = x14) : nL - (k + 1) < nL - k := by
  omega
theorem z_c_laws_eqLibRowS_24 (L : List LibRow) (nL : Nat) (hbdL : (nL : Int) ≤ 9223372036854775807) (hleL : nL = L.length) (M : List LibRow) (nM : Nat) (hbdM : (nM : Int) ≤ 9223372036854775807) (hleM : nM = M.length) (h1 : (nL : Int) = (nM : Int)) (k : Nat) (hi10 : k ≤ nL ∧ L.take k = M.take k) (h11 : ¬ ((k : Int) < (nL : Int))) : L = M := by
  first | (intro e; subst e; omega) | exact ne_at ‹L[_]? = some _› ‹M[_]? = some _› ‹_› | exact take_end (And.right ‹_ ∧ L.take _ = M.take _›) hleL hleM (by omega) ‹_›
theorem c_laws_eqLibRowS (w : World) {AL : Option Addr} {nL cL BL : Nat}  (L : List LibRow) (hL : SlR w BL encLibRow 5 AL nL cL L) {AM : Option Addr} {nM cM BM : Nat}  (M : List LibRow) (hM : SlR w BM encLibRow 5 AM nM cM M) : Calls Tryd.prog 23 #[.slice AL nL cL, .slice AM nM cM] w fun e w' => e = .returned (.bool (decide (L = M))) ∧ Lo w w' := by
  refine calls_W 27 Tryd.func23 rfl rfl rfl ?_
  have hbdL := hL.bound
  have hleL := hL.len
  have hBbL := hL.bd
  have hbdM := hM.bound
  have hleM := hM.len
  have hBbM := hM.bd
  refine W.seq ?_
  refine W.regS (SR.q' (r_as (v := .bool false) rfl) <| SR.nil ?_)
  refine W.seq ?_
  refine W.seq ?_
  refine W.regS (SR.q' (r_mv (v := .slice _ _ _) rfl) <| SR.q' (r_len und38 rfl) <| SR.q' (r_mv (v := .slice _ _ _) rfl) <| SR.q' (r_len und38 rfl) <| SR.q' (r_ne rfl rfl) <| SR.nil ?_)
  refine W.cond_n rfl (fun h1 => ?_) (fun h1 => ?_)
  · refine W.seq ?_
    refine W.regS (SR.q' (r_as (v := .bool false) rfl) <| SR.nil ?_)
    refine W.ret ?_
    refine ret1 rfl (v := .bool _) rfl ?_
    exact ⟨eR (eDF (z_c_laws_eqLibRowS_2 L nL hbdL hleL M nM hbdM hleM h1)), (Lo.refl w)⟩
  · refine W.skip ?_
    refine W.seq ?_
    refine W.seq ?_
    refine W.regS (SR.q' (r_as (v := .int .i64 0) rfl) <| SR.nil ?_)
    refine W.block ?_
    refine W.loop (σ := Nat) (fun g => [(0, .slice AL nL cL), (1, .slice AM nM cM), (5, .int .i64 (g : Int))]) (fun g w' => (Lo w w') ∧ (SlR w' BL encLibRow 5 AL nL cL L) ∧ (SlR w' BM encLibRow 5 AM nM cM M) ∧ (g ≤ nL ∧ L.take g = M.take g)) (fun g => nL - g) 0 ?_ ?_ ?_
    · exact ⟨rfl, rfl, rfl, trivial⟩
    · exact ⟨(Lo.refl w), hL, hM, (z_c_laws_eqLibRowS_3 L nL hbdL hleL M nM hbdM hleM h1)⟩
    · rintro k f4 w5 hP7
      obtain ⟨hB6, hm8, hm9, hi10⟩ : (Lo w w5) ∧ (SlR w5 BL encLibRow 5 AL nL cL L) ∧ (SlR w5 BM encLibRow 5 AM nM cM M) ∧ (k ≤ nL ∧ L.take k = M.take k) := hP7
      refine (?_ : W _ _ _ _ _ (act _ (sets f4 [(0, .slice AL nL cL), (1, .slice AM nM cM), (5, .int .i64 (k : Int))])) _)
      have hzw5 := hB6.size
      refine W.seq ?_
      refine W.seq ?_
      refine W.regS (SR.q' (r_mv (v := .int .i64 _) rfl) <| SR.q' (r_mv (v := .slice _ _ _) rfl) <| SR.q' (r_len und38 rfl) <| SR.q' (r_lt rfl rfl) <| SR.nil ?_)
      refine W.cond_d rfl (fun h11 => ?_) (fun h11 => ?_)
      · refine W.skip ?_
        refine W.seq ?_
        refine W.block ?_
        refine W.seq ?_
        refine W.regD mo (by kernel_rfl) (QR.q' (fun w' hw' => r_mv (v := .slice _ _ _) rfl) <| QR.q' (fun w' hw' => r_mv (v := .int .i64 _) rfl) <| ?_)
        obtain ⟨x12, hx13⟩ := (hm8).get (i := k) (by omega)
        refine QR.q' (fun w' hw' => r_ixR tsl38 (((hm8).lo hw')) rfl rfl (by omega)) <| QR.q' (fun w' hw' => r_lda (l := encLibRow x12) agg32 rfl (fun _ _ hu => (((hm8).lo hw')).cell hx13 hu) ((((hm8).lo hw')).esz _)) <| QR.q' (fun w' hw' => r_mv (v := .slice _ _ _) rfl) <| QR.q' (fun w' hw' => r_mv (v := .int .i64 _) rfl) <| ?_
        obtain ⟨x14, hx15⟩ := (hm9).get (i := k) (by omega)
        refine QR.q' (fun w' hw' => r_ixR tsl38 (((hm9).lo hw')) rfl rfl (by omega)) <| QR.q' (fun w' hw' => r_lda (l := encLibRow x14) agg32 rfl (fun _ _ hu => (((hm9).lo hw')).cell hx15 hu) ((((hm9).lo hw')).esz _)) <| QR.call ent59 (fun w' hw' => (c_laws_eqLibRow w' x12 x14).mono fun _ _ h => ⟨h.1, hw'.trans h.2⟩) rfl <| QR.q' (fun w' hw' => r_not rfl) <| QR.nil ?_
        intro w16 hk17
        have hz18 := hk17.size
        have hB19 := hB6.lo hk17
        refine W.cond_n rfl (fun h20 => ?_) (fun h20 => ?_)
        · refine W.seq ?_
          refine W.regS (SR.q' (r_as (v := .bool false) rfl) <| SR.nil ?_)
          refine W.ret ?_
          refine ret1 rfl (v := .bool _) rfl ?_
          exact ⟨eR (eDF (z_c_laws_eqLibRowS_21 L nL hbdL hleL M nM hbdM hleM h1 k hi10 h11 x12 hx13 x14 hx15 h20)), hB19⟩
        · refine W.skip ?_
          refine W.regS (SR.q' (r_mv (v := .int .i64 _) rfl) <| SR.q' (r_add rfl rfl (by omega)) <| SR.q' (r_as (v := .int .i64 _) rfl) <| SR.nil ?_)
          refine ⟨k + 1, _, rfl, ⟨rfl, rfl, rfl, trivial⟩, ⟨hB19, (hm8).lo hk17, (hm9).lo hk17, ?_⟩, ?_⟩
          · exact (z_c_laws_eqLibRowS_22 L nL hbdL hleL M nM hbdM hleM h1 k hi10 h11 x12 hx13 x14 hx15 h20)
          · exact (z_c_laws_eqLibRowS_23 L nL hbdL hleL M nM hbdM hleM h1 k hi10 h11 x12 hx13 x14 hx15 h20)
      · refine W.exit (xin_here ?_)
        refine W.seq ?_
        refine W.regS (SR.q' (r_as (v := .bool true) rfl) <| SR.nil ?_)
        refine W.ret ?_
        refine ret1 rfl (v := .bool _) rfl ?_
        exact ⟨eR (eDT (z_c_laws_eqLibRowS_24 L nL hbdL hleL M nM hbdM hleM h1 k hi10 h11)), hB6⟩

theorem z_c_spec_LibTotals_13 (L : List LibRow) (nL : Nat) (hbdL : (nL : Int) ≤ 9223372036854775807) (hleL : nL = L.length) (h5 : ¬ (RowsOK L)) : ([] : List Int) = totL L := by
  simp_all [totL]
theorem z_c_spec_LibTotals_14 (L : List LibRow) (nL : Nat) (hbdL : (nL : Int) ≤ 9223372036854775807) (hleL : nL = L.length) (h5 : ¬ (RowsOK L)) : ¬ (RowsOK L) := by
  assumption
theorem z_c_spec_LibTotals_17 (L : List LibRow) (nL : Nat) (hbdL : (nL : Int) ≤ 9223372036854775807) (hleL : nL = L.length) (h5 : RowsOK L) (hq15 : L.length ≤ 12) (hq16 : (totL L).length = 4) : 0 ≤ nL ∧ totN (L.take 0) = [(0 : Int), (0 : Int), (0 : Int), (0 : Int)] ∧ (0 ≤ (0 : Int) ∧ (0 : Int) ≤ 99999 * (0 : Int)) ∧ (0 ≤ (0 : Int) ∧ (0 : Int) ≤ 99999 * (0 : Int)) ∧ (0 ≤ (0 : Int) ∧ (0 : Int) ≤ 99999 * (0 : Int)) ∧ (0 ≤ (0 : Int) ∧ (0 : Int) ≤ 99999 * (0 : Int)) := by
  simp [totN]
theorem z_c_spec_LibTotals_28 (L : List LibRow) (nL : Nat) (hbdL : (nL : Int) ≤ 9223372036854775807) (hleL : nL = L.length) (h5 : RowsOK L) (hq15 : L.length ≤ 12) (hq16 : (totL L).length = 4) (k : Nat) (a : Int) (b : Int) (c : Int) (d : Int) (hi23 : k ≤ nL ∧ totN (L.take k) = [a, b, c, d] ∧ (0 ≤ a ∧ a ≤ 99999 * (k : Int)) ∧ (0 ≤ b ∧ b ≤ 99999 * (k : Int)) ∧ (0 ≤ c ∧ c ≤ 99999 * (k : Int)) ∧ (0 ≤ d ∧ d ≤ 99999 * (k : Int))) (h24 : (k : Int) < (nL : Int)) (x25 : LibRow) (hx26 : L[k]? = some x25) (hq27 : ((1 : Int) ≤ x25.Month ∧ x25.Month ≤ 1200) ∧ ((0 : Int) ≤ x25.Lent ∧ x25.Lent ≤ 9999) ∧ ((0 : Int) ≤ x25.Copied ∧ x25.Copied ≤ 9999) ∧ ((0 : Int) ≤ x25.Given ∧ x25.Given ≤ 999) ∧ ((0 : Int) ≤ x25.Fines ∧ x25.Fines ≤ 99999)) : k + 1 ≤ nL ∧ totN (L.take (k + 1)) = [a + x25.Lent, b + x25.Copied, c + x25.Given, d + x25.Fines] ∧ (0 ≤ a + x25.Lent ∧ a + x25.Lent ≤ 99999 * (k + 1 : Int)) ∧ (0 ≤ b + x25.Copied ∧ b + x25.Copied ≤ 99999 * (k + 1 : Int)) ∧ (0 ≤ c + x25.Given ∧ c + x25.Given ≤ 99999 * (k + 1 : Int)) ∧ (0 ≤ d + x25.Fines ∧ d + x25.Fines ≤ 99999 * (k + 1 : Int)) := by
  obtain ⟨h1, h2, h3⟩ := ‹_ ∧ totN _ = _ ∧ _›; exact ⟨by omega, tot_next h2 ‹L[_]? = some _›, by omega, by omega, by omega, by omega⟩
theorem z_c_spec_LibTotals_29 (L : List LibRow) (nL : Nat) (hbdL : (nL : Int) ≤ 9223372036854775807) (hleL : nL = L.length) (h5 : RowsOK L) (hq15 : L.length ≤ 12) (hq16 : (totL L).length = 4) (k : Nat) (a : Int) (b : Int) (c : Int) (d : Int) (hi23 : k ≤ nL ∧ totN (L.take k) = [a, b, c, d] ∧ (0 ≤ a ∧ a ≤ 99999 * (k : Int)) ∧ (0 ≤ b ∧ b ≤ 99999 * (k : Int)) ∧ (0 ≤ c ∧ c ≤ 99999 * (k : Int)) ∧ (0 ≤ d ∧ d ≤ 99999 * (k : Int))) (h24 : (k : Int) < (nL : Int)) (x25 : LibRow) (hx26 : L[k]? = some x25) (hq27 : ((1 : Int) ≤ x25.Month ∧ x25.Month ≤ 1200) ∧ ((0 : Int) ≤ x25.Lent ∧ x25.Lent ≤ 9999) ∧ ((0 : Int) ≤ x25.Copied ∧ x25.Copied ≤ 9999) ∧ ((0 : Int) ≤ x25.Given ∧ x25.Given ≤ 999) ∧ ((0 : Int) ≤ x25.Fines ∧ x25.Fines ≤ 99999)) : nL - (k + 1) < nL - k := by
  omega
theorem z_c_spec_LibTotals_37 (L : List LibRow) (nL : Nat) (hbdL : (nL : Int) ≤ 9223372036854775807) (hleL : nL = L.length) (h5 : RowsOK L) (hq15 : L.length ≤ 12) (hq16 : (totL L).length = 4) (k : Nat) (a : Int) (b : Int) (c : Int) (d : Int) (hi23 : k ≤ nL ∧ totN (L.take k) = [a, b, c, d] ∧ (0 ≤ a ∧ a ≤ 99999 * (k : Int)) ∧ (0 ≤ b ∧ b ≤ 99999 * (k : Int)) ∧ (0 ≤ c ∧ c ≤ 99999 * (k : Int)) ∧ (0 ≤ d ∧ d ≤ 99999 * (k : Int))) (h24 : ¬ ((k : Int) < (nL : Int))) : ([a, b, c, d] : List Int) = totL L := by
  obtain ⟨h1, h2, h3⟩ := ‹_ ∧ totN _ = _ ∧ _›; first | (rw [totL, if_pos ‹RowsOK L›, ← h2, take_all hleL ‹_›]; done) | (rw [← h2, take_all hleL ‹_›]; done)
theorem z_c_spec_LibTotals_38 (L : List LibRow) (nL : Nat) (hbdL : (nL : Int) ≤ 9223372036854775807) (hleL : nL = L.length) (h5 : RowsOK L) (hq15 : L.length ≤ 12) (hq16 : (totL L).length = 4) (k : Nat) (a : Int) (b : Int) (c : Int) (d : Int) (hi23 : k ≤ nL ∧ totN (L.take k) = [a, b, c, d] ∧ (0 ≤ a ∧ a ≤ 99999 * (k : Int)) ∧ (0 ≤ b ∧ b ≤ 99999 * (k : Int)) ∧ (0 ≤ c ∧ c ≤ 99999 * (k : Int)) ∧ (0 ≤ d ∧ d ≤ 99999 * (k : Int))) (h24 : ¬ ((k : Int) < (nL : Int))) : RowsOK L := by
  assumption
theorem c_spec_LibTotals (w : World) {AL : Option Addr} {nL cL BL : Nat}  (L : List LibRow) (hL : SlR w BL encLibRow 5 AL nL cL L) : Calls Tryd.prog 56 #[.slice AL nL cL] w fun e w' => ∃ (A1' : Option Addr) (n1' c1' : Nat), e = .returned (.tuple (List.toArray [.slice A1' n1' c1', .bool (decide (RowsOK L))])) ∧ SlO w' w.heap.size encI 1 3 A1' n1' c1' (totL L) ∧ Lo w w' := by
  refine calls_W 52 Tryd.func56 rfl rfl rfl ?_
  have hbdL := hL.bound
  have hleL := hL.len
  have hBbL := hL.bd
  refine W.seq ?_
  refine W.regS (SR.q' (r_as (v := .slice none 0 0) rfl) <| SR.q' (r_as (v := .bool false) rfl) <| SR.nil ?_)
  refine W.seq ?_
  refine W.seq ?_
  refine W.regS (SR.q' (r_mv (v := .slice _ _ _) rfl) <| SR.call ent79 (c_spec_l31Good w L ((hL))) rfl ?_)
  rintro e w1 ⟨rfl, hk2⟩
  refine ⟨_, rfl, ?_⟩
  have hz3 := hk2.size
  have hB4 := (Lo.refl w).lo hk2
  refine SR.q' (r_not rfl) <| SR.nil ?_
  refine W.cond_n rfl (fun h5 => ?_) (fun h5 => ?_)
  · refine W.seq ?_
    refine W.regS (SR.lit (vs := []) (L := ([] : List Int)) (enc := encI) tel76 (fun _ => rfl) rfl rfl rfl (by decide) ?_)
    intro g6 w7 hg8 hk9 hO10
    have hz11 := hk9.size
    have hB12 := hB4.lo hk9
    refine SR.q' (r_as (v := .slice _ _ _) rfl) <| SR.q' (r_as (v := .bool false) rfl) <| SR.nil ?_
    refine W.ret ?_
    refine ret2 rfl (v := .slice _ _ _) (v' := .bool _) rfl rfl ?_
    exact ⟨(some (⟨g6, 0, none⟩ : Addr)), 0, 0, eR (eT2 rfl (eDF (z_c_spec_LibTotals_14 L nL hbdL hleL h5))), (SlO.eqv ((hO10).down (by omega)) (z_c_spec_LibTotals_13 L nL hbdL hleL h5)), hB12⟩
  · have hq15 := rows_len h5
    have hq16 := totL_len4 _ h5
    refine W.skip ?_
    refine W.seq ?_
    refine W.regS (SR.q' (r_as (v := .int .i64 0) rfl) <| SR.q' (r_as (v := .int .i64 0) rfl) <| SR.q' (r_as (v := .int .i64 0) rfl) <| SR.q' (r_as (v := .int .i64 0) rfl) <| SR.nil ?_)
    refine W.seq ?_
    refine W.seq ?_
    refine W.regS (SR.q' (r_as (v := .int .i64 0) rfl) <| SR.nil ?_)
    refine W.block ?_
    refine W.loop (σ := Nat × Int × Int × Int × Int) (fun g => [(0, .slice AL nL cL), (2, .slice none 0 0), (3, .bool false), (4, .int .i64 g.2.1), (5, .int .i64 g.2.2.1), (6, .int .i64 g.2.2.2.1), (7, .int .i64 g.2.2.2.2), (8, .int .i64 (g.1 : Int))]) (fun g w' => (Lo w w') ∧ (SlR w' BL encLibRow 5 AL nL cL L) ∧ (g.1 ≤ nL ∧ totN (L.take g.1) = [g.2.1, g.2.2.1, g.2.2.2.1, g.2.2.2.2] ∧ (0 ≤ g.2.1 ∧ g.2.1 ≤ 99999 * (g.1 : Int)) ∧ (0 ≤ g.2.2.1 ∧ g.2.2.1 ≤ 99999 * (g.1 : Int)) ∧ (0 ≤ g.2.2.2.1 ∧ g.2.2.2.1 ≤ 99999 * (g.1 : Int)) ∧ (0 ≤ g.2.2.2.2 ∧ g.2.2.2.2 ≤ 99999 * (g.1 : Int)))) (fun g => nL - g.1) (0, (0 : Int), (0 : Int), (0 : Int), (0 : Int)) ?_ ?_ ?_
    · exact ⟨rfl, rfl, rfl, rfl, rfl, rfl, rfl, rfl, trivial⟩
    · exact ⟨hB4, (hL).lo hk2, (z_c_spec_LibTotals_17 L nL hbdL hleL h5 hq15 hq16)⟩
    · rintro ⟨k, a, b, c, d⟩ f18 w19 hP21
      obtain ⟨hB20, hm22, hi23⟩ : (Lo w w19) ∧ (SlR w19 BL encLibRow 5 AL nL cL L) ∧ (k ≤ nL ∧ totN (L.take k) = [a, b, c, d] ∧ (0 ≤ a ∧ a ≤ 99999 * (k : Int)) ∧ (0 ≤ b ∧ b ≤ 99999 * (k : Int)) ∧ (0 ≤ c ∧ c ≤ 99999 * (k : Int)) ∧ (0 ≤ d ∧ d ≤ 99999 * (k : Int))) := hP21
      refine (?_ : W _ _ _ _ _ (act _ (sets f18 [(0, .slice AL nL cL), (2, .slice none 0 0), (3, .bool false), (4, .int .i64 a), (5, .int .i64 b), (6, .int .i64 c), (7, .int .i64 d), (8, .int .i64 (k : Int))])) _)
      have hzw19 := hB20.size
      refine W.seq ?_
      refine W.seq ?_
      refine W.regS (SR.q' (r_mv (v := .int .i64 _) rfl) <| SR.q' (r_mv (v := .slice _ _ _) rfl) <| SR.q' (r_len und38 rfl) <| SR.q' (r_lt rfl rfl) <| SR.nil ?_)
      refine W.cond_d rfl (fun h24 => ?_) (fun h24 => ?_)
      · refine W.skip ?_
        refine W.seq ?_
        refine W.block ?_
        refine W.seq ?_
        refine W.regS (SR.q' (r_mv (v := .int .i64 _) rfl) <| SR.q' (r_mv (v := .slice _ _ _) rfl) <| SR.q' (r_mv (v := .int .i64 _) rfl) <| ?_)
        obtain ⟨x25, hx26⟩ := (hm22).get (i := k) (by omega)
        have hq27 := rows_rng h5 hx26
        refine SR.q' (r_ixR tsl38 (hm22) rfl rfl (by omega)) <| SR.q' (r_fa fa32_1 rfl) <| SR.q' (r_ld (v := .int .i64 x25.Lent) sca3 rfl ((hm22).cell hx26 rfl)) <| SR.q' (r_add rfl rfl (by omega)) <| SR.q' (r_as (v := .int .i64 _) rfl) <| SR.nil ?_
        refine W.seq ?_
        refine W.regS (SR.q' (r_mv (v := .int .i64 _) rfl) <| SR.q' (r_mv (v := .slice _ _ _) rfl) <| SR.q' (r_mv (v := .int .i64 _) rfl) <| SR.q' (r_ixR tsl38 (hm22) rfl rfl (by omega)) <| SR.q' (r_fa fa32_2 rfl) <| SR.q' (r_ld (v := .int .i64 x25.Copied) sca3 rfl ((hm22).cell hx26 rfl)) <| SR.q' (r_add rfl rfl (by omega)) <| SR.q' (r_as (v := .int .i64 _) rfl) <| SR.nil ?_)
        refine W.seq ?_
        refine W.regS (SR.q' (r_mv (v := .int .i64 _) rfl) <| SR.q' (r_mv (v := .slice _ _ _) rfl) <| SR.q' (r_mv (v := .int .i64 _) rfl) <| SR.q' (r_ixR tsl38 (hm22) rfl rfl (by omega)) <| SR.q' (r_fa fa32_3 rfl) <| SR.q' (r_ld (v := .int .i64 x25.Given) sca3 rfl ((hm22).cell hx26 rfl)) <| SR.q' (r_add rfl rfl (by omega)) <| SR.q' (r_as (v := .int .i64 _) rfl) <| SR.nil ?_)
        refine W.regS (SR.q' (r_mv (v := .int .i64 _) rfl) <| SR.q' (r_mv (v := .slice _ _ _) rfl) <| SR.q' (r_mv (v := .int .i64 _) rfl) <| SR.q' (r_ixR tsl38 (hm22) rfl rfl (by omega)) <| SR.q' (r_fa fa32_4 rfl) <| SR.q' (r_ld (v := .int .i64 x25.Fines) sca3 rfl ((hm22).cell hx26 rfl)) <| SR.q' (r_add rfl rfl (by omega)) <| SR.q' (r_as (v := .int .i64 _) rfl) <| SR.nil ?_)
        refine W.regS (SR.q' (r_mv (v := .int .i64 _) rfl) <| SR.q' (r_add rfl rfl (by omega)) <| SR.q' (r_as (v := .int .i64 _) rfl) <| SR.nil ?_)
        refine ⟨(k + 1, a + x25.Lent, b + x25.Copied, c + x25.Given, d + x25.Fines), _, rfl, ⟨rfl, rfl, rfl, rfl, rfl, rfl, rfl, rfl, trivial⟩, ⟨hB20, hm22, ?_⟩, ?_⟩
        · exact (z_c_spec_LibTotals_28 L nL hbdL hleL h5 hq15 hq16 k a b c d hi23 h24 x25 hx26 hq27)
        · exact (z_c_spec_LibTotals_29 L nL hbdL hleL h5 hq15 hq16 k a b c d hi23 h24 x25 hx26 hq27)
      · refine W.exit (xin_here ?_)
        refine W.seq ?_
        refine W.regS (SR.q' (r_mv (v := .int .i64 _) rfl) <| SR.q' (r_mv (v := .int .i64 _) rfl) <| SR.q' (r_mv (v := .int .i64 _) rfl) <| SR.q' (r_mv (v := .int .i64 _) rfl) <| SR.lit (vs := [.int .i64 a, .int .i64 b, .int .i64 c, .int .i64 d]) (L := ([a, b, c, d] : List Int)) (enc := encI) tel76 (fun _ => rfl) rfl rfl rfl (by decide) ?_)
        intro g30 w31 hg32 hk33 hO34
        have hz35 := hk33.size
        have hB36 := hB20.lo hk33
        refine SR.q' (r_as (v := .slice _ _ _) rfl) <| SR.q' (r_as (v := .bool true) rfl) <| SR.nil ?_
        refine W.ret ?_
        refine ret2 rfl (v := .slice _ _ _) (v' := .bool _) rfl rfl ?_
        exact ⟨(some (⟨g30, 0, none⟩ : Addr)), 4, 4, eR (eT2 rfl (eDT (z_c_spec_LibTotals_38 L nL hbdL hleL h5 hq15 hq16 k a b c d hi23 h24))), (SlO.eqv ((hO34).down (by omega)) (z_c_spec_LibTotals_37 L nL hbdL hleL h5 hq15 hq16 k a b c d hi23 h24)), hB36⟩

theorem z_c_impl_libTotals_8 (L : List LibRow) (nL : Nat) (hbdL : (nL : Int) ≤ 9223372036854775807) (hleL : nL = L.length) (hp0 : RowsOK L) : 0 ≤ nL ∧ totN (L.take 0) = [(0 : Int), (0 : Int), (0 : Int), (0 : Int)] ∧ (0 ≤ (0 : Int) ∧ (0 : Int) ≤ 99999 * (0 : Int)) ∧ (0 ≤ (0 : Int) ∧ (0 : Int) ≤ 99999 * (0 : Int)) ∧ (0 ≤ (0 : Int) ∧ (0 : Int) ≤ 99999 * (0 : Int)) ∧ (0 ≤ (0 : Int) ∧ (0 : Int) ≤ 99999 * (0 : Int)) := by
  simp [totN]
theorem z_c_impl_libTotals_9 (L : List LibRow) (nL : Nat) (hbdL : (nL : Int) ≤ 9223372036854775807) (hleL : nL = L.length) (hp0 : RowsOK L) : List.replicate 4 (0 : Int) = [(0 : Int), (0 : Int), (0 : Int), (0 : Int)] := by
  rfl
theorem z_c_impl_libTotals_44 (L : List LibRow) (nL : Nat) (hbdL : (nL : Int) ≤ 9223372036854775807) (hleL : nL = L.length) (hp0 : RowsOK L) (k : Nat) (a : Int) (b : Int) (c : Int) (d : Int) (hi16 : k ≤ nL ∧ totN (L.take k) = [a, b, c, d] ∧ (0 ≤ a ∧ a ≤ 99999 * (k : Int)) ∧ (0 ≤ b ∧ b ≤ 99999 * (k : Int)) ∧ (0 ≤ c ∧ c ≤ 99999 * (k : Int)) ∧ (0 ≤ d ∧ d ≤ 99999 * (k : Int))) (h17 : (k : Int) < (nL : Int)) (x18 : LibRow) (hx19 : L[k]? = some x18) (hq20 : ((1 : Int) ≤ x18.Month ∧ x18.Month ≤ 1200) ∧ ((0 : Int) ≤ x18.Lent ∧ x18.Lent ≤ 9999) ∧ ((0 : Int) ≤ x18.Copied ∧ x18.Copied ≤ 9999) ∧ ((0 : Int) ≤ x18.Given ∧ x18.Given ≤ 999) ∧ ((0 : Int) ≤ x18.Fines ∧ x18.Fines ≤ 99999)) : 0 ≤ 4 := by
  omega
theorem z_c_impl_libTotals_45 (L : List LibRow) (nL : Nat) (hbdL : (nL : Int) ≤ 9223372036854775807) (hleL : nL = L.length) (hp0 : RowsOK L) (k : Nat) (a : Int) (b : Int) (c : Int) (d : Int) (hi16 : k ≤ nL ∧ totN (L.take k) = [a, b, c, d] ∧ (0 ≤ a ∧ a ≤ 99999 * (k : Int)) ∧ (0 ≤ b ∧ b ≤ 99999 * (k : Int)) ∧ (0 ≤ c ∧ c ≤ 99999 * (k : Int)) ∧ (0 ≤ d ∧ d ≤ 99999 * (k : Int))) (h17 : (k : Int) < (nL : Int)) (x18 : LibRow) (hx19 : L[k]? = some x18) (hq20 : ((1 : Int) ≤ x18.Month ∧ x18.Month ≤ 1200) ∧ ((0 : Int) ≤ x18.Lent ∧ x18.Lent ≤ 9999) ∧ ((0 : Int) ≤ x18.Copied ∧ x18.Copied ≤ 9999) ∧ ((0 : Int) ≤ x18.Given ∧ x18.Given ≤ 999) ∧ ((0 : Int) ≤ x18.Fines ∧ x18.Fines ≤ 99999)) : [a, b, c, d] = addF [a, b, c, d] [x18.Lent, x18.Copied, x18.Given, x18.Fines] 0 := by
  rfl
theorem z_c_impl_libTotals_68 (L : List LibRow) (nL : Nat) (hbdL : (nL : Int) ≤ 9223372036854775807) (hleL : nL = L.length) (hp0 : RowsOK L) (k : Nat) (a : Int) (b : Int) (c : Int) (d : Int) (hi16 : k ≤ nL ∧ totN (L.take k) = [a, b, c, d] ∧ (0 ≤ a ∧ a ≤ 99999 * (k : Int)) ∧ (0 ≤ b ∧ b ≤ 99999 * (k : Int)) ∧ (0 ≤ c ∧ c ≤ 99999 * (k : Int)) ∧ (0 ≤ d ∧ d ≤ 99999 * (k : Int))) (h17 : (k : Int) < (nL : Int)) (x18 : LibRow) (hx19 : L[k]? = some x18) (hq20 : ((1 : Int) ≤ x18.Month ∧ x18.Month ≤ 1200) ∧ ((0 : Int) ≤ x18.Lent ∧ x18.Lent ≤ 9999) ∧ ((0 : Int) ≤ x18.Copied ∧ x18.Copied ≤ 9999) ∧ ((0 : Int) ≤ x18.Given ∧ x18.Given ≤ 999) ∧ ((0 : Int) ≤ x18.Fines ∧ x18.Fines ≤ 99999)) (j : Nat) (hi53 : j ≤ 4) (h54 : (j : Int) < (4 : Int)) (x55 : Int) (hx56 : ([x18.Lent, x18.Copied, x18.Given, x18.Fines] : List Int)[j]? = some x55) (hq57 : x55 = x18.Lent ∨ x55 = x18.Copied ∨ x55 = x18.Given ∨ x55 = x18.Fines) (x58 : Int) (hx59 : (addF [a, b, c, d] [x18.Lent, x18.Copied, x18.Given, x18.Fines] j)[j]? = some x58) (hq60 : x58 = a ∨ x58 = b ∨ x58 = c ∨ x58 = d) : (addF [a, b, c, d] [x18.Lent, x18.Copied, x18.Given, x18.Fines] j).set ((j : Int).toNat) (x58 + x55) = addF [a, b, c, d] [x18.Lent, x18.Copied, x18.Given, x18.Fines] (j + 1) := by
  exact addF_set (by omega) ‹(addF _ _ j)[j]? = some _› ‹_[j]? = some _›
theorem z_c_impl_libTotals_69 (L : List LibRow) (nL : Nat) (hbdL : (nL : Int) ≤ 9223372036854775807) (hleL : nL = L.length) (hp0 : RowsOK L) (k : Nat) (a : Int) (b : Int) (c : Int) (d : Int) (hi16 : k ≤ nL ∧ totN (L.take k) = [a, b, c, d] ∧ (0 ≤ a ∧ a ≤ 99999 * (k : Int)) ∧ (0 ≤ b ∧ b ≤ 99999 * (k : Int)) ∧ (0 ≤ c ∧ c ≤ 99999 * (k : Int)) ∧ (0 ≤ d ∧ d ≤ 99999 * (k : Int))) (h17 : (k : Int) < (nL : Int)) (x18 : LibRow) (hx19 : L[k]? = some x18) (hq20 : ((1 : Int) ≤ x18.Month ∧ x18.Month ≤ 1200) ∧ ((0 : Int) ≤ x18.Lent ∧ x18.Lent ≤ 9999) ∧ ((0 : Int) ≤ x18.Copied ∧ x18.Copied ≤ 9999) ∧ ((0 : Int) ≤ x18.Given ∧ x18.Given ≤ 999) ∧ ((0 : Int) ≤ x18.Fines ∧ x18.Fines ≤ 99999)) (j : Nat) (hi53 : j ≤ 4) (h54 : (j : Int) < (4 : Int)) (x55 : Int) (hx56 : ([x18.Lent, x18.Copied, x18.Given, x18.Fines] : List Int)[j]? = some x55) (hq57 : x55 = x18.Lent ∨ x55 = x18.Copied ∨ x55 = x18.Given ∨ x55 = x18.Fines) (x58 : Int) (hx59 : (addF [a, b, c, d] [x18.Lent, x18.Copied, x18.Given, x18.Fines] j)[j]? = some x58) (hq60 : x58 = a ∨ x58 = b ∨ x58 = c ∨ x58 = d) : j + 1 ≤ 4 := by
  omega
theorem z_c_impl_libTotals_70 (L : List LibRow) (nL : Nat) (hbdL : (nL : Int) ≤ 9223372036854775807) (hleL : nL = L.length) (hp0 : RowsOK L) (k : Nat) (a : Int) (b : Int) (c : Int) (d : Int) (hi16 : k ≤ nL ∧ totN (L.take k) = [a, b, c, d] ∧ (0 ≤ a ∧ a ≤ 99999 * (k : Int)) ∧ (0 ≤ b ∧ b ≤ 99999 * (k : Int)) ∧ (0 ≤ c ∧ c ≤ 99999 * (k : Int)) ∧ (0 ≤ d ∧ d ≤ 99999 * (k : Int))) (h17 : (k : Int) < (nL : Int)) (x18 : LibRow) (hx19 : L[k]? = some x18) (hq20 : ((1 : Int) ≤ x18.Month ∧ x18.Month ≤ 1200) ∧ ((0 : Int) ≤ x18.Lent ∧ x18.Lent ≤ 9999) ∧ ((0 : Int) ≤ x18.Copied ∧ x18.Copied ≤ 9999) ∧ ((0 : Int) ≤ x18.Given ∧ x18.Given ≤ 999) ∧ ((0 : Int) ≤ x18.Fines ∧ x18.Fines ≤ 99999)) (j : Nat) (hi53 : j ≤ 4) (h54 : (j : Int) < (4 : Int)) (x55 : Int) (hx56 : ([x18.Lent, x18.Copied, x18.Given, x18.Fines] : List Int)[j]? = some x55) (hq57 : x55 = x18.Lent ∨ x55 = x18.Copied ∨ x55 = x18.Given ∨ x55 = x18.Fines) (x58 : Int) (hx59 : (addF [a, b, c, d] [x18.Lent, x18.Copied, x18.Given, x18.Fines] j)[j]? = some x58) (hq60 : x58 = a ∨ x58 = b ∨ x58 = c ∨ x58 = d) : 4 - (j + 1) < 4 - j := by
  omega
theorem z_c_impl_libTotals_71 (L : List LibRow) (nL : Nat) (hbdL : (nL : Int) ≤ 9223372036854775807) (hleL : nL = L.length) (hp0 : RowsOK L) (k : Nat) (a : Int) (b : Int) (c : Int) (d : Int) (hi16 : k ≤ nL ∧ totN (L.take k) = [a, b, c, d] ∧ (0 ≤ a ∧ a ≤ 99999 * (k : Int)) ∧ (0 ≤ b ∧ b ≤ 99999 * (k : Int)) ∧ (0 ≤ c ∧ c ≤ 99999 * (k : Int)) ∧ (0 ≤ d ∧ d ≤ 99999 * (k : Int))) (h17 : (k : Int) < (nL : Int)) (x18 : LibRow) (hx19 : L[k]? = some x18) (hq20 : ((1 : Int) ≤ x18.Month ∧ x18.Month ≤ 1200) ∧ ((0 : Int) ≤ x18.Lent ∧ x18.Lent ≤ 9999) ∧ ((0 : Int) ≤ x18.Copied ∧ x18.Copied ≤ 9999) ∧ ((0 : Int) ≤ x18.Given ∧ x18.Given ≤ 999) ∧ ((0 : Int) ≤ x18.Fines ∧ x18.Fines ≤ 99999)) (j : Nat) (hi53 : j ≤ 4) (h54 : ¬ ((j : Int) < (4 : Int))) : addF [a, b, c, d] [x18.Lent, x18.Copied, x18.Given, x18.Fines] j = [a + x18.Lent, b + x18.Copied, c + x18.Given, d + x18.Fines] := by
  obtain rfl : j = 4 := by omega
  rfl
theorem z_c_impl_libTotals_72 (L : List LibRow) (nL : Nat) (hbdL : (nL : Int) ≤ 9223372036854775807) (hleL : nL = L.length) (hp0 : RowsOK L) (k : Nat) (a : Int) (b : Int) (c : Int) (d : Int) (hi16 : k ≤ nL ∧ totN (L.take k) = [a, b, c, d] ∧ (0 ≤ a ∧ a ≤ 99999 * (k : Int)) ∧ (0 ≤ b ∧ b ≤ 99999 * (k : Int)) ∧ (0 ≤ c ∧ c ≤ 99999 * (k : Int)) ∧ (0 ≤ d ∧ d ≤ 99999 * (k : Int))) (h17 : (k : Int) < (nL : Int)) (x18 : LibRow) (hx19 : L[k]? = some x18) (hq20 : ((1 : Int) ≤ x18.Month ∧ x18.Month ≤ 1200) ∧ ((0 : Int) ≤ x18.Lent ∧ x18.Lent ≤ 9999) ∧ ((0 : Int) ≤ x18.Copied ∧ x18.Copied ≤ 9999) ∧ ((0 : Int) ≤ x18.Given ∧ x18.Given ≤ 999) ∧ ((0 : Int) ≤ x18.Fines ∧ x18.Fines ≤ 99999)) (j : Nat) (hi53 : j ≤ 4) (h54 : ¬ ((j : Int) < (4 : Int))) : k + 1 ≤ nL ∧ totN (L.take (k + 1)) = [a + x18.Lent, b + x18.Copied, c + x18.Given, d + x18.Fines] ∧ (0 ≤ a + x18.Lent ∧ a + x18.Lent ≤ 99999 * (k + 1 : Int)) ∧ (0 ≤ b + x18.Copied ∧ b + x18.Copied ≤ 99999 * (k + 1 : Int)) ∧ (0 ≤ c + x18.Given ∧ c + x18.Given ≤ 99999 * (k + 1 : Int)) ∧ (0 ≤ d + x18.Fines ∧ d + x18.Fines ≤ 99999 * (k + 1 : Int)) := by
  obtain ⟨h1, h2, h3⟩ := ‹_ ∧ totN _ = _ ∧ _›; exact ⟨by omega, tot_next h2 ‹L[_]? = some _›, by omega, by omega, by omega, by omega⟩
theorem z_c_impl_libTotals_73 (L : List LibRow) (nL : Nat) (hbdL : (nL : Int) ≤ 9223372036854775807) (hleL : nL = L.length) (hp0 : RowsOK L) (k : Nat) (a : Int) (b : Int) (c : Int) (d : Int) (hi16 : k ≤ nL ∧ totN (L.take k) = [a, b, c, d] ∧ (0 ≤ a ∧ a ≤ 99999 * (k : Int)) ∧ (0 ≤ b ∧ b ≤ 99999 * (k : Int)) ∧ (0 ≤ c ∧ c ≤ 99999 * (k : Int)) ∧ (0 ≤ d ∧ d ≤ 99999 * (k : Int))) (h17 : (k : Int) < (nL : Int)) (x18 : LibRow) (hx19 : L[k]? = some x18) (hq20 : ((1 : Int) ≤ x18.Month ∧ x18.Month ≤ 1200) ∧ ((0 : Int) ≤ x18.Lent ∧ x18.Lent ≤ 9999) ∧ ((0 : Int) ≤ x18.Copied ∧ x18.Copied ≤ 9999) ∧ ((0 : Int) ≤ x18.Given ∧ x18.Given ≤ 999) ∧ ((0 : Int) ≤ x18.Fines ∧ x18.Fines ≤ 99999)) (j : Nat) (hi53 : j ≤ 4) (h54 : ¬ ((j : Int) < (4 : Int))) : nL - (k + 1) < nL - k := by
  omega
theorem z_c_impl_libTotals_74 (L : List LibRow) (nL : Nat) (hbdL : (nL : Int) ≤ 9223372036854775807) (hleL : nL = L.length) (hp0 : RowsOK L) (k : Nat) (a : Int) (b : Int) (c : Int) (d : Int) (hi16 : k ≤ nL ∧ totN (L.take k) = [a, b, c, d] ∧ (0 ≤ a ∧ a ≤ 99999 * (k : Int)) ∧ (0 ≤ b ∧ b ≤ 99999 * (k : Int)) ∧ (0 ≤ c ∧ c ≤ 99999 * (k : Int)) ∧ (0 ≤ d ∧ d ≤ 99999 * (k : Int))) (h17 : ¬ ((k : Int) < (nL : Int))) : [a, b, c, d] = totN L := by
  obtain ⟨h1, h2, h3⟩ := ‹_ ∧ totN _ = _ ∧ _›; first | (rw [totL, if_pos ‹RowsOK L›, ← h2, take_all hleL ‹_›]; done) | (rw [← h2, take_all hleL ‹_›]; done)
theorem c_impl_libTotals (w : World) {AL : Option Addr} {nL cL BL : Nat}  (L : List LibRow) (hL : SlR w BL encLibRow 5 AL nL cL L) (hp0 : RowsOK L) : Calls Tryd.prog 58 #[.slice AL nL cL] w fun e w' => ∃ (A1' : Option Addr) (n1' c1' : Nat), e = .returned (.slice A1' n1' c1') ∧ SlO w' w.heap.size encI 1 3 A1' n1' c1' (totN L) ∧ Lo w w' := by
  refine calls_W 40 Tryd.func58 rfl rfl rfl ?_
  have hbdL := hL.bound
  have hleL := hL.len
  have hBbL := hL.bd
  have hlenL := rows_len hp0
  refine W.seq ?_
  refine W.regS (SR.q' (r_as (v := .slice none 0 0) rfl) <| SR.nil ?_)
  refine W.seq ?_
  refine W.regS (SR.make (m := 4) (zx := (0 : Int)) (enc := encI) tel76 rfl (fun _ => rfl) rfl rfl (by omega) (by omega) ?_)
  intro g1 w2 hg3 hk4 hO5
  have hz6 := hk4.size
  have hB7 := (Lo.refl w).lo hk4
  refine SR.q' (r_as (v := .slice _ _ _) rfl) <| SR.nil ?_
  refine W.seq ?_
  refine W.seq ?_
  refine W.regS (SR.q' (r_mv (v := .slice _ _ _) rfl) <| SR.q' (r_len und38 rfl) <| SR.q' (r_mv (v := .int .i64 0) rfl) <| SR.nil ?_)
  refine W.block ?_
  refine W.loop (σ := Nat × Int × Int × Int × Int) (fun g => [(2, .slice none 0 0), (3, .slice (some (⟨g1, 0, none⟩ : Addr)) 4 4), (9, .slice AL nL cL), (10, .int .i64 (nL : Int)), (11, .int .i64 (g.1 : Int))]) (fun g w' => (Lo w w') ∧ (SlO w' w.heap.size encI 1 3 (some (⟨g1, 0, none⟩ : Addr)) 4 4 [g.2.1, g.2.2.1, g.2.2.2.1, g.2.2.2.2]) ∧ (SlR w' BL encLibRow 5 AL nL cL L) ∧ (g.1 ≤ nL ∧ totN (L.take g.1) = [g.2.1, g.2.2.1, g.2.2.2.1, g.2.2.2.2] ∧ (0 ≤ g.2.1 ∧ g.2.1 ≤ 99999 * (g.1 : Int)) ∧ (0 ≤ g.2.2.1 ∧ g.2.2.1 ≤ 99999 * (g.1 : Int)) ∧ (0 ≤ g.2.2.2.1 ∧ g.2.2.2.1 ≤ 99999 * (g.1 : Int)) ∧ (0 ≤ g.2.2.2.2 ∧ g.2.2.2.2 ≤ 99999 * (g.1 : Int)))) (fun g => nL - g.1) (0, (0 : Int), (0 : Int), (0 : Int), (0 : Int)) ?_ ?_ ?_
  · exact ⟨rfl, rfl, rfl, rfl, rfl, trivial⟩
  · exact ⟨hB7, (SlO.eqv (hO5) (z_c_impl_libTotals_9 L nL hbdL hleL hp0)), (hL).lo hk4, (z_c_impl_libTotals_8 L nL hbdL hleL hp0)⟩
  · rintro ⟨k, a, b, c, d⟩ f10 w11 hP13
    obtain ⟨hB12, hm14, hm15, hi16⟩ : (Lo w w11) ∧ (SlO w11 w.heap.size encI 1 3 (some (⟨g1, 0, none⟩ : Addr)) 4 4 [a, b, c, d]) ∧ (SlR w11 BL encLibRow 5 AL nL cL L) ∧ (k ≤ nL ∧ totN (L.take k) = [a, b, c, d] ∧ (0 ≤ a ∧ a ≤ 99999 * (k : Int)) ∧ (0 ≤ b ∧ b ≤ 99999 * (k : Int)) ∧ (0 ≤ c ∧ c ≤ 99999 * (k : Int)) ∧ (0 ≤ d ∧ d ≤ 99999 * (k : Int))) := hP13
    refine (?_ : W _ _ _ _ _ (act _ (sets f10 [(2, .slice none 0 0), (3, .slice (some (⟨g1, 0, none⟩ : Addr)) 4 4), (9, .slice AL nL cL), (10, .int .i64 (nL : Int)), (11, .int .i64 (k : Int))])) _)
    have hzw11 := hB12.size
    refine W.seq ?_
    refine W.regS (SR.q' (r_lt rfl rfl) <| SR.nil ?_)
    refine W.seq ?_
    refine W.cond_d rfl (fun h17 => ?_) (fun h17 => ?_)
    · refine W.skip ?_
      refine W.seq ?_
      refine W.block ?_
      refine W.seq ?_
      obtain ⟨x18, hx19⟩ := (hm15).get (i := k) (by omega)
      have hq20 := rows_rng hp0 hx19
      refine W.regS (SR.q' (r_ixR tsl38 (hm15) rfl rfl (by omega)) <| SR.q' (r_lda (l := encLibRow x18) agg32 rfl (fun _ _ hu => (hm15).cell hx19 hu) ((hm15).esz _)) <| SR.alloc (l := [.int .i64 0, .int .i64 0, .int .i64 0, .int .i64 0, .int .i64 0]) tz32 rfl ?_)
      intro g21 w22 hg23 hk24 hs25 hb26
      have hz27 := hk24.size
      have hB28 := hB12.lo hk24
      have hd29 : ¬ (some (⟨g1, 0, none⟩ : Addr)) = some ⟨g21, 0, none⟩ := fun e' => by have := (hm14).base_le e'; omega
      refine SR.store (o := 0) (vs := [.int .i64 x18.Month, .int .i64 x18.Lent, .int .i64 x18.Copied, .int .i64 x18.Given, .int .i64 x18.Fines]) agg32.2 rfl rfl rfl rfl (hb26) (Nat.le_of_ble_eq_true rfl) rfl ?_
      intro w30 hk31 hs32 hb33
      have hz34 := hk31.size
      have hB35 := hB28.new hk31 (by omega)
      refine SR.nil ?_
      refine W.seq ?_
      refine W.regS (SR.q' (r_fa fa32_1 rfl) <| SR.q' (r_ld (v := .int .i64 x18.Lent) sca3 rfl ((hb33).cell rfl)) <| SR.q' (r_fa fa32_2 rfl) <| SR.q' (r_ld (v := .int .i64 x18.Copied) sca3 rfl ((hb33).cell rfl)) <| SR.q' (r_fa fa32_3 rfl) <| SR.q' (r_ld (v := .int .i64 x18.Given) sca3 rfl ((hb33).cell rfl)) <| SR.q' (r_fa fa32_4 rfl) <| SR.q' (r_ld (v := .int .i64 x18.Fines) sca3 rfl ((hb33).cell rfl)) <| SR.lit (vs := [.int .i64 x18.Lent, .int .i64 x18.Copied, .int .i64 x18.Given, .int .i64 x18.Fines]) (L := ([x18.Lent, x18.Copied, x18.Given, x18.Fines] : List Int)) (enc := encI) tel76 (fun _ => rfl) rfl rfl rfl (by decide) ?_)
      intro g36 w37 hg38 hk39 hO40
      have hz41 := hk39.size
      have hB42 := hB35.lo hk39
      have hd43 : ¬ (some (⟨g1, 0, none⟩ : Addr)) = some ⟨g36, 0, none⟩ := fun e' => by have := (((hm14).lo hk24).kp hk31 (fun b_ hb e' => hd29 (by have e'' : b_ = g21 := e'; rw [← e'']; exact hb))).base_le e'; omega
      refine SR.q' (r_len und76 rfl) <| SR.q' (r_mv (v := .int .i64 0) rfl) <| SR.nil ?_
      refine W.block ?_
      refine W.loop (σ := Nat) (fun g => [(2, .slice none 0 0), (3, .slice (some (⟨g1, 0, none⟩ : Addr)) 4 4), (9, .slice AL nL cL), (10, .int .i64 (nL : Int)), (11, .int .i64 (k : Int)), (23, .slice (some (⟨g36, 0, none⟩ : Addr)) 4 4), (24, .int .i64 (4 : Int)), (25, .int .i64 (g : Int))]) (fun g w' => (Lo w w') ∧ (SlO w' w.heap.size encI 1 3 (some (⟨g1, 0, none⟩ : Addr)) 4 4 (addF [a, b, c, d] [x18.Lent, x18.Copied, x18.Given, x18.Fines] g)) ∧ (SlR w' BL encLibRow 5 AL nL cL L) ∧ (SlO w' w30.heap.size encI 1 3 (some (⟨g36, 0, none⟩ : Addr)) 4 4 ([x18.Lent, x18.Copied, x18.Given, x18.Fines] : List Int)) ∧ (g ≤ 4)) (fun g => 4 - g) 0 ?_ ?_ ?_
      · exact ⟨rfl, rfl, rfl, rfl, rfl, rfl, rfl, rfl, trivial⟩
      · exact ⟨hB42, (SlO.eqv ((((hm14).lo hk24).kp hk31 (fun b_ hb e' => hd29 (by have e'' : b_ = g21 := e'; rw [← e'']; exact hb))).lo hk39) (z_c_impl_libTotals_45 L nL hbdL hleL hp0 k a b c d hi16 h17 x18 hx19 hq20)), (((hm15).lo hk24).kp hk31 (fun b_ hb e' => by have e'' : b_ = g21 := e'; omega)).lo hk39, hO40, (z_c_impl_libTotals_44 L nL hbdL hleL hp0 k a b c d hi16 h17 x18 hx19 hq20)⟩
      · rintro j f46 w47 hP49
        obtain ⟨hB48, hm50, hm51, hm52, hi53⟩ : (Lo w w47) ∧ (SlO w47 w.heap.size encI 1 3 (some (⟨g1, 0, none⟩ : Addr)) 4 4 (addF [a, b, c, d] [x18.Lent, x18.Copied, x18.Given, x18.Fines] j)) ∧ (SlR w47 BL encLibRow 5 AL nL cL L) ∧ (SlO w47 w30.heap.size encI 1 3 (some (⟨g36, 0, none⟩ : Addr)) 4 4 ([x18.Lent, x18.Copied, x18.Given, x18.Fines] : List Int)) ∧ (j ≤ 4) := hP49
        refine (?_ : W _ _ _ _ _ (act _ (sets f46 [(2, .slice none 0 0), (3, .slice (some (⟨g1, 0, none⟩ : Addr)) 4 4), (9, .slice AL nL cL), (10, .int .i64 (nL : Int)), (11, .int .i64 (k : Int)), (23, .slice (some (⟨g36, 0, none⟩ : Addr)) 4 4), (24, .int .i64 (4 : Int)), (25, .int .i64 (j : Int))])) _)
        have hzw47 := hB48.size
        refine W.seq ?_
        refine W.regS (SR.q' (r_lt rfl rfl) <| SR.nil ?_)
        refine W.seq ?_
        refine W.cond_d rfl (fun h54 => ?_) (fun h54 => ?_)
        · refine W.skip ?_
          refine W.seq ?_
          refine W.block ?_
          refine W.seq ?_
          refine W.regS (SR.q' (r_mv (v := .int .i64 _) rfl) <| ?_)
          obtain ⟨x55, hx56⟩ := ((hm52).rd).get (i := j) (by omega)
          have hq57 := four_at hx56
          refine SR.q' (r_ixR tsl76 ((hm52).rd) rfl rfl (by omega)) <| SR.q' (r_ld (v := .int .i64 x55) sca3 rfl (((hm52).rd).cell0 hx56 rfl)) <| SR.q' (r_as (v := .int .i64 _) rfl) <| SR.q' (r_as (v := .int .i64 _) rfl) <| SR.nil ?_
          refine W.regS (SR.q' (r_mv (v := .slice _ _ _) rfl) <| SR.q' (r_mv (v := .int .i64 _) rfl) <| ?_)
          obtain ⟨x58, hx59⟩ := ((hm50).rd).get (i := j) (by omega)
          have hq60 := addF_at hx59
          refine SR.q' (r_ixR tsl76 ((hm50).rd) rfl rfl (by omega)) <| SR.q' (r_ld (v := .int .i64 x58) sca3 rfl (((hm50).rd).cell0 hx59 rfl)) <| SR.q' (r_mv (v := .int .i64 _) rfl) <| SR.q' (r_add rfl rfl (by omega)) <| SR.q' (r_ixR tsl76 ((hm50).rd) rfl rfl (by omega)) <| SR.storeO (o := 0) (vs := [.int .i64 (x58 + x55)]) (x1 := x58 + x55) sca3.2 rfl rfl rfl rfl (hm50) hx59 rfl (Nat.le_of_ble_eq_true rfl) rfl ?_
          intro w61 hk62 hs63 hO64
          have hz65 := hk62.size
          have hB66 := hB48.step hk62 (fun i_ hi_ e' => by have := ((hm50)).base_le e'; first | omega | (exfalso; omega) | exact e' | exact .inl e' | exact .inr e')
          have hx67 : ((addF [a, b, c, d] [x18.Lent, x18.Copied, x18.Given, x18.Fines] j).set ((j : Int).toNat) (x58 + x55))[(j : Int).toNat]? = some (x58 + x55) := List.getElem?_set_self (List.getElem?_eq_some_iff.1 hx59).1
          refine SR.nil ?_
          refine W.regS (SR.q' (r_add rfl rfl (by omega)) <| SR.q' (r_mv (v := .int .i64 _) rfl) <| SR.nil ?_)
          refine ⟨j + 1, _, rfl, ⟨rfl, rfl, rfl, rfl, rfl, rfl, rfl, rfl, trivial⟩, ⟨hB66, (SlO.eqv (hO64) (z_c_impl_libTotals_68 L nL hbdL hleL hp0 k a b c d hi16 h17 x18 hx19 hq20 j hi53 h54 x55 hx56 hq57 x58 hx59 hq60)), (hm51).kp hk62 (fun b_ hb e' => by have := ((hm50)).base_le e'; omega), (hm52).kp hk62 (fun b_ hb e' => hd43 (hb ▸ e')), ?_⟩, ?_⟩
          · exact (z_c_impl_libTotals_69 L nL hbdL hleL hp0 k a b c d hi16 h17 x18 hx19 hq20 j hi53 h54 x55 hx56 hq57 x58 hx59 hq60)
          · exact (z_c_impl_libTotals_70 L nL hbdL hleL hp0 k a b c d hi16 h17 x18 hx19 hq20 j hi53 h54 x55 hx56 hq57 x58 hx59 hq60)
        · refine W.exit (xin_here ?_)
          refine W.regS (SR.q' (r_add rfl rfl (by omega)) <| SR.q' (r_mv (v := .int .i64 _) rfl) <| SR.nil ?_)
          refine ⟨(k + 1, a + x18.Lent, b + x18.Copied, c + x18.Given, d + x18.Fines), _, rfl, ⟨rfl, rfl, rfl, rfl, rfl, trivial⟩, ⟨hB48, (SlO.eqv (hm50) (z_c_impl_libTotals_71 L nL hbdL hleL hp0 k a b c d hi16 h17 x18 hx19 hq20 j hi53 h54)), hm51, ?_⟩, ?_⟩
          · exact (z_c_impl_libTotals_72 L nL hbdL hleL hp0 k a b c d hi16 h17 x18 hx19 hq20 j hi53 h54)
          · exact (z_c_impl_libTotals_73 L nL hbdL hleL hp0 k a b c d hi16 h17 x18 hx19 hq20 j hi53 h54)
    · refine W.exit (xin_here ?_)
      refine W.seq ?_
      refine W.regS (SR.q' (r_mv (v := .slice _ _ _) rfl) <| SR.q' (r_as (v := .slice _ _ _) rfl) <| SR.nil ?_)
      refine W.ret ?_
      refine ret1 rfl (v := .slice _ _ _) rfl ?_
      exact ⟨(some (⟨g1, 0, none⟩ : Addr)), 4, 4, eR rfl, (SlO.eqv ((hm14).down (by omega)) (z_c_impl_libTotals_74 L nL hbdL hleL hp0 k a b c d hi16 h17)), hB12⟩

theorem c_impl_text (w : World) (n : Int) (hp0 : -9223372036854775808 ≤ n ∧ n ≤ 9223372036854775807) (hE : EnvW w) : Calls Tryd.prog 50 #[.int .i64 n] w fun e w' => e = .returned (str (Lib.itoa n)) ∧ Lo w w' := by
  refine calls_W 5 Tryd.func50 rfl rfl rfl ?_
  refine W.seq ?_
  refine W.regS (SR.q' (r_as (v := str ([] : List UInt8)) rfl) <| SR.nil ?_)
  refine W.seq ?_
  refine W.regS (SR.q' (r_mv (v := .int .i64 _) rfl) <| SR.call ent77 (c_strconv_Itoa w n (by omega) (hE.lo ((Lo.refl w)))) rfl ?_)
  rintro e w1 ⟨rfl, hk2⟩
  refine ⟨_, rfl, ?_⟩
  have hz3 := hk2.size
  have hB4 := (Lo.refl w).lo hk2
  have hq5 : (Lib.itoa n).length ≤ 21 := itoa_len (n := n) (by omega) (by omega)
  refine SR.q' (r_as (v := str _) rfl) <| SR.nil ?_
  refine W.ret ?_
  refine ret1 rfl (v := str _) rfl ?_
  exact ⟨eR rfl, hB4⟩

theorem z_c_spec_l1Num_7 (n : Int) (hp0 : -9223372036854775807 ≤ n ∧ n ≤ 9223372036854775807) (h1 : n < 0) (hq6 : (Lib.itoa (-n)).length ≤ 21) : ([45] : List UInt8) ++ (Lib.itoa (-n)) = Lib.itoa n := by
  first | exact itoa_m ‹_› | exact itoa_d (by omega) ‹_› | exact itoa_b (by omega)
theorem z_c_spec_l1Num_9 (n : Int) (hp0 : -9223372036854775807 ≤ n ∧ n ≤ 9223372036854775807) (h1 : ¬ (n < 0)) (h8 : n < 10) : (([48, 49, 50, 51, 52, 53, 54, 55, 56, 57] : List UInt8).drop n.toNat).take (((n + 1).toNat) - n.toNat) = Lib.itoa n := by
  first | exact itoa_m ‹_› | exact itoa_d (by omega) ‹_› | exact itoa_b (by omega)
theorem z_c_spec_l1Num_15 (n : Int) (hp0 : -9223372036854775807 ≤ n ∧ n ≤ 9223372036854775807) (h1 : ¬ (n < 0)) (h8 : ¬ (n < 10)) (hq10 : (Lib.itoa (n / 10)).length ≤ 21) : (Lib.itoa (n / 10)) ++ ((([48, 49, 50, 51, 52, 53, 54, 55, 56, 57] : List UInt8).drop ((n % 10).toNat)).take ((((n % 10) + 1).toNat) - ((n % 10).toNat))) = Lib.itoa n := by
  first | exact itoa_m ‹_› | exact itoa_d (by omega) ‹_› | exact itoa_b (by omega)
theorem c_spec_l1Num (w : World) (n : Int) (hp0 : -9223372036854775807 ≤ n ∧ n ≤ 9223372036854775807) : Calls Tryd.prog 47 #[.int .i64 n] w fun e w' => e = .returned (str (Lib.itoa n)) ∧ Lo w w' := by
  refine calls_W 25 Tryd.func47 rfl rfl rfl ?_
  refine W.seq ?_
  refine W.regS (SR.q' (r_as (v := str ([] : List UInt8)) rfl) <| SR.nil ?_)
  refine W.seq ?_
  refine W.seq ?_
  refine W.regS (SR.q' (r_mv (v := .int .i64 _) rfl) <| SR.q' (r_lt rfl rfl) <| SR.nil ?_)
  refine W.cond_d rfl (fun h1 => ?_) (fun h1 => ?_)
  · refine W.seq ?_
    refine W.regS (SR.q' (r_mv (v := .int .i64 _) rfl) <| SR.q' (r_neg rfl (by omega)) <| SR.call ent47 (c_spec_l1Num w (-n) (by omega)) rfl ?_)
    rintro e w2 ⟨rfl, hk3⟩
    refine ⟨_, rfl, ?_⟩
    have hz4 := hk3.size
    have hB5 := (Lo.refl w).lo hk3
    have hq6 : (Lib.itoa (-n)).length ≤ 21 := itoa_len (n := -n) (by omega) (by omega)
    refine SR.q' (r_cat rfl rfl (by first | omega | (simp only [List.length_append, List.length_cons, List.length_nil, List.length_take, List.length_drop]; omega))) <| SR.q' (r_as (v := str _) rfl) <| SR.nil ?_
    refine W.ret ?_
    refine ret1 rfl (v := str _) rfl ?_
    exact ⟨eR (eS (z_c_spec_l1Num_7 n hp0 h1 hq6)), hB5⟩
  · refine W.skip ?_
    refine W.seq ?_
    refine W.seq ?_
    refine W.regS (SR.q' (r_mv (v := .int .i64 _) rfl) <| SR.q' (r_lt rfl rfl) <| SR.nil ?_)
    refine W.cond_d rfl (fun h8 => ?_) (fun h8 => ?_)
    · refine W.seq ?_
      refine W.regS (SR.q' (r_mv (v := .int .i64 _) rfl) <| SR.q' (r_mv (v := .int .i64 _) rfl) <| SR.q' (r_add rfl rfl (by omega)) <| SR.q' (r_cutS (l := n.toNat) (h := (n + 1).toNat) und9 rfl rfl rfl (by omega) (by omega) (by omega) (by first | omega | (simp only [List.length_append, List.length_cons, List.length_nil, List.length_take, List.length_drop]; omega))) <| SR.q' (r_as (v := str _) rfl) <| SR.nil ?_)
      refine W.ret ?_
      refine ret1 rfl (v := str _) rfl ?_
      exact ⟨eR (eS (z_c_spec_l1Num_9 n hp0 h1 h8)), (Lo.refl w)⟩
    · refine W.skip ?_
      refine W.seq ?_
      refine W.regD mo (by kernel_rfl) (QR.q' (fun w' hw' => r_mv (v := .int .i64 _) rfl) <| QR.q' (fun w' hw' => r_quo rfl rfl (by omega)) <| QR.call ent47 (fun w' hw' => (c_spec_l1Num w' (n / 10) (by omega)).mono fun _ _ h => ⟨h.1, hw'.trans h.2⟩) rfl <| ?_)
      have hq10 : (Lib.itoa (n / 10)).length ≤ 21 := itoa_len (n := n / 10) (by omega) (by omega)
      refine QR.q' (fun w' hw' => r_mv (v := .int .i64 _) rfl) <| QR.q' (fun w' hw' => r_rem rfl rfl (by omega)) <| QR.q' (fun w' hw' => r_mv (v := .int .i64 _) rfl) <| QR.q' (fun w' hw' => r_rem rfl rfl (by omega)) <| QR.q' (fun w' hw' => r_add rfl rfl (by omega)) <| QR.q' (fun w' hw' => r_cutS (l := (n % 10).toNat) (h := ((n % 10) + 1).toNat) und9 rfl rfl rfl (by omega) (by omega) (by omega) (by first | omega | (simp only [List.length_append, List.length_cons, List.length_nil, List.length_take, List.length_drop]; omega))) <| QR.q' (fun w' hw' => r_cat rfl rfl (by first | omega | (simp only [List.length_append, List.length_cons, List.length_nil, List.length_take, List.length_drop]; omega))) <| QR.q' (fun w' hw' => r_as (v := str _) rfl) <| QR.nil ?_
      intro w11 hk12
      have hz13 := hk12.size
      have hB14 := (Lo.refl w).lo hk12
      refine W.ret ?_
      refine ret1 rfl (v := str _) rfl ?_
      exact ⟨eR (eS (z_c_spec_l1Num_15 n hp0 h1 h8 hq10)), hB14⟩
termination_by n.toNat + 2 * (-n).toNat
decreasing_by all_goals omega

theorem z_c_impl_twoDigits_11 (n : Int) (hp0 : 0 ≤ n ∧ n ≤ 99) (hq5 : (Lib.itoa (n / 10)).length ≤ 21) (hq10 : (Lib.itoa (n % 10)).length ≤ 21) : (Lib.itoa (n / 10)) ++ (Lib.itoa (n % 10)) = twoD n := by
  rfl
theorem c_impl_twoDigits (w : World) (n : Int) (hp0 : 0 ≤ n ∧ n ≤ 99) (hE : EnvW w) : Calls Tryd.prog 78 #[.int .i64 n] w fun e w' => e = .returned (str (twoD n)) ∧ Lo w w' := by
  refine calls_W 10 Tryd.func78 rfl rfl rfl ?_
  refine W.seq ?_
  refine W.regS (SR.q' (r_as (v := str ([] : List UInt8)) rfl) <| SR.nil ?_)
  refine W.seq ?_
  refine W.regS (SR.q' (r_mv (v := .int .i64 _) rfl) <| SR.q' (r_quo rfl rfl (by omega)) <| SR.call ent50 (c_impl_text w (n / 10) (by omega) (hE.lo ((Lo.refl w)))) rfl ?_)
  rintro e w1 ⟨rfl, hk2⟩
  refine ⟨_, rfl, ?_⟩
  have hz3 := hk2.size
  have hB4 := (Lo.refl w).lo hk2
  have hq5 : (Lib.itoa (n / 10)).length ≤ 21 := itoa_len (n := n / 10) (by omega) (by omega)
  refine SR.q' (r_mv (v := .int .i64 _) rfl) <| SR.q' (r_rem rfl rfl (by omega)) <| SR.call ent50 (c_impl_text w1 (n % 10) (by omega) (hE.lo (hB4))) rfl ?_
  rintro e w6 ⟨rfl, hk7⟩
  refine ⟨_, rfl, ?_⟩
  have hz8 := hk7.size
  have hB9 := hB4.lo hk7
  have hq10 : (Lib.itoa (n % 10)).length ≤ 21 := itoa_len (n := n % 10) (by omega) (by omega)
  refine SR.q' (r_cat rfl rfl (by first | omega | (simp only [List.length_append, List.length_cons, List.length_nil, List.length_take, List.length_drop]; omega))) <| SR.q' (r_as (v := str _) rfl) <| SR.nil ?_
  refine W.ret ?_
  refine ret1 rfl (v := str _) rfl ?_
  exact ⟨eR (eS (z_c_impl_twoDigits_11 n hp0 hq5 hq10)), hB9⟩

theorem z_c_spec_l31Line_30 (r : LibRow) (hp0 : RowOK r) (hq9 : (Lib.itoa r.Month).length ≤ 21) (hq10 : (Lib.itoa r.Lent).length ≤ 21) (hq11 : (Lib.itoa r.Copied).length ≤ 21) (h16 : 0 < r.Given) (hq21 : (Lib.itoa r.Given).length ≤ 21) (h22 : 0 < r.Fines) (hq23 : (Lib.itoa (r.Fines / 100)).length ≤ 21) (hq24 : (Lib.itoa ((r.Fines / 10) % 10)).length ≤ 21) (hq25 : (Lib.itoa (r.Fines % 10)).length ≤ 21) : (((((((((((((([109, 111, 110, 116, 104, 32] : List UInt8) ++ (Lib.itoa r.Month)) ++ ([58, 32] : List UInt8)) ++ (Lib.itoa r.Lent)) ++ ([32, 108, 101, 110, 116, 44, 32] : List UInt8)) ++ (Lib.itoa r.Copied)) ++ ([32, 99, 111, 112, 105, 101, 100] : List UInt8)) ++ ([44, 32] : List UInt8)) ++ (Lib.itoa r.Given)) ++ ([32, 103, 105, 118, 101, 110] : List UInt8)) ++ ([44, 32, 102, 105, 110, 101, 115, 32] : List UInt8)) ++ (Lib.itoa (r.Fines / 100))) ++ ([46] : List UInt8)) ++ (Lib.itoa ((r.Fines / 10) % 10))) ++ (Lib.itoa (r.Fines % 10)) = lineT r := by
  have hrg := row_rng hp0; unfold lineT; (first | rw [if_pos (show r.Given = 0 by omega)] | rw [if_neg (show ¬ r.Given = 0 by omega)]); (first | rw [if_pos (show r.Fines = 0 by omega)] | rw [if_neg (show ¬ r.Fines = 0 by omega)]); first | done | (simp only [List.append_assoc, List.append_nil]; done) | (unfold twoD; rw [show r.Fines % 100 / 10 = r.Fines / 10 % 10 from by omega, show r.Fines % 100 % 10 = r.Fines % 10 from by omega]; simp only [List.append_assoc, List.append_nil]; done)
theorem z_c_spec_l31Line_31 (r : LibRow) (hp0 : RowOK r) (hq9 : (Lib.itoa r.Month).length ≤ 21) (hq10 : (Lib.itoa r.Lent).length ≤ 21) (hq11 : (Lib.itoa r.Copied).length ≤ 21) (h16 : 0 < r.Given) (hq21 : (Lib.itoa r.Given).length ≤ 21) (h22 : ¬ (0 < r.Fines)) : ((((((((([109, 111, 110, 116, 104, 32] : List UInt8) ++ (Lib.itoa r.Month)) ++ ([58, 32] : List UInt8)) ++ (Lib.itoa r.Lent)) ++ ([32, 108, 101, 110, 116, 44, 32] : List UInt8)) ++ (Lib.itoa r.Copied)) ++ ([32, 99, 111, 112, 105, 101, 100] : List UInt8)) ++ ([44, 32] : List UInt8)) ++ (Lib.itoa r.Given)) ++ ([32, 103, 105, 118, 101, 110] : List UInt8) = lineT r := by
  have hrg := row_rng hp0; unfold lineT; (first | rw [if_pos (show r.Given = 0 by omega)] | rw [if_neg (show ¬ r.Given = 0 by omega)]); (first | rw [if_pos (show r.Fines = 0 by omega)] | rw [if_neg (show ¬ r.Fines = 0 by omega)]); first | done | (simp only [List.append_assoc, List.append_nil]; done) | (unfold twoD; rw [show r.Fines % 100 / 10 = r.Fines / 10 % 10 from by omega, show r.Fines % 100 % 10 = r.Fines % 10 from by omega]; simp only [List.append_assoc, List.append_nil]; done)
theorem z_c_spec_l31Line_40 (r : LibRow) (hp0 : RowOK r) (hq9 : (Lib.itoa r.Month).length ≤ 21) (hq10 : (Lib.itoa r.Lent).length ≤ 21) (hq11 : (Lib.itoa r.Copied).length ≤ 21) (h16 : ¬ (0 < r.Given)) (h32 : 0 < r.Fines) (hq33 : (Lib.itoa (r.Fines / 100)).length ≤ 21) (hq34 : (Lib.itoa ((r.Fines / 10) % 10)).length ≤ 21) (hq35 : (Lib.itoa (r.Fines % 10)).length ≤ 21) : ((((((((((([109, 111, 110, 116, 104, 32] : List UInt8) ++ (Lib.itoa r.Month)) ++ ([58, 32] : List UInt8)) ++ (Lib.itoa r.Lent)) ++ ([32, 108, 101, 110, 116, 44, 32] : List UInt8)) ++ (Lib.itoa r.Copied)) ++ ([32, 99, 111, 112, 105, 101, 100] : List UInt8)) ++ ([44, 32, 102, 105, 110, 101, 115, 32] : List UInt8)) ++ (Lib.itoa (r.Fines / 100))) ++ ([46] : List UInt8)) ++ (Lib.itoa ((r.Fines / 10) % 10))) ++ (Lib.itoa (r.Fines % 10)) = lineT r := by
  have hrg := row_rng hp0; unfold lineT; (first | rw [if_pos (show r.Given = 0 by omega)] | rw [if_neg (show ¬ r.Given = 0 by omega)]); (first | rw [if_pos (show r.Fines = 0 by omega)] | rw [if_neg (show ¬ r.Fines = 0 by omega)]); first | done | (simp only [List.append_assoc, List.append_nil]; done) | (unfold twoD; rw [show r.Fines % 100 / 10 = r.Fines / 10 % 10 from by omega, show r.Fines % 100 % 10 = r.Fines % 10 from by omega]; simp only [List.append_assoc, List.append_nil]; done)
theorem z_c_spec_l31Line_41 (r : LibRow) (hp0 : RowOK r) (hq9 : (Lib.itoa r.Month).length ≤ 21) (hq10 : (Lib.itoa r.Lent).length ≤ 21) (hq11 : (Lib.itoa r.Copied).length ≤ 21) (h16 : ¬ (0 < r.Given)) (h32 : ¬ (0 < r.Fines)) : (((((([109, 111, 110, 116, 104, 32] : List UInt8) ++ (Lib.itoa r.Month)) ++ ([58, 32] : List UInt8)) ++ (Lib.itoa r.Lent)) ++ ([32, 108, 101, 110, 116, 44, 32] : List UInt8)) ++ (Lib.itoa r.Copied)) ++ ([32, 99, 111, 112, 105, 101, 100] : List UInt8) = lineT r := by
  have hrg := row_rng hp0; unfold lineT; (first | rw [if_pos (show r.Given = 0 by omega)] | rw [if_neg (show ¬ r.Given = 0 by omega)]); (first | rw [if_pos (show r.Fines = 0 by omega)] | rw [if_neg (show ¬ r.Fines = 0 by omega)]); first | done | (simp only [List.append_assoc, List.append_nil]; done) | (unfold twoD; rw [show r.Fines % 100 / 10 = r.Fines / 10 % 10 from by omega, show r.Fines % 100 % 10 = r.Fines % 10 from by omega]; simp only [List.append_assoc, List.append_nil]; done)
theorem c_spec_l31Line (w : World) (r : LibRow) (hp0 : RowOK r) : Calls Tryd.prog 53 #[.agg (List.toArray (encLibRow r))] w fun e w' => e = .returned (str (lineT r)) ∧ Lo w w' := by
  refine calls_W 52 Tryd.func53 rfl rfl rfl ?_
  have hrg := row_rng hp0
  refine W.seq ?_
  refine W.regS (SR.box (v := .agg (List.toArray _)) (l := [.int .i64 r.Month, .int .i64 r.Lent, .int .i64 r.Copied, .int .i64 r.Given, .int .i64 r.Fines]) rfl rfl ?_)
  intro g1 w2 hg3 hk4 hs5 hb6
  have hz7 := hk4.size
  have hB8 := (Lo.refl w).lo hk4
  refine SR.q' (r_as (v := str ([] : List UInt8)) rfl) <| SR.nil ?_
  refine W.seq ?_
  refine W.regD mo (by kernel_rfl) (QR.q' (fun w' hw' => r_fa fa32_0 rfl) <| QR.q' (fun w' hw' => r_ld (v := .int .i64 r.Month) sca3 rfl (((hb6).lo hw').cell rfl)) <| QR.call ent47 (fun w' hw' => (c_spec_l1Num w' r.Month (by omega)).mono fun _ _ h => ⟨h.1, hw'.trans h.2⟩) rfl <| ?_)
  have hq9 : (Lib.itoa r.Month).length ≤ 21 := itoa_len (n := r.Month) (by omega) (by omega)
  refine QR.q' (fun w' hw' => r_cat rfl rfl (by first | omega | (simp only [List.length_append, List.length_cons, List.length_nil, List.length_take, List.length_drop]; omega))) <| QR.q' (fun w' hw' => r_cat rfl rfl (by first | omega | (simp only [List.length_append, List.length_cons, List.length_nil, List.length_take, List.length_drop]; omega))) <| QR.q' (fun w' hw' => r_fa fa32_1 rfl) <| QR.q' (fun w' hw' => r_ld (v := .int .i64 r.Lent) sca3 rfl (((hb6).lo hw').cell rfl)) <| QR.call ent47 (fun w' hw' => (c_spec_l1Num w' r.Lent (by omega)).mono fun _ _ h => ⟨h.1, hw'.trans h.2⟩) rfl <| ?_
  have hq10 : (Lib.itoa r.Lent).length ≤ 21 := itoa_len (n := r.Lent) (by omega) (by omega)
  refine QR.q' (fun w' hw' => r_cat rfl rfl (by first | omega | (simp only [List.length_append, List.length_cons, List.length_nil, List.length_take, List.length_drop]; omega))) <| QR.q' (fun w' hw' => r_cat rfl rfl (by first | omega | (simp only [List.length_append, List.length_cons, List.length_nil, List.length_take, List.length_drop]; omega))) <| QR.q' (fun w' hw' => r_fa fa32_2 rfl) <| QR.q' (fun w' hw' => r_ld (v := .int .i64 r.Copied) sca3 rfl (((hb6).lo hw').cell rfl)) <| QR.call ent47 (fun w' hw' => (c_spec_l1Num w' r.Copied (by omega)).mono fun _ _ h => ⟨h.1, hw'.trans h.2⟩) rfl <| ?_
  have hq11 : (Lib.itoa r.Copied).length ≤ 21 := itoa_len (n := r.Copied) (by omega) (by omega)
  refine QR.q' (fun w' hw' => r_cat rfl rfl (by first | omega | (simp only [List.length_append, List.length_cons, List.length_nil, List.length_take, List.length_drop]; omega))) <| QR.q' (fun w' hw' => r_cat rfl rfl (by first | omega | (simp only [List.length_append, List.length_cons, List.length_nil, List.length_take, List.length_drop]; omega))) <| QR.q' (fun w' hw' => r_as (v := str _) rfl) <| QR.nil ?_
  intro w12 hk13
  have hz14 := hk13.size
  have hB15 := hB8.lo hk13
  refine W.seq ?_
  refine W.seq ?_
  refine W.regS (SR.q' (r_fa fa32_3 rfl) <| SR.q' (r_ld (v := .int .i64 r.Given) sca3 rfl (((hb6).lo hk13).cell rfl)) <| SR.q' (r_gt rfl rfl) <| SR.nil ?_)
  refine W.cond_d rfl (fun h16 => ?_) (fun h16 => ?_)
  · refine W.regS (SR.q' (r_mv (v := str _) rfl) <| SR.q' (r_cat rfl rfl (by first | omega | (simp only [List.length_append, List.length_cons, List.length_nil, List.length_take, List.length_drop]; omega))) <| SR.q' (r_fa fa32_3 rfl) <| SR.q' (r_ld (v := .int .i64 r.Given) sca3 rfl (((hb6).lo hk13).cell rfl)) <| SR.call ent47 (c_spec_l1Num w12 r.Given (by omega)) rfl ?_)
    rintro e w17 ⟨rfl, hk18⟩
    refine ⟨_, rfl, ?_⟩
    have hz19 := hk18.size
    have hB20 := hB15.lo hk18
    have hq21 : (Lib.itoa r.Given).length ≤ 21 := itoa_len (n := r.Given) (by omega) (by omega)
    refine SR.q' (r_cat rfl rfl (by first | omega | (simp only [List.length_append, List.length_cons, List.length_nil, List.length_take, List.length_drop]; omega))) <| SR.q' (r_cat rfl rfl (by first | omega | (simp only [List.length_append, List.length_cons, List.length_nil, List.length_take, List.length_drop]; omega))) <| SR.q' (r_as (v := str _) rfl) <| SR.nil ?_
    refine W.seq ?_
    refine W.seq ?_
    refine W.regS (SR.q' (r_fa fa32_4 rfl) <| SR.q' (r_ld (v := .int .i64 r.Fines) sca3 rfl ((((hb6).lo hk13).lo hk18).cell rfl)) <| SR.q' (r_gt rfl rfl) <| SR.nil ?_)
    refine W.cond_d rfl (fun h22 => ?_) (fun h22 => ?_)
    · refine W.regD mo (by kernel_rfl) (QR.q' (fun w' hw' => r_mv (v := str _) rfl) <| QR.q' (fun w' hw' => r_cat rfl rfl (by first | omega | (simp only [List.length_append, List.length_cons, List.length_nil, List.length_take, List.length_drop]; omega))) <| QR.q' (fun w' hw' => r_fa fa32_4 rfl) <| QR.q' (fun w' hw' => r_ld (v := .int .i64 r.Fines) sca3 rfl (((((hb6).lo hk13).lo hk18).lo hw').cell rfl)) <| QR.q' (fun w' hw' => r_quo rfl rfl (by omega)) <| QR.call ent47 (fun w' hw' => (c_spec_l1Num w' (r.Fines / 100) (by omega)).mono fun _ _ h => ⟨h.1, hw'.trans h.2⟩) rfl <| ?_)
      have hq23 : (Lib.itoa (r.Fines / 100)).length ≤ 21 := itoa_len (n := r.Fines / 100) (by omega) (by omega)
      refine QR.q' (fun w' hw' => r_cat rfl rfl (by first | omega | (simp only [List.length_append, List.length_cons, List.length_nil, List.length_take, List.length_drop]; omega))) <| QR.q' (fun w' hw' => r_cat rfl rfl (by first | omega | (simp only [List.length_append, List.length_cons, List.length_nil, List.length_take, List.length_drop]; omega))) <| QR.q' (fun w' hw' => r_fa fa32_4 rfl) <| QR.q' (fun w' hw' => r_ld (v := .int .i64 r.Fines) sca3 rfl (((((hb6).lo hk13).lo hk18).lo hw').cell rfl)) <| QR.q' (fun w' hw' => r_quo rfl rfl (by omega)) <| QR.q' (fun w' hw' => r_rem rfl rfl (by omega)) <| QR.call ent47 (fun w' hw' => (c_spec_l1Num w' ((r.Fines / 10) % 10) (by omega)).mono fun _ _ h => ⟨h.1, hw'.trans h.2⟩) rfl <| ?_
      have hq24 : (Lib.itoa ((r.Fines / 10) % 10)).length ≤ 21 := itoa_len (n := (r.Fines / 10) % 10) (by omega) (by omega)
      refine QR.q' (fun w' hw' => r_cat rfl rfl (by first | omega | (simp only [List.length_append, List.length_cons, List.length_nil, List.length_take, List.length_drop]; omega))) <| QR.q' (fun w' hw' => r_fa fa32_4 rfl) <| QR.q' (fun w' hw' => r_ld (v := .int .i64 r.Fines) sca3 rfl (((((hb6).lo hk13).lo hk18).lo hw').cell rfl)) <| QR.q' (fun w' hw' => r_rem rfl rfl (by omega)) <| QR.call ent47 (fun w' hw' => (c_spec_l1Num w' (r.Fines % 10) (by omega)).mono fun _ _ h => ⟨h.1, hw'.trans h.2⟩) rfl <| ?_
      have hq25 : (Lib.itoa (r.Fines % 10)).length ≤ 21 := itoa_len (n := r.Fines % 10) (by omega) (by omega)
      refine QR.q' (fun w' hw' => r_cat rfl rfl (by first | omega | (simp only [List.length_append, List.length_cons, List.length_nil, List.length_take, List.length_drop]; omega))) <| QR.q' (fun w' hw' => r_as (v := str _) rfl) <| QR.nil ?_
      intro w26 hk27
      have hz28 := hk27.size
      have hB29 := hB20.lo hk27
      refine W.seq ?_
      refine W.regS (SR.q' (r_mv (v := str _) rfl) <| SR.q' (r_as (v := str _) rfl) <| SR.nil ?_)
      refine W.ret ?_
      refine ret1 rfl (v := str _) rfl ?_
      exact ⟨eR (eS (z_c_spec_l31Line_30 r hp0 hq9 hq10 hq11 h16 hq21 h22 hq23 hq24 hq25)), hB29⟩
    · refine W.skip ?_
      refine W.seq ?_
      refine W.regS (SR.q' (r_mv (v := str _) rfl) <| SR.q' (r_as (v := str _) rfl) <| SR.nil ?_)
      refine W.ret ?_
      refine ret1 rfl (v := str _) rfl ?_
      exact ⟨eR (eS (z_c_spec_l31Line_31 r hp0 hq9 hq10 hq11 h16 hq21 h22)), hB20⟩
  · refine W.skip ?_
    refine W.seq ?_
    refine W.seq ?_
    refine W.regS (SR.q' (r_fa fa32_4 rfl) <| SR.q' (r_ld (v := .int .i64 r.Fines) sca3 rfl (((hb6).lo hk13).cell rfl)) <| SR.q' (r_gt rfl rfl) <| SR.nil ?_)
    refine W.cond_d rfl (fun h32 => ?_) (fun h32 => ?_)
    · refine W.regD mo (by kernel_rfl) (QR.q' (fun w' hw' => r_mv (v := str _) rfl) <| QR.q' (fun w' hw' => r_cat rfl rfl (by first | omega | (simp only [List.length_append, List.length_cons, List.length_nil, List.length_take, List.length_drop]; omega))) <| QR.q' (fun w' hw' => r_fa fa32_4 rfl) <| QR.q' (fun w' hw' => r_ld (v := .int .i64 r.Fines) sca3 rfl ((((hb6).lo hk13).lo hw').cell rfl)) <| QR.q' (fun w' hw' => r_quo rfl rfl (by omega)) <| QR.call ent47 (fun w' hw' => (c_spec_l1Num w' (r.Fines / 100) (by omega)).mono fun _ _ h => ⟨h.1, hw'.trans h.2⟩) rfl <| ?_)
      have hq33 : (Lib.itoa (r.Fines / 100)).length ≤ 21 := itoa_len (n := r.Fines / 100) (by omega) (by omega)
      refine QR.q' (fun w' hw' => r_cat rfl rfl (by first | omega | (simp only [List.length_append, List.length_cons, List.length_nil, List.length_take, List.length_drop]; omega))) <| QR.q' (fun w' hw' => r_cat rfl rfl (by first | omega | (simp only [List.length_append, List.length_cons, List.length_nil, List.length_take, List.length_drop]; omega))) <| QR.q' (fun w' hw' => r_fa fa32_4 rfl) <| QR.q' (fun w' hw' => r_ld (v := .int .i64 r.Fines) sca3 rfl ((((hb6).lo hk13).lo hw').cell rfl)) <| QR.q' (fun w' hw' => r_quo rfl rfl (by omega)) <| QR.q' (fun w' hw' => r_rem rfl rfl (by omega)) <| QR.call ent47 (fun w' hw' => (c_spec_l1Num w' ((r.Fines / 10) % 10) (by omega)).mono fun _ _ h => ⟨h.1, hw'.trans h.2⟩) rfl <| ?_
      have hq34 : (Lib.itoa ((r.Fines / 10) % 10)).length ≤ 21 := itoa_len (n := (r.Fines / 10) % 10) (by omega) (by omega)
      refine QR.q' (fun w' hw' => r_cat rfl rfl (by first | omega | (simp only [List.length_append, List.length_cons, List.length_nil, List.length_take, List.length_drop]; omega))) <| QR.q' (fun w' hw' => r_fa fa32_4 rfl) <| QR.q' (fun w' hw' => r_ld (v := .int .i64 r.Fines) sca3 rfl ((((hb6).lo hk13).lo hw').cell rfl)) <| QR.q' (fun w' hw' => r_rem rfl rfl (by omega)) <| QR.call ent47 (fun w' hw' => (c_spec_l1Num w' (r.Fines % 10) (by omega)).mono fun _ _ h => ⟨h.1, hw'.trans h.2⟩) rfl <| ?_
      have hq35 : (Lib.itoa (r.Fines % 10)).length ≤ 21 := itoa_len (n := r.Fines % 10) (by omega) (by omega)
      refine QR.q' (fun w' hw' => r_cat rfl rfl (by first | omega | (simp only [List.length_append, List.length_cons, List.length_nil, List.length_take, List.length_drop]; omega))) <| QR.q' (fun w' hw' => r_as (v := str _) rfl) <| QR.nil ?_
      intro w36 hk37
      have hz38 := hk37.size
      have hB39 := hB15.lo hk37
      refine W.seq ?_
      refine W.regS (SR.q' (r_mv (v := str _) rfl) <| SR.q' (r_as (v := str _) rfl) <| SR.nil ?_)
      refine W.ret ?_
      refine ret1 rfl (v := str _) rfl ?_
      exact ⟨eR (eS (z_c_spec_l31Line_40 r hp0 hq9 hq10 hq11 h16 h32 hq33 hq34 hq35)), hB39⟩
    · refine W.skip ?_
      refine W.seq ?_
      refine W.regS (SR.q' (r_mv (v := str _) rfl) <| SR.q' (r_as (v := str _) rfl) <| SR.nil ?_)
      refine W.ret ?_
      refine ret1 rfl (v := str _) rfl ?_
      exact ⟨eR (eS (z_c_spec_l31Line_41 r hp0 hq9 hq10 hq11 h16 h32)), hB15⟩

theorem z_c_impl_libLine_29 (r : LibRow) (hp0 : RowOK r) (hq9 : (Lib.itoa r.Month).length ≤ 21) (hq10 : (Lib.itoa r.Lent).length ≤ 21) (hq11 : (Lib.itoa r.Copied).length ≤ 21) (h16 : ¬ (r.Given = 0)) (hq21 : (Lib.itoa r.Given).length ≤ 21) (h22 : ¬ (r.Fines = 0)) (hq23 : (Lib.itoa (r.Fines / 100)).length ≤ 21) (hq24 : (twoD (r.Fines % 100)).length ≤ 42) : (((((((([109, 111, 110, 116, 104, 32] : List UInt8) ++ (Lib.itoa r.Month)) ++ ([58, 32] : List UInt8)) ++ (Lib.itoa r.Lent)) ++ ([32, 108, 101, 110, 116, 44, 32] : List UInt8)) ++ (Lib.itoa r.Copied)) ++ ([32, 99, 111, 112, 105, 101, 100] : List UInt8)) ++ ((([44, 32] : List UInt8) ++ (Lib.itoa r.Given)) ++ ([32, 103, 105, 118, 101, 110] : List UInt8))) ++ (((([44, 32, 102, 105, 110, 101, 115, 32] : List UInt8) ++ (Lib.itoa (r.Fines / 100))) ++ ([46] : List UInt8)) ++ (twoD (r.Fines % 100))) = lineT r := by
  have hrg := row_rng hp0; unfold lineT; (first | rw [if_pos (show r.Given = 0 by omega)] | rw [if_neg (show ¬ r.Given = 0 by omega)]); (first | rw [if_pos (show r.Fines = 0 by omega)] | rw [if_neg (show ¬ r.Fines = 0 by omega)]); first | done | (simp only [List.append_assoc, List.append_nil]; done) | (unfold twoD; rw [show r.Fines % 100 / 10 = r.Fines / 10 % 10 from by omega, show r.Fines % 100 % 10 = r.Fines % 10 from by omega]; simp only [List.append_assoc, List.append_nil]; done)
theorem z_c_impl_libLine_30 (r : LibRow) (hp0 : RowOK r) (hq9 : (Lib.itoa r.Month).length ≤ 21) (hq10 : (Lib.itoa r.Lent).length ≤ 21) (hq11 : (Lib.itoa r.Copied).length ≤ 21) (h16 : ¬ (r.Given = 0)) (hq21 : (Lib.itoa r.Given).length ≤ 21) (h22 : r.Fines = 0) : ((((((([109, 111, 110, 116, 104, 32] : List UInt8) ++ (Lib.itoa r.Month)) ++ ([58, 32] : List UInt8)) ++ (Lib.itoa r.Lent)) ++ ([32, 108, 101, 110, 116, 44, 32] : List UInt8)) ++ (Lib.itoa r.Copied)) ++ ([32, 99, 111, 112, 105, 101, 100] : List UInt8)) ++ ((([44, 32] : List UInt8) ++ (Lib.itoa r.Given)) ++ ([32, 103, 105, 118, 101, 110] : List UInt8)) = lineT r := by
  have hrg := row_rng hp0; unfold lineT; (first | rw [if_pos (show r.Given = 0 by omega)] | rw [if_neg (show ¬ r.Given = 0 by omega)]); (first | rw [if_pos (show r.Fines = 0 by omega)] | rw [if_neg (show ¬ r.Fines = 0 by omega)]); first | done | (simp only [List.append_assoc, List.append_nil]; done) | (unfold twoD; rw [show r.Fines % 100 / 10 = r.Fines / 10 % 10 from by omega, show r.Fines % 100 % 10 = r.Fines % 10 from by omega]; simp only [List.append_assoc, List.append_nil]; done)
theorem z_c_impl_libLine_38 (r : LibRow) (hp0 : RowOK r) (hq9 : (Lib.itoa r.Month).length ≤ 21) (hq10 : (Lib.itoa r.Lent).length ≤ 21) (hq11 : (Lib.itoa r.Copied).length ≤ 21) (h16 : r.Given = 0) (h31 : ¬ (r.Fines = 0)) (hq32 : (Lib.itoa (r.Fines / 100)).length ≤ 21) (hq33 : (twoD (r.Fines % 100)).length ≤ 42) : ((((((([109, 111, 110, 116, 104, 32] : List UInt8) ++ (Lib.itoa r.Month)) ++ ([58, 32] : List UInt8)) ++ (Lib.itoa r.Lent)) ++ ([32, 108, 101, 110, 116, 44, 32] : List UInt8)) ++ (Lib.itoa r.Copied)) ++ ([32, 99, 111, 112, 105, 101, 100] : List UInt8)) ++ (((([44, 32, 102, 105, 110, 101, 115, 32] : List UInt8) ++ (Lib.itoa (r.Fines / 100))) ++ ([46] : List UInt8)) ++ (twoD (r.Fines % 100))) = lineT r := by
  have hrg := row_rng hp0; unfold lineT; (first | rw [if_pos (show r.Given = 0 by omega)] | rw [if_neg (show ¬ r.Given = 0 by omega)]); (first | rw [if_pos (show r.Fines = 0 by omega)] | rw [if_neg (show ¬ r.Fines = 0 by omega)]); first | done | (simp only [List.append_assoc, List.append_nil]; done) | (unfold twoD; rw [show r.Fines % 100 / 10 = r.Fines / 10 % 10 from by omega, show r.Fines % 100 % 10 = r.Fines % 10 from by omega]; simp only [List.append_assoc, List.append_nil]; done)
theorem z_c_impl_libLine_39 (r : LibRow) (hp0 : RowOK r) (hq9 : (Lib.itoa r.Month).length ≤ 21) (hq10 : (Lib.itoa r.Lent).length ≤ 21) (hq11 : (Lib.itoa r.Copied).length ≤ 21) (h16 : r.Given = 0) (h31 : r.Fines = 0) : (((((([109, 111, 110, 116, 104, 32] : List UInt8) ++ (Lib.itoa r.Month)) ++ ([58, 32] : List UInt8)) ++ (Lib.itoa r.Lent)) ++ ([32, 108, 101, 110, 116, 44, 32] : List UInt8)) ++ (Lib.itoa r.Copied)) ++ ([32, 99, 111, 112, 105, 101, 100] : List UInt8) = lineT r := by
  have hrg := row_rng hp0; unfold lineT; (first | rw [if_pos (show r.Given = 0 by omega)] | rw [if_neg (show ¬ r.Given = 0 by omega)]); (first | rw [if_pos (show r.Fines = 0 by omega)] | rw [if_neg (show ¬ r.Fines = 0 by omega)]); first | done | (simp only [List.append_assoc, List.append_nil]; done) | (unfold twoD; rw [show r.Fines % 100 / 10 = r.Fines / 10 % 10 from by omega, show r.Fines % 100 % 10 = r.Fines % 10 from by omega]; simp only [List.append_assoc, List.append_nil]; done)
theorem c_impl_libLine (w : World) (r : LibRow) (hp0 : RowOK r) (hE : EnvW w) : Calls Tryd.prog 55 #[.agg (List.toArray (encLibRow r))] w fun e w' => e = .returned (str (lineT r)) ∧ Lo w w' := by
  refine calls_W 46 Tryd.func55 rfl rfl rfl ?_
  have hrg := row_rng hp0
  refine W.seq ?_
  refine W.regS (SR.box (v := .agg (List.toArray _)) (l := [.int .i64 r.Month, .int .i64 r.Lent, .int .i64 r.Copied, .int .i64 r.Given, .int .i64 r.Fines]) rfl rfl ?_)
  intro g1 w2 hg3 hk4 hs5 hb6
  have hz7 := hk4.size
  have hB8 := (Lo.refl w).lo hk4
  refine SR.q' (r_as (v := str ([] : List UInt8)) rfl) <| SR.nil ?_
  refine W.seq ?_
  refine W.regD mo (by kernel_rfl) (QR.q' (fun w' hw' => r_fa fa32_0 rfl) <| QR.q' (fun w' hw' => r_ld (v := .int .i64 r.Month) sca3 rfl (((hb6).lo hw').cell rfl)) <| QR.call ent50 (fun w' hw' => (c_impl_text w' r.Month (by omega) (hE.lo (hB8.trans hw'))).mono fun _ _ h => ⟨h.1, hw'.trans h.2⟩) rfl <| ?_)
  have hq9 : (Lib.itoa r.Month).length ≤ 21 := itoa_len (n := r.Month) (by omega) (by omega)
  refine QR.q' (fun w' hw' => r_cat rfl rfl (by first | omega | (simp only [List.length_append, List.length_cons, List.length_nil, List.length_take, List.length_drop]; omega))) <| QR.q' (fun w' hw' => r_cat rfl rfl (by first | omega | (simp only [List.length_append, List.length_cons, List.length_nil, List.length_take, List.length_drop]; omega))) <| QR.q' (fun w' hw' => r_fa fa32_1 rfl) <| QR.q' (fun w' hw' => r_ld (v := .int .i64 r.Lent) sca3 rfl (((hb6).lo hw').cell rfl)) <| QR.call ent50 (fun w' hw' => (c_impl_text w' r.Lent (by omega) (hE.lo (hB8.trans hw'))).mono fun _ _ h => ⟨h.1, hw'.trans h.2⟩) rfl <| ?_
  have hq10 : (Lib.itoa r.Lent).length ≤ 21 := itoa_len (n := r.Lent) (by omega) (by omega)
  refine QR.q' (fun w' hw' => r_cat rfl rfl (by first | omega | (simp only [List.length_append, List.length_cons, List.length_nil, List.length_take, List.length_drop]; omega))) <| QR.q' (fun w' hw' => r_cat rfl rfl (by first | omega | (simp only [List.length_append, List.length_cons, List.length_nil, List.length_take, List.length_drop]; omega))) <| QR.q' (fun w' hw' => r_fa fa32_2 rfl) <| QR.q' (fun w' hw' => r_ld (v := .int .i64 r.Copied) sca3 rfl (((hb6).lo hw').cell rfl)) <| QR.call ent50 (fun w' hw' => (c_impl_text w' r.Copied (by omega) (hE.lo (hB8.trans hw'))).mono fun _ _ h => ⟨h.1, hw'.trans h.2⟩) rfl <| ?_
  have hq11 : (Lib.itoa r.Copied).length ≤ 21 := itoa_len (n := r.Copied) (by omega) (by omega)
  refine QR.q' (fun w' hw' => r_cat rfl rfl (by first | omega | (simp only [List.length_append, List.length_cons, List.length_nil, List.length_take, List.length_drop]; omega))) <| QR.q' (fun w' hw' => r_cat rfl rfl (by first | omega | (simp only [List.length_append, List.length_cons, List.length_nil, List.length_take, List.length_drop]; omega))) <| QR.q' (fun w' hw' => r_as (v := str _) rfl) <| QR.nil ?_
  intro w12 hk13
  have hz14 := hk13.size
  have hB15 := hB8.lo hk13
  refine W.seq ?_
  refine W.seq ?_
  refine W.regS (SR.q' (r_fa fa32_3 rfl) <| SR.q' (r_ld (v := .int .i64 r.Given) sca3 rfl (((hb6).lo hk13).cell rfl)) <| SR.q' (r_ne rfl rfl) <| SR.nil ?_)
  refine W.cond_n rfl (fun h16 => ?_) (fun h16 => ?_)
  · refine W.regS (SR.q' (r_mv (v := str _) rfl) <| SR.q' (r_fa fa32_3 rfl) <| SR.q' (r_ld (v := .int .i64 r.Given) sca3 rfl (((hb6).lo hk13).cell rfl)) <| SR.call ent50 (c_impl_text w12 r.Given (by omega) (hE.lo (hB15))) rfl ?_)
    rintro e w17 ⟨rfl, hk18⟩
    refine ⟨_, rfl, ?_⟩
    have hz19 := hk18.size
    have hB20 := hB15.lo hk18
    have hq21 : (Lib.itoa r.Given).length ≤ 21 := itoa_len (n := r.Given) (by omega) (by omega)
    refine SR.q' (r_cat rfl rfl (by first | omega | (simp only [List.length_append, List.length_cons, List.length_nil, List.length_take, List.length_drop]; omega))) <| SR.q' (r_cat rfl rfl (by first | omega | (simp only [List.length_append, List.length_cons, List.length_nil, List.length_take, List.length_drop]; omega))) <| SR.q' (r_cat rfl rfl (by first | omega | (simp only [List.length_append, List.length_cons, List.length_nil, List.length_take, List.length_drop]; omega))) <| SR.q' (r_as (v := str _) rfl) <| SR.nil ?_
    refine W.seq ?_
    refine W.seq ?_
    refine W.regS (SR.q' (r_fa fa32_4 rfl) <| SR.q' (r_ld (v := .int .i64 r.Fines) sca3 rfl ((((hb6).lo hk13).lo hk18).cell rfl)) <| SR.q' (r_ne rfl rfl) <| SR.nil ?_)
    refine W.cond_n rfl (fun h22 => ?_) (fun h22 => ?_)
    · refine W.regD mo (by kernel_rfl) (QR.q' (fun w' hw' => r_mv (v := str _) rfl) <| QR.q' (fun w' hw' => r_fa fa32_4 rfl) <| QR.q' (fun w' hw' => r_ld (v := .int .i64 r.Fines) sca3 rfl (((((hb6).lo hk13).lo hk18).lo hw').cell rfl)) <| QR.q' (fun w' hw' => r_quo rfl rfl (by omega)) <| QR.call ent50 (fun w' hw' => (c_impl_text w' (r.Fines / 100) (by omega) (hE.lo (hB20.trans hw'))).mono fun _ _ h => ⟨h.1, hw'.trans h.2⟩) rfl <| ?_)
      have hq23 : (Lib.itoa (r.Fines / 100)).length ≤ 21 := itoa_len (n := r.Fines / 100) (by omega) (by omega)
      refine QR.q' (fun w' hw' => r_cat rfl rfl (by first | omega | (simp only [List.length_append, List.length_cons, List.length_nil, List.length_take, List.length_drop]; omega))) <| QR.q' (fun w' hw' => r_cat rfl rfl (by first | omega | (simp only [List.length_append, List.length_cons, List.length_nil, List.length_take, List.length_drop]; omega))) <| QR.q' (fun w' hw' => r_fa fa32_4 rfl) <| QR.q' (fun w' hw' => r_ld (v := .int .i64 r.Fines) sca3 rfl (((((hb6).lo hk13).lo hk18).lo hw').cell rfl)) <| QR.q' (fun w' hw' => r_rem rfl rfl (by omega)) <| QR.call ent78 (fun w' hw' => (c_impl_twoDigits w' (r.Fines % 100) (by omega) (hE.lo (hB20.trans hw'))).mono fun _ _ h => ⟨h.1, hw'.trans h.2⟩) rfl <| ?_
      have hq24 : (twoD (r.Fines % 100)).length ≤ 42 := two_len (n := r.Fines % 100) (by omega)
      refine QR.q' (fun w' hw' => r_cat rfl rfl (by first | omega | (simp only [List.length_append, List.length_cons, List.length_nil, List.length_take, List.length_drop]; omega))) <| QR.q' (fun w' hw' => r_cat rfl rfl (by first | omega | (simp only [List.length_append, List.length_cons, List.length_nil, List.length_take, List.length_drop]; omega))) <| QR.q' (fun w' hw' => r_as (v := str _) rfl) <| QR.nil ?_
      intro w25 hk26
      have hz27 := hk26.size
      have hB28 := hB20.lo hk26
      refine W.seq ?_
      refine W.regS (SR.q' (r_mv (v := str _) rfl) <| SR.q' (r_as (v := str _) rfl) <| SR.nil ?_)
      refine W.ret ?_
      refine ret1 rfl (v := str _) rfl ?_
      exact ⟨eR (eS (z_c_impl_libLine_29 r hp0 hq9 hq10 hq11 h16 hq21 h22 hq23 hq24)), hB28⟩
    · refine W.skip ?_
      refine W.seq ?_
      refine W.regS (SR.q' (r_mv (v := str _) rfl) <| SR.q' (r_as (v := str _) rfl) <| SR.nil ?_)
      refine W.ret ?_
      refine ret1 rfl (v := str _) rfl ?_
      exact ⟨eR (eS (z_c_impl_libLine_30 r hp0 hq9 hq10 hq11 h16 hq21 h22)), hB20⟩
  · refine W.skip ?_
    refine W.seq ?_
    refine W.seq ?_
    refine W.regS (SR.q' (r_fa fa32_4 rfl) <| SR.q' (r_ld (v := .int .i64 r.Fines) sca3 rfl (((hb6).lo hk13).cell rfl)) <| SR.q' (r_ne rfl rfl) <| SR.nil ?_)
    refine W.cond_n rfl (fun h31 => ?_) (fun h31 => ?_)
    · refine W.regD mo (by kernel_rfl) (QR.q' (fun w' hw' => r_mv (v := str _) rfl) <| QR.q' (fun w' hw' => r_fa fa32_4 rfl) <| QR.q' (fun w' hw' => r_ld (v := .int .i64 r.Fines) sca3 rfl ((((hb6).lo hk13).lo hw').cell rfl)) <| QR.q' (fun w' hw' => r_quo rfl rfl (by omega)) <| QR.call ent50 (fun w' hw' => (c_impl_text w' (r.Fines / 100) (by omega) (hE.lo (hB15.trans hw'))).mono fun _ _ h => ⟨h.1, hw'.trans h.2⟩) rfl <| ?_)
      have hq32 : (Lib.itoa (r.Fines / 100)).length ≤ 21 := itoa_len (n := r.Fines / 100) (by omega) (by omega)
      refine QR.q' (fun w' hw' => r_cat rfl rfl (by first | omega | (simp only [List.length_append, List.length_cons, List.length_nil, List.length_take, List.length_drop]; omega))) <| QR.q' (fun w' hw' => r_cat rfl rfl (by first | omega | (simp only [List.length_append, List.length_cons, List.length_nil, List.length_take, List.length_drop]; omega))) <| QR.q' (fun w' hw' => r_fa fa32_4 rfl) <| QR.q' (fun w' hw' => r_ld (v := .int .i64 r.Fines) sca3 rfl ((((hb6).lo hk13).lo hw').cell rfl)) <| QR.q' (fun w' hw' => r_rem rfl rfl (by omega)) <| QR.call ent78 (fun w' hw' => (c_impl_twoDigits w' (r.Fines % 100) (by omega) (hE.lo (hB15.trans hw'))).mono fun _ _ h => ⟨h.1, hw'.trans h.2⟩) rfl <| ?_
      have hq33 : (twoD (r.Fines % 100)).length ≤ 42 := two_len (n := r.Fines % 100) (by omega)
      refine QR.q' (fun w' hw' => r_cat rfl rfl (by first | omega | (simp only [List.length_append, List.length_cons, List.length_nil, List.length_take, List.length_drop]; omega))) <| QR.q' (fun w' hw' => r_cat rfl rfl (by first | omega | (simp only [List.length_append, List.length_cons, List.length_nil, List.length_take, List.length_drop]; omega))) <| QR.q' (fun w' hw' => r_as (v := str _) rfl) <| QR.nil ?_
      intro w34 hk35
      have hz36 := hk35.size
      have hB37 := hB15.lo hk35
      refine W.seq ?_
      refine W.regS (SR.q' (r_mv (v := str _) rfl) <| SR.q' (r_as (v := str _) rfl) <| SR.nil ?_)
      refine W.ret ?_
      refine ret1 rfl (v := str _) rfl ?_
      exact ⟨eR (eS (z_c_impl_libLine_38 r hp0 hq9 hq10 hq11 h16 h31 hq32 hq33)), hB37⟩
    · refine W.skip ?_
      refine W.seq ?_
      refine W.regS (SR.q' (r_mv (v := str _) rfl) <| SR.q' (r_as (v := str _) rfl) <| SR.nil ?_)
      refine W.ret ?_
      refine ret1 rfl (v := str _) rfl ?_
      exact ⟨eR (eS (z_c_impl_libLine_39 r hp0 hq9 hq10 hq11 h16 h31)), hB15⟩

theorem z_c_spec_LibLine_14 (r : LibRow) (h13 : ¬ (RowOK r)) : ([] : List UInt8) = (if RowOK r then lineT r else []) := by
  first | rw [if_pos ‹_›] | rw [if_neg ‹_›] | assumption | (exfalso; exact ‹¬ _› ‹_›)
theorem z_c_spec_LibLine_15 (r : LibRow) (h13 : ¬ (RowOK r)) : ¬ (RowOK r) := by
  first | rw [if_pos ‹_›] | rw [if_neg ‹_›] | assumption | (exfalso; exact ‹¬ _› ‹_›)
theorem z_c_spec_LibLine_21 (r : LibRow) (h13 : RowOK r) (hq20 : (lineT r).length ≤ 300) : lineT r = (if RowOK r then lineT r else []) := by
  first | rw [if_pos ‹_›] | rw [if_neg ‹_›] | assumption | (exfalso; exact ‹¬ _› ‹_›)
theorem z_c_spec_LibLine_22 (r : LibRow) (h13 : RowOK r) (hq20 : (lineT r).length ≤ 300) : RowOK r := by
  first | rw [if_pos ‹_›] | rw [if_neg ‹_›] | assumption | (exfalso; exact ‹¬ _› ‹_›)
theorem c_spec_LibLine (w : World) (r : LibRow) : Calls Tryd.prog 16 #[.agg (List.toArray (encLibRow r))] w fun e w' => e = .returned (.tuple (List.toArray [str (if RowOK r then lineT r else []), .bool (decide (RowOK r))])) ∧ Lo w w' := by
  refine calls_W 9 Tryd.func16 rfl rfl rfl ?_
  refine W.seq ?_
  refine W.regS (SR.box (v := .agg (List.toArray _)) (l := [.int .i64 r.Month, .int .i64 r.Lent, .int .i64 r.Copied, .int .i64 r.Given, .int .i64 r.Fines]) rfl rfl ?_)
  intro g1 w2 hg3 hk4 hs5 hb6
  have hz7 := hk4.size
  have hB8 := (Lo.refl w).lo hk4
  refine SR.q' (r_as (v := str ([] : List UInt8)) rfl) <| SR.q' (r_as (v := .bool false) rfl) <| SR.nil ?_
  refine W.seq ?_
  refine W.seq ?_
  refine W.regS (SR.q' (r_lda (l := [.int .i64 r.Month, .int .i64 r.Lent, .int .i64 r.Copied, .int .i64 r.Given, .int .i64 r.Fines]) agg32 rfl (fun _ _ hu => (hb6).cell hu) rfl) <| SR.call ent52 (c_spec_l31One w2 r) rfl ?_)
  rintro e w9 ⟨rfl, hk10⟩
  refine ⟨_, rfl, ?_⟩
  have hz11 := hk10.size
  have hB12 := hB8.lo hk10
  refine SR.q' (r_not rfl) <| SR.nil ?_
  refine W.cond_n rfl (fun h13 => ?_) (fun h13 => ?_)
  · refine W.seq ?_
    refine W.regS (SR.q' (r_as (v := str ([] : List UInt8)) rfl) <| SR.q' (r_as (v := .bool false) rfl) <| SR.nil ?_)
    refine W.ret ?_
    refine ret2 rfl (v := str _) (v' := .bool _) rfl rfl ?_
    exact ⟨eR (eT2 (eS (z_c_spec_LibLine_14 r h13)) (eDF (z_c_spec_LibLine_15 r h13))), hB12⟩
  · refine W.skip ?_
    refine W.seq ?_
    refine W.regS (SR.q' (r_lda (l := [.int .i64 r.Month, .int .i64 r.Lent, .int .i64 r.Copied, .int .i64 r.Given, .int .i64 r.Fines]) agg32 rfl (fun _ _ hu => ((hb6).lo hk10).cell hu) rfl) <| SR.call ent53 (c_spec_l31Line w9 r (by first | assumption | exact rows_row ‹RowsOK L› ‹_[_]? = some _›)) rfl ?_)
    rintro e w16 ⟨rfl, hk17⟩
    refine ⟨_, rfl, ?_⟩
    have hz18 := hk17.size
    have hB19 := hB12.lo hk17
    have hq20 : (lineT r).length ≤ 300 := line_len (by first | assumption | exact rows_row ‹RowsOK L› ‹_[_]? = some _›)
    refine SR.q' (r_as (v := str _) rfl) <| SR.q' (r_as (v := .bool true) rfl) <| SR.nil ?_
    refine W.ret ?_
    refine ret2 rfl (v := str _) (v' := .bool _) rfl rfl ?_
    exact ⟨eR (eT2 (eS (z_c_spec_LibLine_21 r h13 hq20)) (eDT (z_c_spec_LibLine_22 r h13 hq20))), hB19⟩

theorem z_c_impl_LibLine_14 (r : LibRow) (h13 : ¬ (RowOK r)) : ([] : List UInt8) = (if RowOK r then lineT r else []) := by
  first | rw [if_pos ‹_›] | rw [if_neg ‹_›] | assumption | (exfalso; exact ‹¬ _› ‹_›)
theorem z_c_impl_LibLine_15 (r : LibRow) (h13 : ¬ (RowOK r)) : ¬ (RowOK r) := by
  first | rw [if_pos ‹_›] | rw [if_neg ‹_›] | assumption | (exfalso; exact ‹¬ _› ‹_›)
theorem z_c_impl_LibLine_21 (r : LibRow) (h13 : RowOK r) (hq20 : (lineT r).length ≤ 300) : lineT r = (if RowOK r then lineT r else []) := by
  first | rw [if_pos ‹_›] | rw [if_neg ‹_›] | assumption | (exfalso; exact ‹¬ _› ‹_›)
theorem z_c_impl_LibLine_22 (r : LibRow) (h13 : RowOK r) (hq20 : (lineT r).length ≤ 300) : RowOK r := by
  first | rw [if_pos ‹_›] | rw [if_neg ‹_›] | assumption | (exfalso; exact ‹¬ _› ‹_›)
theorem c_impl_LibLine (w : World) (r : LibRow) (hE : EnvW w) : Calls Tryd.prog 18 #[.agg (List.toArray (encLibRow r))] w fun e w' => e = .returned (.tuple (List.toArray [str (if RowOK r then lineT r else []), .bool (decide (RowOK r))])) ∧ Lo w w' := by
  refine calls_W 9 Tryd.func18 rfl rfl rfl ?_
  refine W.seq ?_
  refine W.regS (SR.box (v := .agg (List.toArray _)) (l := [.int .i64 r.Month, .int .i64 r.Lent, .int .i64 r.Copied, .int .i64 r.Given, .int .i64 r.Fines]) rfl rfl ?_)
  intro g1 w2 hg3 hk4 hs5 hb6
  have hz7 := hk4.size
  have hB8 := (Lo.refl w).lo hk4
  refine SR.q' (r_as (v := str ([] : List UInt8)) rfl) <| SR.q' (r_as (v := .bool false) rfl) <| SR.nil ?_
  refine W.seq ?_
  refine W.seq ?_
  refine W.regS (SR.q' (r_lda (l := [.int .i64 r.Month, .int .i64 r.Lent, .int .i64 r.Copied, .int .i64 r.Given, .int .i64 r.Fines]) agg32 rfl (fun _ _ hu => (hb6).cell hu) rfl) <| SR.call ent54 (c_impl_IsLibRow w2 r) rfl ?_)
  rintro e w9 ⟨rfl, hk10⟩
  refine ⟨_, rfl, ?_⟩
  have hz11 := hk10.size
  have hB12 := hB8.lo hk10
  refine SR.q' (r_not rfl) <| SR.nil ?_
  refine W.cond_n rfl (fun h13 => ?_) (fun h13 => ?_)
  · refine W.seq ?_
    refine W.regS (SR.q' (r_as (v := str ([] : List UInt8)) rfl) <| SR.q' (r_as (v := .bool false) rfl) <| SR.nil ?_)
    refine W.ret ?_
    refine ret2 rfl (v := str _) (v' := .bool _) rfl rfl ?_
    exact ⟨eR (eT2 (eS (z_c_impl_LibLine_14 r h13)) (eDF (z_c_impl_LibLine_15 r h13))), hB12⟩
  · refine W.skip ?_
    refine W.seq ?_
    refine W.regS (SR.q' (r_lda (l := [.int .i64 r.Month, .int .i64 r.Lent, .int .i64 r.Copied, .int .i64 r.Given, .int .i64 r.Fines]) agg32 rfl (fun _ _ hu => ((hb6).lo hk10).cell hu) rfl) <| SR.call ent55 (c_impl_libLine w9 r (by first | assumption | exact rows_row ‹RowsOK L› ‹_[_]? = some _›) (hE.lo (hB12))) rfl ?_)
    rintro e w16 ⟨rfl, hk17⟩
    refine ⟨_, rfl, ?_⟩
    have hz18 := hk17.size
    have hB19 := hB12.lo hk17
    have hq20 : (lineT r).length ≤ 300 := line_len (by first | assumption | exact rows_row ‹RowsOK L› ‹_[_]? = some _›)
    refine SR.q' (r_as (v := str _) rfl) <| SR.q' (r_as (v := .bool true) rfl) <| SR.nil ?_
    refine W.ret ?_
    refine ret2 rfl (v := str _) (v' := .bool _) rfl rfl ?_
    exact ⟨eR (eT2 (eS (z_c_impl_LibLine_21 r h13 hq20)) (eDT (z_c_impl_LibLine_22 r h13 hq20))), hB19⟩

theorem c_laws_FnExactLibLine (w : World) (r : LibRow) (hE : EnvW w) : Calls Tryd.prog 4 #[.agg (List.toArray (encLibRow r))] w fun e w' => e = .returned (.bool true) ∧ Lo w w' := by
  refine calls_W 27 Tryd.func4 rfl rfl rfl ?_
  refine W.seq ?_
  refine W.regS (SR.box (v := .agg (List.toArray _)) (l := [.int .i64 r.Month, .int .i64 r.Lent, .int .i64 r.Copied, .int .i64 r.Given, .int .i64 r.Fines]) rfl rfl ?_)
  intro g1 w2 hg3 hk4 hs5 hb6
  have hz7 := hk4.size
  have hB8 := (Lo.refl w).lo hk4
  refine SR.q' (r_as (v := .bool false) rfl) <| SR.nil ?_
  refine W.seq ?_
  refine W.regS (SR.q' (r_lda (l := [.int .i64 r.Month, .int .i64 r.Lent, .int .i64 r.Copied, .int .i64 r.Given, .int .i64 r.Fines]) agg30 rfl (fun _ _ hu => (hb6).cell hu) rfl) <| SR.call ent17 (c_laws_toLibRow w2 r) rfl ?_)
  rintro e w9 ⟨rfl, hk10⟩
  refine ⟨_, rfl, ?_⟩
  have hz11 := hk10.size
  have hB12 := hB8.lo hk10
  refine SR.call ent16 (c_spec_LibLine w9 r) rfl ?_
  rintro e w13 ⟨rfl, hk14⟩
  refine ⟨_, rfl, ?_⟩
  have hz15 := hk14.size
  have hB16 := hB12.lo hk14
  refine SR.q' (r_mv (v := .tuple (List.toArray _)) rfl) <| SR.q' (r_ext (v := str _) rfl rfl) <| SR.q' (r_ext (v := .bool _) rfl rfl) <| SR.q' (r_as (v := str _) rfl) <| SR.q' (r_as (v := .bool _) rfl) <| SR.nil ?_
  refine W.seq ?_
  refine W.regS (SR.q' (r_lda (l := [.int .i64 r.Month, .int .i64 r.Lent, .int .i64 r.Copied, .int .i64 r.Given, .int .i64 r.Fines]) agg30 rfl (fun _ _ hu => (((hb6).lo hk10).lo hk14).cell hu) rfl) <| SR.call ent17 (c_laws_toLibRow w13 r) rfl ?_)
  rintro e w17 ⟨rfl, hk18⟩
  refine ⟨_, rfl, ?_⟩
  have hz19 := hk18.size
  have hB20 := hB16.lo hk18
  refine SR.call ent18 (c_impl_LibLine w17 r (hE.lo (hB20))) rfl ?_
  rintro e w21 ⟨rfl, hk22⟩
  refine ⟨_, rfl, ?_⟩
  have hz23 := hk22.size
  have hB24 := hB20.lo hk22
  refine SR.q' (r_mv (v := .tuple (List.toArray _)) rfl) <| SR.q' (r_ext (v := str _) rfl rfl) <| SR.q' (r_ext (v := .bool _) rfl rfl) <| SR.q' (r_as (v := str _) rfl) <| SR.q' (r_as (v := .bool _) rfl) <| SR.nil ?_
  refine W.seq ?_
  refine W.seq ?_
  refine W.regS (SR.q' (r_mv (v := str _) rfl) <| SR.q' (r_mv (v := str _) rfl) <| SR.q' (r_nes_s (s := (if RowOK r then lineT r else [])) rfl rfl) <| SR.q' (r_mv (v := .bool _) rfl) <| SR.g' rfl (r_mv (v := .bool _) rfl) <| SR.g' rfl (r_mv (v := .bool _) rfl) <| SR.g' rfl (r_neb_s und4 rfl rfl) <| SR.q' (r_pick false rfl (v := .bool _) rfl) <| SR.nil ?_)
  refine W.cond_f rfl ?_
  refine W.skip ?_
  refine W.seq ?_
  refine W.regS (SR.q' (r_as (v := .bool true) rfl) <| SR.nil ?_)
  refine W.ret ?_
  refine ret1 rfl (v := .bool _) rfl ?_
  exact ⟨eR rfl, hB24⟩
end Go.Proofs.YtdldiiboanhabaaDoor
