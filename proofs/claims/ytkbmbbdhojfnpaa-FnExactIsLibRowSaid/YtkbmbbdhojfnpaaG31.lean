/- Walks, printed by a program of this claim's author. -/
import Derived.Test.YtkbmbbdhojfnpaaChecked
import Derived.Test.YtkbmbbdhojfnpaaLa
namespace Go.Proofs.Ytkbmbbdhojfnpaa
open Go Go.RowKit Fw
set_option maxRecDepth 10000
set_option linter.unusedVariables false
theorem mo : Try.prog.follows .mixedOrders = true := by kernel_rfl
theorem agg23 : TAgg Try.prog 23 5 := ⟨fun _ => by kernel_rfl, fun _ => by kernel_rfl⟩
theorem agg25 : TAgg Try.prog 25 5 := ⟨fun _ => by kernel_rfl, fun _ => by kernel_rfl⟩
theorem ent11 : Ent Try.prog 11 := ent_of Try.func11 (by decide +kernel) rfl
theorem ent12 : Ent Try.prog 12 := ent_of Try.func12 (by decide +kernel) rfl
theorem ent13 : Ent Try.prog 13 := ent_of Try.func13 (by decide +kernel) rfl
theorem ent36 : Ent Try.prog 36 := ent_of Try.func36 (by decide +kernel) rfl
theorem ent37 : Ent Try.prog 37 := ent_of Try.func37 (by decide +kernel) rfl
theorem ent47 : Ent Try.prog 47 := ent_of Try.func47 (by decide +kernel) rfl
theorem fa23_0 : FA Try.prog 23 0 0 := fun _ _ => by kernel_rfl
theorem fa23_1 : FA Try.prog 23 1 1 := fun _ _ => by kernel_rfl
theorem fa23_2 : FA Try.prog 23 2 2 := fun _ _ => by kernel_rfl
theorem fa23_3 : FA Try.prog 23 3 3 := fun _ _ => by kernel_rfl
theorem fa23_4 : FA Try.prog 23 4 4 := fun _ _ => by kernel_rfl
theorem fa25_0 : FA Try.prog 25 0 0 := fun _ _ => by kernel_rfl
theorem fa25_1 : FA Try.prog 25 1 1 := fun _ _ => by kernel_rfl
theorem fa25_2 : FA Try.prog 25 2 2 := fun _ _ => by kernel_rfl
theorem fa25_3 : FA Try.prog 25 3 3 := fun _ _ => by kernel_rfl
theorem fa25_4 : FA Try.prog 25 4 4 := fun _ _ => by kernel_rfl
theorem sca3 : TSca Try.prog 3 := ⟨fun _ => by kernel_rfl, fun _ => by kernel_rfl⟩
theorem tsl31 : TSl Try.prog 31 25 5 := ⟨by kernel_rfl, fun _ => by kernel_rfl⟩
theorem tz25 : TZ Try.prog 25 (.agg (List.toArray [.int .i64 0, .int .i64 0, .int .i64 0, .int .i64 0, .int .i64 0])) := fun _ => by kernel_rfl
theorem und31 : Try.prog.underlying 31 = some (.slice 25) := by kernel_rfl
theorem und4 : Try.prog.underlying 4 = some (.bool) := by kernel_rfl

theorem z_c_spec_l1In_2 (n : Int) (a : Int) (b : Int) (h1 : a ≤ n) : (n ≤ b) ↔ (a ≤ n ∧ n ≤ b) := by
  omega
theorem z_c_spec_l1In_3 (n : Int) (a : Int) (b : Int) (h1 : ¬ (a ≤ n)) : ¬ (a ≤ n ∧ n ≤ b) := by
  omega
theorem c_spec_l1In (w : World) (n : Int) (a : Int) (b : Int) : Calls Try.prog 47 #[.int .i64 n, .int .i64 a, .int .i64 b] w fun e w' => e = .returned (.bool (decide (a ≤ n ∧ n ≤ b))) ∧ Lo w w' := by
  refine calls_W 15 Try.func47 rfl rfl rfl ?_
  refine W.seq ?_
  refine W.regS (SR.q' (r_as (v := .bool false) rfl) <| SR.nil ?_)
  refine W.seq ?_
  refine W.regS (SR.q' (r_mv (v := .int .i64 _) rfl) <| SR.q' (r_mv (v := .int .i64 _) rfl) <| SR.q' (r_ge rfl rfl) <| SR.q' (r_mv (v := .bool _) rfl) <| SR.splitD (fun h1 => ?_) (fun h1 => ?_))
  · refine SR.g' rfl (r_mv (v := .int .i64 _) rfl) <| SR.g' rfl (r_mv (v := .int .i64 _) rfl) <| SR.g' rfl (r_le rfl rfl) <| SR.q' (r_pick true rfl (v := .bool _) rfl) <| SR.q' (r_as (v := .bool _) rfl) <| SR.nil ?_
    refine W.ret ?_
    refine ret1 rfl (v := .bool _) rfl ?_
    exact ⟨eR (eDD (z_c_spec_l1In_2 n a b h1)), (Lo.refl w)⟩
  · refine SR.s' rfl <| SR.s' rfl <| SR.s' rfl <| SR.q' (r_pick false rfl (v := .bool false) rfl) <| SR.q' (r_as (v := .bool _) rfl) <| SR.nil ?_
    refine W.ret ?_
    refine ret1 rfl (v := .bool _) rfl ?_
    exact ⟨eR (eDF (z_c_spec_l1In_3 n a b h1)), (Lo.refl w)⟩

theorem z_c_impl_within_5 (n : Int) (a : Int) (b : Int) (h4 : a ≤ n) : (n ≤ b) ↔ (a ≤ n ∧ n ≤ b) := by
  omega
theorem z_c_impl_within_6 (n : Int) (a : Int) (b : Int) (h4 : ¬ (a ≤ n)) : ¬ (a ≤ n ∧ n ≤ b) := by
  omega
theorem c_impl_within (w : World) (n : Int) (a : Int) (b : Int) : Calls Try.prog 37 #[.int .i64 n, .int .i64 a, .int .i64 b] w fun e w' => e = .returned (.bool (decide (a ≤ n ∧ n ≤ b))) ∧ Lo w w' := by
  refine calls_W 15 Try.func37 rfl rfl rfl ?_
  refine W.seq ?_
  refine W.regS (SR.q' (r_as (v := .bool false) rfl) <| SR.nil ?_)
  refine W.seq ?_
  refine W.regS (SR.q' (r_mv (v := .int .i64 _) rfl) <| SR.q' (r_mv (v := .int .i64 _) rfl) <| SR.q' (r_ge rfl rfl) <| SR.q' (r_mv (v := .bool _) rfl) <| SR.splitD (fun h4 => ?_) (fun h4 => ?_))
  · refine SR.g' rfl (r_mv (v := .int .i64 _) rfl) <| SR.g' rfl (r_mv (v := .int .i64 _) rfl) <| SR.g' rfl (r_le rfl rfl) <| SR.q' (r_pick true rfl (v := .bool _) rfl) <| SR.q' (r_as (v := .bool _) rfl) <| SR.nil ?_
    refine W.ret ?_
    refine ret1 rfl (v := .bool _) rfl ?_
    exact ⟨eR (eDD (z_c_impl_within_5 n a b h4)), (Lo.refl w)⟩
  · refine SR.s' rfl <| SR.s' rfl <| SR.s' rfl <| SR.q' (r_pick false rfl (v := .bool false) rfl) <| SR.q' (r_as (v := .bool _) rfl) <| SR.nil ?_
    refine W.ret ?_
    refine ret1 rfl (v := .bool _) rfl ?_
    exact ⟨eR (eDF (z_c_impl_within_6 n a b h4)), (Lo.refl w)⟩

theorem z_c_spec_l31One_39 (r : LibRow) (h19 : 1 ≤ r.Month ∧ r.Month ≤ 1200) (h24 : 0 ≤ r.Lent ∧ r.Lent ≤ 9999) (h29 : 0 ≤ r.Copied ∧ r.Copied ≤ 9999) (h34 : 0 ≤ r.Given ∧ r.Given ≤ 999) : (0 ≤ r.Fines ∧ r.Fines ≤ 99999) ↔ (RowOK r) := by
  unfold RowOK; omega
theorem z_c_spec_l31One_40 (r : LibRow) (h19 : 1 ≤ r.Month ∧ r.Month ≤ 1200) (h24 : 0 ≤ r.Lent ∧ r.Lent ≤ 9999) (h29 : 0 ≤ r.Copied ∧ r.Copied ≤ 9999) (h34 : ¬ (0 ≤ r.Given ∧ r.Given ≤ 999)) : ¬ (RowOK r) := by
  unfold RowOK; omega
theorem z_c_spec_l31One_41 (r : LibRow) (h19 : 1 ≤ r.Month ∧ r.Month ≤ 1200) (h24 : 0 ≤ r.Lent ∧ r.Lent ≤ 9999) (h29 : ¬ (0 ≤ r.Copied ∧ r.Copied ≤ 9999)) : ¬ (RowOK r) := by
  unfold RowOK; omega
theorem z_c_spec_l31One_42 (r : LibRow) (h19 : 1 ≤ r.Month ∧ r.Month ≤ 1200) (h24 : ¬ (0 ≤ r.Lent ∧ r.Lent ≤ 9999)) : ¬ (RowOK r) := by
  unfold RowOK; omega
theorem z_c_spec_l31One_43 (r : LibRow) (h19 : ¬ (1 ≤ r.Month ∧ r.Month ≤ 1200)) : ¬ (RowOK r) := by
  unfold RowOK; omega
theorem c_spec_l31One (w : World) (r : LibRow) : Calls Try.prog 36 #[.agg (List.toArray (encLibRow r))] w fun e w' => e = .returned (.bool (decide (RowOK r))) ∧ Lo w w' := by
  refine calls_W 26 Try.func36 rfl rfl rfl ?_
  refine W.seq ?_
  refine W.regS (SR.box (v := .agg (List.toArray _)) (l := [.int .i64 r.Month, .int .i64 r.Lent, .int .i64 r.Copied, .int .i64 r.Given, .int .i64 r.Fines]) rfl rfl ?_)
  intro g7 w8 hg9 hk10 hs11 hb12
  have hz13 := hk10.size
  have hB14 := (Lo.refl w).lo hk10
  refine SR.q' (r_as (v := .bool false) rfl) <| SR.nil ?_
  refine W.seq ?_
  refine W.regS (SR.q' (r_fa fa25_0 rfl) <| SR.q' (r_ld (v := .int .i64 r.Month) sca3 rfl ((hb12).cell rfl)) <| SR.call ent47 (c_spec_l1In w8 r.Month 1 1200) rfl ?_)
  rintro e w15 ⟨rfl, hk16⟩
  refine ⟨_, rfl, ?_⟩
  have hz17 := hk16.size
  have hB18 := hB14.lo hk16
  refine SR.q' (r_mv (v := .bool _) rfl) <| SR.splitD (fun h19 => ?_) (fun h19 => ?_)
  · refine SR.g' rfl (r_fa fa25_1 rfl) <| SR.g' rfl (r_ld (v := .int .i64 r.Lent) sca3 rfl (((hb12).lo hk16).cell rfl)) <| SR.gcall rfl ent47 (c_spec_l1In w15 r.Lent 0 9999) rfl ?_
    rintro e w20 ⟨rfl, hk21⟩
    refine ⟨_, rfl, ?_⟩
    have hz22 := hk21.size
    have hB23 := hB18.lo hk21
    refine SR.q' (r_pick true rfl (v := .bool _) rfl) <| SR.q' (r_mv (v := .bool _) rfl) <| SR.splitD (fun h24 => ?_) (fun h24 => ?_)
    · refine SR.g' rfl (r_fa fa25_2 rfl) <| SR.g' rfl (r_ld (v := .int .i64 r.Copied) sca3 rfl ((((hb12).lo hk16).lo hk21).cell rfl)) <| SR.gcall rfl ent47 (c_spec_l1In w20 r.Copied 0 9999) rfl ?_
      rintro e w25 ⟨rfl, hk26⟩
      refine ⟨_, rfl, ?_⟩
      have hz27 := hk26.size
      have hB28 := hB23.lo hk26
      refine SR.q' (r_pick true rfl (v := .bool _) rfl) <| SR.q' (r_mv (v := .bool _) rfl) <| SR.splitD (fun h29 => ?_) (fun h29 => ?_)
      · refine SR.g' rfl (r_fa fa25_3 rfl) <| SR.g' rfl (r_ld (v := .int .i64 r.Given) sca3 rfl (((((hb12).lo hk16).lo hk21).lo hk26).cell rfl)) <| SR.gcall rfl ent47 (c_spec_l1In w25 r.Given 0 999) rfl ?_
        rintro e w30 ⟨rfl, hk31⟩
        refine ⟨_, rfl, ?_⟩
        have hz32 := hk31.size
        have hB33 := hB28.lo hk31
        refine SR.q' (r_pick true rfl (v := .bool _) rfl) <| SR.q' (r_mv (v := .bool _) rfl) <| SR.splitD (fun h34 => ?_) (fun h34 => ?_)
        · refine SR.g' rfl (r_fa fa25_4 rfl) <| SR.g' rfl (r_ld (v := .int .i64 r.Fines) sca3 rfl ((((((hb12).lo hk16).lo hk21).lo hk26).lo hk31).cell rfl)) <| SR.gcall rfl ent47 (c_spec_l1In w30 r.Fines 0 99999) rfl ?_
          rintro e w35 ⟨rfl, hk36⟩
          refine ⟨_, rfl, ?_⟩
          have hz37 := hk36.size
          have hB38 := hB33.lo hk36
          refine SR.q' (r_pick true rfl (v := .bool _) rfl) <| SR.q' (r_as (v := .bool _) rfl) <| SR.nil ?_
          refine W.ret ?_
          refine ret1 rfl (v := .bool _) rfl ?_
          exact ⟨eR (eDD (z_c_spec_l31One_39 r h19 h24 h29 h34)), hB38⟩
        · refine SR.s' rfl <| SR.s' rfl <| SR.s' rfl <| SR.q' (r_pick false rfl (v := .bool false) rfl) <| SR.q' (r_as (v := .bool _) rfl) <| SR.nil ?_
          refine W.ret ?_
          refine ret1 rfl (v := .bool _) rfl ?_
          exact ⟨eR (eDF (z_c_spec_l31One_40 r h19 h24 h29 h34)), hB33⟩
      · refine SR.s' rfl <| SR.s' rfl <| SR.s' rfl <| SR.q' (r_pick false rfl (v := .bool false) rfl) <| SR.q' (r_mv (v := .bool _) rfl) <| SR.s' rfl <| SR.s' rfl <| SR.s' rfl <| SR.q' (r_pick false rfl (v := .bool false) rfl) <| SR.q' (r_as (v := .bool _) rfl) <| SR.nil ?_
        refine W.ret ?_
        refine ret1 rfl (v := .bool _) rfl ?_
        exact ⟨eR (eDF (z_c_spec_l31One_41 r h19 h24 h29)), hB28⟩
    · refine SR.s' rfl <| SR.s' rfl <| SR.s' rfl <| SR.q' (r_pick false rfl (v := .bool false) rfl) <| SR.q' (r_mv (v := .bool _) rfl) <| SR.s' rfl <| SR.s' rfl <| SR.s' rfl <| SR.q' (r_pick false rfl (v := .bool false) rfl) <| SR.q' (r_mv (v := .bool _) rfl) <| SR.s' rfl <| SR.s' rfl <| SR.s' rfl <| SR.q' (r_pick false rfl (v := .bool false) rfl) <| SR.q' (r_as (v := .bool _) rfl) <| SR.nil ?_
      refine W.ret ?_
      refine ret1 rfl (v := .bool _) rfl ?_
      exact ⟨eR (eDF (z_c_spec_l31One_42 r h19 h24)), hB23⟩
  · refine SR.s' rfl <| SR.s' rfl <| SR.s' rfl <| SR.q' (r_pick false rfl (v := .bool false) rfl) <| SR.q' (r_mv (v := .bool _) rfl) <| SR.s' rfl <| SR.s' rfl <| SR.s' rfl <| SR.q' (r_pick false rfl (v := .bool false) rfl) <| SR.q' (r_mv (v := .bool _) rfl) <| SR.s' rfl <| SR.s' rfl <| SR.s' rfl <| SR.q' (r_pick false rfl (v := .bool false) rfl) <| SR.q' (r_mv (v := .bool _) rfl) <| SR.s' rfl <| SR.s' rfl <| SR.s' rfl <| SR.q' (r_pick false rfl (v := .bool false) rfl) <| SR.q' (r_as (v := .bool _) rfl) <| SR.nil ?_
    refine W.ret ?_
    refine ret1 rfl (v := .bool _) rfl ?_
    exact ⟨eR (eDF (z_c_spec_l31One_43 r h19)), hB18⟩

theorem z_c_impl_IsLibRow_76 (r : LibRow) (h56 : 1 ≤ r.Month ∧ r.Month ≤ 1200) (h61 : 0 ≤ r.Lent ∧ r.Lent ≤ 9999) (h66 : 0 ≤ r.Copied ∧ r.Copied ≤ 9999) (h71 : 0 ≤ r.Given ∧ r.Given ≤ 999) : (0 ≤ r.Fines ∧ r.Fines ≤ 99999) ↔ (RowOK r) := by
  unfold RowOK; omega
theorem z_c_impl_IsLibRow_77 (r : LibRow) (h56 : 1 ≤ r.Month ∧ r.Month ≤ 1200) (h61 : 0 ≤ r.Lent ∧ r.Lent ≤ 9999) (h66 : 0 ≤ r.Copied ∧ r.Copied ≤ 9999) (h71 : ¬ (0 ≤ r.Given ∧ r.Given ≤ 999)) : ¬ (RowOK r) := by
  unfold RowOK; omega
theorem z_c_impl_IsLibRow_78 (r : LibRow) (h56 : 1 ≤ r.Month ∧ r.Month ≤ 1200) (h61 : 0 ≤ r.Lent ∧ r.Lent ≤ 9999) (h66 : ¬ (0 ≤ r.Copied ∧ r.Copied ≤ 9999)) : ¬ (RowOK r) := by
  unfold RowOK; omega
theorem z_c_impl_IsLibRow_79 (r : LibRow) (h56 : 1 ≤ r.Month ∧ r.Month ≤ 1200) (h61 : ¬ (0 ≤ r.Lent ∧ r.Lent ≤ 9999)) : ¬ (RowOK r) := by
  unfold RowOK; omega
theorem z_c_impl_IsLibRow_80 (r : LibRow) (h56 : ¬ (1 ≤ r.Month ∧ r.Month ≤ 1200)) : ¬ (RowOK r) := by
  unfold RowOK; omega
theorem c_impl_IsLibRow (w : World) (r : LibRow) : Calls Try.prog 13 #[.agg (List.toArray (encLibRow r))] w fun e w' => e = .returned (.bool (decide (RowOK r))) ∧ Lo w w' := by
  refine calls_W 26 Try.func13 rfl rfl rfl ?_
  refine W.seq ?_
  refine W.regS (SR.box (v := .agg (List.toArray _)) (l := [.int .i64 r.Month, .int .i64 r.Lent, .int .i64 r.Copied, .int .i64 r.Given, .int .i64 r.Fines]) rfl rfl ?_)
  intro g44 w45 hg46 hk47 hs48 hb49
  have hz50 := hk47.size
  have hB51 := (Lo.refl w).lo hk47
  refine SR.q' (r_as (v := .bool false) rfl) <| SR.nil ?_
  refine W.seq ?_
  refine W.regS (SR.q' (r_fa fa25_0 rfl) <| SR.q' (r_ld (v := .int .i64 r.Month) sca3 rfl ((hb49).cell rfl)) <| SR.call ent37 (c_impl_within w45 r.Month 1 1200) rfl ?_)
  rintro e w52 ⟨rfl, hk53⟩
  refine ⟨_, rfl, ?_⟩
  have hz54 := hk53.size
  have hB55 := hB51.lo hk53
  refine SR.q' (r_mv (v := .bool _) rfl) <| SR.splitD (fun h56 => ?_) (fun h56 => ?_)
  · refine SR.g' rfl (r_fa fa25_1 rfl) <| SR.g' rfl (r_ld (v := .int .i64 r.Lent) sca3 rfl (((hb49).lo hk53).cell rfl)) <| SR.gcall rfl ent37 (c_impl_within w52 r.Lent 0 9999) rfl ?_
    rintro e w57 ⟨rfl, hk58⟩
    refine ⟨_, rfl, ?_⟩
    have hz59 := hk58.size
    have hB60 := hB55.lo hk58
    refine SR.q' (r_pick true rfl (v := .bool _) rfl) <| SR.q' (r_mv (v := .bool _) rfl) <| SR.splitD (fun h61 => ?_) (fun h61 => ?_)
    · refine SR.g' rfl (r_fa fa25_2 rfl) <| SR.g' rfl (r_ld (v := .int .i64 r.Copied) sca3 rfl ((((hb49).lo hk53).lo hk58).cell rfl)) <| SR.gcall rfl ent37 (c_impl_within w57 r.Copied 0 9999) rfl ?_
      rintro e w62 ⟨rfl, hk63⟩
      refine ⟨_, rfl, ?_⟩
      have hz64 := hk63.size
      have hB65 := hB60.lo hk63
      refine SR.q' (r_pick true rfl (v := .bool _) rfl) <| SR.q' (r_mv (v := .bool _) rfl) <| SR.splitD (fun h66 => ?_) (fun h66 => ?_)
      · refine SR.g' rfl (r_fa fa25_3 rfl) <| SR.g' rfl (r_ld (v := .int .i64 r.Given) sca3 rfl (((((hb49).lo hk53).lo hk58).lo hk63).cell rfl)) <| SR.gcall rfl ent37 (c_impl_within w62 r.Given 0 999) rfl ?_
        rintro e w67 ⟨rfl, hk68⟩
        refine ⟨_, rfl, ?_⟩
        have hz69 := hk68.size
        have hB70 := hB65.lo hk68
        refine SR.q' (r_pick true rfl (v := .bool _) rfl) <| SR.q' (r_mv (v := .bool _) rfl) <| SR.splitD (fun h71 => ?_) (fun h71 => ?_)
        · refine SR.g' rfl (r_fa fa25_4 rfl) <| SR.g' rfl (r_ld (v := .int .i64 r.Fines) sca3 rfl ((((((hb49).lo hk53).lo hk58).lo hk63).lo hk68).cell rfl)) <| SR.gcall rfl ent37 (c_impl_within w67 r.Fines 0 99999) rfl ?_
          rintro e w72 ⟨rfl, hk73⟩
          refine ⟨_, rfl, ?_⟩
          have hz74 := hk73.size
          have hB75 := hB70.lo hk73
          refine SR.q' (r_pick true rfl (v := .bool _) rfl) <| SR.q' (r_as (v := .bool _) rfl) <| SR.nil ?_
          refine W.ret ?_
          refine ret1 rfl (v := .bool _) rfl ?_
          exact ⟨eR (eDD (z_c_impl_IsLibRow_76 r h56 h61 h66 h71)), hB75⟩
        · refine SR.s' rfl <| SR.s' rfl <| SR.s' rfl <| SR.q' (r_pick false rfl (v := .bool false) rfl) <| SR.q' (r_as (v := .bool _) rfl) <| SR.nil ?_
          refine W.ret ?_
          refine ret1 rfl (v := .bool _) rfl ?_
          exact ⟨eR (eDF (z_c_impl_IsLibRow_77 r h56 h61 h66 h71)), hB70⟩
      · refine SR.s' rfl <| SR.s' rfl <| SR.s' rfl <| SR.q' (r_pick false rfl (v := .bool false) rfl) <| SR.q' (r_mv (v := .bool _) rfl) <| SR.s' rfl <| SR.s' rfl <| SR.s' rfl <| SR.q' (r_pick false rfl (v := .bool false) rfl) <| SR.q' (r_as (v := .bool _) rfl) <| SR.nil ?_
        refine W.ret ?_
        refine ret1 rfl (v := .bool _) rfl ?_
        exact ⟨eR (eDF (z_c_impl_IsLibRow_78 r h56 h61 h66)), hB65⟩
    · refine SR.s' rfl <| SR.s' rfl <| SR.s' rfl <| SR.q' (r_pick false rfl (v := .bool false) rfl) <| SR.q' (r_mv (v := .bool _) rfl) <| SR.s' rfl <| SR.s' rfl <| SR.s' rfl <| SR.q' (r_pick false rfl (v := .bool false) rfl) <| SR.q' (r_mv (v := .bool _) rfl) <| SR.s' rfl <| SR.s' rfl <| SR.s' rfl <| SR.q' (r_pick false rfl (v := .bool false) rfl) <| SR.q' (r_as (v := .bool _) rfl) <| SR.nil ?_
      refine W.ret ?_
      refine ret1 rfl (v := .bool _) rfl ?_
      exact ⟨eR (eDF (z_c_impl_IsLibRow_79 r h56 h61)), hB60⟩
  · refine SR.s' rfl <| SR.s' rfl <| SR.s' rfl <| SR.q' (r_pick false rfl (v := .bool false) rfl) <| SR.q' (r_mv (v := .bool _) rfl) <| SR.s' rfl <| SR.s' rfl <| SR.s' rfl <| SR.q' (r_pick false rfl (v := .bool false) rfl) <| SR.q' (r_mv (v := .bool _) rfl) <| SR.s' rfl <| SR.s' rfl <| SR.s' rfl <| SR.q' (r_pick false rfl (v := .bool false) rfl) <| SR.q' (r_mv (v := .bool _) rfl) <| SR.s' rfl <| SR.s' rfl <| SR.s' rfl <| SR.q' (r_pick false rfl (v := .bool false) rfl) <| SR.q' (r_as (v := .bool _) rfl) <| SR.nil ?_
    refine W.ret ?_
    refine ret1 rfl (v := .bool _) rfl ?_
    exact ⟨eR (eDF (z_c_impl_IsLibRow_80 r h56)), hB55⟩

theorem c_spec_IsLibRow (w : World) (r : LibRow) : Calls Try.prog 11 #[.agg (List.toArray (encLibRow r))] w fun e w' => e = .returned (.bool (decide (RowOK r))) ∧ Lo w w' := by
  refine calls_W 5 Try.func11 rfl rfl rfl ?_
  refine W.seq ?_
  refine W.regS (SR.box (v := .agg (List.toArray _)) (l := [.int .i64 r.Month, .int .i64 r.Lent, .int .i64 r.Copied, .int .i64 r.Given, .int .i64 r.Fines]) rfl rfl ?_)
  intro g81 w82 hg83 hk84 hs85 hb86
  have hz87 := hk84.size
  have hB88 := (Lo.refl w).lo hk84
  refine SR.q' (r_as (v := .bool false) rfl) <| SR.nil ?_
  refine W.seq ?_
  refine W.regS (SR.q' (r_lda (l := [.int .i64 r.Month, .int .i64 r.Lent, .int .i64 r.Copied, .int .i64 r.Given, .int .i64 r.Fines]) agg25 rfl (fun _ _ hu => (hb86).cell hu) rfl) <| SR.call ent36 (c_spec_l31One w82 r) rfl ?_)
  rintro e w89 ⟨rfl, hk90⟩
  refine ⟨_, rfl, ?_⟩
  have hz91 := hk90.size
  have hB92 := hB88.lo hk90
  refine SR.q' (r_as (v := .bool _) rfl) <| SR.nil ?_
  refine W.ret ?_
  refine ret1 rfl (v := .bool _) rfl ?_
  exact ⟨eR rfl, hB92⟩

theorem z_c_spec_l31Good_93 (L : List LibRow) (nL : Nat) (hbdL : (nL : Int) ≤ 9223372036854775807) (hleL : nL = L.length) : 0 ≤ nL ∧ RowsTo L 0 := by
  exact ⟨Nat.zero_le _, RowsTo.zero _⟩
theorem z_c_spec_l31Good_108 (L : List LibRow) (nL : Nat) (hbdL : (nL : Int) ≤ 9223372036854775807) (hleL : nL = L.length) (k : Nat) (hi99 : k ≤ nL ∧ RowsTo L k) (h100 : (k : Int) < (nL : Int)) (x101 : LibRow) (hx102 : L[k]? = some x101) (h103 : ¬ (RowOK x101)) : ¬ (RowsOK L) := by
  first | exact (fun hr => rows_bad ‹L[k]? = some _› (by intro hs; unfold RowStep at hs; grind) hr) | exact rows_end (And.right ‹_ ∧ RowsTo L _›) ‹_› ‹_›
theorem z_c_spec_l31Good_118 (L : List LibRow) (nL : Nat) (hbdL : (nL : Int) ≤ 9223372036854775807) (hleL : nL = L.length) (k : Nat) (hi99 : k ≤ nL ∧ RowsTo L k) (h100 : (k : Int) < (nL : Int)) (x101 : LibRow) (hx102 : L[k]? = some x101) (h103 : RowOK x101) (h109 : 0 < (k : Int)) (x110 : LibRow) (hx112 : L[k - 1]? = some x110) (h117 : x101.Month ≤ x110.Month) : ¬ (RowsOK L) := by
  first | exact (fun hr => rows_bad ‹L[k]? = some _› (by intro hs; unfold RowStep at hs; grind) hr) | exact rows_end (And.right ‹_ ∧ RowsTo L _›) ‹_› ‹_›
theorem z_c_spec_l31Good_119 (L : List LibRow) (nL : Nat) (hbdL : (nL : Int) ≤ 9223372036854775807) (hleL : nL = L.length) (k : Nat) (hi99 : k ≤ nL ∧ RowsTo L k) (h100 : (k : Int) < (nL : Int)) (x101 : LibRow) (hx102 : L[k]? = some x101) (h103 : RowOK x101) (h109 : 0 < (k : Int)) (x110 : LibRow) (hx112 : L[k - 1]? = some x110) (h117 : ¬ (x101.Month ≤ x110.Month)) : k + 1 ≤ nL ∧ RowsTo L (k + 1) := by
  refine ⟨by omega, rows_next (And.right ‹_ ∧ RowsTo L _›) ‹L[k]? = some _› ?_⟩; unfold RowStep; grind
theorem z_c_spec_l31Good_120 (L : List LibRow) (nL : Nat) (hbdL : (nL : Int) ≤ 9223372036854775807) (hleL : nL = L.length) (k : Nat) (hi99 : k ≤ nL ∧ RowsTo L k) (h100 : (k : Int) < (nL : Int)) (x101 : LibRow) (hx102 : L[k]? = some x101) (h103 : RowOK x101) (h109 : 0 < (k : Int)) (x110 : LibRow) (hx112 : L[k - 1]? = some x110) (h117 : ¬ (x101.Month ≤ x110.Month)) : nL - (k + 1) < nL - k := by
  omega
theorem z_c_spec_l31Good_125 (L : List LibRow) (nL : Nat) (hbdL : (nL : Int) ≤ 9223372036854775807) (hleL : nL = L.length) (k : Nat) (hi99 : k ≤ nL ∧ RowsTo L k) (h100 : (k : Int) < (nL : Int)) (x101 : LibRow) (hx102 : L[k]? = some x101) (h103 : RowOK x101) (h109 : ¬ (0 < (k : Int))) : k + 1 ≤ nL ∧ RowsTo L (k + 1) := by
  refine ⟨by omega, rows_next (And.right ‹_ ∧ RowsTo L _›) ‹L[k]? = some _› ?_⟩; unfold RowStep; grind
theorem z_c_spec_l31Good_126 (L : List LibRow) (nL : Nat) (hbdL : (nL : Int) ≤ 9223372036854775807) (hleL : nL = L.length) (k : Nat) (hi99 : k ≤ nL ∧ RowsTo L k) (h100 : (k : Int) < (nL : Int)) (x101 : LibRow) (hx102 : L[k]? = some x101) (h103 : RowOK x101) (h109 : ¬ (0 < (k : Int))) : nL - (k + 1) < nL - k := by
  omega
theorem z_c_spec_l31Good_127 (L : List LibRow) (nL : Nat) (hbdL : (nL : Int) ≤ 9223372036854775807) (hleL : nL = L.length) (k : Nat) (hi99 : k ≤ nL ∧ RowsTo L k) (h100 : ¬ ((k : Int) < (nL : Int))) : ((nL : Int) ≤ 12) ↔ (RowsOK L) := by
  first | exact (fun hr => rows_bad ‹L[k]? = some _› (by intro hs; unfold RowStep at hs; grind) hr) | exact rows_end (And.right ‹_ ∧ RowsTo L _›) ‹_› ‹_›
theorem c_spec_l31Good (w : World) {AL : Option Addr} {nL cL BL : Nat} (L : List LibRow) (hL : SlR w BL encLibRow 5 AL nL cL L) : Calls Try.prog 38 #[.slice AL nL cL] w fun e w' => e = .returned (.bool (decide (RowsOK L))) ∧ Lo w w' := by
  refine calls_W 37 Try.func38 rfl rfl rfl ?_
  have hbdL := hL.bound
  have hleL := hL.len
  have hBbL := hL.bd
  refine W.seq ?_
  refine W.regS (SR.q' (r_as (v := .bool false) rfl) <| SR.nil ?_)
  refine W.seq ?_
  refine W.seq ?_
  refine W.regS (SR.q' (r_as (v := .int .i64 0) rfl) <| SR.nil ?_)
  refine W.block ?_
  refine W.loop (σ := Nat) (fun g => [(0, .slice AL nL cL), (3, .int .i64 (g : Int))]) (fun g w' => (Lo w w') ∧ (SlR w' BL encLibRow 5 AL nL cL L) ∧ (g ≤ nL ∧ RowsTo L g)) (fun g => nL - g) 0 ?_ ?_ ?_
  · exact ⟨rfl, rfl, trivial⟩
  · exact ⟨(Lo.refl w), hL, (z_c_spec_l31Good_93 L nL hbdL hleL)⟩
  · rintro k f94 w95 hP97
    obtain ⟨hB96, hm98, hi99⟩ : (Lo w w95) ∧ (SlR w95 BL encLibRow 5 AL nL cL L) ∧ (k ≤ nL ∧ RowsTo L k) := hP97
    refine (?_ : W _ _ _ _ _ (act _ (sets f94 [(0, .slice AL nL cL), (3, .int .i64 (k : Int))])) _)
    have hzw95 := hB96.size
    refine W.seq ?_
    refine W.seq ?_
    refine W.regS (SR.q' (r_mv (v := .int .i64 _) rfl) <| SR.q' (r_mv (v := .slice _ _ _) rfl) <| SR.q' (r_len und31 rfl) <| SR.q' (r_lt rfl rfl) <| SR.nil ?_)
    refine W.cond_d rfl (fun h100 => ?_) (fun h100 => ?_)
    · refine W.skip ?_
      refine W.seq ?_
      refine W.block ?_
      refine W.seq ?_
      refine W.regD mo (by kernel_rfl) (QR.q' (fun w' hw' => r_mv (v := .slice _ _ _) rfl) <| QR.q' (fun w' hw' => r_mv (v := .int .i64 _) rfl) <| ?_)
      obtain ⟨x101, hx102⟩ := (hm98).get (i := k) (by omega)
      refine QR.q' (fun w' hw' => r_ixR tsl31 ((hm98).lo hw') rfl rfl (by omega)) <| QR.q' (fun w' hw' => r_lda (l := encLibRow x101) agg25 rfl (fun _ _ hu => ((hm98).lo hw').cell hx102 hu) (((hm98).lo hw').esz _)) <| QR.call ent36 (fun w' hw' => (c_spec_l31One w' x101).mono fun _ _ h => ⟨h.1, hw'.trans h.2⟩) rfl <| QR.q' (fun w' hw' => r_not rfl) <| QR.q' (fun w' hw' => r_mv (v := .bool _) rfl) <| QR.splitN (fun h103 => ?_) (fun h103 => ?_)
      · refine QR.s' rfl <| QR.s' rfl <| QR.s' rfl <| QR.u' rfl <| QR.u' rfl <| QR.u' rfl <| QR.u' rfl <| QR.u' rfl <| QR.u' rfl <| QR.u' rfl <| QR.u' rfl <| QR.u' rfl <| QR.u' rfl <| QR.u' rfl <| QR.u' rfl <| QR.s' rfl <| QR.q' (fun w' hw' => r_pick true rfl (v := .bool true) rfl) <| QR.nil ?_
        intro w104 hk105
        have hz106 := hk105.size
        have hB107 := hB96.lo hk105
        refine W.cond_t rfl ?_
        refine W.seq ?_
        refine W.regS (SR.q' (r_as (v := .bool false) rfl) <| SR.nil ?_)
        refine W.ret ?_
        refine ret1 rfl (v := .bool _) rfl ?_
        exact ⟨eR (eDF (z_c_spec_l31Good_108 L nL hbdL hleL k hi99 h100 x101 hx102 h103)), hB107⟩
      · refine QR.g' rfl (fun w' hw' => r_mv (v := .int .i64 _) rfl) <| QR.g' rfl (fun w' hw' => r_gt rfl rfl) <| QR.g' rfl (fun w' hw' => r_mv (v := .bool _) rfl) <| QR.splitD (fun h109 => ?_) (fun h109 => ?_)
        · refine QR.g' rfl (fun w' hw' => r_mv (v := .slice _ _ _) rfl) <| QR.g' rfl (fun w' hw' => r_mv (v := .int .i64 _) rfl) <| QR.g' rfl (fun w' hw' => r_sub rfl rfl (by omega)) <| ?_
          obtain ⟨x110, hx111⟩ := (hm98).get (i := ((k : Int) - 1).toNat) (by omega)
          have hx112 : L[k - 1]? = some x110 := (show ((k : Int) - 1).toNat = k - 1 from by omega) ▸ hx111
          refine QR.g' rfl (fun w' hw' => r_ixR tsl31 ((hm98).lo hw') rfl rfl (by omega)) <| QR.g' rfl (fun w' hw' => r_fa fa25_0 rfl) <| QR.g' rfl (fun w' hw' => r_ld (v := .int .i64 x110.Month) sca3 rfl (((hm98).lo hw').cell hx111 rfl)) <| QR.g' rfl (fun w' hw' => r_mv (v := .slice _ _ _) rfl) <| QR.g' rfl (fun w' hw' => r_mv (v := .int .i64 _) rfl) <| QR.g' rfl (fun w' hw' => r_ixR tsl31 ((hm98).lo hw') rfl rfl (by omega)) <| QR.g' rfl (fun w' hw' => r_fa fa25_0 rfl) <| QR.g' rfl (fun w' hw' => r_ld (v := .int .i64 x101.Month) sca3 rfl (((hm98).lo hw').cell hx102 rfl)) <| QR.g' rfl (fun w' hw' => r_ge rfl rfl) <| QR.g' rfl (fun w' hw' => r_pick true rfl (v := .bool _) rfl) <| QR.q' (fun w' hw' => r_pick false rfl (v := .bool _) rfl) <| QR.nil ?_
          intro w113 hk114
          have hz115 := hk114.size
          have hB116 := hB96.lo hk114
          refine W.cond_d rfl (fun h117 => ?_) (fun h117 => ?_)
          · refine W.seq ?_
            refine W.regS (SR.q' (r_as (v := .bool false) rfl) <| SR.nil ?_)
            refine W.ret ?_
            refine ret1 rfl (v := .bool _) rfl ?_
            exact ⟨eR (eDF (z_c_spec_l31Good_118 L nL hbdL hleL k hi99 h100 x101 hx102 h103 h109 x110 hx112 h117)), hB116⟩
          · refine W.skip ?_
            refine W.regS (SR.q' (r_mv (v := .int .i64 _) rfl) <| SR.q' (r_add rfl rfl (by omega)) <| SR.q' (r_as (v := .int .i64 _) rfl) <| SR.nil ?_)
            refine ⟨k + 1, _, rfl, ⟨rfl, rfl, trivial⟩, ⟨hB116, (hm98).lo hk114, ?_⟩, ?_⟩
            · exact (z_c_spec_l31Good_119 L nL hbdL hleL k hi99 h100 x101 hx102 h103 h109 x110 hx112 h117)
            · exact (z_c_spec_l31Good_120 L nL hbdL hleL k hi99 h100 x101 hx102 h103 h109 x110 hx112 h117)
        · refine QR.s' rfl <| QR.s' rfl <| QR.s' rfl <| QR.s' rfl <| QR.s' rfl <| QR.s' rfl <| QR.s' rfl <| QR.s' rfl <| QR.s' rfl <| QR.s' rfl <| QR.s' rfl <| QR.s' rfl <| QR.g' rfl (fun w' hw' => r_pick false rfl (v := .bool false) rfl) <| QR.q' (fun w' hw' => r_pick false rfl (v := .bool _) rfl) <| QR.nil ?_
          intro w121 hk122
          have hz123 := hk122.size
          have hB124 := hB96.lo hk122
          refine W.cond_f rfl ?_
          refine W.skip ?_
          refine W.regS (SR.q' (r_mv (v := .int .i64 _) rfl) <| SR.q' (r_add rfl rfl (by omega)) <| SR.q' (r_as (v := .int .i64 _) rfl) <| SR.nil ?_)
          refine ⟨k + 1, _, rfl, ⟨rfl, rfl, trivial⟩, ⟨hB124, (hm98).lo hk122, ?_⟩, ?_⟩
          · exact (z_c_spec_l31Good_125 L nL hbdL hleL k hi99 h100 x101 hx102 h103 h109)
          · exact (z_c_spec_l31Good_126 L nL hbdL hleL k hi99 h100 x101 hx102 h103 h109)
    · refine W.exit (xin_here ?_)
      refine W.seq ?_
      refine W.regS (SR.q' (r_mv (v := .slice _ _ _) rfl) <| SR.q' (r_len und31 rfl) <| SR.q' (r_le rfl rfl) <| SR.q' (r_as (v := .bool _) rfl) <| SR.nil ?_)
      refine W.ret ?_
      refine ret1 rfl (v := .bool _) rfl ?_
      exact ⟨eR (eDD (z_c_spec_l31Good_127 L nL hbdL hleL k hi99 h100)), hB96⟩

theorem z_c_impl_AreLibRows_128 (L : List LibRow) (nL : Nat) (hbdL : (nL : Int) ≤ 9223372036854775807) (hleL : nL = L.length) : 0 ≤ nL ∧ RowsTo L 0 := by
  exact ⟨Nat.zero_le _, RowsTo.zero _⟩
theorem z_c_impl_AreLibRows_157 (L : List LibRow) (nL : Nat) (hbdL : (nL : Int) ≤ 9223372036854775807) (hleL : nL = L.length) (k : Nat) (hi134 : k ≤ nL ∧ RowsTo L k) (h135 : (k : Int) < (nL : Int)) (x136 : LibRow) (hx137 : L[k]? = some x136) (h152 : ¬ (RowOK x136)) : ¬ (RowsOK L) := by
  first | exact (fun hr => rows_bad ‹L[k]? = some _› (by intro hs; unfold RowStep at hs; grind) hr) | exact rows_end (And.right ‹_ ∧ RowsTo L _›) ‹_› ‹_›
theorem z_c_impl_AreLibRows_167 (L : List LibRow) (nL : Nat) (hbdL : (nL : Int) ≤ 9223372036854775807) (hleL : nL = L.length) (k : Nat) (hi134 : k ≤ nL ∧ RowsTo L k) (h135 : (k : Int) < (nL : Int)) (x136 : LibRow) (hx137 : L[k]? = some x136) (h152 : RowOK x136) (h158 : 0 < (k : Int)) (x159 : LibRow) (hx161 : L[k - 1]? = some x159) (h166 : x136.Month ≤ x159.Month) : ¬ (RowsOK L) := by
  first | exact (fun hr => rows_bad ‹L[k]? = some _› (by intro hs; unfold RowStep at hs; grind) hr) | exact rows_end (And.right ‹_ ∧ RowsTo L _›) ‹_› ‹_›
theorem z_c_impl_AreLibRows_168 (L : List LibRow) (nL : Nat) (hbdL : (nL : Int) ≤ 9223372036854775807) (hleL : nL = L.length) (k : Nat) (hi134 : k ≤ nL ∧ RowsTo L k) (h135 : (k : Int) < (nL : Int)) (x136 : LibRow) (hx137 : L[k]? = some x136) (h152 : RowOK x136) (h158 : 0 < (k : Int)) (x159 : LibRow) (hx161 : L[k - 1]? = some x159) (h166 : ¬ (x136.Month ≤ x159.Month)) : k + 1 ≤ nL ∧ RowsTo L (k + 1) := by
  refine ⟨by omega, rows_next (And.right ‹_ ∧ RowsTo L _›) ‹L[k]? = some _› ?_⟩; unfold RowStep; grind
theorem z_c_impl_AreLibRows_169 (L : List LibRow) (nL : Nat) (hbdL : (nL : Int) ≤ 9223372036854775807) (hleL : nL = L.length) (k : Nat) (hi134 : k ≤ nL ∧ RowsTo L k) (h135 : (k : Int) < (nL : Int)) (x136 : LibRow) (hx137 : L[k]? = some x136) (h152 : RowOK x136) (h158 : 0 < (k : Int)) (x159 : LibRow) (hx161 : L[k - 1]? = some x159) (h166 : ¬ (x136.Month ≤ x159.Month)) : nL - (k + 1) < nL - k := by
  omega
theorem z_c_impl_AreLibRows_174 (L : List LibRow) (nL : Nat) (hbdL : (nL : Int) ≤ 9223372036854775807) (hleL : nL = L.length) (k : Nat) (hi134 : k ≤ nL ∧ RowsTo L k) (h135 : (k : Int) < (nL : Int)) (x136 : LibRow) (hx137 : L[k]? = some x136) (h152 : RowOK x136) (h158 : ¬ (0 < (k : Int))) : k + 1 ≤ nL ∧ RowsTo L (k + 1) := by
  refine ⟨by omega, rows_next (And.right ‹_ ∧ RowsTo L _›) ‹L[k]? = some _› ?_⟩; unfold RowStep; grind
theorem z_c_impl_AreLibRows_175 (L : List LibRow) (nL : Nat) (hbdL : (nL : Int) ≤ 9223372036854775807) (hleL : nL = L.length) (k : Nat) (hi134 : k ≤ nL ∧ RowsTo L k) (h135 : (k : Int) < (nL : Int)) (x136 : LibRow) (hx137 : L[k]? = some x136) (h152 : RowOK x136) (h158 : ¬ (0 < (k : Int))) : nL - (k + 1) < nL - k := by
  omega
theorem z_c_impl_AreLibRows_176 (L : List LibRow) (nL : Nat) (hbdL : (nL : Int) ≤ 9223372036854775807) (hleL : nL = L.length) (k : Nat) (hi134 : k ≤ nL ∧ RowsTo L k) (h135 : ¬ ((k : Int) < (nL : Int))) : ((nL : Int) ≤ 12) ↔ (RowsOK L) := by
  first | exact (fun hr => rows_bad ‹L[k]? = some _› (by intro hs; unfold RowStep at hs; grind) hr) | exact rows_end (And.right ‹_ ∧ RowsTo L _›) ‹_› ‹_›
theorem c_impl_AreLibRows (w : World) {AL : Option Addr} {nL cL BL : Nat} (L : List LibRow) (hL : SlR w BL encLibRow 5 AL nL cL L) : Calls Try.prog 17 #[.slice AL nL cL] w fun e w' => e = .returned (.bool (decide (RowsOK L))) ∧ Lo w w' := by
  refine calls_W 34 Try.func17 rfl rfl rfl ?_
  have hbdL := hL.bound
  have hleL := hL.len
  have hBbL := hL.bd
  refine W.seq ?_
  refine W.regS (SR.q' (r_as (v := .bool false) rfl) <| SR.nil ?_)
  refine W.seq ?_
  refine W.seq ?_
  refine W.regS (SR.q' (r_mv (v := .slice _ _ _) rfl) <| SR.q' (r_len und31 rfl) <| SR.q' (r_mv (v := .int .i64 0) rfl) <| SR.nil ?_)
  refine W.block ?_
  refine W.loop (σ := Nat) (fun g => [(0, .slice AL nL cL), (5, .slice AL nL cL), (6, .int .i64 (nL : Int)), (7, .int .i64 (g : Int))]) (fun g w' => (Lo w w') ∧ (SlR w' BL encLibRow 5 AL nL cL L) ∧ (g ≤ nL ∧ RowsTo L g)) (fun g => nL - g) 0 ?_ ?_ ?_
  · exact ⟨rfl, rfl, rfl, rfl, trivial⟩
  · exact ⟨(Lo.refl w), hL, (z_c_impl_AreLibRows_128 L nL hbdL hleL)⟩
  · rintro k f129 w130 hP132
    obtain ⟨hB131, hm133, hi134⟩ : (Lo w w130) ∧ (SlR w130 BL encLibRow 5 AL nL cL L) ∧ (k ≤ nL ∧ RowsTo L k) := hP132
    refine (?_ : W _ _ _ _ _ (act _ (sets f129 [(0, .slice AL nL cL), (5, .slice AL nL cL), (6, .int .i64 (nL : Int)), (7, .int .i64 (k : Int))])) _)
    have hzw130 := hB131.size
    refine W.seq ?_
    refine W.regS (SR.q' (r_lt rfl rfl) <| SR.nil ?_)
    refine W.seq ?_
    refine W.cond_d rfl (fun h135 => ?_) (fun h135 => ?_)
    · refine W.skip ?_
      refine W.seq ?_
      refine W.block ?_
      refine W.seq ?_
      refine W.regS (SR.q' (r_mv (v := .int .i64 _) rfl) <| ?_)
      obtain ⟨x136, hx137⟩ := (hm133).get (i := k) (by omega)
      refine SR.q' (r_ixR tsl31 (hm133) rfl rfl (by omega)) <| SR.q' (r_lda (l := encLibRow x136) agg25 rfl (fun _ _ hu => (hm133).cell hx137 hu) ((hm133).esz _)) <| SR.alloc (l := [.int .i64 0, .int .i64 0, .int .i64 0, .int .i64 0, .int .i64 0]) tz25 rfl ?_
      intro g138 w139 hg140 hk141 hs142 hb143
      have hz144 := hk141.size
      have hB145 := hB131.lo hk141
      refine SR.q' (r_as (v := .int .i64 _) rfl) <| SR.store (o := 0) (vs := [.int .i64 x136.Month, .int .i64 x136.Lent, .int .i64 x136.Copied, .int .i64 x136.Given, .int .i64 x136.Fines]) agg25.2 rfl rfl rfl rfl (hb143) (Nat.le_of_ble_eq_true rfl) rfl ?_
      intro w146 hk147 hs148 hb149
      have hz150 := hk147.size
      have hB151 := hB145.new hk147 (by omega)
      refine SR.nil ?_
      refine W.seq ?_
      refine W.regD mo (by kernel_rfl) (QR.q' (fun w' hw' => r_lda (l := [.int .i64 x136.Month, .int .i64 x136.Lent, .int .i64 x136.Copied, .int .i64 x136.Given, .int .i64 x136.Fines]) agg25 rfl (fun _ _ hu => ((hb149).lo hw').cell hu) rfl) <| QR.call ent13 (fun w' hw' => (c_impl_IsLibRow w' x136).mono fun _ _ h => ⟨h.1, hw'.trans h.2⟩) rfl <| QR.q' (fun w' hw' => r_not rfl) <| QR.q' (fun w' hw' => r_mv (v := .bool _) rfl) <| QR.splitN (fun h152 => ?_) (fun h152 => ?_))
      · refine QR.s' rfl <| QR.s' rfl <| QR.s' rfl <| QR.u' rfl <| QR.u' rfl <| QR.u' rfl <| QR.u' rfl <| QR.u' rfl <| QR.u' rfl <| QR.u' rfl <| QR.u' rfl <| QR.u' rfl <| QR.s' rfl <| QR.q' (fun w' hw' => r_pick true rfl (v := .bool true) rfl) <| QR.nil ?_
        intro w153 hk154
        have hz155 := hk154.size
        have hB156 := hB151.lo hk154
        refine W.cond_t rfl ?_
        refine W.seq ?_
        refine W.regS (SR.q' (r_as (v := .bool false) rfl) <| SR.nil ?_)
        refine W.ret ?_
        refine ret1 rfl (v := .bool _) rfl ?_
        exact ⟨eR (eDF (z_c_impl_AreLibRows_157 L nL hbdL hleL k hi134 h135 x136 hx137 h152)), hB156⟩
      · refine QR.g' rfl (fun w' hw' => r_mv (v := .int .i64 _) rfl) <| QR.g' rfl (fun w' hw' => r_gt rfl rfl) <| QR.g' rfl (fun w' hw' => r_mv (v := .bool _) rfl) <| QR.splitD (fun h158 => ?_) (fun h158 => ?_)
        · refine QR.g' rfl (fun w' hw' => r_fa fa25_0 rfl) <| QR.g' rfl (fun w' hw' => r_ld (v := .int .i64 x136.Month) sca3 rfl (((hb149).lo hw').cell rfl)) <| QR.g' rfl (fun w' hw' => r_mv (v := .slice _ _ _) rfl) <| QR.g' rfl (fun w' hw' => r_mv (v := .int .i64 _) rfl) <| QR.g' rfl (fun w' hw' => r_sub rfl rfl (by omega)) <| ?_
          obtain ⟨x159, hx160⟩ := (((hm133).lo hk141).kp hk147 (fun b hb e' => by have e'' : b = g138 := e'; omega)).get (i := ((k : Int) - 1).toNat) (by omega)
          have hx161 : L[k - 1]? = some x159 := (show ((k : Int) - 1).toNat = k - 1 from by omega) ▸ hx160
          refine QR.g' rfl (fun w' hw' => r_ixR tsl31 ((((hm133).lo hk141).kp hk147 (fun b hb e' => by have e'' : b = g138 := e'; omega)).lo hw') rfl rfl (by omega)) <| QR.g' rfl (fun w' hw' => r_fa fa25_0 rfl) <| QR.g' rfl (fun w' hw' => r_ld (v := .int .i64 x159.Month) sca3 rfl (((((hm133).lo hk141).kp hk147 (fun b hb e' => by have e'' : b = g138 := e'; omega)).lo hw').cell hx160 rfl)) <| QR.g' rfl (fun w' hw' => r_le rfl rfl) <| QR.g' rfl (fun w' hw' => r_pick true rfl (v := .bool _) rfl) <| QR.q' (fun w' hw' => r_pick false rfl (v := .bool _) rfl) <| QR.nil ?_
          intro w162 hk163
          have hz164 := hk163.size
          have hB165 := hB151.lo hk163
          refine W.cond_d rfl (fun h166 => ?_) (fun h166 => ?_)
          · refine W.seq ?_
            refine W.regS (SR.q' (r_as (v := .bool false) rfl) <| SR.nil ?_)
            refine W.ret ?_
            refine ret1 rfl (v := .bool _) rfl ?_
            exact ⟨eR (eDF (z_c_impl_AreLibRows_167 L nL hbdL hleL k hi134 h135 x136 hx137 h152 h158 x159 hx161 h166)), hB165⟩
          · refine W.skip ?_
            refine W.regS (SR.q' (r_add rfl rfl (by omega)) <| SR.q' (r_mv (v := .int .i64 _) rfl) <| SR.nil ?_)
            refine ⟨k + 1, _, rfl, ⟨rfl, rfl, rfl, rfl, trivial⟩, ⟨hB165, (((hm133).lo hk141).kp hk147 (fun b hb e' => by have e'' : b = g138 := e'; omega)).lo hk163, ?_⟩, ?_⟩
            · exact (z_c_impl_AreLibRows_168 L nL hbdL hleL k hi134 h135 x136 hx137 h152 h158 x159 hx161 h166)
            · exact (z_c_impl_AreLibRows_169 L nL hbdL hleL k hi134 h135 x136 hx137 h152 h158 x159 hx161 h166)
        · refine QR.s' rfl <| QR.s' rfl <| QR.s' rfl <| QR.s' rfl <| QR.s' rfl <| QR.s' rfl <| QR.s' rfl <| QR.s' rfl <| QR.s' rfl <| QR.g' rfl (fun w' hw' => r_pick false rfl (v := .bool false) rfl) <| QR.q' (fun w' hw' => r_pick false rfl (v := .bool _) rfl) <| QR.nil ?_
          intro w170 hk171
          have hz172 := hk171.size
          have hB173 := hB151.lo hk171
          refine W.cond_f rfl ?_
          refine W.skip ?_
          refine W.regS (SR.q' (r_add rfl rfl (by omega)) <| SR.q' (r_mv (v := .int .i64 _) rfl) <| SR.nil ?_)
          refine ⟨k + 1, _, rfl, ⟨rfl, rfl, rfl, rfl, trivial⟩, ⟨hB173, (((hm133).lo hk141).kp hk147 (fun b hb e' => by have e'' : b = g138 := e'; omega)).lo hk171, ?_⟩, ?_⟩
          · exact (z_c_impl_AreLibRows_174 L nL hbdL hleL k hi134 h135 x136 hx137 h152 h158)
          · exact (z_c_impl_AreLibRows_175 L nL hbdL hleL k hi134 h135 x136 hx137 h152 h158)
    · refine W.exit (xin_here ?_)
      refine W.seq ?_
      refine W.regS (SR.q' (r_mv (v := .slice _ _ _) rfl) <| SR.q' (r_len und31 rfl) <| SR.q' (r_le rfl rfl) <| SR.q' (r_as (v := .bool _) rfl) <| SR.nil ?_)
      refine W.ret ?_
      refine ret1 rfl (v := .bool _) rfl ?_
      exact ⟨eR (eDD (z_c_impl_AreLibRows_176 L nL hbdL hleL k hi134 h135)), hB131⟩

theorem z_c_laws_toLibRow_237 (r : LibRow) : ([.int .i64 r.Month, .int .i64 r.Lent, .int .i64 r.Copied, .int .i64 r.Given, .int .i64 r.Fines] : List Value) = encLibRow r := by
  first | rfl | (first | rfl | omega | grind)
theorem c_laws_toLibRow (w : World) (r : LibRow) : Calls Try.prog 12 #[.agg (List.toArray (encLibRow r))] w fun e w' => e = .returned (.agg (List.toArray (encLibRow r))) ∧ Lo w w' := by
  refine calls_W 20 Try.func12 rfl rfl rfl ?_
  refine W.seq ?_
  refine W.regS (SR.box (v := .agg (List.toArray _)) (l := [.int .i64 r.Month, .int .i64 r.Lent, .int .i64 r.Copied, .int .i64 r.Given, .int .i64 r.Fines]) rfl rfl ?_)
  intro g177 w178 hg179 hk180 hs181 hb182
  have hz183 := hk180.size
  have hB184 := (Lo.refl w).lo hk180
  refine SR.alloc (l := [.int .i64 0, .int .i64 0, .int .i64 0, .int .i64 0, .int .i64 0]) tz25 rfl ?_
  intro g185 w186 hg187 hk188 hs189 hb190
  have hz191 := hk188.size
  have hB192 := hB184.lo hk188
  refine SR.nil ?_
  refine W.seq ?_
  refine W.regS (SR.alloc (l := [.int .i64 0, .int .i64 0, .int .i64 0, .int .i64 0, .int .i64 0]) tz25 rfl ?_)
  intro g193 w194 hg195 hk196 hs197 hb198
  have hz199 := hk196.size
  have hB200 := hB192.lo hk196
  refine SR.nil ?_
  refine W.seq ?_
  refine W.regS (SR.q' (r_fa fa23_0 rfl) <| SR.q' (r_ld (v := .int .i64 r.Month) sca3 rfl ((((hb182).lo hk188).lo hk196).cell rfl)) <| SR.q' (r_fa fa25_0 rfl) <| SR.store (o := 0) (vs := [.int .i64 r.Month]) sca3.2 rfl rfl rfl rfl (hb198) (Nat.le_of_ble_eq_true rfl) rfl ?_)
  intro w201 hk202 hs203 hb204
  have hz205 := hk202.size
  have hB206 := hB200.new hk202 (by omega)
  refine SR.nil ?_
  refine W.seq ?_
  refine W.regS (SR.q' (r_fa fa23_1 rfl) <| SR.q' (r_ld (v := .int .i64 r.Lent) sca3 rfl (((((hb182).lo hk188).lo hk196).kp hk202 (fun e' => by have e'' : g177 = g193 := e'; omega)).cell rfl)) <| SR.q' (r_fa fa25_1 rfl) <| SR.store (o := 1) (vs := [.int .i64 r.Lent]) sca3.2 rfl rfl rfl rfl (hb204) (Nat.le_of_ble_eq_true rfl) rfl ?_)
  intro w207 hk208 hs209 hb210
  have hz211 := hk208.size
  have hB212 := hB206.new hk208 (by omega)
  refine SR.nil ?_
  refine W.seq ?_
  refine W.regS (SR.q' (r_fa fa23_2 rfl) <| SR.q' (r_ld (v := .int .i64 r.Copied) sca3 rfl ((((((hb182).lo hk188).lo hk196).kp hk202 (fun e' => by have e'' : g177 = g193 := e'; omega)).kp hk208 (fun e' => by have e'' : g177 = g193 := e'; omega)).cell rfl)) <| SR.q' (r_fa fa25_2 rfl) <| SR.store (o := 2) (vs := [.int .i64 r.Copied]) sca3.2 rfl rfl rfl rfl (hb210) (Nat.le_of_ble_eq_true rfl) rfl ?_)
  intro w213 hk214 hs215 hb216
  have hz217 := hk214.size
  have hB218 := hB212.new hk214 (by omega)
  refine SR.nil ?_
  refine W.seq ?_
  refine W.regS (SR.q' (r_fa fa23_3 rfl) <| SR.q' (r_ld (v := .int .i64 r.Given) sca3 rfl (((((((hb182).lo hk188).lo hk196).kp hk202 (fun e' => by have e'' : g177 = g193 := e'; omega)).kp hk208 (fun e' => by have e'' : g177 = g193 := e'; omega)).kp hk214 (fun e' => by have e'' : g177 = g193 := e'; omega)).cell rfl)) <| SR.q' (r_fa fa25_3 rfl) <| SR.store (o := 3) (vs := [.int .i64 r.Given]) sca3.2 rfl rfl rfl rfl (hb216) (Nat.le_of_ble_eq_true rfl) rfl ?_)
  intro w219 hk220 hs221 hb222
  have hz223 := hk220.size
  have hB224 := hB218.new hk220 (by omega)
  refine SR.nil ?_
  refine W.seq ?_
  refine W.regS (SR.q' (r_fa fa23_4 rfl) <| SR.q' (r_ld (v := .int .i64 r.Fines) sca3 rfl ((((((((hb182).lo hk188).lo hk196).kp hk202 (fun e' => by have e'' : g177 = g193 := e'; omega)).kp hk208 (fun e' => by have e'' : g177 = g193 := e'; omega)).kp hk214 (fun e' => by have e'' : g177 = g193 := e'; omega)).kp hk220 (fun e' => by have e'' : g177 = g193 := e'; omega)).cell rfl)) <| SR.q' (r_fa fa25_4 rfl) <| SR.store (o := 4) (vs := [.int .i64 r.Fines]) sca3.2 rfl rfl rfl rfl (hb222) (Nat.le_of_ble_eq_true rfl) rfl ?_)
  intro w225 hk226 hs227 hb228
  have hz229 := hk226.size
  have hB230 := hB224.new hk226 (by omega)
  refine SR.nil ?_
  refine W.seq ?_
  refine W.regS (SR.q' (r_lda (l := [.int .i64 r.Month, .int .i64 r.Lent, .int .i64 r.Copied, .int .i64 r.Given, .int .i64 r.Fines]) agg25 rfl (fun _ _ hu => (hb228).cell hu) rfl) <| SR.store (o := 0) (vs := [.int .i64 r.Month, .int .i64 r.Lent, .int .i64 r.Copied, .int .i64 r.Given, .int .i64 r.Fines]) agg25.2 rfl rfl rfl rfl (((((((hb190).lo hk196).kp hk202 (fun e' => by have e'' : g185 = g193 := e'; omega)).kp hk208 (fun e' => by have e'' : g185 = g193 := e'; omega)).kp hk214 (fun e' => by have e'' : g185 = g193 := e'; omega)).kp hk220 (fun e' => by have e'' : g185 = g193 := e'; omega)).kp hk226 (fun e' => by have e'' : g185 = g193 := e'; omega)) (Nat.le_of_ble_eq_true rfl) rfl ?_)
  intro w231 hk232 hs233 hb234
  have hz235 := hk232.size
  have hB236 := hB230.new hk232 (by omega)
  refine SR.nil ?_
  refine W.ret ?_
  refine retC rfl rfl agg25 (hb234) rfl ?_
  exact ⟨eR (eA (z_c_laws_toLibRow_237 r)), hB236⟩

theorem c_laws_FnExactIsLibRow (w : World) (r : LibRow) : Calls Try.prog 3 #[.agg (List.toArray (encLibRow r))] w fun e w' => e = .returned (.bool true) ∧ Lo w w' := by
  refine calls_W 14 Try.func3 rfl rfl rfl ?_
  refine W.seq ?_
  refine W.regS (SR.box (v := .agg (List.toArray _)) (l := [.int .i64 r.Month, .int .i64 r.Lent, .int .i64 r.Copied, .int .i64 r.Given, .int .i64 r.Fines]) rfl rfl ?_)
  intro g238 w239 hg240 hk241 hs242 hb243
  have hz244 := hk241.size
  have hB245 := (Lo.refl w).lo hk241
  refine SR.q' (r_as (v := .bool false) rfl) <| SR.nil ?_
  refine W.seq ?_
  refine W.regS (SR.q' (r_lda (l := [.int .i64 r.Month, .int .i64 r.Lent, .int .i64 r.Copied, .int .i64 r.Given, .int .i64 r.Fines]) agg23 rfl (fun _ _ hu => (hb243).cell hu) rfl) <| SR.call ent12 (c_laws_toLibRow w239 r) rfl ?_)
  rintro e w246 ⟨rfl, hk247⟩
  refine ⟨_, rfl, ?_⟩
  have hz248 := hk247.size
  have hB249 := hB245.lo hk247
  refine SR.call ent11 (c_spec_IsLibRow w246 r) rfl ?_
  rintro e w250 ⟨rfl, hk251⟩
  refine ⟨_, rfl, ?_⟩
  have hz252 := hk251.size
  have hB253 := hB249.lo hk251
  refine SR.q' (r_as (v := .bool _) rfl) <| SR.nil ?_
  refine W.seq ?_
  refine W.regS (SR.q' (r_lda (l := [.int .i64 r.Month, .int .i64 r.Lent, .int .i64 r.Copied, .int .i64 r.Given, .int .i64 r.Fines]) agg23 rfl (fun _ _ hu => (((hb243).lo hk247).lo hk251).cell hu) rfl) <| SR.call ent12 (c_laws_toLibRow w250 r) rfl ?_)
  rintro e w254 ⟨rfl, hk255⟩
  refine ⟨_, rfl, ?_⟩
  have hz256 := hk255.size
  have hB257 := hB253.lo hk255
  refine SR.call ent13 (c_impl_IsLibRow w254 r) rfl ?_
  rintro e w258 ⟨rfl, hk259⟩
  refine ⟨_, rfl, ?_⟩
  have hz260 := hk259.size
  have hB261 := hB257.lo hk259
  refine SR.q' (r_as (v := .bool _) rfl) <| SR.nil ?_
  refine W.seq ?_
  refine W.seq ?_
  refine W.regS (SR.q' (r_mv (v := .bool _) rfl) <| SR.q' (r_mv (v := .bool _) rfl) <| SR.q' (r_neb_s und4 rfl rfl) <| SR.nil ?_)
  refine W.cond_f rfl ?_
  refine W.skip ?_
  refine W.seq ?_
  refine W.regS (SR.q' (r_as (v := .bool true) rfl) <| SR.nil ?_)
  refine W.ret ?_
  refine ret1 rfl (v := .bool _) rfl ?_
  exact ⟨eR rfl, hB261⟩
end Go.Proofs.Ytkbmbbdhojfnpaa
