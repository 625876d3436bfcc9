/- Walks, printed by a program of this claim's author. -/
import Derived.Test.YtkbmbbdhojfnpaaChecked
import Derived.Test.YtkbmbbdhojfnpaaLa
namespace Go.Proofs.Ytkbmbbdhojfnpaa
open Go Go.RowKit Fw
set_option maxRecDepth 10000
set_option linter.unusedVariables false
theorem mo : Try.prog.follows .mixedOrders = true := by kernel_rfl
theorem agg23 : TAgg Try.prog 23 5 := ⟨fun _ => by kernel_rfl, fun _ => by kernel_rfl⟩
theorem agg25 : TAgg Try.prog 25 5 := ⟨fun _ => by kernel_rfl, fun _ => by kernel_rfl⟩
theorem ent11 : Ent Try.prog 11 := ent_of Try.func11 (by decide +kernel) rfl
theorem ent12 : Ent Try.prog 12 := ent_of Try.func12 (by decide +kernel) rfl
theorem ent13 : Ent Try.prog 13 := ent_of Try.func13 (by decide +kernel) rfl
theorem ent14 : Ent Try.prog 14 := ent_of Try.func14 (by decide +kernel) rfl
theorem ent15 : Ent Try.prog 15 := ent_of Try.func15 (by decide +kernel) rfl
theorem ent16 : Ent Try.prog 16 := ent_of Try.func16 (by decide +kernel) rfl
theorem ent17 : Ent Try.prog 17 := ent_of Try.func17 (by decide +kernel) rfl
theorem ent18 : Ent Try.prog 18 := ent_of Try.func18 (by decide +kernel) rfl
theorem ent19 : Ent Try.prog 19 := ent_of Try.func19 (by decide +kernel) rfl
theorem ent20 : Ent Try.prog 20 := ent_of Try.func20 (by decide +kernel) rfl
theorem ent21 : Ent Try.prog 21 := ent_of Try.func21 (by decide +kernel) rfl
theorem ent22 : Ent Try.prog 22 := ent_of Try.func22 (by decide +kernel) rfl
theorem ent36 : Ent Try.prog 36 := ent_of Try.func36 (by decide +kernel) rfl
theorem ent37 : Ent Try.prog 37 := ent_of Try.func37 (by decide +kernel) rfl
theorem ent38 : Ent Try.prog 38 := ent_of Try.func38 (by decide +kernel) rfl
theorem ent39 : Ent Try.prog 39 := ent_of Try.func39 (by decide +kernel) rfl
theorem ent47 : Ent Try.prog 47 := ent_of Try.func47 (by decide +kernel) rfl
theorem fa23_0 : FA Try.prog 23 0 0 := fun _ _ => by kernel_rfl
theorem fa23_1 : FA Try.prog 23 1 1 := fun _ _ => by kernel_rfl
theorem fa23_2 : FA Try.prog 23 2 2 := fun _ _ => by kernel_rfl
theorem fa23_3 : FA Try.prog 23 3 3 := fun _ _ => by kernel_rfl
theorem fa23_4 : FA Try.prog 23 4 4 := fun _ _ => by kernel_rfl
theorem fa25_0 : FA Try.prog 25 0 0 := fun _ _ => by kernel_rfl
theorem fa25_1 : FA Try.prog 25 1 1 := fun _ _ => by kernel_rfl
theorem fa25_2 : FA Try.prog 25 2 2 := fun _ _ => by kernel_rfl
theorem fa25_3 : FA Try.prog 25 3 3 := fun _ _ => by kernel_rfl
theorem fa25_4 : FA Try.prog 25 4 4 := fun _ _ => by kernel_rfl
theorem sca3 : TSca Try.prog 3 := ⟨fun _ => by kernel_rfl, fun _ => by kernel_rfl⟩
theorem tel31 : TEl Try.prog 31 25 (.agg (List.toArray [.int .i64 0, .int .i64 0, .int .i64 0, .int .i64 0, .int .i64 0])) 5 40 := ⟨by kernel_rfl, by kernel_rfl, rfl, by decide⟩
theorem tsl28 : TSl Try.prog 28 23 5 := ⟨by kernel_rfl, fun _ => by kernel_rfl⟩
theorem tsl31 : TSl Try.prog 31 25 5 := ⟨by kernel_rfl, fun _ => by kernel_rfl⟩
theorem tz25 : TZ Try.prog 25 (.agg (List.toArray [.int .i64 0, .int .i64 0, .int .i64 0, .int .i64 0, .int .i64 0])) := fun _ => by kernel_rfl
theorem und28 : Try.prog.underlying 28 = some (.slice 23) := by kernel_rfl
theorem und31 : Try.prog.underlying 31 = some (.slice 25) := by kernel_rfl
theorem und4 : Try.prog.underlying 4 = some (.bool) := by kernel_rfl

theorem z_c_spec_l1In_2 (n : Int) (a : Int) (b : Int) (h1 : a ≤ n) : (n ≤ b) ↔ (a ≤ n ∧ n ≤ b) := by
  omega
theorem z_c_spec_l1In_3 (n : Int) (a : Int) (b : Int) (h1 : ¬ (a ≤ n)) : ¬ (a ≤ n ∧ n ≤ b) := by
  omega
theorem c_spec_l1In (w : World) (n : Int) (a : Int) (b : Int) : Calls Try.prog 47 #[.int .i64 n, .int .i64 a, .int .i64 b] w fun e w' => e = .returned (.bool (decide (a ≤ n ∧ n ≤ b))) ∧ Lo w w' := by
  refine calls_W 15 Try.func47 rfl rfl rfl ?_
  refine W.seq ?_
  refine W.regS (SR.q' (r_as (v := .bool false) rfl) <| SR.nil ?_)
  refine W.seq ?_
  refine W.regS (SR.q' (r_mv (v := .int .i64 _) rfl) <| SR.q' (r_mv (v := .int .i64 _) rfl) <| SR.q' (r_ge rfl rfl) <| SR.q' (r_mv (v := .bool _) rfl) <| SR.splitD (fun h1 => ?_) (fun h1 => ?_))
  · refine SR.g' rfl (r_mv (v := .int .i64 _) rfl) <| SR.g' rfl (r_mv (v := .int .i64 _) rfl) <| SR.g' rfl (r_le rfl rfl) <| SR.q' (r_pick true rfl (v := .bool _) rfl) <| SR.q' (r_as (v := .bool _) rfl) <| SR.nil ?_
    refine W.ret ?_
    refine ret1 rfl (v := .bool _) rfl ?_
    exact ⟨eR (eDD (z_c_spec_l1In_2 n a b h1)), (Lo.refl w)⟩
  · refine SR.s' rfl <| SR.s' rfl <| SR.s' rfl <| SR.q' (r_pick false rfl (v := .bool false) rfl) <| SR.q' (r_as (v := .bool _) rfl) <| SR.nil ?_
    refine W.ret ?_
    refine ret1 rfl (v := .bool _) rfl ?_
    exact ⟨eR (eDF (z_c_spec_l1In_3 n a b h1)), (Lo.refl w)⟩

theorem z_c_impl_within_5 (n : Int) (a : Int) (b : Int) (h4 : a ≤ n) : (n ≤ b) ↔ (a ≤ n ∧ n ≤ b) := by
  omega
theorem z_c_impl_within_6 (n : Int) (a : Int) (b : Int) (h4 : ¬ (a ≤ n)) : ¬ (a ≤ n ∧ n ≤ b) := by
  omega
theorem c_impl_within (w : World) (n : Int) (a : Int) (b : Int) : Calls Try.prog 37 #[.int .i64 n, .int .i64 a, .int .i64 b] w fun e w' => e = .returned (.bool (decide (a ≤ n ∧ n ≤ b))) ∧ Lo w w' := by
  refine calls_W 15 Try.func37 rfl rfl rfl ?_
  refine W.seq ?_
  refine W.regS (SR.q' (r_as (v := .bool false) rfl) <| SR.nil ?_)
  refine W.seq ?_
  refine W.regS (SR.q' (r_mv (v := .int .i64 _) rfl) <| SR.q' (r_mv (v := .int .i64 _) rfl) <| SR.q' (r_ge rfl rfl) <| SR.q' (r_mv (v := .bool _) rfl) <| SR.splitD (fun h4 => ?_) (fun h4 => ?_))
  · refine SR.g' rfl (r_mv (v := .int .i64 _) rfl) <| SR.g' rfl (r_mv (v := .int .i64 _) rfl) <| SR.g' rfl (r_le rfl rfl) <| SR.q' (r_pick true rfl (v := .bool _) rfl) <| SR.q' (r_as (v := .bool _) rfl) <| SR.nil ?_
    refine W.ret ?_
    refine ret1 rfl (v := .bool _) rfl ?_
    exact ⟨eR (eDD (z_c_impl_within_5 n a b h4)), (Lo.refl w)⟩
  · refine SR.s' rfl <| SR.s' rfl <| SR.s' rfl <| SR.q' (r_pick false rfl (v := .bool false) rfl) <| SR.q' (r_as (v := .bool _) rfl) <| SR.nil ?_
    refine W.ret ?_
    refine ret1 rfl (v := .bool _) rfl ?_
    exact ⟨eR (eDF (z_c_impl_within_6 n a b h4)), (Lo.refl w)⟩

theorem z_c_spec_l31One_39 (r : LibRow) (h19 : 1 ≤ r.Month ∧ r.Month ≤ 1200) (h24 : 0 ≤ r.Lent ∧ r.Lent ≤ 9999) (h29 : 0 ≤ r.Copied ∧ r.Copied ≤ 9999) (h34 : 0 ≤ r.Given ∧ r.Given ≤ 999) : (0 ≤ r.Fines ∧ r.Fines ≤ 99999) ↔ (RowOK r) := by
  unfold RowOK; omega
theorem z_c_spec_l31One_40 (r : LibRow) (h19 : 1 ≤ r.Month ∧ r.Month ≤ 1200) (h24 : 0 ≤ r.Lent ∧ r.Lent ≤ 9999) (h29 : 0 ≤ r.Copied ∧ r.Copied ≤ 9999) (h34 : ¬ (0 ≤ r.Given ∧ r.Given ≤ 999)) : ¬ (RowOK r) := by
  unfold RowOK; omega
theorem z_c_spec_l31One_41 (r : LibRow) (h19 : 1 ≤ r.Month ∧ r.Month ≤ 1200) (h24 : 0 ≤ r.Lent ∧ r.Lent ≤ 9999) (h29 : ¬ (0 ≤ r.Copied ∧ r.Copied ≤ 9999)) : ¬ (RowOK r) := by
  unfold RowOK; omega
theorem z_c_spec_l31One_42 (r : LibRow) (h19 : 1 ≤ r.Month ∧ r.Month ≤ 1200) (h24 : ¬ (0 ≤ r.Lent ∧ r.Lent ≤ 9999)) : ¬ (RowOK r) := by
  unfold RowOK; omega
theorem z_c_spec_l31One_43 (r : LibRow) (h19 : ¬ (1 ≤ r.Month ∧ r.Month ≤ 1200)) : ¬ (RowOK r) := by
  unfold RowOK; omega
theorem c_spec_l31One (w : World) (r : LibRow) : Calls Try.prog 36 #[.agg (List.toArray (encLibRow r))] w fun e w' => e = .returned (.bool (decide (RowOK r))) ∧ Lo w w' := by
  refine calls_W 26 Try.func36 rfl rfl rfl ?_
  refine W.seq ?_
  refine W.regS (SR.box (v := .agg (List.toArray _)) (l := [.int .i64 r.Month, .int .i64 r.Lent, .int .i64 r.Copied, .int .i64 r.Given, .int .i64 r.Fines]) rfl rfl ?_)
  intro g7 w8 hg9 hk10 hs11 hb12
  have hz13 := hk10.size
  have hB14 := (Lo.refl w).lo hk10
  refine SR.q' (r_as (v := .bool false) rfl) <| SR.nil ?_
  refine W.seq ?_
  refine W.regS (SR.q' (r_fa fa25_0 rfl) <| SR.q' (r_ld (v := .int .i64 r.Month) sca3 rfl ((hb12).cell rfl)) <| SR.call ent47 (c_spec_l1In w8 r.Month 1 1200) rfl ?_)
  rintro e w15 ⟨rfl, hk16⟩
  refine ⟨_, rfl, ?_⟩
  have hz17 := hk16.size
  have hB18 := hB14.lo hk16
  refine SR.q' (r_mv (v := .bool _) rfl) <| SR.splitD (fun h19 => ?_) (fun h19 => ?_)
  · refine SR.g' rfl (r_fa fa25_1 rfl) <| SR.g' rfl (r_ld (v := .int .i64 r.Lent) sca3 rfl (((hb12).lo hk16).cell rfl)) <| SR.gcall rfl ent47 (c_spec_l1In w15 r.Lent 0 9999) rfl ?_
    rintro e w20 ⟨rfl, hk21⟩
    refine ⟨_, rfl, ?_⟩
    have hz22 := hk21.size
    have hB23 := hB18.lo hk21
    refine SR.q' (r_pick true rfl (v := .bool _) rfl) <| SR.q' (r_mv (v := .bool _) rfl) <| SR.splitD (fun h24 => ?_) (fun h24 => ?_)
    · refine SR.g' rfl (r_fa fa25_2 rfl) <| SR.g' rfl (r_ld (v := .int .i64 r.Copied) sca3 rfl ((((hb12).lo hk16).lo hk21).cell rfl)) <| SR.gcall rfl ent47 (c_spec_l1In w20 r.Copied 0 9999) rfl ?_
      rintro e w25 ⟨rfl, hk26⟩
      refine ⟨_, rfl, ?_⟩
      have hz27 := hk26.size
      have hB28 := hB23.lo hk26
      refine SR.q' (r_pick true rfl (v := .bool _) rfl) <| SR.q' (r_mv (v := .bool _) rfl) <| SR.splitD (fun h29 => ?_) (fun h29 => ?_)
      · refine SR.g' rfl (r_fa fa25_3 rfl) <| SR.g' rfl (r_ld (v := .int .i64 r.Given) sca3 rfl (((((hb12).lo hk16).lo hk21).lo hk26).cell rfl)) <| SR.gcall rfl ent47 (c_spec_l1In w25 r.Given 0 999) rfl ?_
        rintro e w30 ⟨rfl, hk31⟩
        refine ⟨_, rfl, ?_⟩
        have hz32 := hk31.size
        have hB33 := hB28.lo hk31
        refine SR.q' (r_pick true rfl (v := .bool _) rfl) <| SR.q' (r_mv (v := .bool _) rfl) <| SR.splitD (fun h34 => ?_) (fun h34 => ?_)
        · refine SR.g' rfl (r_fa fa25_4 rfl) <| SR.g' rfl (r_ld (v := .int .i64 r.Fines) sca3 rfl ((((((hb12).lo hk16).lo hk21).lo hk26).lo hk31).cell rfl)) <| SR.gcall rfl ent47 (c_spec_l1In w30 r.Fines 0 99999) rfl ?_
          rintro e w35 ⟨rfl, hk36⟩
          refine ⟨_, rfl, ?_⟩
          have hz37 := hk36.size
          have hB38 := hB33.lo hk36
          refine SR.q' (r_pick true rfl (v := .bool _) rfl) <| SR.q' (r_as (v := .bool _) rfl) <| SR.nil ?_
          refine W.ret ?_
          refine ret1 rfl (v := .bool _) rfl ?_
          exact ⟨eR (eDD (z_c_spec_l31One_39 r h19 h24 h29 h34)), hB38⟩
        · refine SR.s' rfl <| SR.s' rfl <| SR.s' rfl <| SR.q' (r_pick false rfl (v := .bool false) rfl) <| SR.q' (r_as (v := .bool _) rfl) <| SR.nil ?_
          refine W.ret ?_
          refine ret1 rfl (v := .bool _) rfl ?_
          exact ⟨eR (eDF (z_c_spec_l31One_40 r h19 h24 h29 h34)), hB33⟩
      · refine SR.s' rfl <| SR.s' rfl <| SR.s' rfl <| SR.q' (r_pick false rfl (v := .bool false) rfl) <| SR.q' (r_mv (v := .bool _) rfl) <| SR.s' rfl <| SR.s' rfl <| SR.s' rfl <| SR.q' (r_pick false rfl (v := .bool false) rfl) <| SR.q' (r_as (v := .bool _) rfl) <| SR.nil ?_
        refine W.ret ?_
        refine ret1 rfl (v := .bool _) rfl ?_
        exact ⟨eR (eDF (z_c_spec_l31One_41 r h19 h24 h29)), hB28⟩
    · refine SR.s' rfl <| SR.s' rfl <| SR.s' rfl <| SR.q' (r_pick false rfl (v := .bool false) rfl) <| SR.q' (r_mv (v := .bool _) rfl) <| SR.s' rfl <| SR.s' rfl <| SR.s' rfl <| SR.q' (r_pick false rfl (v := .bool false) rfl) <| SR.q' (r_mv (v := .bool _) rfl) <| SR.s' rfl <| SR.s' rfl <| SR.s' rfl <| SR.q' (r_pick false rfl (v := .bool false) rfl) <| SR.q' (r_as (v := .bool _) rfl) <| SR.nil ?_
      refine W.ret ?_
      refine ret1 rfl (v := .bool _) rfl ?_
      exact ⟨eR (eDF (z_c_spec_l31One_42 r h19 h24)), hB23⟩
  · refine SR.s' rfl <| SR.s' rfl <| SR.s' rfl <| SR.q' (r_pick false rfl (v := .bool false) rfl) <| SR.q' (r_mv (v := .bool _) rfl) <| SR.s' rfl <| SR.s' rfl <| SR.s' rfl <| SR.q' (r_pick false rfl (v := .bool false) rfl) <| SR.q' (r_mv (v := .bool _) rfl) <| SR.s' rfl <| SR.s' rfl <| SR.s' rfl <| SR.q' (r_pick false rfl (v := .bool false) rfl) <| SR.q' (r_mv (v := .bool _) rfl) <| SR.s' rfl <| SR.s' rfl <| SR.s' rfl <| SR.q' (r_pick false rfl (v := .bool false) rfl) <| SR.q' (r_as (v := .bool _) rfl) <| SR.nil ?_
    refine W.ret ?_
    refine ret1 rfl (v := .bool _) rfl ?_
    exact ⟨eR (eDF (z_c_spec_l31One_43 r h19)), hB18⟩

theorem z_c_impl_IsLibRow_76 (r : LibRow) (h56 : 1 ≤ r.Month ∧ r.Month ≤ 1200) (h61 : 0 ≤ r.Lent ∧ r.Lent ≤ 9999) (h66 : 0 ≤ r.Copied ∧ r.Copied ≤ 9999) (h71 : 0 ≤ r.Given ∧ r.Given ≤ 999) : (0 ≤ r.Fines ∧ r.Fines ≤ 99999) ↔ (RowOK r) := by
  unfold RowOK; omega
theorem z_c_impl_IsLibRow_77 (r : LibRow) (h56 : 1 ≤ r.Month ∧ r.Month ≤ 1200) (h61 : 0 ≤ r.Lent ∧ r.Lent ≤ 9999) (h66 : 0 ≤ r.Copied ∧ r.Copied ≤ 9999) (h71 : ¬ (0 ≤ r.Given ∧ r.Given ≤ 999)) : ¬ (RowOK r) := by
  unfold RowOK; omega
theorem z_c_impl_IsLibRow_78 (r : LibRow) (h56 : 1 ≤ r.Month ∧ r.Month ≤ 1200) (h61 : 0 ≤ r.Lent ∧ r.Lent ≤ 9999) (h66 : ¬ (0 ≤ r.Copied ∧ r.Copied ≤ 9999)) : ¬ (RowOK r) := by
  unfold RowOK; omega
theorem z_c_impl_IsLibRow_79 (r : LibRow) (h56 : 1 ≤ r.Month ∧ r.Month ≤ 1200) (h61 : ¬ (0 ≤ r.Lent ∧ r.Lent ≤ 9999)) : ¬ (RowOK r) := by
  unfold RowOK; omega
theorem z_c_impl_IsLibRow_80 (r : LibRow) (h56 : ¬ (1 ≤ r.Month ∧ r.Month ≤ 1200)) : ¬ (RowOK r) := by
  unfold RowOK; omega
theorem c_impl_IsLibRow (w : World) (r : LibRow) : Calls Try.prog 13 #[.agg (List.toArray (encLibRow r))] w fun e w' => e = .returned (.bool (decide (RowOK r))) ∧ Lo w w' := by
  refine calls_W 26 Try.func13 rfl rfl rfl ?_
  refine W.seq ?_
  refine W.regS (SR.box (v := .agg (List.toArray _)) (l := [.int .i64 r.Month, .int .i64 r.Lent, .int .i64 r.Copied, .int .i64 r.Given, .int .i64 r.Fines]) rfl rfl ?_)
  intro g44 w45 hg46 hk47 hs48 hb49
  have hz50 := hk47.size
  have hB51 := (Lo.refl w).lo hk47
  refine SR.q' (r_as (v := .bool false) rfl) <| SR.nil ?_
  refine W.seq ?_
  refine W.regS (SR.q' (r_fa fa25_0 rfl) <| SR.q' (r_ld (v := .int .i64 r.Month) sca3 rfl ((hb49).cell rfl)) <| SR.call ent37 (c_impl_within w45 r.Month 1 1200) rfl ?_)
  rintro e w52 ⟨rfl, hk53⟩
  refine ⟨_, rfl, ?_⟩
  have hz54 := hk53.size
  have hB55 := hB51.lo hk53
  refine SR.q' (r_mv (v := .bool _) rfl) <| SR.splitD (fun h56 => ?_) (fun h56 => ?_)
  · refine SR.g' rfl (r_fa fa25_1 rfl) <| SR.g' rfl (r_ld (v := .int .i64 r.Lent) sca3 rfl (((hb49).lo hk53).cell rfl)) <| SR.gcall rfl ent37 (c_impl_within w52 r.Lent 0 9999) rfl ?_
    rintro e w57 ⟨rfl, hk58⟩
    refine ⟨_, rfl, ?_⟩
    have hz59 := hk58.size
    have hB60 := hB55.lo hk58
    refine SR.q' (r_pick true rfl (v := .bool _) rfl) <| SR.q' (r_mv (v := .bool _) rfl) <| SR.splitD (fun h61 => ?_) (fun h61 => ?_)
    · refine SR.g' rfl (r_fa fa25_2 rfl) <| SR.g' rfl (r_ld (v := .int .i64 r.Copied) sca3 rfl ((((hb49).lo hk53).lo hk58).cell rfl)) <| SR.gcall rfl ent37 (c_impl_within w57 r.Copied 0 9999) rfl ?_
      rintro e w62 ⟨rfl, hk63⟩
      refine ⟨_, rfl, ?_⟩
      have hz64 := hk63.size
      have hB65 := hB60.lo hk63
      refine SR.q' (r_pick true rfl (v := .bool _) rfl) <| SR.q' (r_mv (v := .bool _) rfl) <| SR.splitD (fun h66 => ?_) (fun h66 => ?_)
      · refine SR.g' rfl (r_fa fa25_3 rfl) <| SR.g' rfl (r_ld (v := .int .i64 r.Given) sca3 rfl (((((hb49).lo hk53).lo hk58).lo hk63).cell rfl)) <| SR.gcall rfl ent37 (c_impl_within w62 r.Given 0 999) rfl ?_
        rintro e w67 ⟨rfl, hk68⟩
        refine ⟨_, rfl, ?_⟩
        have hz69 := hk68.size
        have hB70 := hB65.lo hk68
        refine SR.q' (r_pick true rfl (v := .bool _) rfl) <| SR.q' (r_mv (v := .bool _) rfl) <| SR.splitD (fun h71 => ?_) (fun h71 => ?_)
        · refine SR.g' rfl (r_fa fa25_4 rfl) <| SR.g' rfl (r_ld (v := .int .i64 r.Fines) sca3 rfl ((((((hb49).lo hk53).lo hk58).lo hk63).lo hk68).cell rfl)) <| SR.gcall rfl ent37 (c_impl_within w67 r.Fines 0 99999) rfl ?_
          rintro e w72 ⟨rfl, hk73⟩
          refine ⟨_, rfl, ?_⟩
          have hz74 := hk73.size
          have hB75 := hB70.lo hk73
          refine SR.q' (r_pick true rfl (v := .bool _) rfl) <| SR.q' (r_as (v := .bool _) rfl) <| SR.nil ?_
          refine W.ret ?_
          refine ret1 rfl (v := .bool _) rfl ?_
          exact ⟨eR (eDD (z_c_impl_IsLibRow_76 r h56 h61 h66 h71)), hB75⟩
        · refine SR.s' rfl <| SR.s' rfl <| SR.s' rfl <| SR.q' (r_pick false rfl (v := .bool false) rfl) <| SR.q' (r_as (v := .bool _) rfl) <| SR.nil ?_
          refine W.ret ?_
          refine ret1 rfl (v := .bool _) rfl ?_
          exact ⟨eR (eDF (z_c_impl_IsLibRow_77 r h56 h61 h66 h71)), hB70⟩
      · refine SR.s' rfl <| SR.s' rfl <| SR.s' rfl <| SR.q' (r_pick false rfl (v := .bool false) rfl) <| SR.q' (r_mv (v := .bool _) rfl) <| SR.s' rfl <| SR.s' rfl <| SR.s' rfl <| SR.q' (r_pick false rfl (v := .bool false) rfl) <| SR.q' (r_as (v := .bool _) rfl) <| SR.nil ?_
        refine W.ret ?_
        refine ret1 rfl (v := .bool _) rfl ?_
        exact ⟨eR (eDF (z_c_impl_IsLibRow_78 r h56 h61 h66)), hB65⟩
    · refine SR.s' rfl <| SR.s' rfl <| SR.s' rfl <| SR.q' (r_pick false rfl (v := .bool false) rfl) <| SR.q' (r_mv (v := .bool _) rfl) <| SR.s' rfl <| SR.s' rfl <| SR.s' rfl <| SR.q' (r_pick false rfl (v := .bool false) rfl) <| SR.q' (r_mv (v := .bool _) rfl) <| SR.s' rfl <| SR.s' rfl <| SR.s' rfl <| SR.q' (r_pick false rfl (v := .bool false) rfl) <| SR.q' (r_as (v := .bool _) rfl) <| SR.nil ?_
      refine W.ret ?_
      refine ret1 rfl (v := .bool _) rfl ?_
      exact ⟨eR (eDF (z_c_impl_IsLibRow_79 r h56 h61)), hB60⟩
  · refine SR.s' rfl <| SR.s' rfl <| SR.s' rfl <| SR.q' (r_pick false rfl (v := .bool false) rfl) <| SR.q' (r_mv (v := .bool _) rfl) <| SR.s' rfl <| SR.s' rfl <| SR.s' rfl <| SR.q' (r_pick false rfl (v := .bool false) rfl) <| SR.q' (r_mv (v := .bool _) rfl) <| SR.s' rfl <| SR.s' rfl <| SR.s' rfl <| SR.q' (r_pick false rfl (v := .bool false) rfl) <| SR.q' (r_mv (v := .bool _) rfl) <| SR.s' rfl <| SR.s' rfl <| SR.s' rfl <| SR.q' (r_pick false rfl (v := .bool false) rfl) <| SR.q' (r_as (v := .bool _) rfl) <| SR.nil ?_
    refine W.ret ?_
    refine ret1 rfl (v := .bool _) rfl ?_
    exact ⟨eR (eDF (z_c_impl_IsLibRow_80 r h56)), hB55⟩

theorem c_spec_IsLibRow (w : World) (r : LibRow) : Calls Try.prog 11 #[.agg (List.toArray (encLibRow r))] w fun e w' => e = .returned (.bool (decide (RowOK r))) ∧ Lo w w' := by
  refine calls_W 5 Try.func11 rfl rfl rfl ?_
  refine W.seq ?_
  refine W.regS (SR.box (v := .agg (List.toArray _)) (l := [.int .i64 r.Month, .int .i64 r.Lent, .int .i64 r.Copied, .int .i64 r.Given, .int .i64 r.Fines]) rfl rfl ?_)
  intro g81 w82 hg83 hk84 hs85 hb86
  have hz87 := hk84.size
  have hB88 := (Lo.refl w).lo hk84
  refine SR.q' (r_as (v := .bool false) rfl) <| SR.nil ?_
  refine W.seq ?_
  refine W.regS (SR.q' (r_lda (l := [.int .i64 r.Month, .int .i64 r.Lent, .int .i64 r.Copied, .int .i64 r.Given, .int .i64 r.Fines]) agg25 rfl (fun _ _ hu => (hb86).cell hu) rfl) <| SR.call ent36 (c_spec_l31One w82 r) rfl ?_)
  rintro e w89 ⟨rfl, hk90⟩
  refine ⟨_, rfl, ?_⟩
  have hz91 := hk90.size
  have hB92 := hB88.lo hk90
  refine SR.q' (r_as (v := .bool _) rfl) <| SR.nil ?_
  refine W.ret ?_
  refine ret1 rfl (v := .bool _) rfl ?_
  exact ⟨eR rfl, hB92⟩

theorem z_c_spec_l31Good_93 (L : List LibRow) (nL : Nat) (hbdL : (nL : Int) ≤ 9223372036854775807) (hleL : nL = L.length) : 0 ≤ nL ∧ RowsTo L 0 := by
  exact ⟨Nat.zero_le _, RowsTo.zero _⟩
theorem z_c_spec_l31Good_108 (L : List LibRow) (nL : Nat) (hbdL : (nL : Int) ≤ 9223372036854775807) (hleL : nL = L.length) (k : Nat) (hi99 : k ≤ nL ∧ RowsTo L k) (h100 : (k : Int) < (nL : Int)) (x101 : LibRow) (hx102 : L[k]? = some x101) (h103 : ¬ (RowOK x101)) : ¬ (RowsOK L) := by
  first | exact (fun hr => rows_bad ‹L[k]? = some _› (by intro hs; unfold RowStep at hs; grind) hr) | exact rows_end (And.right ‹_ ∧ RowsTo L _›) ‹_› ‹_›
theorem z_c_spec_l31Good_118 (L : List LibRow) (nL : Nat) (hbdL : (nL : Int) ≤ 9223372036854775807) (hleL : nL = L.length) (k : Nat) (hi99 : k ≤ nL ∧ RowsTo L k) (h100 : (k : Int) < (nL : Int)) (x101 : LibRow) (hx102 : L[k]? = some x101) (h103 : RowOK x101) (h109 : 0 < (k : Int)) (x110 : LibRow) (hx112 : L[k - 1]? = some x110) (h117 : x101.Month ≤ x110.Month) : ¬ (RowsOK L) := by
  first | exact (fun hr => rows_bad ‹L[k]? = some _› (by intro hs; unfold RowStep at hs; grind) hr) | exact rows_end (And.right ‹_ ∧ RowsTo L _›) ‹_› ‹_›
theorem z_c_spec_l31Good_119 (L : List LibRow) (nL : Nat) (hbdL : (nL : Int) ≤ 9223372036854775807) (hleL : nL = L.length) (k : Nat) (hi99 : k ≤ nL ∧ RowsTo L k) (h100 : (k : Int) < (nL : Int)) (x101 : LibRow) (hx102 : L[k]? = some x101) (h103 : RowOK x101) (h109 : 0 < (k : Int)) (x110 : LibRow) (hx112 : L[k - 1]? = some x110) (h117 : ¬ (x101.Month ≤ x110.Month)) : k + 1 ≤ nL ∧ RowsTo L (k + 1) := by
  refine ⟨by omega, rows_next (And.right ‹_ ∧ RowsTo L _›) ‹L[k]? = some _› ?_⟩; unfold RowStep; grind
theorem z_c_spec_l31Good_120 (L : List LibRow) (nL : Nat) (hbdL : (nL : Int) ≤ 9223372036854775807) (hleL : nL = L.length) (k : Nat) (hi99 : k ≤ nL ∧ RowsTo L k) (h100 : (k : Int) < (nL : Int)) (x101 : LibRow) (hx102 : L[k]? = some x101) (h103 : RowOK x101) (h109 : 0 < (k : Int)) (x110 : LibRow) (hx112 : L[k - 1]? = some x110) (h117 : ¬ (x101.Month ≤ x110.Month)) : nL - (k + 1) < nL - k := by
  omega
theorem z_c_spec_l31Good_125 (L : List LibRow) (nL : Nat) (hbdL : (nL : Int) ≤ 9223372036854775807) (hleL : nL = L.length) (k : Nat) (hi99 : k ≤ nL ∧ RowsTo L k) (h100 : (k : Int) < (nL : Int)) (x101 : LibRow) (hx102 : L[k]? = some x101) (h103 : RowOK x101) (h109 : ¬ (0 < (k : Int))) : k + 1 ≤ nL ∧ RowsTo L (k + 1) := by
  refine ⟨by omega, rows_next (And.right ‹_ ∧ RowsTo L _›) ‹L[k]? = some _› ?_⟩; unfold RowStep; grind
theorem z_c_spec_l31Good_126 (L : List LibRow) (nL : Nat) (hbdL : (nL : Int) ≤ 9223372036854775807) (hleL : nL = L.length) (k : Nat) (hi99 : k ≤ nL ∧ RowsTo L k) (h100 : (k : Int) < (nL : Int)) (x101 : LibRow) (hx102 : L[k]? = some x101) (h103 : RowOK x101) (h109 : ¬ (0 < (k : Int))) : nL - (k + 1) < nL - k := by
  omega
theorem z_c_spec_l31Good_127 (L : List LibRow) (nL : Nat) (hbdL : (nL : Int) ≤ 9223372036854775807) (hleL : nL = L.length) (k : Nat) (hi99 : k ≤ nL ∧ RowsTo L k) (h100 : ¬ ((k : Int) < (nL : Int))) : ((nL : Int) ≤ 12) ↔ (RowsOK L) := by
  first | exact (fun hr => rows_bad ‹L[k]? = some _› (by intro hs; unfold RowStep at hs; grind) hr) | exact rows_end (And.right ‹_ ∧ RowsTo L _›) ‹_› ‹_›
theorem c_spec_l31Good (w : World) {AL : Option Addr} {nL cL BL : Nat} (L : List LibRow) (hL : SlR w BL encLibRow 5 AL nL cL L) : Calls Try.prog 38 #[.slice AL nL cL] w fun e w' => e = .returned (.bool (decide (RowsOK L))) ∧ Lo w w' := by
  refine calls_W 37 Try.func38 rfl rfl rfl ?_
  have hbdL := hL.bound
  have hleL := hL.len
  have hBbL := hL.bd
  refine W.seq ?_
  refine W.regS (SR.q' (r_as (v := .bool false) rfl) <| SR.nil ?_)
  refine W.seq ?_
  refine W.seq ?_
  refine W.regS (SR.q' (r_as (v := .int .i64 0) rfl) <| SR.nil ?_)
  refine W.block ?_
  refine W.loop (σ := Nat) (fun g => [(0, .slice AL nL cL), (3, .int .i64 (g : Int))]) (fun g w' => (Lo w w') ∧ (SlR w' BL encLibRow 5 AL nL cL L) ∧ (g ≤ nL ∧ RowsTo L g)) (fun g => nL - g) 0 ?_ ?_ ?_
  · exact ⟨rfl, rfl, trivial⟩
  · exact ⟨(Lo.refl w), hL, (z_c_spec_l31Good_93 L nL hbdL hleL)⟩
  · rintro k f94 w95 hP97
    obtain ⟨hB96, hm98, hi99⟩ : (Lo w w95) ∧ (SlR w95 BL encLibRow 5 AL nL cL L) ∧ (k ≤ nL ∧ RowsTo L k) := hP97
    refine (?_ : W _ _ _ _ _ (act _ (sets f94 [(0, .slice AL nL cL), (3, .int .i64 (k : Int))])) _)
    have hzw95 := hB96.size
    refine W.seq ?_
    refine W.seq ?_
    refine W.regS (SR.q' (r_mv (v := .int .i64 _) rfl) <| SR.q' (r_mv (v := .slice _ _ _) rfl) <| SR.q' (r_len und31 rfl) <| SR.q' (r_lt rfl rfl) <| SR.nil ?_)
    refine W.cond_d rfl (fun h100 => ?_) (fun h100 => ?_)
    · refine W.skip ?_
      refine W.seq ?_
      refine W.block ?_
      refine W.seq ?_
      refine W.regD mo (by kernel_rfl) (QR.q' (fun w' hw' => r_mv (v := .slice _ _ _) rfl) <| QR.q' (fun w' hw' => r_mv (v := .int .i64 _) rfl) <| ?_)
      obtain ⟨x101, hx102⟩ := (hm98).get (i := k) (by omega)
      refine QR.q' (fun w' hw' => r_ixR tsl31 ((hm98).lo hw') rfl rfl (by omega)) <| QR.q' (fun w' hw' => r_lda (l := encLibRow x101) agg25 rfl (fun _ _ hu => ((hm98).lo hw').cell hx102 hu) (((hm98).lo hw').esz _)) <| QR.call ent36 (fun w' hw' => (c_spec_l31One w' x101).mono fun _ _ h => ⟨h.1, hw'.trans h.2⟩) rfl <| QR.q' (fun w' hw' => r_not rfl) <| QR.q' (fun w' hw' => r_mv (v := .bool _) rfl) <| QR.splitN (fun h103 => ?_) (fun h103 => ?_)
      · refine QR.s' rfl <| QR.s' rfl <| QR.s' rfl <| QR.u' rfl <| QR.u' rfl <| QR.u' rfl <| QR.u' rfl <| QR.u' rfl <| QR.u' rfl <| QR.u' rfl <| QR.u' rfl <| QR.u' rfl <| QR.u' rfl <| QR.u' rfl <| QR.u' rfl <| QR.s' rfl <| QR.q' (fun w' hw' => r_pick true rfl (v := .bool true) rfl) <| QR.nil ?_
        intro w104 hk105
        have hz106 := hk105.size
        have hB107 := hB96.lo hk105
        refine W.cond_t rfl ?_
        refine W.seq ?_
        refine W.regS (SR.q' (r_as (v := .bool false) rfl) <| SR.nil ?_)
        refine W.ret ?_
        refine ret1 rfl (v := .bool _) rfl ?_
        exact ⟨eR (eDF (z_c_spec_l31Good_108 L nL hbdL hleL k hi99 h100 x101 hx102 h103)), hB107⟩
      · refine QR.g' rfl (fun w' hw' => r_mv (v := .int .i64 _) rfl) <| QR.g' rfl (fun w' hw' => r_gt rfl rfl) <| QR.g' rfl (fun w' hw' => r_mv (v := .bool _) rfl) <| QR.splitD (fun h109 => ?_) (fun h109 => ?_)
        · refine QR.g' rfl (fun w' hw' => r_mv (v := .slice _ _ _) rfl) <| QR.g' rfl (fun w' hw' => r_mv (v := .int .i64 _) rfl) <| QR.g' rfl (fun w' hw' => r_sub rfl rfl (by omega)) <| ?_
          obtain ⟨x110, hx111⟩ := (hm98).get (i := ((k : Int) - 1).toNat) (by omega)
          have hx112 : L[k - 1]? = some x110 := (show ((k : Int) - 1).toNat = k - 1 from by omega) ▸ hx111
          refine QR.g' rfl (fun w' hw' => r_ixR tsl31 ((hm98).lo hw') rfl rfl (by omega)) <| QR.g' rfl (fun w' hw' => r_fa fa25_0 rfl) <| QR.g' rfl (fun w' hw' => r_ld (v := .int .i64 x110.Month) sca3 rfl (((hm98).lo hw').cell hx111 rfl)) <| QR.g' rfl (fun w' hw' => r_mv (v := .slice _ _ _) rfl) <| QR.g' rfl (fun w' hw' => r_mv (v := .int .i64 _) rfl) <| QR.g' rfl (fun w' hw' => r_ixR tsl31 ((hm98).lo hw') rfl rfl (by omega)) <| QR.g' rfl (fun w' hw' => r_fa fa25_0 rfl) <| QR.g' rfl (fun w' hw' => r_ld (v := .int .i64 x101.Month) sca3 rfl (((hm98).lo hw').cell hx102 rfl)) <| QR.g' rfl (fun w' hw' => r_ge rfl rfl) <| QR.g' rfl (fun w' hw' => r_pick true rfl (v := .bool _) rfl) <| QR.q' (fun w' hw' => r_pick false rfl (v := .bool _) rfl) <| QR.nil ?_
          intro w113 hk114
          have hz115 := hk114.size
          have hB116 := hB96.lo hk114
          refine W.cond_d rfl (fun h117 => ?_) (fun h117 => ?_)
          · refine W.seq ?_
            refine W.regS (SR.q' (r_as (v := .bool false) rfl) <| SR.nil ?_)
            refine W.ret ?_
            refine ret1 rfl (v := .bool _) rfl ?_
            exact ⟨eR (eDF (z_c_spec_l31Good_118 L nL hbdL hleL k hi99 h100 x101 hx102 h103 h109 x110 hx112 h117)), hB116⟩
          · refine W.skip ?_
            refine W.regS (SR.q' (r_mv (v := .int .i64 _) rfl) <| SR.q' (r_add rfl rfl (by omega)) <| SR.q' (r_as (v := .int .i64 _) rfl) <| SR.nil ?_)
            refine ⟨k + 1, _, rfl, ⟨rfl, rfl, trivial⟩, ⟨hB116, (hm98).lo hk114, ?_⟩, ?_⟩
            · exact (z_c_spec_l31Good_119 L nL hbdL hleL k hi99 h100 x101 hx102 h103 h109 x110 hx112 h117)
            · exact (z_c_spec_l31Good_120 L nL hbdL hleL k hi99 h100 x101 hx102 h103 h109 x110 hx112 h117)
        · refine QR.s' rfl <| QR.s' rfl <| QR.s' rfl <| QR.s' rfl <| QR.s' rfl <| QR.s' rfl <| QR.s' rfl <| QR.s' rfl <| QR.s' rfl <| QR.s' rfl <| QR.s' rfl <| QR.s' rfl <| QR.g' rfl (fun w' hw' => r_pick false rfl (v := .bool false) rfl) <| QR.q' (fun w' hw' => r_pick false rfl (v := .bool _) rfl) <| QR.nil ?_
          intro w121 hk122
          have hz123 := hk122.size
          have hB124 := hB96.lo hk122
          refine W.cond_f rfl ?_
          refine W.skip ?_
          refine W.regS (SR.q' (r_mv (v := .int .i64 _) rfl) <| SR.q' (r_add rfl rfl (by omega)) <| SR.q' (r_as (v := .int .i64 _) rfl) <| SR.nil ?_)
          refine ⟨k + 1, _, rfl, ⟨rfl, rfl, trivial⟩, ⟨hB124, (hm98).lo hk122, ?_⟩, ?_⟩
          · exact (z_c_spec_l31Good_125 L nL hbdL hleL k hi99 h100 x101 hx102 h103 h109)
          · exact (z_c_spec_l31Good_126 L nL hbdL hleL k hi99 h100 x101 hx102 h103 h109)
    · refine W.exit (xin_here ?_)
      refine W.seq ?_
      refine W.regS (SR.q' (r_mv (v := .slice _ _ _) rfl) <| SR.q' (r_len und31 rfl) <| SR.q' (r_le rfl rfl) <| SR.q' (r_as (v := .bool _) rfl) <| SR.nil ?_)
      refine W.ret ?_
      refine ret1 rfl (v := .bool _) rfl ?_
      exact ⟨eR (eDD (z_c_spec_l31Good_127 L nL hbdL hleL k hi99 h100)), hB96⟩

theorem z_c_impl_AreLibRows_128 (L : List LibRow) (nL : Nat) (hbdL : (nL : Int) ≤ 9223372036854775807) (hleL : nL = L.length) : 0 ≤ nL ∧ RowsTo L 0 := by
  exact ⟨Nat.zero_le _, RowsTo.zero _⟩
theorem z_c_impl_AreLibRows_157 (L : List LibRow) (nL : Nat) (hbdL : (nL : Int) ≤ 9223372036854775807) (hleL : nL = L.length) (k : Nat) (hi134 : k ≤ nL ∧ RowsTo L k) (h135 : (k : Int) < (nL : Int)) (x136 : LibRow) (hx137 : L[k]? = some x136) (h152 : ¬ (RowOK x136)) : ¬ (RowsOK L) := by
  first | exact (fun hr => rows_bad ‹L[k]? = some _› (by intro hs; unfold RowStep at hs; grind) hr) | exact rows_end (And.right ‹_ ∧ RowsTo L _›) ‹_› ‹_›
theorem z_c_impl_AreLibRows_167 (L : List LibRow) (nL : Nat) (hbdL : (nL : Int) ≤ 9223372036854775807) (hleL : nL = L.length) (k : Nat) (hi134 : k ≤ nL ∧ RowsTo L k) (h135 : (k : Int) < (nL : Int)) (x136 : LibRow) (hx137 : L[k]? = some x136) (h152 : RowOK x136) (h158 : 0 < (k : Int)) (x159 : LibRow) (hx161 : L[k - 1]? = some x159) (h166 : x136.Month ≤ x159.Month) : ¬ (RowsOK L) := by
  first | exact (fun hr => rows_bad ‹L[k]? = some _› (by intro hs; unfold RowStep at hs; grind) hr) | exact rows_end (And.right ‹_ ∧ RowsTo L _›) ‹_› ‹_›
theorem z_c_impl_AreLibRows_168 (L : List LibRow) (nL : Nat) (hbdL : (nL : Int) ≤ 9223372036854775807) (hleL : nL = L.length) (k : Nat) (hi134 : k ≤ nL ∧ RowsTo L k) (h135 : (k : Int) < (nL : Int)) (x136 : LibRow) (hx137 : L[k]? = some x136) (h152 : RowOK x136) (h158 : 0 < (k : Int)) (x159 : LibRow) (hx161 : L[k - 1]? = some x159) (h166 : ¬ (x136.Month ≤ x159.Month)) : k + 1 ≤ nL ∧ RowsTo L (k + 1) := by
  refine ⟨by omega, rows_next (And.right ‹_ ∧ RowsTo L _›) ‹L[k]? = some _› ?_⟩; unfold RowStep; grind
theorem z_c_impl_AreLibRows_169 (L : List LibRow) (nL : Nat) (hbdL : (nL : Int) ≤ 9223372036854775807) (hleL : nL = L.length) (k : Nat) (hi134 : k ≤ nL ∧ RowsTo L k) (h135 : (k : Int) < (nL : Int)) (x136 : LibRow) (hx137 : L[k]? = some x136) (h152 : RowOK x136) (h158 : 0 < (k : Int)) (x159 : LibRow) (hx161 : L[k - 1]? = some x159) (h166 : ¬ (x136.Month ≤ x159.Month)) : nL - (k + 1) < nL - k := by
  omega
theorem z_c_impl_AreLibRows_174 (L : List LibRow) (nL : Nat) (hbdL : (nL : Int) ≤ 9223372036854775807) (hleL : nL = L.length) (k : Nat) (hi134 : k ≤ nL ∧ RowsTo L k) (h135 : (k : Int) < (nL : Int)) (x136 : LibRow) (hx137 : L[k]? = some x136) (h152 : RowOK x136) (h158 : ¬ (0 < (k : Int))) : k + 1 ≤ nL ∧ RowsTo L (k + 1) := by
  refine ⟨by omega, rows_next (And.right ‹_ ∧ RowsTo L _›) ‹L[k]? = some _› ?_⟩; unfold RowStep; grind
theorem z_c_impl_AreLibRows_175 (L : List LibRow) (nL : Nat) (hbdL : (nL : Int) ≤ 9223372036854775807) (hleL : nL = L.length) (k : Nat) (hi134 : k ≤ nL ∧ RowsTo L k) (h135 : (k : Int) < (nL : Int)) (x136 : LibRow) (hx137 : L[k]? = some x136) (h152 : RowOK x136) (h158 : ¬ (0 < (k : Int))) : nL - (k + 1) < nL - k := by
  omega
theorem z_c_impl_AreLibRows_176 (L : List LibRow) (nL : Nat) (hbdL : (nL : Int) ≤ 9223372036854775807) (hleL : nL = L.length) (k : Nat) (hi134 : k ≤ nL ∧ RowsTo L k) (h135 : ¬ ((k : Int) < (nL : Int))) : ((nL : Int) ≤ 12) ↔ (RowsOK L) := by
  first | exact (fun hr => rows_bad ‹L[k]? = some _› (by intro hs; unfold RowStep at hs; grind) hr) | exact rows_end (And.right ‹_ ∧ RowsTo L _›) ‹_› ‹_›
theorem c_impl_AreLibRows (w : World) {AL : Option Addr} {nL cL BL : Nat} (L : List LibRow) (hL : SlR w BL encLibRow 5 AL nL cL L) : Calls Try.prog 17 #[.slice AL nL cL] w fun e w' => e = .returned (.bool (decide (RowsOK L))) ∧ Lo w w' := by
  refine calls_W 34 Try.func17 rfl rfl rfl ?_
  have hbdL := hL.bound
  have hleL := hL.len
  have hBbL := hL.bd
  refine W.seq ?_
  refine W.regS (SR.q' (r_as (v := .bool false) rfl) <| SR.nil ?_)
  refine W.seq ?_
  refine W.seq ?_
  refine W.regS (SR.q' (r_mv (v := .slice _ _ _) rfl) <| SR.q' (r_len und31 rfl) <| SR.q' (r_mv (v := .int .i64 0) rfl) <| SR.nil ?_)
  refine W.block ?_
  refine W.loop (σ := Nat) (fun g => [(0, .slice AL nL cL), (5, .slice AL nL cL), (6, .int .i64 (nL : Int)), (7, .int .i64 (g : Int))]) (fun g w' => (Lo w w') ∧ (SlR w' BL encLibRow 5 AL nL cL L) ∧ (g ≤ nL ∧ RowsTo L g)) (fun g => nL - g) 0 ?_ ?_ ?_
  · exact ⟨rfl, rfl, rfl, rfl, trivial⟩
  · exact ⟨(Lo.refl w), hL, (z_c_impl_AreLibRows_128 L nL hbdL hleL)⟩
  · rintro k f129 w130 hP132
    obtain ⟨hB131, hm133, hi134⟩ : (Lo w w130) ∧ (SlR w130 BL encLibRow 5 AL nL cL L) ∧ (k ≤ nL ∧ RowsTo L k) := hP132
    refine (?_ : W _ _ _ _ _ (act _ (sets f129 [(0, .slice AL nL cL), (5, .slice AL nL cL), (6, .int .i64 (nL : Int)), (7, .int .i64 (k : Int))])) _)
    have hzw130 := hB131.size
    refine W.seq ?_
    refine W.regS (SR.q' (r_lt rfl rfl) <| SR.nil ?_)
    refine W.seq ?_
    refine W.cond_d rfl (fun h135 => ?_) (fun h135 => ?_)
    · refine W.skip ?_
      refine W.seq ?_
      refine W.block ?_
      refine W.seq ?_
      refine W.regS (SR.q' (r_mv (v := .int .i64 _) rfl) <| ?_)
      obtain ⟨x136, hx137⟩ := (hm133).get (i := k) (by omega)
      refine SR.q' (r_ixR tsl31 (hm133) rfl rfl (by omega)) <| SR.q' (r_lda (l := encLibRow x136) agg25 rfl (fun _ _ hu => (hm133).cell hx137 hu) ((hm133).esz _)) <| SR.alloc (l := [.int .i64 0, .int .i64 0, .int .i64 0, .int .i64 0, .int .i64 0]) tz25 rfl ?_
      intro g138 w139 hg140 hk141 hs142 hb143
      have hz144 := hk141.size
      have hB145 := hB131.lo hk141
      refine SR.q' (r_as (v := .int .i64 _) rfl) <| SR.store (o := 0) (vs := [.int .i64 x136.Month, .int .i64 x136.Lent, .int .i64 x136.Copied, .int .i64 x136.Given, .int .i64 x136.Fines]) agg25.2 rfl rfl rfl rfl (hb143) (Nat.le_of_ble_eq_true rfl) rfl ?_
      intro w146 hk147 hs148 hb149
      have hz150 := hk147.size
      have hB151 := hB145.new hk147 (by omega)
      refine SR.nil ?_
      refine W.seq ?_
      refine W.regD mo (by kernel_rfl) (QR.q' (fun w' hw' => r_lda (l := [.int .i64 x136.Month, .int .i64 x136.Lent, .int .i64 x136.Copied, .int .i64 x136.Given, .int .i64 x136.Fines]) agg25 rfl (fun _ _ hu => ((hb149).lo hw').cell hu) rfl) <| QR.call ent13 (fun w' hw' => (c_impl_IsLibRow w' x136).mono fun _ _ h => ⟨h.1, hw'.trans h.2⟩) rfl <| QR.q' (fun w' hw' => r_not rfl) <| QR.q' (fun w' hw' => r_mv (v := .bool _) rfl) <| QR.splitN (fun h152 => ?_) (fun h152 => ?_))
      · refine QR.s' rfl <| QR.s' rfl <| QR.s' rfl <| QR.u' rfl <| QR.u' rfl <| QR.u' rfl <| QR.u' rfl <| QR.u' rfl <| QR.u' rfl <| QR.u' rfl <| QR.u' rfl <| QR.u' rfl <| QR.s' rfl <| QR.q' (fun w' hw' => r_pick true rfl (v := .bool true) rfl) <| QR.nil ?_
        intro w153 hk154
        have hz155 := hk154.size
        have hB156 := hB151.lo hk154
        refine W.cond_t rfl ?_
        refine W.seq ?_
        refine W.regS (SR.q' (r_as (v := .bool false) rfl) <| SR.nil ?_)
        refine W.ret ?_
        refine ret1 rfl (v := .bool _) rfl ?_
        exact ⟨eR (eDF (z_c_impl_AreLibRows_157 L nL hbdL hleL k hi134 h135 x136 hx137 h152)), hB156⟩
      · refine QR.g' rfl (fun w' hw' => r_mv (v := .int .i64 _) rfl) <| QR.g' rfl (fun w' hw' => r_gt rfl rfl) <| QR.g' rfl (fun w' hw' => r_mv (v := .bool _) rfl) <| QR.splitD (fun h158 => ?_) (fun h158 => ?_)
        · refine QR.g' rfl (fun w' hw' => r_fa fa25_0 rfl) <| QR.g' rfl (fun w' hw' => r_ld (v := .int .i64 x136.Month) sca3 rfl (((hb149).lo hw').cell rfl)) <| QR.g' rfl (fun w' hw' => r_mv (v := .slice _ _ _) rfl) <| QR.g' rfl (fun w' hw' => r_mv (v := .int .i64 _) rfl) <| QR.g' rfl (fun w' hw' => r_sub rfl rfl (by omega)) <| ?_
          obtain ⟨x159, hx160⟩ := (((hm133).lo hk141).kp hk147 (fun b hb e' => by have e'' : b = g138 := e'; omega)).get (i := ((k : Int) - 1).toNat) (by omega)
          have hx161 : L[k - 1]? = some x159 := (show ((k : Int) - 1).toNat = k - 1 from by omega) ▸ hx160
          refine QR.g' rfl (fun w' hw' => r_ixR tsl31 ((((hm133).lo hk141).kp hk147 (fun b hb e' => by have e'' : b = g138 := e'; omega)).lo hw') rfl rfl (by omega)) <| QR.g' rfl (fun w' hw' => r_fa fa25_0 rfl) <| QR.g' rfl (fun w' hw' => r_ld (v := .int .i64 x159.Month) sca3 rfl (((((hm133).lo hk141).kp hk147 (fun b hb e' => by have e'' : b = g138 := e'; omega)).lo hw').cell hx160 rfl)) <| QR.g' rfl (fun w' hw' => r_le rfl rfl) <| QR.g' rfl (fun w' hw' => r_pick true rfl (v := .bool _) rfl) <| QR.q' (fun w' hw' => r_pick false rfl (v := .bool _) rfl) <| QR.nil ?_
          intro w162 hk163
          have hz164 := hk163.size
          have hB165 := hB151.lo hk163
          refine W.cond_d rfl (fun h166 => ?_) (fun h166 => ?_)
          · refine W.seq ?_
            refine W.regS (SR.q' (r_as (v := .bool false) rfl) <| SR.nil ?_)
            refine W.ret ?_
            refine ret1 rfl (v := .bool _) rfl ?_
            exact ⟨eR (eDF (z_c_impl_AreLibRows_167 L nL hbdL hleL k hi134 h135 x136 hx137 h152 h158 x159 hx161 h166)), hB165⟩
          · refine W.skip ?_
            refine W.regS (SR.q' (r_add rfl rfl (by omega)) <| SR.q' (r_mv (v := .int .i64 _) rfl) <| SR.nil ?_)
            refine ⟨k + 1, _, rfl, ⟨rfl, rfl, rfl, rfl, trivial⟩, ⟨hB165, (((hm133).lo hk141).kp hk147 (fun b hb e' => by have e'' : b = g138 := e'; omega)).lo hk163, ?_⟩, ?_⟩
            · exact (z_c_impl_AreLibRows_168 L nL hbdL hleL k hi134 h135 x136 hx137 h152 h158 x159 hx161 h166)
            · exact (z_c_impl_AreLibRows_169 L nL hbdL hleL k hi134 h135 x136 hx137 h152 h158 x159 hx161 h166)
        · refine QR.s' rfl <| QR.s' rfl <| QR.s' rfl <| QR.s' rfl <| QR.s' rfl <| QR.s' rfl <| QR.s' rfl <| QR.s' rfl <| QR.s' rfl <| QR.g' rfl (fun w' hw' => r_pick false rfl (v := .bool false) rfl) <| QR.q' (fun w' hw' => r_pick false rfl (v := .bool _) rfl) <| QR.nil ?_
          intro w170 hk171
          have hz172 := hk171.size
          have hB173 := hB151.lo hk171
          refine W.cond_f rfl ?_
          refine W.skip ?_
          refine W.regS (SR.q' (r_add rfl rfl (by omega)) <| SR.q' (r_mv (v := .int .i64 _) rfl) <| SR.nil ?_)
          refine ⟨k + 1, _, rfl, ⟨rfl, rfl, rfl, rfl, trivial⟩, ⟨hB173, (((hm133).lo hk141).kp hk147 (fun b hb e' => by have e'' : b = g138 := e'; omega)).lo hk171, ?_⟩, ?_⟩
          · exact (z_c_impl_AreLibRows_174 L nL hbdL hleL k hi134 h135 x136 hx137 h152 h158)
          · exact (z_c_impl_AreLibRows_175 L nL hbdL hleL k hi134 h135 x136 hx137 h152 h158)
    · refine W.exit (xin_here ?_)
      refine W.seq ?_
      refine W.regS (SR.q' (r_mv (v := .slice _ _ _) rfl) <| SR.q' (r_len und31 rfl) <| SR.q' (r_le rfl rfl) <| SR.q' (r_as (v := .bool _) rfl) <| SR.nil ?_)
      refine W.ret ?_
      refine ret1 rfl (v := .bool _) rfl ?_
      exact ⟨eR (eDD (z_c_impl_AreLibRows_176 L nL hbdL hleL k hi134 h135)), hB131⟩

theorem z_c_laws_toLibRow_237 (r : LibRow) : ([.int .i64 r.Month, .int .i64 r.Lent, .int .i64 r.Copied, .int .i64 r.Given, .int .i64 r.Fines] : List Value) = encLibRow r := by
  first | rfl | (first | rfl | omega | grind)
theorem c_laws_toLibRow (w : World) (r : LibRow) : Calls Try.prog 12 #[.agg (List.toArray (encLibRow r))] w fun e w' => e = .returned (.agg (List.toArray (encLibRow r))) ∧ Lo w w' := by
  refine calls_W 20 Try.func12 rfl rfl rfl ?_
  refine W.seq ?_
  refine W.regS (SR.box (v := .agg (List.toArray _)) (l := [.int .i64 r.Month, .int .i64 r.Lent, .int .i64 r.Copied, .int .i64 r.Given, .int .i64 r.Fines]) rfl rfl ?_)
  intro g177 w178 hg179 hk180 hs181 hb182
  have hz183 := hk180.size
  have hB184 := (Lo.refl w).lo hk180
  refine SR.alloc (l := [.int .i64 0, .int .i64 0, .int .i64 0, .int .i64 0, .int .i64 0]) tz25 rfl ?_
  intro g185 w186 hg187 hk188 hs189 hb190
  have hz191 := hk188.size
  have hB192 := hB184.lo hk188
  refine SR.nil ?_
  refine W.seq ?_
  refine W.regS (SR.alloc (l := [.int .i64 0, .int .i64 0, .int .i64 0, .int .i64 0, .int .i64 0]) tz25 rfl ?_)
  intro g193 w194 hg195 hk196 hs197 hb198
  have hz199 := hk196.size
  have hB200 := hB192.lo hk196
  refine SR.nil ?_
  refine W.seq ?_
  refine W.regS (SR.q' (r_fa fa23_0 rfl) <| SR.q' (r_ld (v := .int .i64 r.Month) sca3 rfl ((((hb182).lo hk188).lo hk196).cell rfl)) <| SR.q' (r_fa fa25_0 rfl) <| SR.store (o := 0) (vs := [.int .i64 r.Month]) sca3.2 rfl rfl rfl rfl (hb198) (Nat.le_of_ble_eq_true rfl) rfl ?_)
  intro w201 hk202 hs203 hb204
  have hz205 := hk202.size
  have hB206 := hB200.new hk202 (by omega)
  refine SR.nil ?_
  refine W.seq ?_
  refine W.regS (SR.q' (r_fa fa23_1 rfl) <| SR.q' (r_ld (v := .int .i64 r.Lent) sca3 rfl (((((hb182).lo hk188).lo hk196).kp hk202 (fun e' => by have e'' : g177 = g193 := e'; omega)).cell rfl)) <| SR.q' (r_fa fa25_1 rfl) <| SR.store (o := 1) (vs := [.int .i64 r.Lent]) sca3.2 rfl rfl rfl rfl (hb204) (Nat.le_of_ble_eq_true rfl) rfl ?_)
  intro w207 hk208 hs209 hb210
  have hz211 := hk208.size
  have hB212 := hB206.new hk208 (by omega)
  refine SR.nil ?_
  refine W.seq ?_
  refine W.regS (SR.q' (r_fa fa23_2 rfl) <| SR.q' (r_ld (v := .int .i64 r.Copied) sca3 rfl ((((((hb182).lo hk188).lo hk196).kp hk202 (fun e' => by have e'' : g177 = g193 := e'; omega)).kp hk208 (fun e' => by have e'' : g177 = g193 := e'; omega)).cell rfl)) <| SR.q' (r_fa fa25_2 rfl) <| SR.store (o := 2) (vs := [.int .i64 r.Copied]) sca3.2 rfl rfl rfl rfl (hb210) (Nat.le_of_ble_eq_true rfl) rfl ?_)
  intro w213 hk214 hs215 hb216
  have hz217 := hk214.size
  have hB218 := hB212.new hk214 (by omega)
  refine SR.nil ?_
  refine W.seq ?_
  refine W.regS (SR.q' (r_fa fa23_3 rfl) <| SR.q' (r_ld (v := .int .i64 r.Given) sca3 rfl (((((((hb182).lo hk188).lo hk196).kp hk202 (fun e' => by have e'' : g177 = g193 := e'; omega)).kp hk208 (fun e' => by have e'' : g177 = g193 := e'; omega)).kp hk214 (fun e' => by have e'' : g177 = g193 := e'; omega)).cell rfl)) <| SR.q' (r_fa fa25_3 rfl) <| SR.store (o := 3) (vs := [.int .i64 r.Given]) sca3.2 rfl rfl rfl rfl (hb216) (Nat.le_of_ble_eq_true rfl) rfl ?_)
  intro w219 hk220 hs221 hb222
  have hz223 := hk220.size
  have hB224 := hB218.new hk220 (by omega)
  refine SR.nil ?_
  refine W.seq ?_
  refine W.regS (SR.q' (r_fa fa23_4 rfl) <| SR.q' (r_ld (v := .int .i64 r.Fines) sca3 rfl ((((((((hb182).lo hk188).lo hk196).kp hk202 (fun e' => by have e'' : g177 = g193 := e'; omega)).kp hk208 (fun e' => by have e'' : g177 = g193 := e'; omega)).kp hk214 (fun e' => by have e'' : g177 = g193 := e'; omega)).kp hk220 (fun e' => by have e'' : g177 = g193 := e'; omega)).cell rfl)) <| SR.q' (r_fa fa25_4 rfl) <| SR.store (o := 4) (vs := [.int .i64 r.Fines]) sca3.2 rfl rfl rfl rfl (hb222) (Nat.le_of_ble_eq_true rfl) rfl ?_)
  intro w225 hk226 hs227 hb228
  have hz229 := hk226.size
  have hB230 := hB224.new hk226 (by omega)
  refine SR.nil ?_
  refine W.seq ?_
  refine W.regS (SR.q' (r_lda (l := [.int .i64 r.Month, .int .i64 r.Lent, .int .i64 r.Copied, .int .i64 r.Given, .int .i64 r.Fines]) agg25 rfl (fun _ _ hu => (hb228).cell hu) rfl) <| SR.store (o := 0) (vs := [.int .i64 r.Month, .int .i64 r.Lent, .int .i64 r.Copied, .int .i64 r.Given, .int .i64 r.Fines]) agg25.2 rfl rfl rfl rfl (((((((hb190).lo hk196).kp hk202 (fun e' => by have e'' : g185 = g193 := e'; omega)).kp hk208 (fun e' => by have e'' : g185 = g193 := e'; omega)).kp hk214 (fun e' => by have e'' : g185 = g193 := e'; omega)).kp hk220 (fun e' => by have e'' : g185 = g193 := e'; omega)).kp hk226 (fun e' => by have e'' : g185 = g193 := e'; omega)) (Nat.le_of_ble_eq_true rfl) rfl ?_)
  intro w231 hk232 hs233 hb234
  have hz235 := hk232.size
  have hB236 := hB230.new hk232 (by omega)
  refine SR.nil ?_
  refine W.ret ?_
  refine retC rfl rfl agg25 (hb234) rfl ?_
  exact ⟨eR (eA (z_c_laws_toLibRow_237 r)), hB236⟩

theorem z_c_laws_szLibRowS_239 (L : List LibRow) (nL : Nat) (hbdL : (nL : Int) ≤ 9223372036854775807) (hleL : nL = L.length) (left : Int) (hp0 : 0 ≤ left) (hp1 : left ≤ 1048576) (h238 : (left - (nL : Int)) < 0) : (-1) = szN L.length left := by
  unfold szN; split <;> omega
theorem z_c_laws_szLibRowS_240 (L : List LibRow) (nL : Nat) (hbdL : (nL : Int) ≤ 9223372036854775807) (hleL : nL = L.length) (left : Int) (hp0 : 0 ≤ left) (hp1 : left ≤ 1048576) (h238 : ¬ ((left - (nL : Int)) < 0)) : left - (nL : Int) = szN L.length left := by
  unfold szN; split <;> omega
theorem c_laws_szLibRowS (w : World) {AL : Option Addr} {nL cL BL : Nat} (L : List LibRow) (hL : SlR w BL encLibRow 5 AL nL cL L) (left : Int) (hp0 : 0 ≤ left) (hp1 : left ≤ 1048576) : Calls Try.prog 14 #[.slice AL nL cL, .int .i64 left] w fun e w' => e = .returned (.int .i64 (szN L.length left)) ∧ Lo w w' := by
  refine calls_W 12 Try.func14 rfl rfl rfl ?_
  have hbdL := hL.bound
  have hleL := hL.len
  have hBbL := hL.bd
  refine W.seq ?_
  refine W.regS (SR.q' (r_as (v := .int .i64 0) rfl) <| SR.nil ?_)
  refine W.seq ?_
  refine W.regS (SR.q' (r_mv (v := .int .i64 _) rfl) <| SR.q' (r_mv (v := .slice _ _ _) rfl) <| SR.q' (r_len und28 rfl) <| SR.q' (r_sub rfl rfl (by omega)) <| SR.q' (r_as (v := .int .i64 _) rfl) <| SR.nil ?_)
  refine W.seq ?_
  refine W.seq ?_
  refine W.regS (SR.q' (r_mv (v := .int .i64 _) rfl) <| SR.q' (r_lt rfl rfl) <| SR.nil ?_)
  refine W.cond_d rfl (fun h238 => ?_) (fun h238 => ?_)
  · refine W.seq ?_
    refine W.regS (SR.q' (r_as (v := .int .i64 (-1)) rfl) <| SR.nil ?_)
    refine W.ret ?_
    refine ret1 rfl (v := .int .i64 _) rfl ?_
    exact ⟨eR (eI (z_c_laws_szLibRowS_239 L nL hbdL hleL left hp0 hp1 h238)), (Lo.refl w)⟩
  · refine W.skip ?_
    refine W.seq ?_
    refine W.regS (SR.q' (r_mv (v := .int .i64 _) rfl) <| SR.q' (r_as (v := .int .i64 _) rfl) <| SR.nil ?_)
    refine W.ret ?_
    refine ret1 rfl (v := .int .i64 _) rfl ?_
    exact ⟨eR (eI (z_c_laws_szLibRowS_240 L nL hbdL hleL left hp0 hp1 h238)), (Lo.refl w)⟩

theorem z_c_laws_toLibRowS_248 (L : List LibRow) (nL : Nat) (hbdL : (nL : Int) ≤ 9223372036854775807) (hleL : nL = L.length) (hp0 : (nL : Int) ≤ 1048576) : 0 ≤ nL := by
  omega
theorem z_c_laws_toLibRowS_249 (L : List LibRow) (nL : Nat) (hbdL : (nL : Int) ≤ 9223372036854775807) (hleL : nL = L.length) (hp0 : (nL : Int) ≤ 1048576) : List.replicate nL (⟨0, 0, 0, 0, 0⟩ : LibRow) = L.take 0 ++ List.replicate (nL - 0) (⟨0, 0, 0, 0, 0⟩ : LibRow) := by
  exact tk_init
theorem z_c_laws_toLibRowS_273 (L : List LibRow) (nL : Nat) (hbdL : (nL : Int) ≤ 9223372036854775807) (hleL : nL = L.length) (hp0 : (nL : Int) ≤ 1048576) (k : Nat) (hi256 : k ≤ nL) (h257 : (k : Int) < (nL : Int)) (x258 : LibRow) (hx259 : L[k]? = some x258) (x264 : LibRow) (hx265 : (L.take k ++ List.replicate (nL - k) (⟨0, 0, 0, 0, 0⟩ : LibRow))[k]? = some x264) : (L.take k ++ List.replicate (nL - k) (⟨0, 0, 0, 0, 0⟩ : LibRow)).set ((k : Int).toNat) x258 = L.take (k + 1) ++ List.replicate (nL - (k + 1)) (⟨0, 0, 0, 0, 0⟩ : LibRow) := by
  exact tk_set (by assumption) hleL
theorem z_c_laws_toLibRowS_274 (L : List LibRow) (nL : Nat) (hbdL : (nL : Int) ≤ 9223372036854775807) (hleL : nL = L.length) (hp0 : (nL : Int) ≤ 1048576) (k : Nat) (hi256 : k ≤ nL) (h257 : (k : Int) < (nL : Int)) (x258 : LibRow) (hx259 : L[k]? = some x258) (x264 : LibRow) (hx265 : (L.take k ++ List.replicate (nL - k) (⟨0, 0, 0, 0, 0⟩ : LibRow))[k]? = some x264) : k + 1 ≤ nL := by
  omega
theorem z_c_laws_toLibRowS_275 (L : List LibRow) (nL : Nat) (hbdL : (nL : Int) ≤ 9223372036854775807) (hleL : nL = L.length) (hp0 : (nL : Int) ≤ 1048576) (k : Nat) (hi256 : k ≤ nL) (h257 : (k : Int) < (nL : Int)) (x258 : LibRow) (hx259 : L[k]? = some x258) (x264 : LibRow) (hx265 : (L.take k ++ List.replicate (nL - k) (⟨0, 0, 0, 0, 0⟩ : LibRow))[k]? = some x264) : nL - (k + 1) < nL - k := by
  omega
theorem z_c_laws_toLibRowS_276 (L : List LibRow) (nL : Nat) (hbdL : (nL : Int) ≤ 9223372036854775807) (hleL : nL = L.length) (hp0 : (nL : Int) ≤ 1048576) (k : Nat) (hi256 : k ≤ nL) (h257 : ¬ ((k : Int) < (nL : Int))) : L.take k ++ List.replicate (nL - k) (⟨0, 0, 0, 0, 0⟩ : LibRow) = L := by
  exact tk_end hleL (by assumption) (by omega)
theorem c_laws_toLibRowS (w : World) {AL : Option Addr} {nL cL BL : Nat} (L : List LibRow) (hL : SlR w BL encLibRow 5 AL nL cL L) (hp0 : (nL : Int) ≤ 1048576) : Calls Try.prog 16 #[.slice AL nL cL] w fun e w' => ∃ (A1' : Option Addr) (n1' c1' : Nat), e = .returned (.slice A1' n1' c1') ∧ SlO w' w.heap.size encLibRow 5 25 A1' n1' c1' L ∧ Lo w w' := by
  refine calls_W 23 Try.func16 rfl rfl rfl ?_
  have hbdL := hL.bound
  have hleL := hL.len
  have hBbL := hL.bd
  refine W.seq ?_
  refine W.regS (SR.q' (r_as (v := .slice none 0 0) rfl) <| SR.nil ?_)
  refine W.seq ?_
  refine W.regS (SR.q' (r_mv (v := .slice _ _ _) rfl) <| SR.q' (r_len und28 rfl) <| SR.make (m := nL) (zx := (⟨0, 0, 0, 0, 0⟩ : LibRow)) (enc := encLibRow) tel31 rfl (fun _ => rfl) rfl rfl (by omega) (by omega) ?_)
  intro g241 w242 hg243 hk244 hO245
  have hz246 := hk244.size
  have hB247 := (Lo.refl w).lo hk244
  refine SR.q' (r_as (v := .slice _ _ _) rfl) <| SR.nil ?_
  refine W.seq ?_
  refine W.seq ?_
  refine W.regS (SR.q' (r_as (v := .int .i64 0) rfl) <| SR.nil ?_)
  refine W.block ?_
  refine W.loop (σ := Nat) (fun g => [(0, .slice AL nL cL), (2, .slice none 0 0), (3, .slice (some ⟨g241, 0, none⟩) nL nL), (4, .int .i64 (g : Int))]) (fun g w' => (Lo w w') ∧ (SlR w' BL encLibRow 5 AL nL cL L) ∧ (SlO w' w.heap.size encLibRow 5 25 (some ⟨g241, 0, none⟩) nL nL (L.take g ++ List.replicate (nL - g) (⟨0, 0, 0, 0, 0⟩ : LibRow))) ∧ (g ≤ nL)) (fun g => nL - g) 0 ?_ ?_ ?_
  · exact ⟨rfl, rfl, rfl, rfl, trivial⟩
  · exact ⟨hB247, (hL).lo hk244, (SlO.eqv (hO245) (z_c_laws_toLibRowS_249 L nL hbdL hleL hp0)), (z_c_laws_toLibRowS_248 L nL hbdL hleL hp0)⟩
  · rintro k f250 w251 hP253
    obtain ⟨hB252, hm254, hm255, hi256⟩ : (Lo w w251) ∧ (SlR w251 BL encLibRow 5 AL nL cL L) ∧ (SlO w251 w.heap.size encLibRow 5 25 (some ⟨g241, 0, none⟩) nL nL (L.take k ++ List.replicate (nL - k) (⟨0, 0, 0, 0, 0⟩ : LibRow))) ∧ (k ≤ nL) := hP253
    refine (?_ : W _ _ _ _ _ (act _ (sets f250 [(0, .slice AL nL cL), (2, .slice none 0 0), (3, .slice (some ⟨g241, 0, none⟩) nL nL), (4, .int .i64 (k : Int))])) _)
    have hzw251 := hB252.size
    refine W.seq ?_
    refine W.seq ?_
    refine W.regS (SR.q' (r_mv (v := .int .i64 _) rfl) <| SR.q' (r_mv (v := .slice _ _ _) rfl) <| SR.q' (r_len und28 rfl) <| SR.q' (r_lt rfl rfl) <| SR.nil ?_)
    refine W.cond_d rfl (fun h257 => ?_) (fun h257 => ?_)
    · refine W.skip ?_
      refine W.seq ?_
      refine W.block ?_
      refine W.regS (SR.q' (r_mv (v := .slice _ _ _) rfl) <| SR.q' (r_mv (v := .int .i64 _) rfl) <| SR.q' (r_mv (v := .slice _ _ _) rfl) <| SR.q' (r_mv (v := .int .i64 _) rfl) <| ?_)
      obtain ⟨x258, hx259⟩ := (hm254).get (i := k) (by omega)
      refine SR.q' (r_ixR tsl28 (hm254) rfl rfl (by omega)) <| SR.q' (r_lda (l := encLibRow x258) agg23 rfl (fun _ _ hu => (hm254).cell hx259 hu) ((hm254).esz _)) <| SR.call ent12 (c_laws_toLibRow w251 x258) rfl ?_
      rintro e w260 ⟨rfl, hk261⟩
      refine ⟨_, rfl, ?_⟩
      have hz262 := hk261.size
      have hB263 := hB252.lo hk261
      obtain ⟨x264, hx265⟩ := (((hm255).lo hk261).rd).get (i := k) (by omega)
      refine SR.q' (r_ixR tsl31 (((hm255).lo hk261).rd) rfl rfl (by omega)) <| SR.storeO (o := 0) (vs := [.int .i64 x258.Month, .int .i64 x258.Lent, .int .i64 x258.Copied, .int .i64 x258.Given, .int .i64 x258.Fines]) (x1 := x258) agg25.2 rfl rfl rfl rfl ((hm255).lo hk261) hx265 rfl (Nat.le_of_ble_eq_true rfl) rfl ?_
      intro w266 hk267 hs268 hO269
      have hz270 := hk267.size
      have hB271 := hB263.step hk267 (fun i hi e' => by have := (((hm255).lo hk261)).base_le e'; first | omega | (exfalso; omega))
      have hx272 : ((L.take k ++ List.replicate (nL - k) (⟨0, 0, 0, 0, 0⟩ : LibRow)).set ((k : Int).toNat) x258)[(k : Int).toNat]? = some (x258) := List.getElem?_set_self (List.getElem?_eq_some_iff.1 hx265).1
      refine SR.nil ?_
      refine W.regS (SR.q' (r_mv (v := .int .i64 _) rfl) <| SR.q' (r_add rfl rfl (by omega)) <| SR.q' (r_as (v := .int .i64 _) rfl) <| SR.nil ?_)
      refine ⟨k + 1, _, rfl, ⟨rfl, rfl, rfl, rfl, trivial⟩, ⟨hB271, ((hm254).lo hk261).kp hk267 (fun b hb e' => by have := (((hm255).lo hk261)).base_le e'; omega), (SlO.eqv (hO269) (z_c_laws_toLibRowS_273 L nL hbdL hleL hp0 k hi256 h257 x258 hx259 x264 hx265)), ?_⟩, ?_⟩
      · exact (z_c_laws_toLibRowS_274 L nL hbdL hleL hp0 k hi256 h257 x258 hx259 x264 hx265)
      · exact (z_c_laws_toLibRowS_275 L nL hbdL hleL hp0 k hi256 h257 x258 hx259 x264 hx265)
    · refine W.exit (xin_here ?_)
      refine W.seq ?_
      refine W.regS (SR.q' (r_mv (v := .slice _ _ _) rfl) <| SR.q' (r_as (v := .slice _ _ _) rfl) <| SR.nil ?_)
      refine W.ret ?_
      refine ret1 rfl (v := .slice _ _ _) rfl ?_
      exact ⟨(some ⟨g241, 0, none⟩), nL, nL, eR rfl, (SlO.eqv ((hm255).down (by omega)) (z_c_laws_toLibRowS_276 L nL hbdL hleL hp0 k hi256 h257)), hB252⟩

theorem z_c_laws_eqLibRow_294 (a : LibRow) (b : LibRow) (h293 : ¬ (a.Month = b.Month)) : ¬ (a = b) := by
  cases a; cases b; simp_all
theorem z_c_laws_eqLibRow_296 (a : LibRow) (b : LibRow) (h293 : a.Month = b.Month) (h295 : ¬ (a.Lent = b.Lent)) : ¬ (a = b) := by
  cases a; cases b; simp_all
theorem z_c_laws_eqLibRow_298 (a : LibRow) (b : LibRow) (h293 : a.Month = b.Month) (h295 : a.Lent = b.Lent) (h297 : ¬ (a.Copied = b.Copied)) : ¬ (a = b) := by
  cases a; cases b; simp_all
theorem z_c_laws_eqLibRow_300 (a : LibRow) (b : LibRow) (h293 : a.Month = b.Month) (h295 : a.Lent = b.Lent) (h297 : a.Copied = b.Copied) (h299 : ¬ (a.Given = b.Given)) : ¬ (a = b) := by
  cases a; cases b; simp_all
theorem z_c_laws_eqLibRow_302 (a : LibRow) (b : LibRow) (h293 : a.Month = b.Month) (h295 : a.Lent = b.Lent) (h297 : a.Copied = b.Copied) (h299 : a.Given = b.Given) (h301 : ¬ (a.Fines = b.Fines)) : ¬ (a = b) := by
  cases a; cases b; simp_all
theorem z_c_laws_eqLibRow_303 (a : LibRow) (b : LibRow) (h293 : a.Month = b.Month) (h295 : a.Lent = b.Lent) (h297 : a.Copied = b.Copied) (h299 : a.Given = b.Given) (h301 : a.Fines = b.Fines) : a = b := by
  cases a; cases b; simp_all
theorem c_laws_eqLibRow (w : World) (a : LibRow) (b : LibRow) : Calls Try.prog 39 #[.agg (List.toArray (encLibRow a)), .agg (List.toArray (encLibRow b))] w fun e w' => e = .returned (.bool (decide (a = b))) ∧ Lo w w' := by
  refine calls_W 30 Try.func39 rfl rfl rfl ?_
  refine W.seq ?_
  refine W.regS (SR.box (v := .agg (List.toArray _)) (l := [.int .i64 a.Month, .int .i64 a.Lent, .int .i64 a.Copied, .int .i64 a.Given, .int .i64 a.Fines]) rfl rfl ?_)
  intro g277 w278 hg279 hk280 hs281 hb282
  have hz283 := hk280.size
  have hB284 := (Lo.refl w).lo hk280
  refine SR.box (v := .agg (List.toArray _)) (l := [.int .i64 b.Month, .int .i64 b.Lent, .int .i64 b.Copied, .int .i64 b.Given, .int .i64 b.Fines]) rfl rfl ?_
  intro g285 w286 hg287 hk288 hs289 hb290
  have hz291 := hk288.size
  have hB292 := hB284.lo hk288
  refine SR.q' (r_as (v := .bool false) rfl) <| SR.nil ?_
  refine W.seq ?_
  refine W.seq ?_
  refine W.regS (SR.q' (r_fa fa25_0 rfl) <| SR.q' (r_ld (v := .int .i64 a.Month) sca3 rfl (((hb282).lo hk288).cell rfl)) <| SR.q' (r_fa fa25_0 rfl) <| SR.q' (r_ld (v := .int .i64 b.Month) sca3 rfl ((hb290).cell rfl)) <| SR.q' (r_ne rfl rfl) <| SR.nil ?_)
  refine W.cond_n rfl (fun h293 => ?_) (fun h293 => ?_)
  · refine W.seq ?_
    refine W.regS (SR.q' (r_as (v := .bool false) rfl) <| SR.nil ?_)
    refine W.ret ?_
    refine ret1 rfl (v := .bool _) rfl ?_
    exact ⟨eR (eDF (z_c_laws_eqLibRow_294 a b h293)), hB292⟩
  · refine W.skip ?_
    refine W.seq ?_
    refine W.seq ?_
    refine W.regS (SR.q' (r_fa fa25_1 rfl) <| SR.q' (r_ld (v := .int .i64 a.Lent) sca3 rfl (((hb282).lo hk288).cell rfl)) <| SR.q' (r_fa fa25_1 rfl) <| SR.q' (r_ld (v := .int .i64 b.Lent) sca3 rfl ((hb290).cell rfl)) <| SR.q' (r_ne rfl rfl) <| SR.nil ?_)
    refine W.cond_n rfl (fun h295 => ?_) (fun h295 => ?_)
    · refine W.seq ?_
      refine W.regS (SR.q' (r_as (v := .bool false) rfl) <| SR.nil ?_)
      refine W.ret ?_
      refine ret1 rfl (v := .bool _) rfl ?_
      exact ⟨eR (eDF (z_c_laws_eqLibRow_296 a b h293 h295)), hB292⟩
    · refine W.skip ?_
      refine W.seq ?_
      refine W.seq ?_
      refine W.regS (SR.q' (r_fa fa25_2 rfl) <| SR.q' (r_ld (v := .int .i64 a.Copied) sca3 rfl (((hb282).lo hk288).cell rfl)) <| SR.q' (r_fa fa25_2 rfl) <| SR.q' (r_ld (v := .int .i64 b.Copied) sca3 rfl ((hb290).cell rfl)) <| SR.q' (r_ne rfl rfl) <| SR.nil ?_)
      refine W.cond_n rfl (fun h297 => ?_) (fun h297 => ?_)
      · refine W.seq ?_
        refine W.regS (SR.q' (r_as (v := .bool false) rfl) <| SR.nil ?_)
        refine W.ret ?_
        refine ret1 rfl (v := .bool _) rfl ?_
        exact ⟨eR (eDF (z_c_laws_eqLibRow_298 a b h293 h295 h297)), hB292⟩
      · refine W.skip ?_
        refine W.seq ?_
        refine W.seq ?_
        refine W.regS (SR.q' (r_fa fa25_3 rfl) <| SR.q' (r_ld (v := .int .i64 a.Given) sca3 rfl (((hb282).lo hk288).cell rfl)) <| SR.q' (r_fa fa25_3 rfl) <| SR.q' (r_ld (v := .int .i64 b.Given) sca3 rfl ((hb290).cell rfl)) <| SR.q' (r_ne rfl rfl) <| SR.nil ?_)
        refine W.cond_n rfl (fun h299 => ?_) (fun h299 => ?_)
        · refine W.seq ?_
          refine W.regS (SR.q' (r_as (v := .bool false) rfl) <| SR.nil ?_)
          refine W.ret ?_
          refine ret1 rfl (v := .bool _) rfl ?_
          exact ⟨eR (eDF (z_c_laws_eqLibRow_300 a b h293 h295 h297 h299)), hB292⟩
        · refine W.skip ?_
          refine W.seq ?_
          refine W.seq ?_
          refine W.regS (SR.q' (r_fa fa25_4 rfl) <| SR.q' (r_ld (v := .int .i64 a.Fines) sca3 rfl (((hb282).lo hk288).cell rfl)) <| SR.q' (r_fa fa25_4 rfl) <| SR.q' (r_ld (v := .int .i64 b.Fines) sca3 rfl ((hb290).cell rfl)) <| SR.q' (r_ne rfl rfl) <| SR.nil ?_)
          refine W.cond_n rfl (fun h301 => ?_) (fun h301 => ?_)
          · refine W.seq ?_
            refine W.regS (SR.q' (r_as (v := .bool false) rfl) <| SR.nil ?_)
            refine W.ret ?_
            refine ret1 rfl (v := .bool _) rfl ?_
            exact ⟨eR (eDF (z_c_laws_eqLibRow_302 a b h293 h295 h297 h299 h301)), hB292⟩
          · refine W.skip ?_
            refine W.seq ?_
            refine W.regS (SR.q' (r_as (v := .bool true) rfl) <| SR.nil ?_)
            refine W.ret ?_
            refine ret1 rfl (v := .bool _) rfl ?_
            exact ⟨eR (eDT (z_c_laws_eqLibRow_303 a b h293 h295 h297 h299 h301)), hB292⟩

theorem z_c_laws_eqLibRowS_305 (L : List LibRow) (nL : Nat) (hbdL : (nL : Int) ≤ 9223372036854775807) (hleL : nL = L.length) (M : List LibRow) (nM : Nat) (hbdM : (nM : Int) ≤ 9223372036854775807) (hleM : nM = M.length) (h304 : ¬ ((nL : Int) = (nM : Int))) : ¬ (L = M) := by
  first | (intro e; subst e; omega) | exact ne_at ‹L[_]? = some _› ‹M[_]? = some _› ‹_› | exact take_end (And.right ‹_ ∧ L.take _ = M.take _›) hleL hleM (by omega) ‹_›
theorem z_c_laws_eqLibRowS_306 (L : List LibRow) (nL : Nat) (hbdL : (nL : Int) ≤ 9223372036854775807) (hleL : nL = L.length) (M : List LibRow) (nM : Nat) (hbdM : (nM : Int) ≤ 9223372036854775807) (hleM : nM = M.length) (h304 : (nL : Int) = (nM : Int)) : 0 ≤ nL ∧ L.take 0 = M.take 0 := by
  simp
theorem z_c_laws_eqLibRowS_324 (L : List LibRow) (nL : Nat) (hbdL : (nL : Int) ≤ 9223372036854775807) (hleL : nL = L.length) (M : List LibRow) (nM : Nat) (hbdM : (nM : Int) ≤ 9223372036854775807) (hleM : nM = M.length) (h304 : (nL : Int) = (nM : Int)) (k : Nat) (hi313 : k ≤ nL ∧ L.take k = M.take k) (h314 : (k : Int) < (nL : Int)) (x315 : LibRow) (hx316 : L[k]? = some x315) (x317 : LibRow) (hx318 : M[k]? = some x317) (h323 : ¬ (x315 = x317)) : ¬ (L = M) := by
  first | (intro e; subst e; omega) | exact ne_at ‹L[_]? = some _› ‹M[_]? = some _› ‹_› | exact take_end (And.right ‹_ ∧ L.take _ = M.take _›) hleL hleM (by omega) ‹_›
theorem z_c_laws_eqLibRowS_325 (L : List LibRow) (nL : Nat) (hbdL : (nL : Int) ≤ 9223372036854775807) (hleL : nL = L.length) (M : List LibRow) (nM : Nat) (hbdM : (nM : Int) ≤ 9223372036854775807) (hleM : nM = M.length) (h304 : (nL : Int) = (nM : Int)) (k : Nat) (hi313 : k ≤ nL ∧ L.take k = M.take k) (h314 : (k : Int) < (nL : Int)) (x315 : LibRow) (hx316 : L[k]? = some x315) (x317 : LibRow) (hx318 : M[k]? = some x317) (h323 : x315 = x317) : k + 1 ≤ nL ∧ L.take (k + 1) = M.take (k + 1) := by
  exact ⟨by omega, take_next (And.right ‹_ ∧ L.take _ = M.take _›) ‹L[_]? = some _› ‹M[_]? = some _› ‹_›⟩
theorem z_c_laws_eqLibRowS_326 (L : List LibRow) (nL : Nat) (hbdL : (nL : Int) ≤ 9223372036854775807) (hleL : nL = L.length) (M : List LibRow) (nM : Nat) (hbdM : (nM : Int) ≤ 9223372036854775807) (hleM : nM = M.length) (h304 : (nL : Int) = (nM : Int)) (k : Nat) (hi313 : k ≤ nL ∧ L.take k = M.take k) (h314 : (k : Int) < (nL : Int)) (x315 : LibRow) (hx316 : L[k]? = some x315) (x317 : LibRow) (hx318 : M[k]? = some x317) (h323 : x315 = x317) : nL - (k + 1) < nL - k := by
  omega
theorem z_c_laws_eqLibRowS_327 (L : List LibRow) (nL : Nat) (hbdL : (nL : Int) ≤ 9223372036854775807) (hleL : nL = L.length) (M : List LibRow) (nM : Nat) (hbdM : (nM : Int) ≤ 9223372036854775807) (hleM : nM = M.length) (h304 : (nL : Int) = (nM : Int)) (k : Nat) (hi313 : k ≤ nL ∧ L.take k = M.take k) (h314 : ¬ ((k : Int) < (nL : Int))) : L = M := by
  first | (intro e; subst e; omega) | exact ne_at ‹L[_]? = some _› ‹M[_]? = some _› ‹_› | exact take_end (And.right ‹_ ∧ L.take _ = M.take _›) hleL hleM (by omega) ‹_›
theorem c_laws_eqLibRowS (w : World) {AL : Option Addr} {nL cL BL : Nat} (L : List LibRow) (hL : SlR w BL encLibRow 5 AL nL cL L) {AM : Option Addr} {nM cM BM : Nat} (M : List LibRow) (hM : SlR w BM encLibRow 5 AM nM cM M) : Calls Try.prog 18 #[.slice AL nL cL, .slice AM nM cM] w fun e w' => e = .returned (.bool (decide (L = M))) ∧ Lo w w' := by
  refine calls_W 27 Try.func18 rfl rfl rfl ?_
  have hbdL := hL.bound
  have hleL := hL.len
  have hBbL := hL.bd
  have hbdM := hM.bound
  have hleM := hM.len
  have hBbM := hM.bd
  refine W.seq ?_
  refine W.regS (SR.q' (r_as (v := .bool false) rfl) <| SR.nil ?_)
  refine W.seq ?_
  refine W.seq ?_
  refine W.regS (SR.q' (r_mv (v := .slice _ _ _) rfl) <| SR.q' (r_len und31 rfl) <| SR.q' (r_mv (v := .slice _ _ _) rfl) <| SR.q' (r_len und31 rfl) <| SR.q' (r_ne rfl rfl) <| SR.nil ?_)
  refine W.cond_n rfl (fun h304 => ?_) (fun h304 => ?_)
  · refine W.seq ?_
    refine W.regS (SR.q' (r_as (v := .bool false) rfl) <| SR.nil ?_)
    refine W.ret ?_
    refine ret1 rfl (v := .bool _) rfl ?_
    exact ⟨eR (eDF (z_c_laws_eqLibRowS_305 L nL hbdL hleL M nM hbdM hleM h304)), (Lo.refl w)⟩
  · refine W.skip ?_
    refine W.seq ?_
    refine W.seq ?_
    refine W.regS (SR.q' (r_as (v := .int .i64 0) rfl) <| SR.nil ?_)
    refine W.block ?_
    refine W.loop (σ := Nat) (fun g => [(0, .slice AL nL cL), (1, .slice AM nM cM), (5, .int .i64 (g : Int))]) (fun g w' => (Lo w w') ∧ (SlR w' BL encLibRow 5 AL nL cL L) ∧ (SlR w' BM encLibRow 5 AM nM cM M) ∧ (g ≤ nL ∧ L.take g = M.take g)) (fun g => nL - g) 0 ?_ ?_ ?_
    · exact ⟨rfl, rfl, rfl, trivial⟩
    · exact ⟨(Lo.refl w), hL, hM, (z_c_laws_eqLibRowS_306 L nL hbdL hleL M nM hbdM hleM h304)⟩
    · rintro k f307 w308 hP310
      obtain ⟨hB309, hm311, hm312, hi313⟩ : (Lo w w308) ∧ (SlR w308 BL encLibRow 5 AL nL cL L) ∧ (SlR w308 BM encLibRow 5 AM nM cM M) ∧ (k ≤ nL ∧ L.take k = M.take k) := hP310
      refine (?_ : W _ _ _ _ _ (act _ (sets f307 [(0, .slice AL nL cL), (1, .slice AM nM cM), (5, .int .i64 (k : Int))])) _)
      have hzw308 := hB309.size
      refine W.seq ?_
      refine W.seq ?_
      refine W.regS (SR.q' (r_mv (v := .int .i64 _) rfl) <| SR.q' (r_mv (v := .slice _ _ _) rfl) <| SR.q' (r_len und31 rfl) <| SR.q' (r_lt rfl rfl) <| SR.nil ?_)
      refine W.cond_d rfl (fun h314 => ?_) (fun h314 => ?_)
      · refine W.skip ?_
        refine W.seq ?_
        refine W.block ?_
        refine W.seq ?_
        refine W.regD mo (by kernel_rfl) (QR.q' (fun w' hw' => r_mv (v := .slice _ _ _) rfl) <| QR.q' (fun w' hw' => r_mv (v := .int .i64 _) rfl) <| ?_)
        obtain ⟨x315, hx316⟩ := (hm311).get (i := k) (by omega)
        refine QR.q' (fun w' hw' => r_ixR tsl31 ((hm311).lo hw') rfl rfl (by omega)) <| QR.q' (fun w' hw' => r_lda (l := encLibRow x315) agg25 rfl (fun _ _ hu => ((hm311).lo hw').cell hx316 hu) (((hm311).lo hw').esz _)) <| QR.q' (fun w' hw' => r_mv (v := .slice _ _ _) rfl) <| QR.q' (fun w' hw' => r_mv (v := .int .i64 _) rfl) <| ?_
        obtain ⟨x317, hx318⟩ := (hm312).get (i := k) (by omega)
        refine QR.q' (fun w' hw' => r_ixR tsl31 ((hm312).lo hw') rfl rfl (by omega)) <| QR.q' (fun w' hw' => r_lda (l := encLibRow x317) agg25 rfl (fun _ _ hu => ((hm312).lo hw').cell hx318 hu) (((hm312).lo hw').esz _)) <| QR.call ent39 (fun w' hw' => (c_laws_eqLibRow w' x315 x317).mono fun _ _ h => ⟨h.1, hw'.trans h.2⟩) rfl <| QR.q' (fun w' hw' => r_not rfl) <| QR.nil ?_
        intro w319 hk320
        have hz321 := hk320.size
        have hB322 := hB309.lo hk320
        refine W.cond_n rfl (fun h323 => ?_) (fun h323 => ?_)
        · refine W.seq ?_
          refine W.regS (SR.q' (r_as (v := .bool false) rfl) <| SR.nil ?_)
          refine W.ret ?_
          refine ret1 rfl (v := .bool _) rfl ?_
          exact ⟨eR (eDF (z_c_laws_eqLibRowS_324 L nL hbdL hleL M nM hbdM hleM h304 k hi313 h314 x315 hx316 x317 hx318 h323)), hB322⟩
        · refine W.skip ?_
          refine W.regS (SR.q' (r_mv (v := .int .i64 _) rfl) <| SR.q' (r_add rfl rfl (by omega)) <| SR.q' (r_as (v := .int .i64 _) rfl) <| SR.nil ?_)
          refine ⟨k + 1, _, rfl, ⟨rfl, rfl, rfl, trivial⟩, ⟨hB322, (hm311).lo hk320, (hm312).lo hk320, ?_⟩, ?_⟩
          · exact (z_c_laws_eqLibRowS_325 L nL hbdL hleL M nM hbdM hleM h304 k hi313 h314 x315 hx316 x317 hx318 h323)
          · exact (z_c_laws_eqLibRowS_326 L nL hbdL hleL M nM hbdM hleM h304 k hi313 h314 x315 hx316 x317 hx318 h323)
      · refine W.exit (xin_here ?_)
        refine W.seq ?_
        refine W.regS (SR.q' (r_as (v := .bool true) rfl) <| SR.nil ?_)
        refine W.ret ?_
        refine ret1 rfl (v := .bool _) rfl ?_
        exact ⟨eR (eDT (z_c_laws_eqLibRowS_327 L nL hbdL hleL M nM hbdM hleM h304 k hi313 h314)), hB309⟩

theorem z_c_laws_markLibRowS_328 (L : List LibRow) (nL : Nat) (hbdL : (nL : Int) ≤ 9223372036854775807) (hleL : nL = L.length) (k : Int) (hp0 : 0 ≤ k) (hp1 : k ≤ 1000000000) (hp2 : (nL : Int) ≤ 1048576) : 0 ≤ nL := by
  omega
theorem z_c_laws_markLibRowS_329 (L : List LibRow) (nL : Nat) (hbdL : (nL : Int) ≤ 9223372036854775807) (hleL : nL = L.length) (k : Int) (hp0 : 0 ≤ k) (hp1 : k ≤ 1000000000) (hp2 : (nL : Int) ≤ 1048576) : L = mkL mkLibRow 5 0 k ++ L.drop 0 := by
  exact mkL_init
theorem z_c_laws_markLibRowS_374 (L : List LibRow) (nL : Nat) (hbdL : (nL : Int) ≤ 9223372036854775807) (hleL : nL = L.length) (k : Int) (hp0 : 0 ≤ k) (hp1 : k ≤ 1000000000) (hp2 : (nL : Int) ≤ 1048576) (i : Nat) (hi335 : i ≤ nL) (h336 : (i : Int) < (nL : Int)) (x337 : LibRow) (hx338 : (mkL mkLibRow 5 i k ++ L.drop i)[i]? = some x337) : (mkL mkLibRow 5 i k ++ L.drop i).set ((i : Int).toNat) ({ ({ ({ ({ ({ x337 with Month := k + 5 * (i : Int) }) with Lent := (k + 5 * (i : Int)) + 1 }) with Copied := ((k + 5 * (i : Int)) + 1) + 1 }) with Given := (((k + 5 * (i : Int)) + 1) + 1) + 1 }) with Fines := ((((k + 5 * (i : Int)) + 1) + 1) + 1) + 1 }) = mkL mkLibRow 5 (i + 1) k ++ L.drop (i + 1) := by
  exact mkL_set (by omega) (by simp [mkLibRow]; omega)
theorem z_c_laws_markLibRowS_375 (L : List LibRow) (nL : Nat) (hbdL : (nL : Int) ≤ 9223372036854775807) (hleL : nL = L.length) (k : Int) (hp0 : 0 ≤ k) (hp1 : k ≤ 1000000000) (hp2 : (nL : Int) ≤ 1048576) (i : Nat) (hi335 : i ≤ nL) (h336 : (i : Int) < (nL : Int)) (x337 : LibRow) (hx338 : (mkL mkLibRow 5 i k ++ L.drop i)[i]? = some x337) : i + 1 ≤ nL := by
  omega
theorem z_c_laws_markLibRowS_376 (L : List LibRow) (nL : Nat) (hbdL : (nL : Int) ≤ 9223372036854775807) (hleL : nL = L.length) (k : Int) (hp0 : 0 ≤ k) (hp1 : k ≤ 1000000000) (hp2 : (nL : Int) ≤ 1048576) (i : Nat) (hi335 : i ≤ nL) (h336 : (i : Int) < (nL : Int)) (x337 : LibRow) (hx338 : (mkL mkLibRow 5 i k ++ L.drop i)[i]? = some x337) : nL - (i + 1) < nL - i := by
  omega
theorem z_c_laws_markLibRowS_377 (L : List LibRow) (nL : Nat) (hbdL : (nL : Int) ≤ 9223372036854775807) (hleL : nL = L.length) (k : Int) (hp0 : 0 ≤ k) (hp1 : k ≤ 1000000000) (hp2 : (nL : Int) ≤ 1048576) (i : Nat) (hi335 : i ≤ nL) (h336 : ¬ ((i : Int) < (nL : Int))) : k + 5 * (i : Int) = k + 5 * (L.length : Int) := by
  first | omega | exact mkL_end hleL (by assumption) (by omega)
theorem z_c_laws_markLibRowS_378 (L : List LibRow) (nL : Nat) (hbdL : (nL : Int) ≤ 9223372036854775807) (hleL : nL = L.length) (k : Int) (hp0 : 0 ≤ k) (hp1 : k ≤ 1000000000) (hp2 : (nL : Int) ≤ 1048576) (i : Nat) (hi335 : i ≤ nL) (h336 : ¬ ((i : Int) < (nL : Int))) : mkL mkLibRow 5 i k ++ L.drop i = mkL mkLibRow 5 L.length k := by
  first | omega | exact mkL_end hleL (by assumption) (by omega)
theorem c_laws_markLibRowS (w : World) {AL : Option Addr} {nL cL BL : Nat} (L : List LibRow) (hL : SlO w BL encLibRow 5 25 AL nL cL L) (k : Int) (hp0 : 0 ≤ k) (hp1 : k ≤ 1000000000) (hp2 : (nL : Int) ≤ 1048576) : Calls Try.prog 28 #[.slice AL nL cL, .int .i64 k] w fun e w' => e = .returned (.int .i64 (k + 5 * (L.length : Int))) ∧ SlO w' BL encLibRow 5 25 AL nL cL (mkL mkLibRow 5 L.length k) ∧ Kp (fun b => AL = some ⟨b, 0, none⟩) w w' := by
  refine calls_W 48 Try.func28 rfl rfl rfl ?_
  have hbdL := hL.rd.bound
  have hleL := hL.len
  have hBbL := hL.bd
  refine W.seq ?_
  refine W.regS (SR.q' (r_as (v := .int .i64 0) rfl) <| SR.nil ?_)
  refine W.seq ?_
  refine W.seq ?_
  refine W.regS (SR.q' (r_as (v := .int .i64 0) rfl) <| SR.nil ?_)
  refine W.block ?_
  refine W.loop (σ := Nat) (fun g => [(0, .slice AL nL cL), (1, .int .i64 (k + 5 * (g : Int))), (4, .int .i64 0), (5, .int .i64 (g : Int))]) (fun g w' => (Kp (fun b => AL = some ⟨b, 0, none⟩) w w') ∧ (SlO w' BL encLibRow 5 25 AL nL cL (mkL mkLibRow 5 g k ++ L.drop g)) ∧ (g ≤ nL)) (fun g => nL - g) 0 ?_ ?_ ?_
  · exact ⟨rfl, (eI (by omega)), rfl, (eI (by omega)), trivial⟩
  · exact ⟨(Kp.refl w : Kp (fun b => AL = some ⟨b, 0, none⟩) w w), (SlO.eqv (hL) (z_c_laws_markLibRowS_329 L nL hbdL hleL k hp0 hp1 hp2)), (z_c_laws_markLibRowS_328 L nL hbdL hleL k hp0 hp1 hp2)⟩
  · rintro i f330 w331 hP333
    obtain ⟨hB332, hm334, hi335⟩ : (Kp (fun b => AL = some ⟨b, 0, none⟩) w w331) ∧ (SlO w331 BL encLibRow 5 25 AL nL cL (mkL mkLibRow 5 i k ++ L.drop i)) ∧ (i ≤ nL) := hP333
    refine (?_ : W _ _ _ _ _ (act _ (sets f330 [(0, .slice AL nL cL), (1, .int .i64 (k + 5 * (i : Int))), (4, .int .i64 0), (5, .int .i64 (i : Int))])) _)
    have hzw331 := hB332.size
    refine W.seq ?_
    refine W.seq ?_
    refine W.regS (SR.q' (r_mv (v := .int .i64 _) rfl) <| SR.q' (r_mv (v := .slice _ _ _) rfl) <| SR.q' (r_len und31 rfl) <| SR.q' (r_lt rfl rfl) <| SR.nil ?_)
    refine W.cond_d rfl (fun h336 => ?_) (fun h336 => ?_)
    · refine W.skip ?_
      refine W.seq ?_
      refine W.block ?_
      refine W.seq ?_
      refine W.regS (SR.q' (r_mv (v := .slice _ _ _) rfl) <| SR.q' (r_mv (v := .int .i64 _) rfl) <| SR.q' (r_mv (v := .int .i64 _) rfl) <| ?_)
      obtain ⟨x337, hx338⟩ := ((hm334).rd).get (i := i) (by omega)
      refine SR.q' (r_ixR tsl31 ((hm334).rd) rfl rfl (by omega)) <| SR.q' (r_fa fa25_0 rfl) <| SR.storeO (o := 0) (vs := [.int .i64 (k + 5 * (i : Int))]) (x1 := { x337 with Month := k + 5 * (i : Int) }) sca3.2 rfl (add_add _ _ _) rfl rfl (hm334) hx338 rfl (Nat.le_of_ble_eq_true rfl) rfl ?_
      intro w339 hk340 hs341 hO342
      have hz343 := hk340.size
      have hB344 := hB332.step hk340 (fun i hi e' => by have := ((hm334)).base_le e'; first | omega | (exfalso; omega))
      have hx345 : ((mkL mkLibRow 5 i k ++ L.drop i).set ((i : Int).toNat) ({ x337 with Month := k + 5 * (i : Int) }))[(i : Int).toNat]? = some ({ x337 with Month := k + 5 * (i : Int) }) := List.getElem?_set_self (List.getElem?_eq_some_iff.1 hx338).1
      refine SR.nil ?_
      refine W.seq ?_
      refine W.regS (SR.q' (r_mv (v := .int .i64 _) rfl) <| SR.q' (r_add rfl rfl (by omega)) <| SR.q' (r_as (v := .int .i64 _) rfl) <| SR.nil ?_)
      refine W.seq ?_
      refine W.regS (SR.q' (r_mv (v := .slice _ _ _) rfl) <| SR.q' (r_mv (v := .int .i64 _) rfl) <| SR.q' (r_mv (v := .int .i64 _) rfl) <| SR.q' (r_ixR tsl31 ((hO342).rd) rfl rfl (by omega)) <| SR.q' (r_fa fa25_1 rfl) <| SR.storeO (o := 1) (vs := [.int .i64 ((k + 5 * (i : Int)) + 1)]) (x1 := { ({ x337 with Month := k + 5 * (i : Int) }) with Lent := (k + 5 * (i : Int)) + 1 }) sca3.2 rfl (add_add _ _ _) rfl rfl (hO342) hx345 rfl (Nat.le_of_ble_eq_true rfl) rfl ?_)
      intro w346 hk347 hs348 hO349
      have hz350 := hk347.size
      have hB351 := hB344.step hk347 (fun i hi e' => by have := ((hO342)).base_le e'; first | omega | (exfalso; omega))
      rw [List.set_set] at hO349
      have hx352 : ((mkL mkLibRow 5 i k ++ L.drop i).set ((i : Int).toNat) ({ ({ x337 with Month := k + 5 * (i : Int) }) with Lent := (k + 5 * (i : Int)) + 1 }))[(i : Int).toNat]? = some ({ ({ x337 with Month := k + 5 * (i : Int) }) with Lent := (k + 5 * (i : Int)) + 1 }) := List.getElem?_set_self (List.getElem?_eq_some_iff.1 hx338).1
      refine SR.nil ?_
      refine W.seq ?_
      refine W.regS (SR.q' (r_mv (v := .int .i64 _) rfl) <| SR.q' (r_add rfl rfl (by omega)) <| SR.q' (r_as (v := .int .i64 _) rfl) <| SR.nil ?_)
      refine W.seq ?_
      refine W.regS (SR.q' (r_mv (v := .slice _ _ _) rfl) <| SR.q' (r_mv (v := .int .i64 _) rfl) <| SR.q' (r_mv (v := .int .i64 _) rfl) <| SR.q' (r_ixR tsl31 ((hO349).rd) rfl rfl (by omega)) <| SR.q' (r_fa fa25_2 rfl) <| SR.storeO (o := 2) (vs := [.int .i64 (((k + 5 * (i : Int)) + 1) + 1)]) (x1 := { ({ ({ x337 with Month := k + 5 * (i : Int) }) with Lent := (k + 5 * (i : Int)) + 1 }) with Copied := ((k + 5 * (i : Int)) + 1) + 1 }) sca3.2 rfl (add_add _ _ _) rfl rfl (hO349) hx352 rfl (Nat.le_of_ble_eq_true rfl) rfl ?_)
      intro w353 hk354 hs355 hO356
      have hz357 := hk354.size
      have hB358 := hB351.step hk354 (fun i hi e' => by have := ((hO349)).base_le e'; first | omega | (exfalso; omega))
      rw [List.set_set] at hO356
      have hx359 : ((mkL mkLibRow 5 i k ++ L.drop i).set ((i : Int).toNat) ({ ({ ({ x337 with Month := k + 5 * (i : Int) }) with Lent := (k + 5 * (i : Int)) + 1 }) with Copied := ((k + 5 * (i : Int)) + 1) + 1 }))[(i : Int).toNat]? = some ({ ({ ({ x337 with Month := k + 5 * (i : Int) }) with Lent := (k + 5 * (i : Int)) + 1 }) with Copied := ((k + 5 * (i : Int)) + 1) + 1 }) := List.getElem?_set_self (List.getElem?_eq_some_iff.1 hx338).1
      refine SR.nil ?_
      refine W.seq ?_
      refine W.regS (SR.q' (r_mv (v := .int .i64 _) rfl) <| SR.q' (r_add rfl rfl (by omega)) <| SR.q' (r_as (v := .int .i64 _) rfl) <| SR.nil ?_)
      refine W.seq ?_
      refine W.regS (SR.q' (r_mv (v := .slice _ _ _) rfl) <| SR.q' (r_mv (v := .int .i64 _) rfl) <| SR.q' (r_mv (v := .int .i64 _) rfl) <| SR.q' (r_ixR tsl31 ((hO356).rd) rfl rfl (by omega)) <| SR.q' (r_fa fa25_3 rfl) <| SR.storeO (o := 3) (vs := [.int .i64 ((((k + 5 * (i : Int)) + 1) + 1) + 1)]) (x1 := { ({ ({ ({ x337 with Month := k + 5 * (i : Int) }) with Lent := (k + 5 * (i : Int)) + 1 }) with Copied := ((k + 5 * (i : Int)) + 1) + 1 }) with Given := (((k + 5 * (i : Int)) + 1) + 1) + 1 }) sca3.2 rfl (add_add _ _ _) rfl rfl (hO356) hx359 rfl (Nat.le_of_ble_eq_true rfl) rfl ?_)
      intro w360 hk361 hs362 hO363
      have hz364 := hk361.size
      have hB365 := hB358.step hk361 (fun i hi e' => by have := ((hO356)).base_le e'; first | omega | (exfalso; omega))
      rw [List.set_set] at hO363
      have hx366 : ((mkL mkLibRow 5 i k ++ L.drop i).set ((i : Int).toNat) ({ ({ ({ ({ x337 with Month := k + 5 * (i : Int) }) with Lent := (k + 5 * (i : Int)) + 1 }) with Copied := ((k + 5 * (i : Int)) + 1) + 1 }) with Given := (((k + 5 * (i : Int)) + 1) + 1) + 1 }))[(i : Int).toNat]? = some ({ ({ ({ ({ x337 with Month := k + 5 * (i : Int) }) with Lent := (k + 5 * (i : Int)) + 1 }) with Copied := ((k + 5 * (i : Int)) + 1) + 1 }) with Given := (((k + 5 * (i : Int)) + 1) + 1) + 1 }) := List.getElem?_set_self (List.getElem?_eq_some_iff.1 hx338).1
      refine SR.nil ?_
      refine W.seq ?_
      refine W.regS (SR.q' (r_mv (v := .int .i64 _) rfl) <| SR.q' (r_add rfl rfl (by omega)) <| SR.q' (r_as (v := .int .i64 _) rfl) <| SR.nil ?_)
      refine W.seq ?_
      refine W.regS (SR.q' (r_mv (v := .slice _ _ _) rfl) <| SR.q' (r_mv (v := .int .i64 _) rfl) <| SR.q' (r_mv (v := .int .i64 _) rfl) <| SR.q' (r_ixR tsl31 ((hO363).rd) rfl rfl (by omega)) <| SR.q' (r_fa fa25_4 rfl) <| SR.storeO (o := 4) (vs := [.int .i64 (((((k + 5 * (i : Int)) + 1) + 1) + 1) + 1)]) (x1 := { ({ ({ ({ ({ x337 with Month := k + 5 * (i : Int) }) with Lent := (k + 5 * (i : Int)) + 1 }) with Copied := ((k + 5 * (i : Int)) + 1) + 1 }) with Given := (((k + 5 * (i : Int)) + 1) + 1) + 1 }) with Fines := ((((k + 5 * (i : Int)) + 1) + 1) + 1) + 1 }) sca3.2 rfl (add_add _ _ _) rfl rfl (hO363) hx366 rfl (Nat.le_of_ble_eq_true rfl) rfl ?_)
      intro w367 hk368 hs369 hO370
      have hz371 := hk368.size
      have hB372 := hB365.step hk368 (fun i hi e' => by have := ((hO363)).base_le e'; first | omega | (exfalso; omega))
      rw [List.set_set] at hO370
      have hx373 : ((mkL mkLibRow 5 i k ++ L.drop i).set ((i : Int).toNat) ({ ({ ({ ({ ({ x337 with Month := k + 5 * (i : Int) }) with Lent := (k + 5 * (i : Int)) + 1 }) with Copied := ((k + 5 * (i : Int)) + 1) + 1 }) with Given := (((k + 5 * (i : Int)) + 1) + 1) + 1 }) with Fines := ((((k + 5 * (i : Int)) + 1) + 1) + 1) + 1 }))[(i : Int).toNat]? = some ({ ({ ({ ({ ({ x337 with Month := k + 5 * (i : Int) }) with Lent := (k + 5 * (i : Int)) + 1 }) with Copied := ((k + 5 * (i : Int)) + 1) + 1 }) with Given := (((k + 5 * (i : Int)) + 1) + 1) + 1 }) with Fines := ((((k + 5 * (i : Int)) + 1) + 1) + 1) + 1 }) := List.getElem?_set_self (List.getElem?_eq_some_iff.1 hx338).1
      refine SR.nil ?_
      refine W.regS (SR.q' (r_mv (v := .int .i64 _) rfl) <| SR.q' (r_add rfl rfl (by omega)) <| SR.q' (r_as (v := .int .i64 _) rfl) <| SR.nil ?_)
      refine W.regS (SR.q' (r_mv (v := .int .i64 _) rfl) <| SR.q' (r_add rfl rfl (by omega)) <| SR.q' (r_as (v := .int .i64 _) rfl) <| SR.nil ?_)
      refine ⟨i + 1, _, rfl, ⟨rfl, (eI (by omega)), rfl, (eI (by omega)), trivial⟩, ⟨hB372, (SlO.eqv (hO370) (z_c_laws_markLibRowS_374 L nL hbdL hleL k hp0 hp1 hp2 i hi335 h336 x337 hx338)), ?_⟩, ?_⟩
      · exact (z_c_laws_markLibRowS_375 L nL hbdL hleL k hp0 hp1 hp2 i hi335 h336 x337 hx338)
      · exact (z_c_laws_markLibRowS_376 L nL hbdL hleL k hp0 hp1 hp2 i hi335 h336 x337 hx338)
    · refine W.exit (xin_here ?_)
      refine W.seq ?_
      refine W.regS (SR.q' (r_mv (v := .int .i64 _) rfl) <| SR.q' (r_as (v := .int .i64 _) rfl) <| SR.nil ?_)
      refine W.ret ?_
      refine ret1 rfl (v := .int .i64 _) rfl ?_
      exact ⟨eR (eI (z_c_laws_markLibRowS_377 L nL hbdL hleL k hp0 hp1 hp2 i hi335 h336)), (SlO.eqv (hm334) (z_c_laws_markLibRowS_378 L nL hbdL hleL k hp0 hp1 hp2 i hi335 h336)), hB332⟩

theorem z_c_laws_heldLibRowS_379 (L : List LibRow) (nL : Nat) (hbdL : (nL : Int) ≤ 9223372036854775807) (hleL : nL = L.length) (k : Int) (m : Nat) (hp0 : 0 ≤ k) (hp1 : k ≤ 1000000000) (hp2 : (nL : Int) ≤ 1048576) (hp3 : L = mkL mkLibRow 5 m k) : 0 ≤ nL := by
  omega
theorem z_c_laws_heldLibRowS_390 (L : List LibRow) (nL : Nat) (hbdL : (nL : Int) ≤ 9223372036854775807) (hleL : nL = L.length) (k : Int) (m : Nat) (hp0 : 0 ≤ k) (hp1 : k ≤ 1000000000) (hp2 : (nL : Int) ≤ 1048576) (hp3 : L = mkL mkLibRow 5 m k) (i : Nat) (hi385 : i ≤ nL) (h386 : (i : Int) < (nL : Int)) (x387 : LibRow) (hx388 : L[i]? = some x387) (h389 : ¬ (x387.Month = (k + 5 * (i : Int)))) : (-1) = k + 5 * (m : Int) := by
  first | omega | (rw [hp3, mkL_len] at hleL; omega) | (exfalso; subst hp3; obtain rfl := mkL_get ‹_[_]? = some _›; first | (simp_all [mkLibRow]; done) | (simp only [mkLibRow] at *; omega))
theorem z_c_laws_heldLibRowS_392 (L : List LibRow) (nL : Nat) (hbdL : (nL : Int) ≤ 9223372036854775807) (hleL : nL = L.length) (k : Int) (m : Nat) (hp0 : 0 ≤ k) (hp1 : k ≤ 1000000000) (hp2 : (nL : Int) ≤ 1048576) (hp3 : L = mkL mkLibRow 5 m k) (i : Nat) (hi385 : i ≤ nL) (h386 : (i : Int) < (nL : Int)) (x387 : LibRow) (hx388 : L[i]? = some x387) (h389 : x387.Month = (k + 5 * (i : Int))) (h391 : ¬ (x387.Lent = ((k + 5 * (i : Int)) + 1))) : (-1) = k + 5 * (m : Int) := by
  first | omega | (rw [hp3, mkL_len] at hleL; omega) | (exfalso; subst hp3; obtain rfl := mkL_get ‹_[_]? = some _›; first | (simp_all [mkLibRow]; done) | (simp only [mkLibRow] at *; omega))
theorem z_c_laws_heldLibRowS_394 (L : List LibRow) (nL : Nat) (hbdL : (nL : Int) ≤ 9223372036854775807) (hleL : nL = L.length) (k : Int) (m : Nat) (hp0 : 0 ≤ k) (hp1 : k ≤ 1000000000) (hp2 : (nL : Int) ≤ 1048576) (hp3 : L = mkL mkLibRow 5 m k) (i : Nat) (hi385 : i ≤ nL) (h386 : (i : Int) < (nL : Int)) (x387 : LibRow) (hx388 : L[i]? = some x387) (h389 : x387.Month = (k + 5 * (i : Int))) (h391 : x387.Lent = ((k + 5 * (i : Int)) + 1)) (h393 : ¬ (x387.Copied = (((k + 5 * (i : Int)) + 1) + 1))) : (-1) = k + 5 * (m : Int) := by
  first | omega | (rw [hp3, mkL_len] at hleL; omega) | (exfalso; subst hp3; obtain rfl := mkL_get ‹_[_]? = some _›; first | (simp_all [mkLibRow]; done) | (simp only [mkLibRow] at *; omega))
theorem z_c_laws_heldLibRowS_396 (L : List LibRow) (nL : Nat) (hbdL : (nL : Int) ≤ 9223372036854775807) (hleL : nL = L.length) (k : Int) (m : Nat) (hp0 : 0 ≤ k) (hp1 : k ≤ 1000000000) (hp2 : (nL : Int) ≤ 1048576) (hp3 : L = mkL mkLibRow 5 m k) (i : Nat) (hi385 : i ≤ nL) (h386 : (i : Int) < (nL : Int)) (x387 : LibRow) (hx388 : L[i]? = some x387) (h389 : x387.Month = (k + 5 * (i : Int))) (h391 : x387.Lent = ((k + 5 * (i : Int)) + 1)) (h393 : x387.Copied = (((k + 5 * (i : Int)) + 1) + 1)) (h395 : ¬ (x387.Given = ((((k + 5 * (i : Int)) + 1) + 1) + 1))) : (-1) = k + 5 * (m : Int) := by
  first | omega | (rw [hp3, mkL_len] at hleL; omega) | (exfalso; subst hp3; obtain rfl := mkL_get ‹_[_]? = some _›; first | (simp_all [mkLibRow]; done) | (simp only [mkLibRow] at *; omega))
theorem z_c_laws_heldLibRowS_398 (L : List LibRow) (nL : Nat) (hbdL : (nL : Int) ≤ 9223372036854775807) (hleL : nL = L.length) (k : Int) (m : Nat) (hp0 : 0 ≤ k) (hp1 : k ≤ 1000000000) (hp2 : (nL : Int) ≤ 1048576) (hp3 : L = mkL mkLibRow 5 m k) (i : Nat) (hi385 : i ≤ nL) (h386 : (i : Int) < (nL : Int)) (x387 : LibRow) (hx388 : L[i]? = some x387) (h389 : x387.Month = (k + 5 * (i : Int))) (h391 : x387.Lent = ((k + 5 * (i : Int)) + 1)) (h393 : x387.Copied = (((k + 5 * (i : Int)) + 1) + 1)) (h395 : x387.Given = ((((k + 5 * (i : Int)) + 1) + 1) + 1)) (h397 : ¬ (x387.Fines = (((((k + 5 * (i : Int)) + 1) + 1) + 1) + 1))) : (-1) = k + 5 * (m : Int) := by
  first | omega | (rw [hp3, mkL_len] at hleL; omega) | (exfalso; subst hp3; obtain rfl := mkL_get ‹_[_]? = some _›; first | (simp_all [mkLibRow]; done) | (simp only [mkLibRow] at *; omega))
theorem z_c_laws_heldLibRowS_399 (L : List LibRow) (nL : Nat) (hbdL : (nL : Int) ≤ 9223372036854775807) (hleL : nL = L.length) (k : Int) (m : Nat) (hp0 : 0 ≤ k) (hp1 : k ≤ 1000000000) (hp2 : (nL : Int) ≤ 1048576) (hp3 : L = mkL mkLibRow 5 m k) (i : Nat) (hi385 : i ≤ nL) (h386 : (i : Int) < (nL : Int)) (x387 : LibRow) (hx388 : L[i]? = some x387) (h389 : x387.Month = (k + 5 * (i : Int))) (h391 : x387.Lent = ((k + 5 * (i : Int)) + 1)) (h393 : x387.Copied = (((k + 5 * (i : Int)) + 1) + 1)) (h395 : x387.Given = ((((k + 5 * (i : Int)) + 1) + 1) + 1)) (h397 : x387.Fines = (((((k + 5 * (i : Int)) + 1) + 1) + 1) + 1)) : i + 1 ≤ nL := by
  omega
theorem z_c_laws_heldLibRowS_400 (L : List LibRow) (nL : Nat) (hbdL : (nL : Int) ≤ 9223372036854775807) (hleL : nL = L.length) (k : Int) (m : Nat) (hp0 : 0 ≤ k) (hp1 : k ≤ 1000000000) (hp2 : (nL : Int) ≤ 1048576) (hp3 : L = mkL mkLibRow 5 m k) (i : Nat) (hi385 : i ≤ nL) (h386 : (i : Int) < (nL : Int)) (x387 : LibRow) (hx388 : L[i]? = some x387) (h389 : x387.Month = (k + 5 * (i : Int))) (h391 : x387.Lent = ((k + 5 * (i : Int)) + 1)) (h393 : x387.Copied = (((k + 5 * (i : Int)) + 1) + 1)) (h395 : x387.Given = ((((k + 5 * (i : Int)) + 1) + 1) + 1)) (h397 : x387.Fines = (((((k + 5 * (i : Int)) + 1) + 1) + 1) + 1)) : nL - (i + 1) < nL - i := by
  omega
theorem z_c_laws_heldLibRowS_401 (L : List LibRow) (nL : Nat) (hbdL : (nL : Int) ≤ 9223372036854775807) (hleL : nL = L.length) (k : Int) (m : Nat) (hp0 : 0 ≤ k) (hp1 : k ≤ 1000000000) (hp2 : (nL : Int) ≤ 1048576) (hp3 : L = mkL mkLibRow 5 m k) (i : Nat) (hi385 : i ≤ nL) (h386 : ¬ ((i : Int) < (nL : Int))) : k + 5 * (i : Int) = k + 5 * (m : Int) := by
  first | omega | (rw [hp3, mkL_len] at hleL; omega) | (exfalso; subst hp3; obtain rfl := mkL_get ‹_[_]? = some _›; first | (simp_all [mkLibRow]; done) | (simp only [mkLibRow] at *; omega))
theorem c_laws_heldLibRowS (w : World) {AL : Option Addr} {nL cL BL : Nat} (L : List LibRow) (hL : SlR w BL encLibRow 5 AL nL cL L) (k : Int) (m : Nat) (hp0 : 0 ≤ k) (hp1 : k ≤ 1000000000) (hp2 : (nL : Int) ≤ 1048576) (hp3 : L = mkL mkLibRow 5 m k) : Calls Try.prog 33 #[.slice AL nL cL, .int .i64 k] w fun e w' => e = .returned (.int .i64 (k + 5 * (m : Int))) ∧ Lo w w' := by
  refine calls_W 58 Try.func33 rfl rfl rfl ?_
  have hbdL := hL.bound
  have hleL := hL.len
  have hBbL := hL.bd
  refine W.seq ?_
  refine W.regS (SR.q' (r_as (v := .int .i64 0) rfl) <| SR.nil ?_)
  refine W.seq ?_
  refine W.seq ?_
  refine W.regS (SR.q' (r_as (v := .int .i64 0) rfl) <| SR.nil ?_)
  refine W.block ?_
  refine W.loop (σ := Nat) (fun g => [(0, .slice AL nL cL), (1, .int .i64 (k + 5 * (g : Int))), (5, .int .i64 (g : Int))]) (fun g w' => (Lo w w') ∧ (SlR w' BL encLibRow 5 AL nL cL L) ∧ (g ≤ nL)) (fun g => nL - g) 0 ?_ ?_ ?_
  · exact ⟨rfl, (eI (by omega)), (eI (by omega)), trivial⟩
  · exact ⟨(Lo.refl w), hL, (z_c_laws_heldLibRowS_379 L nL hbdL hleL k m hp0 hp1 hp2 hp3)⟩
  · rintro i f380 w381 hP383
    obtain ⟨hB382, hm384, hi385⟩ : (Lo w w381) ∧ (SlR w381 BL encLibRow 5 AL nL cL L) ∧ (i ≤ nL) := hP383
    refine (?_ : W _ _ _ _ _ (act _ (sets f380 [(0, .slice AL nL cL), (1, .int .i64 (k + 5 * (i : Int))), (5, .int .i64 (i : Int))])) _)
    have hzw381 := hB382.size
    refine W.seq ?_
    refine W.seq ?_
    refine W.regS (SR.q' (r_mv (v := .int .i64 _) rfl) <| SR.q' (r_mv (v := .slice _ _ _) rfl) <| SR.q' (r_len und31 rfl) <| SR.q' (r_lt rfl rfl) <| SR.nil ?_)
    refine W.cond_d rfl (fun h386 => ?_) (fun h386 => ?_)
    · refine W.skip ?_
      refine W.seq ?_
      refine W.block ?_
      refine W.seq ?_
      refine W.seq ?_
      refine W.regS (SR.q' (r_mv (v := .slice _ _ _) rfl) <| SR.q' (r_mv (v := .int .i64 _) rfl) <| ?_)
      obtain ⟨x387, hx388⟩ := (hm384).get (i := i) (by omega)
      refine SR.q' (r_ixR tsl31 (hm384) rfl rfl (by omega)) <| SR.q' (r_fa fa25_0 rfl) <| SR.q' (r_ld (v := .int .i64 x387.Month) sca3 rfl ((hm384).cell hx388 rfl)) <| SR.q' (r_mv (v := .int .i64 _) rfl) <| SR.q' (r_ne rfl rfl) <| SR.nil ?_
      refine W.cond_n rfl (fun h389 => ?_) (fun h389 => ?_)
      · refine W.seq ?_
        refine W.regS (SR.q' (r_as (v := .int .i64 (-1)) rfl) <| SR.nil ?_)
        refine W.ret ?_
        refine ret1 rfl (v := .int .i64 _) rfl ?_
        exact ⟨eR (eI (z_c_laws_heldLibRowS_390 L nL hbdL hleL k m hp0 hp1 hp2 hp3 i hi385 h386 x387 hx388 h389)), hB382⟩
      · refine W.skip ?_
        refine W.seq ?_
        refine W.regS (SR.q' (r_mv (v := .int .i64 _) rfl) <| SR.q' (r_add rfl rfl (by omega)) <| SR.q' (r_as (v := .int .i64 _) rfl) <| SR.nil ?_)
        refine W.seq ?_
        refine W.seq ?_
        refine W.regS (SR.q' (r_mv (v := .slice _ _ _) rfl) <| SR.q' (r_mv (v := .int .i64 _) rfl) <| SR.q' (r_ixR tsl31 (hm384) rfl rfl (by omega)) <| SR.q' (r_fa fa25_1 rfl) <| SR.q' (r_ld (v := .int .i64 x387.Lent) sca3 rfl ((hm384).cell hx388 rfl)) <| SR.q' (r_mv (v := .int .i64 _) rfl) <| SR.q' (r_ne rfl rfl) <| SR.nil ?_)
        refine W.cond_n rfl (fun h391 => ?_) (fun h391 => ?_)
        · refine W.seq ?_
          refine W.regS (SR.q' (r_as (v := .int .i64 (-1)) rfl) <| SR.nil ?_)
          refine W.ret ?_
          refine ret1 rfl (v := .int .i64 _) rfl ?_
          exact ⟨eR (eI (z_c_laws_heldLibRowS_392 L nL hbdL hleL k m hp0 hp1 hp2 hp3 i hi385 h386 x387 hx388 h389 h391)), hB382⟩
        · refine W.skip ?_
          refine W.seq ?_
          refine W.regS (SR.q' (r_mv (v := .int .i64 _) rfl) <| SR.q' (r_add rfl rfl (by omega)) <| SR.q' (r_as (v := .int .i64 _) rfl) <| SR.nil ?_)
          refine W.seq ?_
          refine W.seq ?_
          refine W.regS (SR.q' (r_mv (v := .slice _ _ _) rfl) <| SR.q' (r_mv (v := .int .i64 _) rfl) <| SR.q' (r_ixR tsl31 (hm384) rfl rfl (by omega)) <| SR.q' (r_fa fa25_2 rfl) <| SR.q' (r_ld (v := .int .i64 x387.Copied) sca3 rfl ((hm384).cell hx388 rfl)) <| SR.q' (r_mv (v := .int .i64 _) rfl) <| SR.q' (r_ne rfl rfl) <| SR.nil ?_)
          refine W.cond_n rfl (fun h393 => ?_) (fun h393 => ?_)
          · refine W.seq ?_
            refine W.regS (SR.q' (r_as (v := .int .i64 (-1)) rfl) <| SR.nil ?_)
            refine W.ret ?_
            refine ret1 rfl (v := .int .i64 _) rfl ?_
            exact ⟨eR (eI (z_c_laws_heldLibRowS_394 L nL hbdL hleL k m hp0 hp1 hp2 hp3 i hi385 h386 x387 hx388 h389 h391 h393)), hB382⟩
          · refine W.skip ?_
            refine W.seq ?_
            refine W.regS (SR.q' (r_mv (v := .int .i64 _) rfl) <| SR.q' (r_add rfl rfl (by omega)) <| SR.q' (r_as (v := .int .i64 _) rfl) <| SR.nil ?_)
            refine W.seq ?_
            refine W.seq ?_
            refine W.regS (SR.q' (r_mv (v := .slice _ _ _) rfl) <| SR.q' (r_mv (v := .int .i64 _) rfl) <| SR.q' (r_ixR tsl31 (hm384) rfl rfl (by omega)) <| SR.q' (r_fa fa25_3 rfl) <| SR.q' (r_ld (v := .int .i64 x387.Given) sca3 rfl ((hm384).cell hx388 rfl)) <| SR.q' (r_mv (v := .int .i64 _) rfl) <| SR.q' (r_ne rfl rfl) <| SR.nil ?_)
            refine W.cond_n rfl (fun h395 => ?_) (fun h395 => ?_)
            · refine W.seq ?_
              refine W.regS (SR.q' (r_as (v := .int .i64 (-1)) rfl) <| SR.nil ?_)
              refine W.ret ?_
              refine ret1 rfl (v := .int .i64 _) rfl ?_
              exact ⟨eR (eI (z_c_laws_heldLibRowS_396 L nL hbdL hleL k m hp0 hp1 hp2 hp3 i hi385 h386 x387 hx388 h389 h391 h393 h395)), hB382⟩
            · refine W.skip ?_
              refine W.seq ?_
              refine W.regS (SR.q' (r_mv (v := .int .i64 _) rfl) <| SR.q' (r_add rfl rfl (by omega)) <| SR.q' (r_as (v := .int .i64 _) rfl) <| SR.nil ?_)
              refine W.seq ?_
              refine W.seq ?_
              refine W.regS (SR.q' (r_mv (v := .slice _ _ _) rfl) <| SR.q' (r_mv (v := .int .i64 _) rfl) <| SR.q' (r_ixR tsl31 (hm384) rfl rfl (by omega)) <| SR.q' (r_fa fa25_4 rfl) <| SR.q' (r_ld (v := .int .i64 x387.Fines) sca3 rfl ((hm384).cell hx388 rfl)) <| SR.q' (r_mv (v := .int .i64 _) rfl) <| SR.q' (r_ne rfl rfl) <| SR.nil ?_)
              refine W.cond_n rfl (fun h397 => ?_) (fun h397 => ?_)
              · refine W.seq ?_
                refine W.regS (SR.q' (r_as (v := .int .i64 (-1)) rfl) <| SR.nil ?_)
                refine W.ret ?_
                refine ret1 rfl (v := .int .i64 _) rfl ?_
                exact ⟨eR (eI (z_c_laws_heldLibRowS_398 L nL hbdL hleL k m hp0 hp1 hp2 hp3 i hi385 h386 x387 hx388 h389 h391 h393 h395 h397)), hB382⟩
              · refine W.skip ?_
                refine W.regS (SR.q' (r_mv (v := .int .i64 _) rfl) <| SR.q' (r_add rfl rfl (by omega)) <| SR.q' (r_as (v := .int .i64 _) rfl) <| SR.nil ?_)
                refine W.regS (SR.q' (r_mv (v := .int .i64 _) rfl) <| SR.q' (r_add rfl rfl (by omega)) <| SR.q' (r_as (v := .int .i64 _) rfl) <| SR.nil ?_)
                refine ⟨i + 1, _, rfl, ⟨rfl, (eI (by omega)), (eI (by omega)), trivial⟩, ⟨hB382, hm384, ?_⟩, ?_⟩
                · exact (z_c_laws_heldLibRowS_399 L nL hbdL hleL k m hp0 hp1 hp2 hp3 i hi385 h386 x387 hx388 h389 h391 h393 h395 h397)
                · exact (z_c_laws_heldLibRowS_400 L nL hbdL hleL k m hp0 hp1 hp2 hp3 i hi385 h386 x387 hx388 h389 h391 h393 h395 h397)
    · refine W.exit (xin_here ?_)
      refine W.seq ?_
      refine W.regS (SR.q' (r_mv (v := .int .i64 _) rfl) <| SR.q' (r_as (v := .int .i64 _) rfl) <| SR.nil ?_)
      refine W.ret ?_
      refine ret1 rfl (v := .int .i64 _) rfl ?_
      exact ⟨eR (eI (z_c_laws_heldLibRowS_401 L nL hbdL hleL k m hp0 hp1 hp2 hp3 i hi385 h386)), hB382⟩

theorem c_laws_FnExactIsLibRow (w : World) (r : LibRow) : Calls Try.prog 3 #[.agg (List.toArray (encLibRow r))] w fun e w' => e = .returned (.bool true) ∧ Lo w w' := by
  refine calls_W 14 Try.func3 rfl rfl rfl ?_
  refine W.seq ?_
  refine W.regS (SR.box (v := .agg (List.toArray _)) (l := [.int .i64 r.Month, .int .i64 r.Lent, .int .i64 r.Copied, .int .i64 r.Given, .int .i64 r.Fines]) rfl rfl ?_)
  intro g402 w403 hg404 hk405 hs406 hb407
  have hz408 := hk405.size
  have hB409 := (Lo.refl w).lo hk405
  refine SR.q' (r_as (v := .bool false) rfl) <| SR.nil ?_
  refine W.seq ?_
  refine W.regS (SR.q' (r_lda (l := [.int .i64 r.Month, .int .i64 r.Lent, .int .i64 r.Copied, .int .i64 r.Given, .int .i64 r.Fines]) agg23 rfl (fun _ _ hu => (hb407).cell hu) rfl) <| SR.call ent12 (c_laws_toLibRow w403 r) rfl ?_)
  rintro e w410 ⟨rfl, hk411⟩
  refine ⟨_, rfl, ?_⟩
  have hz412 := hk411.size
  have hB413 := hB409.lo hk411
  refine SR.call ent11 (c_spec_IsLibRow w410 r) rfl ?_
  rintro e w414 ⟨rfl, hk415⟩
  refine ⟨_, rfl, ?_⟩
  have hz416 := hk415.size
  have hB417 := hB413.lo hk415
  refine SR.q' (r_as (v := .bool _) rfl) <| SR.nil ?_
  refine W.seq ?_
  refine W.regS (SR.q' (r_lda (l := [.int .i64 r.Month, .int .i64 r.Lent, .int .i64 r.Copied, .int .i64 r.Given, .int .i64 r.Fines]) agg23 rfl (fun _ _ hu => (((hb407).lo hk411).lo hk415).cell hu) rfl) <| SR.call ent12 (c_laws_toLibRow w414 r) rfl ?_)
  rintro e w418 ⟨rfl, hk419⟩
  refine ⟨_, rfl, ?_⟩
  have hz420 := hk419.size
  have hB421 := hB417.lo hk419
  refine SR.call ent13 (c_impl_IsLibRow w418 r) rfl ?_
  rintro e w422 ⟨rfl, hk423⟩
  refine ⟨_, rfl, ?_⟩
  have hz424 := hk423.size
  have hB425 := hB421.lo hk423
  refine SR.q' (r_as (v := .bool _) rfl) <| SR.nil ?_
  refine W.seq ?_
  refine W.seq ?_
  refine W.regS (SR.q' (r_mv (v := .bool _) rfl) <| SR.q' (r_mv (v := .bool _) rfl) <| SR.q' (r_neb_s und4 rfl rfl) <| SR.nil ?_)
  refine W.cond_f rfl ?_
  refine W.skip ?_
  refine W.seq ?_
  refine W.regS (SR.q' (r_as (v := .bool true) rfl) <| SR.nil ?_)
  refine W.ret ?_
  refine ret1 rfl (v := .bool _) rfl ?_
  exact ⟨eR rfl, hB425⟩

theorem c_spec_AreLibRows (w : World) {AL : Option Addr} {nL cL BL : Nat} (L : List LibRow) (hL : SlR w BL encLibRow 5 AL nL cL L) : Calls Try.prog 15 #[.slice AL nL cL] w fun e w' => e = .returned (.bool (decide (RowsOK L))) ∧ Lo w w' := by
  refine calls_W 5 Try.func15 rfl rfl rfl ?_
  have hbdL := hL.bound
  have hleL := hL.len
  have hBbL := hL.bd
  refine W.seq ?_
  refine W.regS (SR.q' (r_as (v := .bool false) rfl) <| SR.nil ?_)
  refine W.seq ?_
  refine W.regS (SR.q' (r_mv (v := .slice _ _ _) rfl) <| SR.call ent38 (c_spec_l31Good w L ((hL))) rfl ?_)
  rintro e w426 ⟨rfl, hk427⟩
  refine ⟨_, rfl, ?_⟩
  have hz428 := hk427.size
  have hB429 := (Lo.refl w).lo hk427
  refine SR.q' (r_as (v := .bool _) rfl) <| SR.nil ?_
  refine W.ret ?_
  refine ret1 rfl (v := .bool _) rfl ?_
  exact ⟨eR rfl, hB429⟩

theorem z_c_laws_FnExactAreLibRows_479 (L : List LibRow) (nL : Nat) (hbdL : (nL : Int) ≤ 9223372036854775807) (hleL : nL = L.length) (h434 : ¬ ((szN L.length 1048576) < 0)) (hq435 : ((L.length : Nat) : Int) ≤ 1048576 ∧ szN L.length 1048576 = 1048576 - (L.length : Int)) (n439 : Nat) (hl444 : n439 = (L).length) (hl445 : (n439 : Int) ≤ 9223372036854775807) (n453 : Nat) (hl458 : n453 = (L).length) (hl459 : (n453 : Int) ≤ 9223372036854775807) (n467 : Nat) (hl472 : n467 = (L).length) (hl473 : (n467 : Int) ≤ 9223372036854775807) (h478 : ¬ (L = L)) : false = true := by
  first | (simp_all; done) | omega
theorem c_laws_FnExactAreLibRows (w : World) {AL : Option Addr} {nL cL BL : Nat} (L : List LibRow) (hL : SlR w BL encLibRow 5 AL nL cL L) : Calls Try.prog 4 #[.slice AL nL cL] w fun e w' => e = .returned (.bool true) ∧ Lo w w' := by
  refine calls_W 27 Try.func4 rfl rfl rfl ?_
  have hbdL := hL.bound
  have hleL := hL.len
  have hBbL := hL.bd
  refine W.seq ?_
  refine W.regS (SR.q' (r_as (v := .bool false) rfl) <| SR.nil ?_)
  refine W.seq ?_
  refine W.regS (SR.q' (r_as (v := .int .i64 1048576) rfl) <| SR.nil ?_)
  refine W.seq ?_
  refine W.regS (SR.q' (r_mv (v := .slice _ _ _) rfl) <| SR.q' (r_mv (v := .int .i64 _) rfl) <| SR.call ent14 (c_laws_szLibRowS w L ((hL)) 1048576 (by omega) (by omega)) rfl ?_)
  rintro e w430 ⟨rfl, hk431⟩
  refine ⟨_, rfl, ?_⟩
  have hz432 := hk431.size
  have hB433 := (Lo.refl w).lo hk431
  refine SR.q' (r_as (v := .int .i64 _) rfl) <| SR.nil ?_
  refine W.seq ?_
  refine W.seq ?_
  refine W.regS (SR.q' (r_mv (v := .int .i64 _) rfl) <| SR.q' (r_lt rfl rfl) <| SR.nil ?_)
  refine W.cond_d rfl (fun h434 => ?_) (fun h434 => ?_)
  · refine W.seq ?_
    refine W.regS (SR.q' (r_as (v := .bool true) rfl) <| SR.nil ?_)
    refine W.ret ?_
    refine ret1 rfl (v := .bool _) rfl ?_
    exact ⟨eR rfl, hB433⟩
  · have hq435 := szN_ok h434
    refine W.skip ?_
    refine W.seq ?_
    refine W.regS (SR.q' (r_mv (v := .slice _ _ _) rfl) <| SR.call ent16 (c_laws_toLibRowS w430 L (((hL).lo hk431)) (by omega)) rfl ?_)
    rintro e w436 ⟨A438, n439, c440, rfl, hO441, hk437⟩
    refine ⟨_, rfl, ?_⟩
    have hz442 := hk437.size
    have hB443 := hB433.lo hk437
    have hl444 := hO441.len
    have hl445 := hO441.rd.bound
    refine SR.call ent15 (c_spec_AreLibRows w436 L (((hO441).rd))) rfl ?_
    rintro e w446 ⟨rfl, hk447⟩
    refine ⟨_, rfl, ?_⟩
    have hz448 := hk447.size
    have hB449 := hB443.lo hk447
    refine SR.q' (r_as (v := .bool _) rfl) <| SR.nil ?_
    refine W.seq ?_
    refine W.regS (SR.q' (r_mv (v := .slice _ _ _) rfl) <| SR.call ent16 (c_laws_toLibRowS w446 L (((((hL).lo hk431).lo hk437).lo hk447)) (by omega)) rfl ?_)
    rintro e w450 ⟨A452, n453, c454, rfl, hO455, hk451⟩
    refine ⟨_, rfl, ?_⟩
    have hz456 := hk451.size
    have hB457 := hB449.lo hk451
    have hl458 := hO455.len
    have hl459 := hO455.rd.bound
    refine SR.q' (r_as (v := .slice _ _ _) rfl) <| SR.nil ?_
    refine W.seq ?_
    refine W.regS (SR.q' (r_mv (v := .slice _ _ _) rfl) <| SR.call ent17 (c_impl_AreLibRows w450 L (((hO455).rd))) rfl ?_)
    rintro e w460 ⟨rfl, hk461⟩
    refine ⟨_, rfl, ?_⟩
    have hz462 := hk461.size
    have hB463 := hB457.lo hk461
    refine SR.q' (r_as (v := .bool _) rfl) <| SR.nil ?_
    refine W.seq ?_
    refine W.seq ?_
    refine W.regS (SR.q' (r_mv (v := .bool _) rfl) <| SR.q' (r_mv (v := .bool _) rfl) <| SR.q' (r_neb_s und4 rfl rfl) <| SR.nil ?_)
    refine W.cond_f rfl ?_
    refine W.skip ?_
    refine W.seq ?_
    refine W.seq ?_
    refine W.regS (SR.q' (r_mv (v := .slice _ _ _) rfl) <| SR.q' (r_mv (v := .slice _ _ _) rfl) <| SR.call ent16 (c_laws_toLibRowS w460 L (((((((hL).lo hk431).lo hk437).lo hk447).lo hk451).lo hk461)) (by omega)) rfl ?_)
    rintro e w464 ⟨A466, n467, c468, rfl, hO469, hk465⟩
    refine ⟨_, rfl, ?_⟩
    have hz470 := hk465.size
    have hB471 := hB463.lo hk465
    have hl472 := hO469.len
    have hl473 := hO469.rd.bound
    refine SR.call ent18 (c_laws_eqLibRowS w464 L (((((hO455).lo hk461).lo hk465).rd)) L (((hO469).rd))) rfl ?_
    rintro e w474 ⟨rfl, hk475⟩
    refine ⟨_, rfl, ?_⟩
    have hz476 := hk475.size
    have hB477 := hB471.lo hk475
    refine SR.q' (r_not rfl) <| SR.nil ?_
    refine W.cond_n rfl (fun h478 => ?_) (fun h478 => ?_)
    · refine W.seq ?_
      refine W.regS (SR.q' (r_as (v := .bool false) rfl) <| SR.nil ?_)
      refine W.ret ?_
      refine ret1 rfl (v := .bool _) rfl ?_
      exact ⟨eR (eB (z_c_laws_FnExactAreLibRows_479 L nL hbdL hleL h434 hq435 n439 hl444 hl445 n453 hl458 hl459 n467 hl472 hl473 h478)), hB477⟩
    · refine W.skip ?_
      refine W.seq ?_
      refine W.regS (SR.q' (r_as (v := .bool true) rfl) <| SR.nil ?_)
      refine W.ret ?_
      refine ret1 rfl (v := .bool _) rfl ?_
      exact ⟨eR rfl, hB477⟩

theorem z_c_spec_MissingMonths_485 (L : List LibRow) (nL : Nat) (hbdL : (nL : Int) ≤ 9223372036854775807) (hleL : nL = L.length) (h484 : ¬ (RowsOK L)) : 0 = missM L := by
  first | assumption | (subst hleL; unfold missM; simp_all; done) | (unfold missM; simp_all; done) | (unfold missM; simp_all; omega)
theorem z_c_spec_MissingMonths_486 (L : List LibRow) (nL : Nat) (hbdL : (nL : Int) ≤ 9223372036854775807) (hleL : nL = L.length) (h484 : ¬ (RowsOK L)) : ¬ (RowsOK L) := by
  first | assumption | (subst hleL; unfold missM; simp_all; done) | (unfold missM; simp_all; done) | (unfold missM; simp_all; omega)
theorem z_c_spec_MissingMonths_489 (L : List LibRow) (nL : Nat) (hbdL : (nL : Int) ≤ 9223372036854775807) (hleL : nL = L.length) (h484 : RowsOK L) (hq487 : L.length ≤ 12) (h488 : (nL : Int) = 0) : 0 = missM L := by
  first | assumption | (subst hleL; unfold missM; simp_all; done) | (unfold missM; simp_all; done) | (unfold missM; simp_all; omega)
theorem z_c_spec_MissingMonths_490 (L : List LibRow) (nL : Nat) (hbdL : (nL : Int) ≤ 9223372036854775807) (hleL : nL = L.length) (h484 : RowsOK L) (hq487 : L.length ≤ 12) (h488 : (nL : Int) = 0) : RowsOK L := by
  first | assumption | (subst hleL; unfold missM; simp_all; done) | (unfold missM; simp_all; done) | (unfold missM; simp_all; omega)
theorem z_c_spec_MissingMonths_502 (L : List LibRow) (nL : Nat) (hbdL : (nL : Int) ≤ 9223372036854775807) (hleL : nL = L.length) (h484 : RowsOK L) (hq487 : L.length ≤ 12) (h488 : ¬ ((nL : Int) = 0)) (x491 : LibRow) (hx493 : L[nL - 1]? = some x491) (hq494 : ((1 : Int) ≤ x491.Month ∧ x491.Month ≤ 1200) ∧ ((0 : Int) ≤ x491.Lent ∧ x491.Lent ≤ 9999) ∧ ((0 : Int) ≤ x491.Copied ∧ x491.Copied ≤ 9999) ∧ ((0 : Int) ≤ x491.Given ∧ x491.Given ≤ 999) ∧ ((0 : Int) ≤ x491.Fines ∧ x491.Fines ≤ 99999)) (x495 : LibRow) (hx496 : L[0]? = some x495) (hq497 : ((1 : Int) ≤ x495.Month ∧ x495.Month ≤ 1200) ∧ ((0 : Int) ≤ x495.Lent ∧ x495.Lent ≤ 9999) ∧ ((0 : Int) ≤ x495.Copied ∧ x495.Copied ≤ 9999) ∧ ((0 : Int) ≤ x495.Given ∧ x495.Given ≤ 999) ∧ ((0 : Int) ≤ x495.Fines ∧ x495.Fines ≤ 99999)) : ((x491.Month - x495.Month) + 1) - (nL : Int) = missM L := by
  first | assumption | (subst hleL; unfold missM; simp_all; done) | (unfold missM; simp_all; done) | (unfold missM; simp_all; omega)
theorem z_c_spec_MissingMonths_503 (L : List LibRow) (nL : Nat) (hbdL : (nL : Int) ≤ 9223372036854775807) (hleL : nL = L.length) (h484 : RowsOK L) (hq487 : L.length ≤ 12) (h488 : ¬ ((nL : Int) = 0)) (x491 : LibRow) (hx493 : L[nL - 1]? = some x491) (hq494 : ((1 : Int) ≤ x491.Month ∧ x491.Month ≤ 1200) ∧ ((0 : Int) ≤ x491.Lent ∧ x491.Lent ≤ 9999) ∧ ((0 : Int) ≤ x491.Copied ∧ x491.Copied ≤ 9999) ∧ ((0 : Int) ≤ x491.Given ∧ x491.Given ≤ 999) ∧ ((0 : Int) ≤ x491.Fines ∧ x491.Fines ≤ 99999)) (x495 : LibRow) (hx496 : L[0]? = some x495) (hq497 : ((1 : Int) ≤ x495.Month ∧ x495.Month ≤ 1200) ∧ ((0 : Int) ≤ x495.Lent ∧ x495.Lent ≤ 9999) ∧ ((0 : Int) ≤ x495.Copied ∧ x495.Copied ≤ 9999) ∧ ((0 : Int) ≤ x495.Given ∧ x495.Given ≤ 999) ∧ ((0 : Int) ≤ x495.Fines ∧ x495.Fines ≤ 99999)) : RowsOK L := by
  first | assumption | (subst hleL; unfold missM; simp_all; done) | (unfold missM; simp_all; done) | (unfold missM; simp_all; omega)
theorem c_spec_MissingMonths (w : World) {AL : Option Addr} {nL cL BL : Nat} (L : List LibRow) (hL : SlR w BL encLibRow 5 AL nL cL L) : Calls Try.prog 19 #[.slice AL nL cL] w fun e w' => e = .returned (.tuple (List.toArray [.int .i64 (missM L), .bool (decide (RowsOK L))])) ∧ Lo w w' := by
  refine calls_W 26 Try.func19 rfl rfl rfl ?_
  have hbdL := hL.bound
  have hleL := hL.len
  have hBbL := hL.bd
  refine W.seq ?_
  refine W.regS (SR.q' (r_as (v := .int .i64 0) rfl) <| SR.q' (r_as (v := .bool false) rfl) <| SR.nil ?_)
  refine W.seq ?_
  refine W.regS (SR.q' (r_mv (v := .slice _ _ _) rfl) <| SR.q' (r_len und31 rfl) <| SR.q' (r_as (v := .int .i64 _) rfl) <| SR.nil ?_)
  refine W.seq ?_
  refine W.seq ?_
  refine W.regS (SR.q' (r_mv (v := .slice _ _ _) rfl) <| SR.call ent38 (c_spec_l31Good w L ((hL))) rfl ?_)
  rintro e w480 ⟨rfl, hk481⟩
  refine ⟨_, rfl, ?_⟩
  have hz482 := hk481.size
  have hB483 := (Lo.refl w).lo hk481
  refine SR.q' (r_not rfl) <| SR.nil ?_
  refine W.cond_n rfl (fun h484 => ?_) (fun h484 => ?_)
  · refine W.seq ?_
    refine W.regS (SR.q' (r_as (v := .int .i64 0) rfl) <| SR.q' (r_as (v := .bool false) rfl) <| SR.nil ?_)
    refine W.ret ?_
    refine ret2 rfl (v := .int .i64 _) (v' := .bool _) rfl rfl ?_
    exact ⟨eR (eT2 (eI (z_c_spec_MissingMonths_485 L nL hbdL hleL h484)) (eDF (z_c_spec_MissingMonths_486 L nL hbdL hleL h484))), hB483⟩
  · have hq487 := rows_len h484
    refine W.skip ?_
    refine W.seq ?_
    refine W.seq ?_
    refine W.regS (SR.q' (r_mv (v := .int .i64 _) rfl) <| SR.q' (r_eq rfl rfl) <| SR.nil ?_)
    refine W.cond_d rfl (fun h488 => ?_) (fun h488 => ?_)
    · refine W.seq ?_
      refine W.regS (SR.q' (r_as (v := .int .i64 0) rfl) <| SR.q' (r_as (v := .bool true) rfl) <| SR.nil ?_)
      refine W.ret ?_
      refine ret2 rfl (v := .int .i64 _) (v' := .bool _) rfl rfl ?_
      exact ⟨eR (eT2 (eI (z_c_spec_MissingMonths_489 L nL hbdL hleL h484 hq487 h488)) (eDT (z_c_spec_MissingMonths_490 L nL hbdL hleL h484 hq487 h488))), hB483⟩
    · refine W.skip ?_
      refine W.seq ?_
      refine W.regD mo (by kernel_rfl) (QR.q' (fun w' hw' => r_mv (v := .slice _ _ _) rfl) <| QR.q' (fun w' hw' => r_mv (v := .int .i64 _) rfl) <| QR.q' (fun w' hw' => r_sub rfl rfl (by omega)) <| ?_)
      obtain ⟨x491, hx492⟩ := ((hL).lo hk481).get (i := ((nL : Int) - 1).toNat) (by omega)
      have hx493 : L[nL - 1]? = some x491 := (show ((nL : Int) - 1).toNat = nL - 1 from by omega) ▸ hx492
      have hq494 := rows_rng h484 hx493
      refine QR.q' (fun w' hw' => r_ixR tsl31 (((hL).lo hk481).lo hw') rfl rfl (by omega)) <| QR.q' (fun w' hw' => r_fa fa25_0 rfl) <| QR.q' (fun w' hw' => r_ld (v := .int .i64 x491.Month) sca3 rfl ((((hL).lo hk481).lo hw').cell hx492 rfl)) <| QR.q' (fun w' hw' => r_mv (v := .slice _ _ _) rfl) <| ?_
      obtain ⟨x495, hx496⟩ := ((hL).lo hk481).get (i := 0) (by omega)
      have hq497 := rows_rng h484 hx496
      refine QR.q' (fun w' hw' => r_ixR tsl31 (((hL).lo hk481).lo hw') rfl rfl (by omega)) <| QR.q' (fun w' hw' => r_fa fa25_0 rfl) <| QR.q' (fun w' hw' => r_ld (v := .int .i64 x495.Month) sca3 rfl ((((hL).lo hk481).lo hw').cell hx496 rfl)) <| QR.q' (fun w' hw' => r_sub rfl rfl (by omega)) <| QR.q' (fun w' hw' => r_add rfl rfl (by omega)) <| QR.q' (fun w' hw' => r_mv (v := .int .i64 _) rfl) <| QR.q' (fun w' hw' => r_sub rfl rfl (by omega)) <| QR.q' (fun w' hw' => r_as (v := .int .i64 _) rfl) <| QR.q' (fun w' hw' => r_as (v := .bool true) rfl) <| QR.nil ?_
      intro w498 hk499
      have hz500 := hk499.size
      have hB501 := hB483.lo hk499
      refine W.ret ?_
      refine ret2 rfl (v := .int .i64 _) (v' := .bool _) rfl rfl ?_
      exact ⟨eR (eT2 (eI (z_c_spec_MissingMonths_502 L nL hbdL hleL h484 hq487 h488 x491 hx493 hq494 x495 hx496 hq497)) (eDT (z_c_spec_MissingMonths_503 L nL hbdL hleL h484 hq487 h488 x491 hx493 hq494 x495 hx496 hq497))), hB501⟩

theorem z_c_impl_MissingMonths_509 (L : List LibRow) (nL : Nat) (hbdL : (nL : Int) ≤ 9223372036854775807) (hleL : nL = L.length) (h508 : ¬ (RowsOK L)) : 0 = missM L := by
  first | assumption | (subst hleL; unfold missM; simp_all; done) | (unfold missM; simp_all; done) | (unfold missM; simp_all; omega)
theorem z_c_impl_MissingMonths_510 (L : List LibRow) (nL : Nat) (hbdL : (nL : Int) ≤ 9223372036854775807) (hleL : nL = L.length) (h508 : ¬ (RowsOK L)) : ¬ (RowsOK L) := by
  first | assumption | (subst hleL; unfold missM; simp_all; done) | (unfold missM; simp_all; done) | (unfold missM; simp_all; omega)
theorem z_c_impl_MissingMonths_513 (L : List LibRow) (nL : Nat) (hbdL : (nL : Int) ≤ 9223372036854775807) (hleL : nL = L.length) (h508 : RowsOK L) (hq511 : L.length ≤ 12) (h512 : (nL : Int) = 0) : 0 = missM L := by
  first | assumption | (subst hleL; unfold missM; simp_all; done) | (unfold missM; simp_all; done) | (unfold missM; simp_all; omega)
theorem z_c_impl_MissingMonths_514 (L : List LibRow) (nL : Nat) (hbdL : (nL : Int) ≤ 9223372036854775807) (hleL : nL = L.length) (h508 : RowsOK L) (hq511 : L.length ≤ 12) (h512 : (nL : Int) = 0) : RowsOK L := by
  first | assumption | (subst hleL; unfold missM; simp_all; done) | (unfold missM; simp_all; done) | (unfold missM; simp_all; omega)
theorem z_c_impl_MissingMonths_526 (L : List LibRow) (nL : Nat) (hbdL : (nL : Int) ≤ 9223372036854775807) (hleL : nL = L.length) (h508 : RowsOK L) (hq511 : L.length ≤ 12) (h512 : ¬ ((nL : Int) = 0)) (x515 : LibRow) (hx517 : L[nL - 1]? = some x515) (hq518 : ((1 : Int) ≤ x515.Month ∧ x515.Month ≤ 1200) ∧ ((0 : Int) ≤ x515.Lent ∧ x515.Lent ≤ 9999) ∧ ((0 : Int) ≤ x515.Copied ∧ x515.Copied ≤ 9999) ∧ ((0 : Int) ≤ x515.Given ∧ x515.Given ≤ 999) ∧ ((0 : Int) ≤ x515.Fines ∧ x515.Fines ≤ 99999)) (x519 : LibRow) (hx520 : L[0]? = some x519) (hq521 : ((1 : Int) ≤ x519.Month ∧ x519.Month ≤ 1200) ∧ ((0 : Int) ≤ x519.Lent ∧ x519.Lent ≤ 9999) ∧ ((0 : Int) ≤ x519.Copied ∧ x519.Copied ≤ 9999) ∧ ((0 : Int) ≤ x519.Given ∧ x519.Given ≤ 999) ∧ ((0 : Int) ≤ x519.Fines ∧ x519.Fines ≤ 99999)) : ((x515.Month - x519.Month) + 1) - (nL : Int) = missM L := by
  first | assumption | (subst hleL; unfold missM; simp_all; done) | (unfold missM; simp_all; done) | (unfold missM; simp_all; omega)
theorem z_c_impl_MissingMonths_527 (L : List LibRow) (nL : Nat) (hbdL : (nL : Int) ≤ 9223372036854775807) (hleL : nL = L.length) (h508 : RowsOK L) (hq511 : L.length ≤ 12) (h512 : ¬ ((nL : Int) = 0)) (x515 : LibRow) (hx517 : L[nL - 1]? = some x515) (hq518 : ((1 : Int) ≤ x515.Month ∧ x515.Month ≤ 1200) ∧ ((0 : Int) ≤ x515.Lent ∧ x515.Lent ≤ 9999) ∧ ((0 : Int) ≤ x515.Copied ∧ x515.Copied ≤ 9999) ∧ ((0 : Int) ≤ x515.Given ∧ x515.Given ≤ 999) ∧ ((0 : Int) ≤ x515.Fines ∧ x515.Fines ≤ 99999)) (x519 : LibRow) (hx520 : L[0]? = some x519) (hq521 : ((1 : Int) ≤ x519.Month ∧ x519.Month ≤ 1200) ∧ ((0 : Int) ≤ x519.Lent ∧ x519.Lent ≤ 9999) ∧ ((0 : Int) ≤ x519.Copied ∧ x519.Copied ≤ 9999) ∧ ((0 : Int) ≤ x519.Given ∧ x519.Given ≤ 999) ∧ ((0 : Int) ≤ x519.Fines ∧ x519.Fines ≤ 99999)) : RowsOK L := by
  first | assumption | (subst hleL; unfold missM; simp_all; done) | (unfold missM; simp_all; done) | (unfold missM; simp_all; omega)
theorem c_impl_MissingMonths (w : World) {AL : Option Addr} {nL cL BL : Nat} (L : List LibRow) (hL : SlR w BL encLibRow 5 AL nL cL L) : Calls Try.prog 20 #[.slice AL nL cL] w fun e w' => e = .returned (.tuple (List.toArray [.int .i64 (missM L), .bool (decide (RowsOK L))])) ∧ Lo w w' := by
  refine calls_W 26 Try.func20 rfl rfl rfl ?_
  have hbdL := hL.bound
  have hleL := hL.len
  have hBbL := hL.bd
  refine W.seq ?_
  refine W.regS (SR.q' (r_as (v := .int .i64 0) rfl) <| SR.q' (r_as (v := .bool false) rfl) <| SR.nil ?_)
  refine W.seq ?_
  refine W.seq ?_
  refine W.regS (SR.q' (r_mv (v := .slice _ _ _) rfl) <| SR.call ent17 (c_impl_AreLibRows w L ((hL))) rfl ?_)
  rintro e w504 ⟨rfl, hk505⟩
  refine ⟨_, rfl, ?_⟩
  have hz506 := hk505.size
  have hB507 := (Lo.refl w).lo hk505
  refine SR.q' (r_not rfl) <| SR.nil ?_
  refine W.cond_n rfl (fun h508 => ?_) (fun h508 => ?_)
  · refine W.seq ?_
    refine W.regS (SR.q' (r_as (v := .int .i64 0) rfl) <| SR.q' (r_as (v := .bool false) rfl) <| SR.nil ?_)
    refine W.ret ?_
    refine ret2 rfl (v := .int .i64 _) (v' := .bool _) rfl rfl ?_
    exact ⟨eR (eT2 (eI (z_c_impl_MissingMonths_509 L nL hbdL hleL h508)) (eDF (z_c_impl_MissingMonths_510 L nL hbdL hleL h508))), hB507⟩
  · have hq511 := rows_len h508
    refine W.skip ?_
    refine W.seq ?_
    refine W.seq ?_
    refine W.regS (SR.q' (r_mv (v := .slice _ _ _) rfl) <| SR.q' (r_len und31 rfl) <| SR.q' (r_eq rfl rfl) <| SR.nil ?_)
    refine W.cond_d rfl (fun h512 => ?_) (fun h512 => ?_)
    · refine W.seq ?_
      refine W.regS (SR.q' (r_as (v := .int .i64 0) rfl) <| SR.q' (r_as (v := .bool true) rfl) <| SR.nil ?_)
      refine W.ret ?_
      refine ret2 rfl (v := .int .i64 _) (v' := .bool _) rfl rfl ?_
      exact ⟨eR (eT2 (eI (z_c_impl_MissingMonths_513 L nL hbdL hleL h508 hq511 h512)) (eDT (z_c_impl_MissingMonths_514 L nL hbdL hleL h508 hq511 h512))), hB507⟩
    · refine W.skip ?_
      refine W.seq ?_
      refine W.regD mo (by kernel_rfl) (QR.q' (fun w' hw' => r_mv (v := .slice _ _ _) rfl) <| QR.q' (fun w' hw' => r_mv (v := .slice _ _ _) rfl) <| QR.q' (fun w' hw' => r_len und31 rfl) <| QR.q' (fun w' hw' => r_sub rfl rfl (by omega)) <| ?_)
      obtain ⟨x515, hx516⟩ := ((hL).lo hk505).get (i := ((nL : Int) - 1).toNat) (by omega)
      have hx517 : L[nL - 1]? = some x515 := (show ((nL : Int) - 1).toNat = nL - 1 from by omega) ▸ hx516
      have hq518 := rows_rng h508 hx517
      refine QR.q' (fun w' hw' => r_ixR tsl31 (((hL).lo hk505).lo hw') rfl rfl (by omega)) <| QR.q' (fun w' hw' => r_fa fa25_0 rfl) <| QR.q' (fun w' hw' => r_ld (v := .int .i64 x515.Month) sca3 rfl ((((hL).lo hk505).lo hw').cell hx516 rfl)) <| QR.q' (fun w' hw' => r_mv (v := .slice _ _ _) rfl) <| ?_
      obtain ⟨x519, hx520⟩ := ((hL).lo hk505).get (i := 0) (by omega)
      have hq521 := rows_rng h508 hx520
      refine QR.q' (fun w' hw' => r_ixR tsl31 (((hL).lo hk505).lo hw') rfl rfl (by omega)) <| QR.q' (fun w' hw' => r_fa fa25_0 rfl) <| QR.q' (fun w' hw' => r_ld (v := .int .i64 x519.Month) sca3 rfl ((((hL).lo hk505).lo hw').cell hx520 rfl)) <| QR.q' (fun w' hw' => r_sub rfl rfl (by omega)) <| QR.q' (fun w' hw' => r_add rfl rfl (by omega)) <| QR.q' (fun w' hw' => r_mv (v := .slice _ _ _) rfl) <| QR.q' (fun w' hw' => r_len und31 rfl) <| QR.q' (fun w' hw' => r_sub rfl rfl (by omega)) <| QR.q' (fun w' hw' => r_as (v := .int .i64 _) rfl) <| QR.q' (fun w' hw' => r_as (v := .bool true) rfl) <| QR.nil ?_
      intro w522 hk523
      have hz524 := hk523.size
      have hB525 := hB507.lo hk523
      refine W.ret ?_
      refine ret2 rfl (v := .int .i64 _) (v' := .bool _) rfl rfl ?_
      exact ⟨eR (eT2 (eI (z_c_impl_MissingMonths_526 L nL hbdL hleL h508 hq511 h512 x515 hx517 hq518 x519 hx520 hq521)) (eDT (z_c_impl_MissingMonths_527 L nL hbdL hleL h508 hq511 h512 x515 hx517 hq518 x519 hx520 hq521))), hB525⟩

theorem z_c_laws_FnExactMissingMonths_577 (L : List LibRow) (nL : Nat) (hbdL : (nL : Int) ≤ 9223372036854775807) (hleL : nL = L.length) (h532 : ¬ ((szN L.length 1048576) < 0)) (hq533 : ((L.length : Nat) : Int) ≤ 1048576 ∧ szN L.length 1048576 = 1048576 - (L.length : Int)) (n537 : Nat) (hl542 : n537 = (L).length) (hl543 : (n537 : Int) ≤ 9223372036854775807) (n551 : Nat) (hl556 : n551 = (L).length) (hl557 : (n551 : Int) ≤ 9223372036854775807) (n565 : Nat) (hl570 : n565 = (L).length) (hl571 : (n565 : Int) ≤ 9223372036854775807) (h576 : ¬ (L = L)) : false = true := by
  first | (simp_all; done) | omega
theorem c_laws_FnExactMissingMonths (w : World) {AL : Option Addr} {nL cL BL : Nat} (L : List LibRow) (hL : SlR w BL encLibRow 5 AL nL cL L) : Calls Try.prog 5 #[.slice AL nL cL] w fun e w' => e = .returned (.bool true) ∧ Lo w w' := by
  refine calls_W 40 Try.func5 rfl rfl rfl ?_
  have hbdL := hL.bound
  have hleL := hL.len
  have hBbL := hL.bd
  refine W.seq ?_
  refine W.regS (SR.q' (r_as (v := .bool false) rfl) <| SR.nil ?_)
  refine W.seq ?_
  refine W.regS (SR.q' (r_as (v := .int .i64 1048576) rfl) <| SR.nil ?_)
  refine W.seq ?_
  refine W.regS (SR.q' (r_mv (v := .slice _ _ _) rfl) <| SR.q' (r_mv (v := .int .i64 _) rfl) <| SR.call ent14 (c_laws_szLibRowS w L ((hL)) 1048576 (by omega) (by omega)) rfl ?_)
  rintro e w528 ⟨rfl, hk529⟩
  refine ⟨_, rfl, ?_⟩
  have hz530 := hk529.size
  have hB531 := (Lo.refl w).lo hk529
  refine SR.q' (r_as (v := .int .i64 _) rfl) <| SR.nil ?_
  refine W.seq ?_
  refine W.seq ?_
  refine W.regS (SR.q' (r_mv (v := .int .i64 _) rfl) <| SR.q' (r_lt rfl rfl) <| SR.nil ?_)
  refine W.cond_d rfl (fun h532 => ?_) (fun h532 => ?_)
  · refine W.seq ?_
    refine W.regS (SR.q' (r_as (v := .bool true) rfl) <| SR.nil ?_)
    refine W.ret ?_
    refine ret1 rfl (v := .bool _) rfl ?_
    exact ⟨eR rfl, hB531⟩
  · have hq533 := szN_ok h532
    refine W.skip ?_
    refine W.seq ?_
    refine W.regS (SR.q' (r_mv (v := .slice _ _ _) rfl) <| SR.call ent16 (c_laws_toLibRowS w528 L (((hL).lo hk529)) (by omega)) rfl ?_)
    rintro e w534 ⟨A536, n537, c538, rfl, hO539, hk535⟩
    refine ⟨_, rfl, ?_⟩
    have hz540 := hk535.size
    have hB541 := hB531.lo hk535
    have hl542 := hO539.len
    have hl543 := hO539.rd.bound
    refine SR.call ent19 (c_spec_MissingMonths w534 L (((hO539).rd))) rfl ?_
    rintro e w544 ⟨rfl, hk545⟩
    refine ⟨_, rfl, ?_⟩
    have hz546 := hk545.size
    have hB547 := hB541.lo hk545
    refine SR.q' (r_mv (v := .tuple (List.toArray _)) rfl) <| SR.q' (r_ext (v := .int .i64 _) rfl rfl) <| SR.q' (r_ext (v := .bool _) rfl rfl) <| SR.q' (r_as (v := .int .i64 _) rfl) <| SR.q' (r_as (v := .bool _) rfl) <| SR.nil ?_
    refine W.seq ?_
    refine W.regS (SR.q' (r_mv (v := .slice _ _ _) rfl) <| SR.call ent16 (c_laws_toLibRowS w544 L (((((hL).lo hk529).lo hk535).lo hk545)) (by omega)) rfl ?_)
    rintro e w548 ⟨A550, n551, c552, rfl, hO553, hk549⟩
    refine ⟨_, rfl, ?_⟩
    have hz554 := hk549.size
    have hB555 := hB547.lo hk549
    have hl556 := hO553.len
    have hl557 := hO553.rd.bound
    refine SR.q' (r_as (v := .slice _ _ _) rfl) <| SR.nil ?_
    refine W.seq ?_
    refine W.regS (SR.q' (r_mv (v := .slice _ _ _) rfl) <| SR.call ent20 (c_impl_MissingMonths w548 L (((hO553).rd))) rfl ?_)
    rintro e w558 ⟨rfl, hk559⟩
    refine ⟨_, rfl, ?_⟩
    have hz560 := hk559.size
    have hB561 := hB555.lo hk559
    refine SR.q' (r_mv (v := .tuple (List.toArray _)) rfl) <| SR.q' (r_ext (v := .int .i64 _) rfl rfl) <| SR.q' (r_ext (v := .bool _) rfl rfl) <| SR.q' (r_as (v := .int .i64 _) rfl) <| SR.q' (r_as (v := .bool _) rfl) <| SR.nil ?_
    refine W.seq ?_
    refine W.seq ?_
    refine W.regS (SR.q' (r_mv (v := .int .i64 _) rfl) <| SR.q' (r_mv (v := .int .i64 _) rfl) <| SR.q' (r_ne_s rfl rfl) <| SR.q' (r_mv (v := .bool _) rfl) <| SR.g' rfl (r_mv (v := .bool _) rfl) <| SR.g' rfl (r_mv (v := .bool _) rfl) <| SR.g' rfl (r_neb_s und4 rfl rfl) <| SR.q' (r_pick false rfl (v := .bool _) rfl) <| SR.nil ?_)
    refine W.cond_f rfl ?_
    refine W.skip ?_
    refine W.seq ?_
    refine W.seq ?_
    refine W.regS (SR.q' (r_mv (v := .slice _ _ _) rfl) <| SR.q' (r_mv (v := .slice _ _ _) rfl) <| SR.call ent16 (c_laws_toLibRowS w558 L (((((((hL).lo hk529).lo hk535).lo hk545).lo hk549).lo hk559)) (by omega)) rfl ?_)
    rintro e w562 ⟨A564, n565, c566, rfl, hO567, hk563⟩
    refine ⟨_, rfl, ?_⟩
    have hz568 := hk563.size
    have hB569 := hB561.lo hk563
    have hl570 := hO567.len
    have hl571 := hO567.rd.bound
    refine SR.call ent18 (c_laws_eqLibRowS w562 L (((((hO553).lo hk559).lo hk563).rd)) L (((hO567).rd))) rfl ?_
    rintro e w572 ⟨rfl, hk573⟩
    refine ⟨_, rfl, ?_⟩
    have hz574 := hk573.size
    have hB575 := hB569.lo hk573
    refine SR.q' (r_not rfl) <| SR.nil ?_
    refine W.cond_n rfl (fun h576 => ?_) (fun h576 => ?_)
    · refine W.seq ?_
      refine W.regS (SR.q' (r_as (v := .bool false) rfl) <| SR.nil ?_)
      refine W.ret ?_
      refine ret1 rfl (v := .bool _) rfl ?_
      exact ⟨eR (eB (z_c_laws_FnExactMissingMonths_577 L nL hbdL hleL h532 hq533 n537 hl542 hl543 n551 hl556 hl557 n565 hl570 hl571 h576)), hB575⟩
    · refine W.skip ?_
      refine W.seq ?_
      refine W.regS (SR.q' (r_as (v := .bool true) rfl) <| SR.nil ?_)
      refine W.ret ?_
      refine ret1 rfl (v := .bool _) rfl ?_
      exact ⟨eR rfl, hB575⟩

theorem z_c_spec_BestRun_583 (L : List LibRow) (nL : Nat) (hbdL : (nL : Int) ≤ 9223372036854775807) (hleL : nL = L.length) (h582 : ¬ (RowsOK L)) : 0 = bestF L := by
  first | (simp_all [bestF, bestL]; done) | (simp_all; done)
theorem z_c_spec_BestRun_584 (L : List LibRow) (nL : Nat) (hbdL : (nL : Int) ≤ 9223372036854775807) (hleL : nL = L.length) (h582 : ¬ (RowsOK L)) : 0 = bestL L := by
  first | (simp_all [bestF, bestL]; done) | (simp_all; done)
theorem z_c_spec_BestRun_585 (L : List LibRow) (nL : Nat) (hbdL : (nL : Int) ≤ 9223372036854775807) (hleL : nL = L.length) (h582 : ¬ (RowsOK L)) : ¬ (RowsOK L ∧ 0 < L.length) := by
  first | (simp_all [bestF, bestL]; done) | (simp_all; done)
theorem z_c_spec_BestRun_588 (L : List LibRow) (nL : Nat) (hbdL : (nL : Int) ≤ 9223372036854775807) (hleL : nL = L.length) (h582 : RowsOK L) (hq586 : L.length ≤ 12) (h587 : (nL : Int) = 0) : 0 = bestF L := by
  first | (simp_all [bestF, bestL]; done) | (simp_all; done)
theorem z_c_spec_BestRun_589 (L : List LibRow) (nL : Nat) (hbdL : (nL : Int) ≤ 9223372036854775807) (hleL : nL = L.length) (h582 : RowsOK L) (hq586 : L.length ≤ 12) (h587 : (nL : Int) = 0) : 0 = bestL L := by
  first | (simp_all [bestF, bestL]; done) | (simp_all; done)
theorem z_c_spec_BestRun_590 (L : List LibRow) (nL : Nat) (hbdL : (nL : Int) ≤ 9223372036854775807) (hleL : nL = L.length) (h582 : RowsOK L) (hq586 : L.length ≤ 12) (h587 : (nL : Int) = 0) : ¬ (RowsOK L ∧ 0 < L.length) := by
  first | (simp_all [bestF, bestL]; done) | (simp_all; done)
theorem z_c_spec_BestRun_591 (L : List LibRow) (nL : Nat) (hbdL : (nL : Int) ≤ 9223372036854775807) (hleL : nL = L.length) (h582 : RowsOK L) (hq586 : L.length ≤ 12) (h587 : ¬ ((nL : Int) = 0)) : 0 ≤ nL ∧ best L 0 = (0, 0, 0) ∧ 0 ≤ 0 ∧ (0 < 0 ∨ 0 = 0) ∧ (0 < 0 ∨ 0 = 0) := by
  simp [best]
theorem z_c_spec_BestRun_613 (L : List LibRow) (nL : Nat) (hbdL : (nL : Int) ≤ 9223372036854775807) (hleL : nL = L.length) (h582 : RowsOK L) (hq586 : L.length ≤ 12) (h587 : ¬ ((nL : Int) = 0)) (k : Nat) (a : Nat) (b : Nat) (c : Nat) (hi597 : k ≤ nL ∧ best L k = (a, b, c) ∧ a ≤ b ∧ (b < k ∨ b = 0) ∧ (c < k ∨ c = 0)) (h598 : (k : Int) < (nL : Int)) (h599 : 0 < (k : Int)) (x600 : LibRow) (hx601 : L[k]? = some x600) (hq602 : ((1 : Int) ≤ x600.Month ∧ x600.Month ≤ 1200) ∧ ((0 : Int) ≤ x600.Lent ∧ x600.Lent ≤ 9999) ∧ ((0 : Int) ≤ x600.Copied ∧ x600.Copied ≤ 9999) ∧ ((0 : Int) ≤ x600.Given ∧ x600.Given ≤ 999) ∧ ((0 : Int) ≤ x600.Fines ∧ x600.Fines ≤ 99999)) (x603 : LibRow) (hx605 : L[k - 1]? = some x603) (hq606 : ((1 : Int) ≤ x603.Month ∧ x603.Month ≤ 1200) ∧ ((0 : Int) ≤ x603.Lent ∧ x603.Lent ≤ 9999) ∧ ((0 : Int) ≤ x603.Copied ∧ x603.Copied ≤ 9999) ∧ ((0 : Int) ≤ x603.Given ∧ x603.Given ≤ 999) ∧ ((0 : Int) ≤ x603.Fines ∧ x603.Fines ≤ 99999)) (h611 : x600.Lent < x603.Lent) (h612 : ((b : Int) - (a : Int)) < ((k : Int) - (k : Int))) : k + 1 ≤ nL ∧ best L (k + 1) = (k, k, k) ∧ k ≤ k ∧ (k < k + 1 ∨ k = 0) ∧ (k < k + 1 ∨ k = 0) := by
  obtain ⟨h1, h2, h3, h4, h5⟩ := ‹_ ∧ best L _ = _ ∧ _›; refine ⟨by omega, ?_, by omega, by omega, by omega⟩; first | exact best_fall h2 ‹_› ‹_› ‹_› ‹_› (by omega) | exact best_fallN h2 ‹_› ‹_› ‹_› ‹_› (by omega) | exact best_go h2 (by first | exact nofall0 ‹_› | exact nofall1 ‹_› ‹_› ‹_›) (by omega) | exact best_stay h2 (by first | exact nofall0 ‹_› | exact nofall1 ‹_› ‹_› ‹_›) (by omega)
theorem z_c_spec_BestRun_614 (L : List LibRow) (nL : Nat) (hbdL : (nL : Int) ≤ 9223372036854775807) (hleL : nL = L.length) (h582 : RowsOK L) (hq586 : L.length ≤ 12) (h587 : ¬ ((nL : Int) = 0)) (k : Nat) (a : Nat) (b : Nat) (c : Nat) (hi597 : k ≤ nL ∧ best L k = (a, b, c) ∧ a ≤ b ∧ (b < k ∨ b = 0) ∧ (c < k ∨ c = 0)) (h598 : (k : Int) < (nL : Int)) (h599 : 0 < (k : Int)) (x600 : LibRow) (hx601 : L[k]? = some x600) (hq602 : ((1 : Int) ≤ x600.Month ∧ x600.Month ≤ 1200) ∧ ((0 : Int) ≤ x600.Lent ∧ x600.Lent ≤ 9999) ∧ ((0 : Int) ≤ x600.Copied ∧ x600.Copied ≤ 9999) ∧ ((0 : Int) ≤ x600.Given ∧ x600.Given ≤ 999) ∧ ((0 : Int) ≤ x600.Fines ∧ x600.Fines ≤ 99999)) (x603 : LibRow) (hx605 : L[k - 1]? = some x603) (hq606 : ((1 : Int) ≤ x603.Month ∧ x603.Month ≤ 1200) ∧ ((0 : Int) ≤ x603.Lent ∧ x603.Lent ≤ 9999) ∧ ((0 : Int) ≤ x603.Copied ∧ x603.Copied ≤ 9999) ∧ ((0 : Int) ≤ x603.Given ∧ x603.Given ≤ 999) ∧ ((0 : Int) ≤ x603.Fines ∧ x603.Fines ≤ 99999)) (h611 : x600.Lent < x603.Lent) (h612 : ((b : Int) - (a : Int)) < ((k : Int) - (k : Int))) : nL - (k + 1) < nL - k := by
  omega
theorem z_c_spec_BestRun_615 (L : List LibRow) (nL : Nat) (hbdL : (nL : Int) ≤ 9223372036854775807) (hleL : nL = L.length) (h582 : RowsOK L) (hq586 : L.length ≤ 12) (h587 : ¬ ((nL : Int) = 0)) (k : Nat) (a : Nat) (b : Nat) (c : Nat) (hi597 : k ≤ nL ∧ best L k = (a, b, c) ∧ a ≤ b ∧ (b < k ∨ b = 0) ∧ (c < k ∨ c = 0)) (h598 : (k : Int) < (nL : Int)) (h599 : 0 < (k : Int)) (x600 : LibRow) (hx601 : L[k]? = some x600) (hq602 : ((1 : Int) ≤ x600.Month ∧ x600.Month ≤ 1200) ∧ ((0 : Int) ≤ x600.Lent ∧ x600.Lent ≤ 9999) ∧ ((0 : Int) ≤ x600.Copied ∧ x600.Copied ≤ 9999) ∧ ((0 : Int) ≤ x600.Given ∧ x600.Given ≤ 999) ∧ ((0 : Int) ≤ x600.Fines ∧ x600.Fines ≤ 99999)) (x603 : LibRow) (hx605 : L[k - 1]? = some x603) (hq606 : ((1 : Int) ≤ x603.Month ∧ x603.Month ≤ 1200) ∧ ((0 : Int) ≤ x603.Lent ∧ x603.Lent ≤ 9999) ∧ ((0 : Int) ≤ x603.Copied ∧ x603.Copied ≤ 9999) ∧ ((0 : Int) ≤ x603.Given ∧ x603.Given ≤ 999) ∧ ((0 : Int) ≤ x603.Fines ∧ x603.Fines ≤ 99999)) (h611 : x600.Lent < x603.Lent) (h612 : ¬ (((b : Int) - (a : Int)) < ((k : Int) - (k : Int)))) : k + 1 ≤ nL ∧ best L (k + 1) = (a, b, k) ∧ a ≤ b ∧ (b < k + 1 ∨ b = 0) ∧ (k < k + 1 ∨ k = 0) := by
  obtain ⟨h1, h2, h3, h4, h5⟩ := ‹_ ∧ best L _ = _ ∧ _›; refine ⟨by omega, ?_, by omega, by omega, by omega⟩; first | exact best_fall h2 ‹_› ‹_› ‹_› ‹_› (by omega) | exact best_fallN h2 ‹_› ‹_› ‹_› ‹_› (by omega) | exact best_go h2 (by first | exact nofall0 ‹_› | exact nofall1 ‹_› ‹_› ‹_›) (by omega) | exact best_stay h2 (by first | exact nofall0 ‹_› | exact nofall1 ‹_› ‹_› ‹_›) (by omega)
theorem z_c_spec_BestRun_616 (L : List LibRow) (nL : Nat) (hbdL : (nL : Int) ≤ 9223372036854775807) (hleL : nL = L.length) (h582 : RowsOK L) (hq586 : L.length ≤ 12) (h587 : ¬ ((nL : Int) = 0)) (k : Nat) (a : Nat) (b : Nat) (c : Nat) (hi597 : k ≤ nL ∧ best L k = (a, b, c) ∧ a ≤ b ∧ (b < k ∨ b = 0) ∧ (c < k ∨ c = 0)) (h598 : (k : Int) < (nL : Int)) (h599 : 0 < (k : Int)) (x600 : LibRow) (hx601 : L[k]? = some x600) (hq602 : ((1 : Int) ≤ x600.Month ∧ x600.Month ≤ 1200) ∧ ((0 : Int) ≤ x600.Lent ∧ x600.Lent ≤ 9999) ∧ ((0 : Int) ≤ x600.Copied ∧ x600.Copied ≤ 9999) ∧ ((0 : Int) ≤ x600.Given ∧ x600.Given ≤ 999) ∧ ((0 : Int) ≤ x600.Fines ∧ x600.Fines ≤ 99999)) (x603 : LibRow) (hx605 : L[k - 1]? = some x603) (hq606 : ((1 : Int) ≤ x603.Month ∧ x603.Month ≤ 1200) ∧ ((0 : Int) ≤ x603.Lent ∧ x603.Lent ≤ 9999) ∧ ((0 : Int) ≤ x603.Copied ∧ x603.Copied ≤ 9999) ∧ ((0 : Int) ≤ x603.Given ∧ x603.Given ≤ 999) ∧ ((0 : Int) ≤ x603.Fines ∧ x603.Fines ≤ 99999)) (h611 : x600.Lent < x603.Lent) (h612 : ¬ (((b : Int) - (a : Int)) < ((k : Int) - (k : Int)))) : nL - (k + 1) < nL - k := by
  omega
theorem z_c_spec_BestRun_618 (L : List LibRow) (nL : Nat) (hbdL : (nL : Int) ≤ 9223372036854775807) (hleL : nL = L.length) (h582 : RowsOK L) (hq586 : L.length ≤ 12) (h587 : ¬ ((nL : Int) = 0)) (k : Nat) (a : Nat) (b : Nat) (c : Nat) (hi597 : k ≤ nL ∧ best L k = (a, b, c) ∧ a ≤ b ∧ (b < k ∨ b = 0) ∧ (c < k ∨ c = 0)) (h598 : (k : Int) < (nL : Int)) (h599 : 0 < (k : Int)) (x600 : LibRow) (hx601 : L[k]? = some x600) (hq602 : ((1 : Int) ≤ x600.Month ∧ x600.Month ≤ 1200) ∧ ((0 : Int) ≤ x600.Lent ∧ x600.Lent ≤ 9999) ∧ ((0 : Int) ≤ x600.Copied ∧ x600.Copied ≤ 9999) ∧ ((0 : Int) ≤ x600.Given ∧ x600.Given ≤ 999) ∧ ((0 : Int) ≤ x600.Fines ∧ x600.Fines ≤ 99999)) (x603 : LibRow) (hx605 : L[k - 1]? = some x603) (hq606 : ((1 : Int) ≤ x603.Month ∧ x603.Month ≤ 1200) ∧ ((0 : Int) ≤ x603.Lent ∧ x603.Lent ≤ 9999) ∧ ((0 : Int) ≤ x603.Copied ∧ x603.Copied ≤ 9999) ∧ ((0 : Int) ≤ x603.Given ∧ x603.Given ≤ 999) ∧ ((0 : Int) ≤ x603.Fines ∧ x603.Fines ≤ 99999)) (h611 : ¬ (x600.Lent < x603.Lent)) (h617 : ((b : Int) - (a : Int)) < ((k : Int) - (c : Int))) : k + 1 ≤ nL ∧ best L (k + 1) = (c, k, c) ∧ c ≤ k ∧ (k < k + 1 ∨ k = 0) ∧ (c < k + 1 ∨ c = 0) := by
  obtain ⟨h1, h2, h3, h4, h5⟩ := ‹_ ∧ best L _ = _ ∧ _›; refine ⟨by omega, ?_, by omega, by omega, by omega⟩; first | exact best_fall h2 ‹_› ‹_› ‹_› ‹_› (by omega) | exact best_fallN h2 ‹_› ‹_› ‹_› ‹_› (by omega) | exact best_go h2 (by first | exact nofall0 ‹_› | exact nofall1 ‹_› ‹_› ‹_›) (by omega) | exact best_stay h2 (by first | exact nofall0 ‹_› | exact nofall1 ‹_› ‹_› ‹_›) (by omega)
theorem z_c_spec_BestRun_619 (L : List LibRow) (nL : Nat) (hbdL : (nL : Int) ≤ 9223372036854775807) (hleL : nL = L.length) (h582 : RowsOK L) (hq586 : L.length ≤ 12) (h587 : ¬ ((nL : Int) = 0)) (k : Nat) (a : Nat) (b : Nat) (c : Nat) (hi597 : k ≤ nL ∧ best L k = (a, b, c) ∧ a ≤ b ∧ (b < k ∨ b = 0) ∧ (c < k ∨ c = 0)) (h598 : (k : Int) < (nL : Int)) (h599 : 0 < (k : Int)) (x600 : LibRow) (hx601 : L[k]? = some x600) (hq602 : ((1 : Int) ≤ x600.Month ∧ x600.Month ≤ 1200) ∧ ((0 : Int) ≤ x600.Lent ∧ x600.Lent ≤ 9999) ∧ ((0 : Int) ≤ x600.Copied ∧ x600.Copied ≤ 9999) ∧ ((0 : Int) ≤ x600.Given ∧ x600.Given ≤ 999) ∧ ((0 : Int) ≤ x600.Fines ∧ x600.Fines ≤ 99999)) (x603 : LibRow) (hx605 : L[k - 1]? = some x603) (hq606 : ((1 : Int) ≤ x603.Month ∧ x603.Month ≤ 1200) ∧ ((0 : Int) ≤ x603.Lent ∧ x603.Lent ≤ 9999) ∧ ((0 : Int) ≤ x603.Copied ∧ x603.Copied ≤ 9999) ∧ ((0 : Int) ≤ x603.Given ∧ x603.Given ≤ 999) ∧ ((0 : Int) ≤ x603.Fines ∧ x603.Fines ≤ 99999)) (h611 : ¬ (x600.Lent < x603.Lent)) (h617 : ((b : Int) - (a : Int)) < ((k : Int) - (c : Int))) : nL - (k + 1) < nL - k := by
  omega
theorem z_c_spec_BestRun_620 (L : List LibRow) (nL : Nat) (hbdL : (nL : Int) ≤ 9223372036854775807) (hleL : nL = L.length) (h582 : RowsOK L) (hq586 : L.length ≤ 12) (h587 : ¬ ((nL : Int) = 0)) (k : Nat) (a : Nat) (b : Nat) (c : Nat) (hi597 : k ≤ nL ∧ best L k = (a, b, c) ∧ a ≤ b ∧ (b < k ∨ b = 0) ∧ (c < k ∨ c = 0)) (h598 : (k : Int) < (nL : Int)) (h599 : 0 < (k : Int)) (x600 : LibRow) (hx601 : L[k]? = some x600) (hq602 : ((1 : Int) ≤ x600.Month ∧ x600.Month ≤ 1200) ∧ ((0 : Int) ≤ x600.Lent ∧ x600.Lent ≤ 9999) ∧ ((0 : Int) ≤ x600.Copied ∧ x600.Copied ≤ 9999) ∧ ((0 : Int) ≤ x600.Given ∧ x600.Given ≤ 999) ∧ ((0 : Int) ≤ x600.Fines ∧ x600.Fines ≤ 99999)) (x603 : LibRow) (hx605 : L[k - 1]? = some x603) (hq606 : ((1 : Int) ≤ x603.Month ∧ x603.Month ≤ 1200) ∧ ((0 : Int) ≤ x603.Lent ∧ x603.Lent ≤ 9999) ∧ ((0 : Int) ≤ x603.Copied ∧ x603.Copied ≤ 9999) ∧ ((0 : Int) ≤ x603.Given ∧ x603.Given ≤ 999) ∧ ((0 : Int) ≤ x603.Fines ∧ x603.Fines ≤ 99999)) (h611 : ¬ (x600.Lent < x603.Lent)) (h617 : ¬ (((b : Int) - (a : Int)) < ((k : Int) - (c : Int)))) : k + 1 ≤ nL ∧ best L (k + 1) = (a, b, c) ∧ a ≤ b ∧ (b < k + 1 ∨ b = 0) ∧ (c < k + 1 ∨ c = 0) := by
  obtain ⟨h1, h2, h3, h4, h5⟩ := ‹_ ∧ best L _ = _ ∧ _›; refine ⟨by omega, ?_, by omega, by omega, by omega⟩; first | exact best_fall h2 ‹_› ‹_› ‹_› ‹_› (by omega) | exact best_fallN h2 ‹_› ‹_› ‹_› ‹_› (by omega) | exact best_go h2 (by first | exact nofall0 ‹_› | exact nofall1 ‹_› ‹_› ‹_›) (by omega) | exact best_stay h2 (by first | exact nofall0 ‹_› | exact nofall1 ‹_› ‹_› ‹_›) (by omega)
theorem z_c_spec_BestRun_621 (L : List LibRow) (nL : Nat) (hbdL : (nL : Int) ≤ 9223372036854775807) (hleL : nL = L.length) (h582 : RowsOK L) (hq586 : L.length ≤ 12) (h587 : ¬ ((nL : Int) = 0)) (k : Nat) (a : Nat) (b : Nat) (c : Nat) (hi597 : k ≤ nL ∧ best L k = (a, b, c) ∧ a ≤ b ∧ (b < k ∨ b = 0) ∧ (c < k ∨ c = 0)) (h598 : (k : Int) < (nL : Int)) (h599 : 0 < (k : Int)) (x600 : LibRow) (hx601 : L[k]? = some x600) (hq602 : ((1 : Int) ≤ x600.Month ∧ x600.Month ≤ 1200) ∧ ((0 : Int) ≤ x600.Lent ∧ x600.Lent ≤ 9999) ∧ ((0 : Int) ≤ x600.Copied ∧ x600.Copied ≤ 9999) ∧ ((0 : Int) ≤ x600.Given ∧ x600.Given ≤ 999) ∧ ((0 : Int) ≤ x600.Fines ∧ x600.Fines ≤ 99999)) (x603 : LibRow) (hx605 : L[k - 1]? = some x603) (hq606 : ((1 : Int) ≤ x603.Month ∧ x603.Month ≤ 1200) ∧ ((0 : Int) ≤ x603.Lent ∧ x603.Lent ≤ 9999) ∧ ((0 : Int) ≤ x603.Copied ∧ x603.Copied ≤ 9999) ∧ ((0 : Int) ≤ x603.Given ∧ x603.Given ≤ 999) ∧ ((0 : Int) ≤ x603.Fines ∧ x603.Fines ≤ 99999)) (h611 : ¬ (x600.Lent < x603.Lent)) (h617 : ¬ (((b : Int) - (a : Int)) < ((k : Int) - (c : Int)))) : nL - (k + 1) < nL - k := by
  omega
theorem z_c_spec_BestRun_627 (L : List LibRow) (nL : Nat) (hbdL : (nL : Int) ≤ 9223372036854775807) (hleL : nL = L.length) (h582 : RowsOK L) (hq586 : L.length ≤ 12) (h587 : ¬ ((nL : Int) = 0)) (k : Nat) (a : Nat) (b : Nat) (c : Nat) (hi597 : k ≤ nL ∧ best L k = (a, b, c) ∧ a ≤ b ∧ (b < k ∨ b = 0) ∧ (c < k ∨ c = 0)) (h598 : (k : Int) < (nL : Int)) (h599 : ¬ (0 < (k : Int))) (h626 : ((b : Int) - (a : Int)) < ((k : Int) - (c : Int))) : k + 1 ≤ nL ∧ best L (k + 1) = (c, k, c) ∧ c ≤ k ∧ (k < k + 1 ∨ k = 0) ∧ (c < k + 1 ∨ c = 0) := by
  obtain ⟨h1, h2, h3, h4, h5⟩ := ‹_ ∧ best L _ = _ ∧ _›; refine ⟨by omega, ?_, by omega, by omega, by omega⟩; first | exact best_fall h2 ‹_› ‹_› ‹_› ‹_› (by omega) | exact best_fallN h2 ‹_› ‹_› ‹_› ‹_› (by omega) | exact best_go h2 (by first | exact nofall0 ‹_› | exact nofall1 ‹_› ‹_› ‹_›) (by omega) | exact best_stay h2 (by first | exact nofall0 ‹_› | exact nofall1 ‹_› ‹_› ‹_›) (by omega)
theorem z_c_spec_BestRun_628 (L : List LibRow) (nL : Nat) (hbdL : (nL : Int) ≤ 9223372036854775807) (hleL : nL = L.length) (h582 : RowsOK L) (hq586 : L.length ≤ 12) (h587 : ¬ ((nL : Int) = 0)) (k : Nat) (a : Nat) (b : Nat) (c : Nat) (hi597 : k ≤ nL ∧ best L k = (a, b, c) ∧ a ≤ b ∧ (b < k ∨ b = 0) ∧ (c < k ∨ c = 0)) (h598 : (k : Int) < (nL : Int)) (h599 : ¬ (0 < (k : Int))) (h626 : ((b : Int) - (a : Int)) < ((k : Int) - (c : Int))) : nL - (k + 1) < nL - k := by
  omega
theorem z_c_spec_BestRun_629 (L : List LibRow) (nL : Nat) (hbdL : (nL : Int) ≤ 9223372036854775807) (hleL : nL = L.length) (h582 : RowsOK L) (hq586 : L.length ≤ 12) (h587 : ¬ ((nL : Int) = 0)) (k : Nat) (a : Nat) (b : Nat) (c : Nat) (hi597 : k ≤ nL ∧ best L k = (a, b, c) ∧ a ≤ b ∧ (b < k ∨ b = 0) ∧ (c < k ∨ c = 0)) (h598 : (k : Int) < (nL : Int)) (h599 : ¬ (0 < (k : Int))) (h626 : ¬ (((b : Int) - (a : Int)) < ((k : Int) - (c : Int)))) : k + 1 ≤ nL ∧ best L (k + 1) = (a, b, c) ∧ a ≤ b ∧ (b < k + 1 ∨ b = 0) ∧ (c < k + 1 ∨ c = 0) := by
  obtain ⟨h1, h2, h3, h4, h5⟩ := ‹_ ∧ best L _ = _ ∧ _›; refine ⟨by omega, ?_, by omega, by omega, by omega⟩; first | exact best_fall h2 ‹_› ‹_› ‹_› ‹_› (by omega) | exact best_fallN h2 ‹_› ‹_› ‹_› ‹_› (by omega) | exact best_go h2 (by first | exact nofall0 ‹_› | exact nofall1 ‹_› ‹_› ‹_›) (by omega) | exact best_stay h2 (by first | exact nofall0 ‹_› | exact nofall1 ‹_› ‹_› ‹_›) (by omega)
theorem z_c_spec_BestRun_630 (L : List LibRow) (nL : Nat) (hbdL : (nL : Int) ≤ 9223372036854775807) (hleL : nL = L.length) (h582 : RowsOK L) (hq586 : L.length ≤ 12) (h587 : ¬ ((nL : Int) = 0)) (k : Nat) (a : Nat) (b : Nat) (c : Nat) (hi597 : k ≤ nL ∧ best L k = (a, b, c) ∧ a ≤ b ∧ (b < k ∨ b = 0) ∧ (c < k ∨ c = 0)) (h598 : (k : Int) < (nL : Int)) (h599 : ¬ (0 < (k : Int))) (h626 : ¬ (((b : Int) - (a : Int)) < ((k : Int) - (c : Int)))) : nL - (k + 1) < nL - k := by
  omega
theorem z_c_spec_BestRun_641 (L : List LibRow) (nL : Nat) (hbdL : (nL : Int) ≤ 9223372036854775807) (hleL : nL = L.length) (h582 : RowsOK L) (hq586 : L.length ≤ 12) (h587 : ¬ ((nL : Int) = 0)) (k : Nat) (a : Nat) (b : Nat) (c : Nat) (hi597 : k ≤ nL ∧ best L k = (a, b, c) ∧ a ≤ b ∧ (b < k ∨ b = 0) ∧ (c < k ∨ c = 0)) (h598 : ¬ ((k : Int) < (nL : Int))) (x631 : LibRow) (hx632 : L[a]? = some x631) (hq633 : ((1 : Int) ≤ x631.Month ∧ x631.Month ≤ 1200) ∧ ((0 : Int) ≤ x631.Lent ∧ x631.Lent ≤ 9999) ∧ ((0 : Int) ≤ x631.Copied ∧ x631.Copied ≤ 9999) ∧ ((0 : Int) ≤ x631.Given ∧ x631.Given ≤ 999) ∧ ((0 : Int) ≤ x631.Fines ∧ x631.Fines ≤ 99999)) (x634 : LibRow) (hx635 : L[b]? = some x634) (hq636 : ((1 : Int) ≤ x634.Month ∧ x634.Month ≤ 1200) ∧ ((0 : Int) ≤ x634.Lent ∧ x634.Lent ≤ 9999) ∧ ((0 : Int) ≤ x634.Copied ∧ x634.Copied ≤ 9999) ∧ ((0 : Int) ≤ x634.Given ∧ x634.Given ≤ 999) ∧ ((0 : Int) ≤ x634.Fines ∧ x634.Fines ≤ 99999)) : x631.Month = bestF L := by
  subst hleL; obtain ⟨h1, h2, h3, h4, h5⟩ := ‹_ ∧ best L _ = _ ∧ _›; exact best_resF ‹RowsOK L› h2 ‹_› h1 ‹_› trivial
theorem z_c_spec_BestRun_642 (L : List LibRow) (nL : Nat) (hbdL : (nL : Int) ≤ 9223372036854775807) (hleL : nL = L.length) (h582 : RowsOK L) (hq586 : L.length ≤ 12) (h587 : ¬ ((nL : Int) = 0)) (k : Nat) (a : Nat) (b : Nat) (c : Nat) (hi597 : k ≤ nL ∧ best L k = (a, b, c) ∧ a ≤ b ∧ (b < k ∨ b = 0) ∧ (c < k ∨ c = 0)) (h598 : ¬ ((k : Int) < (nL : Int))) (x631 : LibRow) (hx632 : L[a]? = some x631) (hq633 : ((1 : Int) ≤ x631.Month ∧ x631.Month ≤ 1200) ∧ ((0 : Int) ≤ x631.Lent ∧ x631.Lent ≤ 9999) ∧ ((0 : Int) ≤ x631.Copied ∧ x631.Copied ≤ 9999) ∧ ((0 : Int) ≤ x631.Given ∧ x631.Given ≤ 999) ∧ ((0 : Int) ≤ x631.Fines ∧ x631.Fines ≤ 99999)) (x634 : LibRow) (hx635 : L[b]? = some x634) (hq636 : ((1 : Int) ≤ x634.Month ∧ x634.Month ≤ 1200) ∧ ((0 : Int) ≤ x634.Lent ∧ x634.Lent ≤ 9999) ∧ ((0 : Int) ≤ x634.Copied ∧ x634.Copied ≤ 9999) ∧ ((0 : Int) ≤ x634.Given ∧ x634.Given ≤ 999) ∧ ((0 : Int) ≤ x634.Fines ∧ x634.Fines ≤ 99999)) : x634.Month = bestL L := by
  subst hleL; obtain ⟨h1, h2, h3, h4, h5⟩ := ‹_ ∧ best L _ = _ ∧ _›; exact best_resL ‹RowsOK L› h2 ‹_› h1 ‹_› trivial
theorem z_c_spec_BestRun_643 (L : List LibRow) (nL : Nat) (hbdL : (nL : Int) ≤ 9223372036854775807) (hleL : nL = L.length) (h582 : RowsOK L) (hq586 : L.length ≤ 12) (h587 : ¬ ((nL : Int) = 0)) (k : Nat) (a : Nat) (b : Nat) (c : Nat) (hi597 : k ≤ nL ∧ best L k = (a, b, c) ∧ a ≤ b ∧ (b < k ∨ b = 0) ∧ (c < k ∨ c = 0)) (h598 : ¬ ((k : Int) < (nL : Int))) (x631 : LibRow) (hx632 : L[a]? = some x631) (hq633 : ((1 : Int) ≤ x631.Month ∧ x631.Month ≤ 1200) ∧ ((0 : Int) ≤ x631.Lent ∧ x631.Lent ≤ 9999) ∧ ((0 : Int) ≤ x631.Copied ∧ x631.Copied ≤ 9999) ∧ ((0 : Int) ≤ x631.Given ∧ x631.Given ≤ 999) ∧ ((0 : Int) ≤ x631.Fines ∧ x631.Fines ≤ 99999)) (x634 : LibRow) (hx635 : L[b]? = some x634) (hq636 : ((1 : Int) ≤ x634.Month ∧ x634.Month ≤ 1200) ∧ ((0 : Int) ≤ x634.Lent ∧ x634.Lent ≤ 9999) ∧ ((0 : Int) ≤ x634.Copied ∧ x634.Copied ≤ 9999) ∧ ((0 : Int) ≤ x634.Given ∧ x634.Given ≤ 999) ∧ ((0 : Int) ≤ x634.Fines ∧ x634.Fines ≤ 99999)) : RowsOK L ∧ 0 < L.length := by
  exact ⟨by assumption, by omega⟩
theorem c_spec_BestRun (w : World) {AL : Option Addr} {nL cL BL : Nat} (L : List LibRow) (hL : SlR w BL encLibRow 5 AL nL cL L) : Calls Try.prog 21 #[.slice AL nL cL] w fun e w' => e = .returned (.tuple (List.toArray [.int .i64 (bestF L), .int .i64 (bestL L), .bool (decide (RowsOK L ∧ 0 < L.length))])) ∧ Lo w w' := by
  refine calls_W 59 Try.func21 rfl rfl rfl ?_
  have hbdL := hL.bound
  have hleL := hL.len
  have hBbL := hL.bd
  refine W.seq ?_
  refine W.regS (SR.q' (r_as (v := .int .i64 0) rfl) <| SR.q' (r_as (v := .int .i64 0) rfl) <| SR.q' (r_as (v := .bool false) rfl) <| SR.nil ?_)
  refine W.seq ?_
  refine W.seq ?_
  refine W.regS (SR.q' (r_mv (v := .slice _ _ _) rfl) <| SR.call ent38 (c_spec_l31Good w L ((hL))) rfl ?_)
  rintro e w578 ⟨rfl, hk579⟩
  refine ⟨_, rfl, ?_⟩
  have hz580 := hk579.size
  have hB581 := (Lo.refl w).lo hk579
  refine SR.q' (r_not rfl) <| SR.q' (r_mv (v := .bool _) rfl) <| SR.splitN (fun h582 => ?_) (fun h582 => ?_)
  · refine SR.s' rfl <| SR.s' rfl <| SR.s' rfl <| SR.q' (r_pick true rfl (v := .bool true) rfl) <| SR.nil ?_
    refine W.cond_t rfl ?_
    refine W.seq ?_
    refine W.regS (SR.q' (r_as (v := .int .i64 0) rfl) <| SR.q' (r_as (v := .int .i64 0) rfl) <| SR.q' (r_as (v := .bool false) rfl) <| SR.nil ?_)
    refine W.ret ?_
    refine ret3 rfl (v := .int .i64 _) (v' := .int .i64 _) (v'' := .bool _) rfl rfl rfl ?_
    exact ⟨eR (eT3 (eI (z_c_spec_BestRun_583 L nL hbdL hleL h582)) (eI (z_c_spec_BestRun_584 L nL hbdL hleL h582)) (eDF (z_c_spec_BestRun_585 L nL hbdL hleL h582))), hB581⟩
  · have hq586 := rows_len h582
    refine SR.g' rfl (r_mv (v := .slice _ _ _) rfl) <| SR.g' rfl (r_len und31 rfl) <| SR.g' rfl (r_eq rfl rfl) <| SR.q' (r_pick false rfl (v := .bool _) rfl) <| SR.nil ?_
    refine W.cond_d rfl (fun h587 => ?_) (fun h587 => ?_)
    · refine W.seq ?_
      refine W.regS (SR.q' (r_as (v := .int .i64 0) rfl) <| SR.q' (r_as (v := .int .i64 0) rfl) <| SR.q' (r_as (v := .bool false) rfl) <| SR.nil ?_)
      refine W.ret ?_
      refine ret3 rfl (v := .int .i64 _) (v' := .int .i64 _) (v'' := .bool _) rfl rfl rfl ?_
      exact ⟨eR (eT3 (eI (z_c_spec_BestRun_588 L nL hbdL hleL h582 hq586 h587)) (eI (z_c_spec_BestRun_589 L nL hbdL hleL h582 hq586 h587)) (eDF (z_c_spec_BestRun_590 L nL hbdL hleL h582 hq586 h587))), hB581⟩
    · refine W.skip ?_
      refine W.seq ?_
      refine W.regS (SR.q' (r_as (v := .int .i64 0) rfl) <| SR.q' (r_as (v := .int .i64 0) rfl) <| SR.q' (r_as (v := .int .i64 0) rfl) <| SR.nil ?_)
      refine W.seq ?_
      refine W.seq ?_
      refine W.regS (SR.q' (r_as (v := .int .i64 0) rfl) <| SR.nil ?_)
      refine W.block ?_
      refine W.loop (σ := Nat × Nat × Nat × Nat) (fun g => [(0, .slice AL nL cL), (2, .int .i64 0), (3, .int .i64 0), (4, .bool false), (5, .int .i64 (g.2.2.2 : Int)), (6, .int .i64 (g.2.1 : Int)), (7, .int .i64 (g.2.2.1 : Int)), (8, .int .i64 (g.1 : Int))]) (fun g w' => (Lo w w') ∧ (SlR w' BL encLibRow 5 AL nL cL L) ∧ (g.1 ≤ nL ∧ best L g.1 = (g.2.1, g.2.2.1, g.2.2.2) ∧ g.2.1 ≤ g.2.2.1 ∧ (g.2.2.1 < g.1 ∨ g.2.2.1 = 0) ∧ (g.2.2.2 < g.1 ∨ g.2.2.2 = 0))) (fun g => nL - g.1) (0, 0, 0, 0) ?_ ?_ ?_
      · exact ⟨rfl, rfl, rfl, rfl, rfl, rfl, rfl, rfl, trivial⟩
      · exact ⟨hB581, (hL).lo hk579, (z_c_spec_BestRun_591 L nL hbdL hleL h582 hq586 h587)⟩
      · rintro ⟨k, a, b, c⟩ f592 w593 hP595
        obtain ⟨hB594, hm596, hi597⟩ : (Lo w w593) ∧ (SlR w593 BL encLibRow 5 AL nL cL L) ∧ (k ≤ nL ∧ best L k = (a, b, c) ∧ a ≤ b ∧ (b < k ∨ b = 0) ∧ (c < k ∨ c = 0)) := hP595
        refine (?_ : W _ _ _ _ _ (act _ (sets f592 [(0, .slice AL nL cL), (2, .int .i64 0), (3, .int .i64 0), (4, .bool false), (5, .int .i64 (c : Int)), (6, .int .i64 (a : Int)), (7, .int .i64 (b : Int)), (8, .int .i64 (k : Int))])) _)
        have hzw593 := hB594.size
        refine W.seq ?_
        refine W.seq ?_
        refine W.regS (SR.q' (r_mv (v := .int .i64 _) rfl) <| SR.q' (r_mv (v := .slice _ _ _) rfl) <| SR.q' (r_len und31 rfl) <| SR.q' (r_lt rfl rfl) <| SR.nil ?_)
        refine W.cond_d rfl (fun h598 => ?_) (fun h598 => ?_)
        · refine W.skip ?_
          refine W.seq ?_
          refine W.block ?_
          refine W.seq ?_
          refine W.seq ?_
          refine W.regD mo (by kernel_rfl) (QR.q' (fun w' hw' => r_mv (v := .int .i64 _) rfl) <| QR.q' (fun w' hw' => r_gt rfl rfl) <| QR.q' (fun w' hw' => r_mv (v := .bool _) rfl) <| QR.splitD (fun h599 => ?_) (fun h599 => ?_))
          · refine QR.g' rfl (fun w' hw' => r_mv (v := .slice _ _ _) rfl) <| QR.g' rfl (fun w' hw' => r_mv (v := .int .i64 _) rfl) <| ?_
            obtain ⟨x600, hx601⟩ := (hm596).get (i := k) (by omega)
            have hq602 := rows_rng h582 hx601
            refine QR.g' rfl (fun w' hw' => r_ixR tsl31 ((hm596).lo hw') rfl rfl (by omega)) <| QR.g' rfl (fun w' hw' => r_fa fa25_1 rfl) <| QR.g' rfl (fun w' hw' => r_ld (v := .int .i64 x600.Lent) sca3 rfl (((hm596).lo hw').cell hx601 rfl)) <| QR.g' rfl (fun w' hw' => r_mv (v := .slice _ _ _) rfl) <| QR.g' rfl (fun w' hw' => r_mv (v := .int .i64 _) rfl) <| QR.g' rfl (fun w' hw' => r_sub rfl rfl (by omega)) <| ?_
            obtain ⟨x603, hx604⟩ := (hm596).get (i := ((k : Int) - 1).toNat) (by omega)
            have hx605 : L[k - 1]? = some x603 := (show ((k : Int) - 1).toNat = k - 1 from by omega) ▸ hx604
            have hq606 := rows_rng h582 hx605
            refine QR.g' rfl (fun w' hw' => r_ixR tsl31 ((hm596).lo hw') rfl rfl (by omega)) <| QR.g' rfl (fun w' hw' => r_fa fa25_1 rfl) <| QR.g' rfl (fun w' hw' => r_ld (v := .int .i64 x603.Lent) sca3 rfl (((hm596).lo hw').cell hx604 rfl)) <| QR.g' rfl (fun w' hw' => r_lt rfl rfl) <| QR.q' (fun w' hw' => r_pick true rfl (v := .bool _) rfl) <| QR.nil ?_
            intro w607 hk608
            have hz609 := hk608.size
            have hB610 := hB594.lo hk608
            refine W.cond_d rfl (fun h611 => ?_) (fun h611 => ?_)
            · refine W.regS (SR.q' (r_mv (v := .int .i64 _) rfl) <| SR.q' (r_as (v := .int .i64 _) rfl) <| SR.nil ?_)
              refine W.seq ?_
              refine W.regS (SR.q' (r_mv (v := .int .i64 _) rfl) <| SR.q' (r_mv (v := .int .i64 _) rfl) <| SR.q' (r_sub rfl rfl (by omega)) <| SR.q' (r_mv (v := .int .i64 _) rfl) <| SR.q' (r_mv (v := .int .i64 _) rfl) <| SR.q' (r_sub rfl rfl (by omega)) <| SR.q' (r_gt rfl rfl) <| SR.nil ?_)
              refine W.cond_d rfl (fun h612 => ?_) (fun h612 => ?_)
              · refine W.seq ?_
                refine W.regS (SR.q' (r_mv (v := .int .i64 _) rfl) <| SR.q' (r_as (v := .int .i64 _) rfl) <| SR.nil ?_)
                refine W.regS (SR.q' (r_mv (v := .int .i64 _) rfl) <| SR.q' (r_as (v := .int .i64 _) rfl) <| SR.nil ?_)
                refine W.regS (SR.q' (r_mv (v := .int .i64 _) rfl) <| SR.q' (r_add rfl rfl (by omega)) <| SR.q' (r_as (v := .int .i64 _) rfl) <| SR.nil ?_)
                refine ⟨(k + 1, k, k, k), _, rfl, ⟨rfl, rfl, rfl, rfl, rfl, rfl, rfl, rfl, trivial⟩, ⟨hB610, (hm596).lo hk608, ?_⟩, ?_⟩
                · exact (z_c_spec_BestRun_613 L nL hbdL hleL h582 hq586 h587 k a b c hi597 h598 h599 x600 hx601 hq602 x603 hx605 hq606 h611 h612)
                · exact (z_c_spec_BestRun_614 L nL hbdL hleL h582 hq586 h587 k a b c hi597 h598 h599 x600 hx601 hq602 x603 hx605 hq606 h611 h612)
              · refine W.skip ?_
                refine W.regS (SR.q' (r_mv (v := .int .i64 _) rfl) <| SR.q' (r_add rfl rfl (by omega)) <| SR.q' (r_as (v := .int .i64 _) rfl) <| SR.nil ?_)
                refine ⟨(k + 1, a, b, k), _, rfl, ⟨rfl, rfl, rfl, rfl, rfl, rfl, rfl, rfl, trivial⟩, ⟨hB610, (hm596).lo hk608, ?_⟩, ?_⟩
                · exact (z_c_spec_BestRun_615 L nL hbdL hleL h582 hq586 h587 k a b c hi597 h598 h599 x600 hx601 hq602 x603 hx605 hq606 h611 h612)
                · exact (z_c_spec_BestRun_616 L nL hbdL hleL h582 hq586 h587 k a b c hi597 h598 h599 x600 hx601 hq602 x603 hx605 hq606 h611 h612)
            · refine W.skip ?_
              refine W.seq ?_
              refine W.regS (SR.q' (r_mv (v := .int .i64 _) rfl) <| SR.q' (r_mv (v := .int .i64 _) rfl) <| SR.q' (r_sub rfl rfl (by omega)) <| SR.q' (r_mv (v := .int .i64 _) rfl) <| SR.q' (r_mv (v := .int .i64 _) rfl) <| SR.q' (r_sub rfl rfl (by omega)) <| SR.q' (r_gt rfl rfl) <| SR.nil ?_)
              refine W.cond_d rfl (fun h617 => ?_) (fun h617 => ?_)
              · refine W.seq ?_
                refine W.regS (SR.q' (r_mv (v := .int .i64 _) rfl) <| SR.q' (r_as (v := .int .i64 _) rfl) <| SR.nil ?_)
                refine W.regS (SR.q' (r_mv (v := .int .i64 _) rfl) <| SR.q' (r_as (v := .int .i64 _) rfl) <| SR.nil ?_)
                refine W.regS (SR.q' (r_mv (v := .int .i64 _) rfl) <| SR.q' (r_add rfl rfl (by omega)) <| SR.q' (r_as (v := .int .i64 _) rfl) <| SR.nil ?_)
                refine ⟨(k + 1, c, k, c), _, rfl, ⟨rfl, rfl, rfl, rfl, rfl, rfl, rfl, rfl, trivial⟩, ⟨hB610, (hm596).lo hk608, ?_⟩, ?_⟩
                · exact (z_c_spec_BestRun_618 L nL hbdL hleL h582 hq586 h587 k a b c hi597 h598 h599 x600 hx601 hq602 x603 hx605 hq606 h611 h617)
                · exact (z_c_spec_BestRun_619 L nL hbdL hleL h582 hq586 h587 k a b c hi597 h598 h599 x600 hx601 hq602 x603 hx605 hq606 h611 h617)
              · refine W.skip ?_
                refine W.regS (SR.q' (r_mv (v := .int .i64 _) rfl) <| SR.q' (r_add rfl rfl (by omega)) <| SR.q' (r_as (v := .int .i64 _) rfl) <| SR.nil ?_)
                refine ⟨(k + 1, a, b, c), _, rfl, ⟨rfl, rfl, rfl, rfl, rfl, rfl, rfl, rfl, trivial⟩, ⟨hB610, (hm596).lo hk608, ?_⟩, ?_⟩
                · exact (z_c_spec_BestRun_620 L nL hbdL hleL h582 hq586 h587 k a b c hi597 h598 h599 x600 hx601 hq602 x603 hx605 hq606 h611 h617)
                · exact (z_c_spec_BestRun_621 L nL hbdL hleL h582 hq586 h587 k a b c hi597 h598 h599 x600 hx601 hq602 x603 hx605 hq606 h611 h617)
          · refine QR.s' rfl <| QR.s' rfl <| QR.s' rfl <| QR.s' rfl <| QR.s' rfl <| QR.s' rfl <| QR.s' rfl <| QR.s' rfl <| QR.s' rfl <| QR.s' rfl <| QR.s' rfl <| QR.s' rfl <| QR.q' (fun w' hw' => r_pick false rfl (v := .bool false) rfl) <| QR.nil ?_
            intro w622 hk623
            have hz624 := hk623.size
            have hB625 := hB594.lo hk623
            refine W.cond_f rfl ?_
            refine W.skip ?_
            refine W.seq ?_
            refine W.regS (SR.q' (r_mv (v := .int .i64 _) rfl) <| SR.q' (r_mv (v := .int .i64 _) rfl) <| SR.q' (r_sub rfl rfl (by omega)) <| SR.q' (r_mv (v := .int .i64 _) rfl) <| SR.q' (r_mv (v := .int .i64 _) rfl) <| SR.q' (r_sub rfl rfl (by omega)) <| SR.q' (r_gt rfl rfl) <| SR.nil ?_)
            refine W.cond_d rfl (fun h626 => ?_) (fun h626 => ?_)
            · refine W.seq ?_
              refine W.regS (SR.q' (r_mv (v := .int .i64 _) rfl) <| SR.q' (r_as (v := .int .i64 _) rfl) <| SR.nil ?_)
              refine W.regS (SR.q' (r_mv (v := .int .i64 _) rfl) <| SR.q' (r_as (v := .int .i64 _) rfl) <| SR.nil ?_)
              refine W.regS (SR.q' (r_mv (v := .int .i64 _) rfl) <| SR.q' (r_add rfl rfl (by omega)) <| SR.q' (r_as (v := .int .i64 _) rfl) <| SR.nil ?_)
              refine ⟨(k + 1, c, k, c), _, rfl, ⟨rfl, rfl, rfl, rfl, rfl, rfl, rfl, rfl, trivial⟩, ⟨hB625, (hm596).lo hk623, ?_⟩, ?_⟩
              · exact (z_c_spec_BestRun_627 L nL hbdL hleL h582 hq586 h587 k a b c hi597 h598 h599 h626)
              · exact (z_c_spec_BestRun_628 L nL hbdL hleL h582 hq586 h587 k a b c hi597 h598 h599 h626)
            · refine W.skip ?_
              refine W.regS (SR.q' (r_mv (v := .int .i64 _) rfl) <| SR.q' (r_add rfl rfl (by omega)) <| SR.q' (r_as (v := .int .i64 _) rfl) <| SR.nil ?_)
              refine ⟨(k + 1, a, b, c), _, rfl, ⟨rfl, rfl, rfl, rfl, rfl, rfl, rfl, rfl, trivial⟩, ⟨hB625, (hm596).lo hk623, ?_⟩, ?_⟩
              · exact (z_c_spec_BestRun_629 L nL hbdL hleL h582 hq586 h587 k a b c hi597 h598 h599 h626)
              · exact (z_c_spec_BestRun_630 L nL hbdL hleL h582 hq586 h587 k a b c hi597 h598 h599 h626)
        · refine W.exit (xin_here ?_)
          refine W.seq ?_
          refine W.regD mo (by kernel_rfl) (QR.q' (fun w' hw' => r_mv (v := .slice _ _ _) rfl) <| QR.q' (fun w' hw' => r_mv (v := .int .i64 _) rfl) <| ?_)
          obtain ⟨x631, hx632⟩ := (hm596).get (i := a) (by omega)
          have hq633 := rows_rng h582 hx632
          refine QR.q' (fun w' hw' => r_ixR tsl31 ((hm596).lo hw') rfl rfl (by omega)) <| QR.q' (fun w' hw' => r_fa fa25_0 rfl) <| QR.q' (fun w' hw' => r_ld (v := .int .i64 x631.Month) sca3 rfl (((hm596).lo hw').cell hx632 rfl)) <| QR.q' (fun w' hw' => r_mv (v := .slice _ _ _) rfl) <| QR.q' (fun w' hw' => r_mv (v := .int .i64 _) rfl) <| ?_
          obtain ⟨x634, hx635⟩ := (hm596).get (i := b) (by omega)
          have hq636 := rows_rng h582 hx635
          refine QR.q' (fun w' hw' => r_ixR tsl31 ((hm596).lo hw') rfl rfl (by omega)) <| QR.q' (fun w' hw' => r_fa fa25_0 rfl) <| QR.q' (fun w' hw' => r_ld (v := .int .i64 x634.Month) sca3 rfl (((hm596).lo hw').cell hx635 rfl)) <| QR.q' (fun w' hw' => r_as (v := .int .i64 _) rfl) <| QR.q' (fun w' hw' => r_as (v := .int .i64 _) rfl) <| QR.q' (fun w' hw' => r_as (v := .bool true) rfl) <| QR.nil ?_
          intro w637 hk638
          have hz639 := hk638.size
          have hB640 := hB594.lo hk638
          refine W.ret ?_
          refine ret3 rfl (v := .int .i64 _) (v' := .int .i64 _) (v'' := .bool _) rfl rfl rfl ?_
          exact ⟨eR (eT3 (eI (z_c_spec_BestRun_641 L nL hbdL hleL h582 hq586 h587 k a b c hi597 h598 x631 hx632 hq633 x634 hx635 hq636)) (eI (z_c_spec_BestRun_642 L nL hbdL hleL h582 hq586 h587 k a b c hi597 h598 x631 hx632 hq633 x634 hx635 hq636)) (eDT (z_c_spec_BestRun_643 L nL hbdL hleL h582 hq586 h587 k a b c hi597 h598 x631 hx632 hq633 x634 hx635 hq636))), hB640⟩

theorem z_c_impl_BestRun_649 (L : List LibRow) (nL : Nat) (hbdL : (nL : Int) ≤ 9223372036854775807) (hleL : nL = L.length) (h648 : ¬ (RowsOK L)) : 0 = bestF L := by
  first | (simp_all [bestF, bestL]; done) | (simp_all; done)
theorem z_c_impl_BestRun_650 (L : List LibRow) (nL : Nat) (hbdL : (nL : Int) ≤ 9223372036854775807) (hleL : nL = L.length) (h648 : ¬ (RowsOK L)) : 0 = bestL L := by
  first | (simp_all [bestF, bestL]; done) | (simp_all; done)
theorem z_c_impl_BestRun_651 (L : List LibRow) (nL : Nat) (hbdL : (nL : Int) ≤ 9223372036854775807) (hleL : nL = L.length) (h648 : ¬ (RowsOK L)) : ¬ (RowsOK L ∧ 0 < L.length) := by
  first | (simp_all [bestF, bestL]; done) | (simp_all; done)
theorem z_c_impl_BestRun_654 (L : List LibRow) (nL : Nat) (hbdL : (nL : Int) ≤ 9223372036854775807) (hleL : nL = L.length) (h648 : RowsOK L) (hq652 : L.length ≤ 12) (h653 : (nL : Int) = 0) : 0 = bestF L := by
  first | (simp_all [bestF, bestL]; done) | (simp_all; done)
theorem z_c_impl_BestRun_655 (L : List LibRow) (nL : Nat) (hbdL : (nL : Int) ≤ 9223372036854775807) (hleL : nL = L.length) (h648 : RowsOK L) (hq652 : L.length ≤ 12) (h653 : (nL : Int) = 0) : 0 = bestL L := by
  first | (simp_all [bestF, bestL]; done) | (simp_all; done)
theorem z_c_impl_BestRun_656 (L : List LibRow) (nL : Nat) (hbdL : (nL : Int) ≤ 9223372036854775807) (hleL : nL = L.length) (h648 : RowsOK L) (hq652 : L.length ≤ 12) (h653 : (nL : Int) = 0) : ¬ (RowsOK L ∧ 0 < L.length) := by
  first | (simp_all [bestF, bestL]; done) | (simp_all; done)
theorem z_c_impl_BestRun_657 (L : List LibRow) (nL : Nat) (hbdL : (nL : Int) ≤ 9223372036854775807) (hleL : nL = L.length) (h648 : RowsOK L) (hq652 : L.length ≤ 12) (h653 : ¬ ((nL : Int) = 0)) : 0 ≤ nL ∧ best L 0 = (0, 0, 0) ∧ 0 ≤ 0 ∧ (0 < 0 ∨ 0 = 0) ∧ (0 < 0 ∨ 0 = 0) := by
  simp [best]
theorem z_c_impl_BestRun_679 (L : List LibRow) (nL : Nat) (hbdL : (nL : Int) ≤ 9223372036854775807) (hleL : nL = L.length) (h648 : RowsOK L) (hq652 : L.length ≤ 12) (h653 : ¬ ((nL : Int) = 0)) (k : Nat) (a : Nat) (b : Nat) (c : Nat) (hi663 : k ≤ nL ∧ best L k = (a, b, c) ∧ a ≤ b ∧ (b < k ∨ b = 0) ∧ (c < k ∨ c = 0)) (h664 : (k : Int) < (nL : Int)) (h665 : 0 < (k : Int)) (x666 : LibRow) (hx667 : L[k]? = some x666) (hq668 : ((1 : Int) ≤ x666.Month ∧ x666.Month ≤ 1200) ∧ ((0 : Int) ≤ x666.Lent ∧ x666.Lent ≤ 9999) ∧ ((0 : Int) ≤ x666.Copied ∧ x666.Copied ≤ 9999) ∧ ((0 : Int) ≤ x666.Given ∧ x666.Given ≤ 999) ∧ ((0 : Int) ≤ x666.Fines ∧ x666.Fines ≤ 99999)) (x669 : LibRow) (hx671 : L[k - 1]? = some x669) (hq672 : ((1 : Int) ≤ x669.Month ∧ x669.Month ≤ 1200) ∧ ((0 : Int) ≤ x669.Lent ∧ x669.Lent ≤ 9999) ∧ ((0 : Int) ≤ x669.Copied ∧ x669.Copied ≤ 9999) ∧ ((0 : Int) ≤ x669.Given ∧ x669.Given ≤ 999) ∧ ((0 : Int) ≤ x669.Fines ∧ x669.Fines ≤ 99999)) (h677 : x666.Lent < x669.Lent) (h678 : ((b : Int) - (a : Int)) < ((k : Int) - (k : Int))) : k + 1 ≤ nL ∧ best L (k + 1) = (k, k, k) ∧ k ≤ k ∧ (k < k + 1 ∨ k = 0) ∧ (k < k + 1 ∨ k = 0) := by
  obtain ⟨h1, h2, h3, h4, h5⟩ := ‹_ ∧ best L _ = _ ∧ _›; refine ⟨by omega, ?_, by omega, by omega, by omega⟩; first | exact best_fall h2 ‹_› ‹_› ‹_› ‹_› (by omega) | exact best_fallN h2 ‹_› ‹_› ‹_› ‹_› (by omega) | exact best_go h2 (by first | exact nofall0 ‹_› | exact nofall1 ‹_› ‹_› ‹_›) (by omega) | exact best_stay h2 (by first | exact nofall0 ‹_› | exact nofall1 ‹_› ‹_› ‹_›) (by omega)
theorem z_c_impl_BestRun_680 (L : List LibRow) (nL : Nat) (hbdL : (nL : Int) ≤ 9223372036854775807) (hleL : nL = L.length) (h648 : RowsOK L) (hq652 : L.length ≤ 12) (h653 : ¬ ((nL : Int) = 0)) (k : Nat) (a : Nat) (b : Nat) (c : Nat) (hi663 : k ≤ nL ∧ best L k = (a, b, c) ∧ a ≤ b ∧ (b < k ∨ b = 0) ∧ (c < k ∨ c = 0)) (h664 : (k : Int) < (nL : Int)) (h665 : 0 < (k : Int)) (x666 : LibRow) (hx667 : L[k]? = some x666) (hq668 : ((1 : Int) ≤ x666.Month ∧ x666.Month ≤ 1200) ∧ ((0 : Int) ≤ x666.Lent ∧ x666.Lent ≤ 9999) ∧ ((0 : Int) ≤ x666.Copied ∧ x666.Copied ≤ 9999) ∧ ((0 : Int) ≤ x666.Given ∧ x666.Given ≤ 999) ∧ ((0 : Int) ≤ x666.Fines ∧ x666.Fines ≤ 99999)) (x669 : LibRow) (hx671 : L[k - 1]? = some x669) (hq672 : ((1 : Int) ≤ x669.Month ∧ x669.Month ≤ 1200) ∧ ((0 : Int) ≤ x669.Lent ∧ x669.Lent ≤ 9999) ∧ ((0 : Int) ≤ x669.Copied ∧ x669.Copied ≤ 9999) ∧ ((0 : Int) ≤ x669.Given ∧ x669.Given ≤ 999) ∧ ((0 : Int) ≤ x669.Fines ∧ x669.Fines ≤ 99999)) (h677 : x666.Lent < x669.Lent) (h678 : ((b : Int) - (a : Int)) < ((k : Int) - (k : Int))) : nL - (k + 1) < nL - k := by
  omega
theorem z_c_impl_BestRun_681 (L : List LibRow) (nL : Nat) (hbdL : (nL : Int) ≤ 9223372036854775807) (hleL : nL = L.length) (h648 : RowsOK L) (hq652 : L.length ≤ 12) (h653 : ¬ ((nL : Int) = 0)) (k : Nat) (a : Nat) (b : Nat) (c : Nat) (hi663 : k ≤ nL ∧ best L k = (a, b, c) ∧ a ≤ b ∧ (b < k ∨ b = 0) ∧ (c < k ∨ c = 0)) (h664 : (k : Int) < (nL : Int)) (h665 : 0 < (k : Int)) (x666 : LibRow) (hx667 : L[k]? = some x666) (hq668 : ((1 : Int) ≤ x666.Month ∧ x666.Month ≤ 1200) ∧ ((0 : Int) ≤ x666.Lent ∧ x666.Lent ≤ 9999) ∧ ((0 : Int) ≤ x666.Copied ∧ x666.Copied ≤ 9999) ∧ ((0 : Int) ≤ x666.Given ∧ x666.Given ≤ 999) ∧ ((0 : Int) ≤ x666.Fines ∧ x666.Fines ≤ 99999)) (x669 : LibRow) (hx671 : L[k - 1]? = some x669) (hq672 : ((1 : Int) ≤ x669.Month ∧ x669.Month ≤ 1200) ∧ ((0 : Int) ≤ x669.Lent ∧ x669.Lent ≤ 9999) ∧ ((0 : Int) ≤ x669.Copied ∧ x669.Copied ≤ 9999) ∧ ((0 : Int) ≤ x669.Given ∧ x669.Given ≤ 999) ∧ ((0 : Int) ≤ x669.Fines ∧ x669.Fines ≤ 99999)) (h677 : x666.Lent < x669.Lent) (h678 : ¬ (((b : Int) - (a : Int)) < ((k : Int) - (k : Int)))) : k + 1 ≤ nL ∧ best L (k + 1) = (a, b, k) ∧ a ≤ b ∧ (b < k + 1 ∨ b = 0) ∧ (k < k + 1 ∨ k = 0) := by
  obtain ⟨h1, h2, h3, h4, h5⟩ := ‹_ ∧ best L _ = _ ∧ _›; refine ⟨by omega, ?_, by omega, by omega, by omega⟩; first | exact best_fall h2 ‹_› ‹_› ‹_› ‹_› (by omega) | exact best_fallN h2 ‹_› ‹_› ‹_› ‹_› (by omega) | exact best_go h2 (by first | exact nofall0 ‹_› | exact nofall1 ‹_› ‹_› ‹_›) (by omega) | exact best_stay h2 (by first | exact nofall0 ‹_› | exact nofall1 ‹_› ‹_› ‹_›) (by omega)
theorem z_c_impl_BestRun_682 (L : List LibRow) (nL : Nat) (hbdL : (nL : Int) ≤ 9223372036854775807) (hleL : nL = L.length) (h648 : RowsOK L) (hq652 : L.length ≤ 12) (h653 : ¬ ((nL : Int) = 0)) (k : Nat) (a : Nat) (b : Nat) (c : Nat) (hi663 : k ≤ nL ∧ best L k = (a, b, c) ∧ a ≤ b ∧ (b < k ∨ b = 0) ∧ (c < k ∨ c = 0)) (h664 : (k : Int) < (nL : Int)) (h665 : 0 < (k : Int)) (x666 : LibRow) (hx667 : L[k]? = some x666) (hq668 : ((1 : Int) ≤ x666.Month ∧ x666.Month ≤ 1200) ∧ ((0 : Int) ≤ x666.Lent ∧ x666.Lent ≤ 9999) ∧ ((0 : Int) ≤ x666.Copied ∧ x666.Copied ≤ 9999) ∧ ((0 : Int) ≤ x666.Given ∧ x666.Given ≤ 999) ∧ ((0 : Int) ≤ x666.Fines ∧ x666.Fines ≤ 99999)) (x669 : LibRow) (hx671 : L[k - 1]? = some x669) (hq672 : ((1 : Int) ≤ x669.Month ∧ x669.Month ≤ 1200) ∧ ((0 : Int) ≤ x669.Lent ∧ x669.Lent ≤ 9999) ∧ ((0 : Int) ≤ x669.Copied ∧ x669.Copied ≤ 9999) ∧ ((0 : Int) ≤ x669.Given ∧ x669.Given ≤ 999) ∧ ((0 : Int) ≤ x669.Fines ∧ x669.Fines ≤ 99999)) (h677 : x666.Lent < x669.Lent) (h678 : ¬ (((b : Int) - (a : Int)) < ((k : Int) - (k : Int)))) : nL - (k + 1) < nL - k := by
  omega
theorem z_c_impl_BestRun_684 (L : List LibRow) (nL : Nat) (hbdL : (nL : Int) ≤ 9223372036854775807) (hleL : nL = L.length) (h648 : RowsOK L) (hq652 : L.length ≤ 12) (h653 : ¬ ((nL : Int) = 0)) (k : Nat) (a : Nat) (b : Nat) (c : Nat) (hi663 : k ≤ nL ∧ best L k = (a, b, c) ∧ a ≤ b ∧ (b < k ∨ b = 0) ∧ (c < k ∨ c = 0)) (h664 : (k : Int) < (nL : Int)) (h665 : 0 < (k : Int)) (x666 : LibRow) (hx667 : L[k]? = some x666) (hq668 : ((1 : Int) ≤ x666.Month ∧ x666.Month ≤ 1200) ∧ ((0 : Int) ≤ x666.Lent ∧ x666.Lent ≤ 9999) ∧ ((0 : Int) ≤ x666.Copied ∧ x666.Copied ≤ 9999) ∧ ((0 : Int) ≤ x666.Given ∧ x666.Given ≤ 999) ∧ ((0 : Int) ≤ x666.Fines ∧ x666.Fines ≤ 99999)) (x669 : LibRow) (hx671 : L[k - 1]? = some x669) (hq672 : ((1 : Int) ≤ x669.Month ∧ x669.Month ≤ 1200) ∧ ((0 : Int) ≤ x669.Lent ∧ x669.Lent ≤ 9999) ∧ ((0 : Int) ≤ x669.Copied ∧ x669.Copied ≤ 9999) ∧ ((0 : Int) ≤ x669.Given ∧ x669.Given ≤ 999) ∧ ((0 : Int) ≤ x669.Fines ∧ x669.Fines ≤ 99999)) (h677 : ¬ (x666.Lent < x669.Lent)) (h683 : ((b : Int) - (a : Int)) < ((k : Int) - (c : Int))) : k + 1 ≤ nL ∧ best L (k + 1) = (c, k, c) ∧ c ≤ k ∧ (k < k + 1 ∨ k = 0) ∧ (c < k + 1 ∨ c = 0) := by
  obtain ⟨h1, h2, h3, h4, h5⟩ := ‹_ ∧ best L _ = _ ∧ _›; refine ⟨by omega, ?_, by omega, by omega, by omega⟩; first | exact best_fall h2 ‹_› ‹_› ‹_› ‹_› (by omega) | exact best_fallN h2 ‹_› ‹_› ‹_› ‹_› (by omega) | exact best_go h2 (by first | exact nofall0 ‹_› | exact nofall1 ‹_› ‹_› ‹_›) (by omega) | exact best_stay h2 (by first | exact nofall0 ‹_› | exact nofall1 ‹_› ‹_› ‹_›) (by omega)
theorem z_c_impl_BestRun_685 (L : List LibRow) (nL : Nat) (hbdL : (nL : Int) ≤ 9223372036854775807) (hleL : nL = L.length) (h648 : RowsOK L) (hq652 : L.length ≤ 12) (h653 : ¬ ((nL : Int) = 0)) (k : Nat) (a : Nat) (b : Nat) (c : Nat) (hi663 : k ≤ nL ∧ best L k = (a, b, c) ∧ a ≤ b ∧ (b < k ∨ b = 0) ∧ (c < k ∨ c = 0)) (h664 : (k : Int) < (nL : Int)) (h665 : 0 < (k : Int)) (x666 : LibRow) (hx667 : L[k]? = some x666) (hq668 : ((1 : Int) ≤ x666.Month ∧ x666.Month ≤ 1200) ∧ ((0 : Int) ≤ x666.Lent ∧ x666.Lent ≤ 9999) ∧ ((0 : Int) ≤ x666.Copied ∧ x666.Copied ≤ 9999) ∧ ((0 : Int) ≤ x666.Given ∧ x666.Given ≤ 999) ∧ ((0 : Int) ≤ x666.Fines ∧ x666.Fines ≤ 99999)) (x669 : LibRow) (hx671 : L[k - 1]? = some x669) (hq672 : ((1 : Int) ≤ x669.Month ∧ x669.Month ≤ 1200) ∧ ((0 : Int) ≤ x669.Lent ∧ x669.Lent ≤ 9999) ∧ ((0 : Int) ≤ x669.Copied ∧ x669.Copied ≤ 9999) ∧ ((0 : Int) ≤ x669.Given ∧ x669.Given ≤ 999) ∧ ((0 : Int) ≤ x669.Fines ∧ x669.Fines ≤ 99999)) (h677 : ¬ (x666.Lent < x669.Lent)) (h683 : ((b : Int) - (a : Int)) < ((k : Int) - (c : Int))) : nL - (k + 1) < nL - k := by
  omega
theorem z_c_impl_BestRun_686 (L : List LibRow) (nL : Nat) (hbdL : (nL : Int) ≤ 9223372036854775807) (hleL : nL = L.length) (h648 : RowsOK L) (hq652 : L.length ≤ 12) (h653 : ¬ ((nL : Int) = 0)) (k : Nat) (a : Nat) (b : Nat) (c : Nat) (hi663 : k ≤ nL ∧ best L k = (a, b, c) ∧ a ≤ b ∧ (b < k ∨ b = 0) ∧ (c < k ∨ c = 0)) (h664 : (k : Int) < (nL : Int)) (h665 : 0 < (k : Int)) (x666 : LibRow) (hx667 : L[k]? = some x666) (hq668 : ((1 : Int) ≤ x666.Month ∧ x666.Month ≤ 1200) ∧ ((0 : Int) ≤ x666.Lent ∧ x666.Lent ≤ 9999) ∧ ((0 : Int) ≤ x666.Copied ∧ x666.Copied ≤ 9999) ∧ ((0 : Int) ≤ x666.Given ∧ x666.Given ≤ 999) ∧ ((0 : Int) ≤ x666.Fines ∧ x666.Fines ≤ 99999)) (x669 : LibRow) (hx671 : L[k - 1]? = some x669) (hq672 : ((1 : Int) ≤ x669.Month ∧ x669.Month ≤ 1200) ∧ ((0 : Int) ≤ x669.Lent ∧ x669.Lent ≤ 9999) ∧ ((0 : Int) ≤ x669.Copied ∧ x669.Copied ≤ 9999) ∧ ((0 : Int) ≤ x669.Given ∧ x669.Given ≤ 999) ∧ ((0 : Int) ≤ x669.Fines ∧ x669.Fines ≤ 99999)) (h677 : ¬ (x666.Lent < x669.Lent)) (h683 : ¬ (((b : Int) - (a : Int)) < ((k : Int) - (c : Int)))) : k + 1 ≤ nL ∧ best L (k + 1) = (a, b, c) ∧ a ≤ b ∧ (b < k + 1 ∨ b = 0) ∧ (c < k + 1 ∨ c = 0) := by
  obtain ⟨h1, h2, h3, h4, h5⟩ := ‹_ ∧ best L _ = _ ∧ _›; refine ⟨by omega, ?_, by omega, by omega, by omega⟩; first | exact best_fall h2 ‹_› ‹_› ‹_› ‹_› (by omega) | exact best_fallN h2 ‹_› ‹_› ‹_› ‹_› (by omega) | exact best_go h2 (by first | exact nofall0 ‹_› | exact nofall1 ‹_› ‹_› ‹_›) (by omega) | exact best_stay h2 (by first | exact nofall0 ‹_› | exact nofall1 ‹_› ‹_› ‹_›) (by omega)
theorem z_c_impl_BestRun_687 (L : List LibRow) (nL : Nat) (hbdL : (nL : Int) ≤ 9223372036854775807) (hleL : nL = L.length) (h648 : RowsOK L) (hq652 : L.length ≤ 12) (h653 : ¬ ((nL : Int) = 0)) (k : Nat) (a : Nat) (b : Nat) (c : Nat) (hi663 : k ≤ nL ∧ best L k = (a, b, c) ∧ a ≤ b ∧ (b < k ∨ b = 0) ∧ (c < k ∨ c = 0)) (h664 : (k : Int) < (nL : Int)) (h665 : 0 < (k : Int)) (x666 : LibRow) (hx667 : L[k]? = some x666) (hq668 : ((1 : Int) ≤ x666.Month ∧ x666.Month ≤ 1200) ∧ ((0 : Int) ≤ x666.Lent ∧ x666.Lent ≤ 9999) ∧ ((0 : Int) ≤ x666.Copied ∧ x666.Copied ≤ 9999) ∧ ((0 : Int) ≤ x666.Given ∧ x666.Given ≤ 999) ∧ ((0 : Int) ≤ x666.Fines ∧ x666.Fines ≤ 99999)) (x669 : LibRow) (hx671 : L[k - 1]? = some x669) (hq672 : ((1 : Int) ≤ x669.Month ∧ x669.Month ≤ 1200) ∧ ((0 : Int) ≤ x669.Lent ∧ x669.Lent ≤ 9999) ∧ ((0 : Int) ≤ x669.Copied ∧ x669.Copied ≤ 9999) ∧ ((0 : Int) ≤ x669.Given ∧ x669.Given ≤ 999) ∧ ((0 : Int) ≤ x669.Fines ∧ x669.Fines ≤ 99999)) (h677 : ¬ (x666.Lent < x669.Lent)) (h683 : ¬ (((b : Int) - (a : Int)) < ((k : Int) - (c : Int)))) : nL - (k + 1) < nL - k := by
  omega
theorem z_c_impl_BestRun_693 (L : List LibRow) (nL : Nat) (hbdL : (nL : Int) ≤ 9223372036854775807) (hleL : nL = L.length) (h648 : RowsOK L) (hq652 : L.length ≤ 12) (h653 : ¬ ((nL : Int) = 0)) (k : Nat) (a : Nat) (b : Nat) (c : Nat) (hi663 : k ≤ nL ∧ best L k = (a, b, c) ∧ a ≤ b ∧ (b < k ∨ b = 0) ∧ (c < k ∨ c = 0)) (h664 : (k : Int) < (nL : Int)) (h665 : ¬ (0 < (k : Int))) (h692 : ((b : Int) - (a : Int)) < ((k : Int) - (c : Int))) : k + 1 ≤ nL ∧ best L (k + 1) = (c, k, c) ∧ c ≤ k ∧ (k < k + 1 ∨ k = 0) ∧ (c < k + 1 ∨ c = 0) := by
  obtain ⟨h1, h2, h3, h4, h5⟩ := ‹_ ∧ best L _ = _ ∧ _›; refine ⟨by omega, ?_, by omega, by omega, by omega⟩; first | exact best_fall h2 ‹_› ‹_› ‹_› ‹_› (by omega) | exact best_fallN h2 ‹_› ‹_› ‹_› ‹_› (by omega) | exact best_go h2 (by first | exact nofall0 ‹_› | exact nofall1 ‹_› ‹_› ‹_›) (by omega) | exact best_stay h2 (by first | exact nofall0 ‹_› | exact nofall1 ‹_› ‹_› ‹_›) (by omega)
theorem z_c_impl_BestRun_694 (L : List LibRow) (nL : Nat) (hbdL : (nL : Int) ≤ 9223372036854775807) (hleL : nL = L.length) (h648 : RowsOK L) (hq652 : L.length ≤ 12) (h653 : ¬ ((nL : Int) = 0)) (k : Nat) (a : Nat) (b : Nat) (c : Nat) (hi663 : k ≤ nL ∧ best L k = (a, b, c) ∧ a ≤ b ∧ (b < k ∨ b = 0) ∧ (c < k ∨ c = 0)) (h664 : (k : Int) < (nL : Int)) (h665 : ¬ (0 < (k : Int))) (h692 : ((b : Int) - (a : Int)) < ((k : Int) - (c : Int))) : nL - (k + 1) < nL - k := by
  omega
theorem z_c_impl_BestRun_695 (L : List LibRow) (nL : Nat) (hbdL : (nL : Int) ≤ 9223372036854775807) (hleL : nL = L.length) (h648 : RowsOK L) (hq652 : L.length ≤ 12) (h653 : ¬ ((nL : Int) = 0)) (k : Nat) (a : Nat) (b : Nat) (c : Nat) (hi663 : k ≤ nL ∧ best L k = (a, b, c) ∧ a ≤ b ∧ (b < k ∨ b = 0) ∧ (c < k ∨ c = 0)) (h664 : (k : Int) < (nL : Int)) (h665 : ¬ (0 < (k : Int))) (h692 : ¬ (((b : Int) - (a : Int)) < ((k : Int) - (c : Int)))) : k + 1 ≤ nL ∧ best L (k + 1) = (a, b, c) ∧ a ≤ b ∧ (b < k + 1 ∨ b = 0) ∧ (c < k + 1 ∨ c = 0) := by
  obtain ⟨h1, h2, h3, h4, h5⟩ := ‹_ ∧ best L _ = _ ∧ _›; refine ⟨by omega, ?_, by omega, by omega, by omega⟩; first | exact best_fall h2 ‹_› ‹_› ‹_› ‹_› (by omega) | exact best_fallN h2 ‹_› ‹_› ‹_› ‹_› (by omega) | exact best_go h2 (by first | exact nofall0 ‹_› | exact nofall1 ‹_› ‹_› ‹_›) (by omega) | exact best_stay h2 (by first | exact nofall0 ‹_› | exact nofall1 ‹_› ‹_› ‹_›) (by omega)
theorem z_c_impl_BestRun_696 (L : List LibRow) (nL : Nat) (hbdL : (nL : Int) ≤ 9223372036854775807) (hleL : nL = L.length) (h648 : RowsOK L) (hq652 : L.length ≤ 12) (h653 : ¬ ((nL : Int) = 0)) (k : Nat) (a : Nat) (b : Nat) (c : Nat) (hi663 : k ≤ nL ∧ best L k = (a, b, c) ∧ a ≤ b ∧ (b < k ∨ b = 0) ∧ (c < k ∨ c = 0)) (h664 : (k : Int) < (nL : Int)) (h665 : ¬ (0 < (k : Int))) (h692 : ¬ (((b : Int) - (a : Int)) < ((k : Int) - (c : Int)))) : nL - (k + 1) < nL - k := by
  omega
theorem z_c_impl_BestRun_707 (L : List LibRow) (nL : Nat) (hbdL : (nL : Int) ≤ 9223372036854775807) (hleL : nL = L.length) (h648 : RowsOK L) (hq652 : L.length ≤ 12) (h653 : ¬ ((nL : Int) = 0)) (k : Nat) (a : Nat) (b : Nat) (c : Nat) (hi663 : k ≤ nL ∧ best L k = (a, b, c) ∧ a ≤ b ∧ (b < k ∨ b = 0) ∧ (c < k ∨ c = 0)) (h664 : ¬ ((k : Int) < (nL : Int))) (x697 : LibRow) (hx698 : L[a]? = some x697) (hq699 : ((1 : Int) ≤ x697.Month ∧ x697.Month ≤ 1200) ∧ ((0 : Int) ≤ x697.Lent ∧ x697.Lent ≤ 9999) ∧ ((0 : Int) ≤ x697.Copied ∧ x697.Copied ≤ 9999) ∧ ((0 : Int) ≤ x697.Given ∧ x697.Given ≤ 999) ∧ ((0 : Int) ≤ x697.Fines ∧ x697.Fines ≤ 99999)) (x700 : LibRow) (hx701 : L[b]? = some x700) (hq702 : ((1 : Int) ≤ x700.Month ∧ x700.Month ≤ 1200) ∧ ((0 : Int) ≤ x700.Lent ∧ x700.Lent ≤ 9999) ∧ ((0 : Int) ≤ x700.Copied ∧ x700.Copied ≤ 9999) ∧ ((0 : Int) ≤ x700.Given ∧ x700.Given ≤ 999) ∧ ((0 : Int) ≤ x700.Fines ∧ x700.Fines ≤ 99999)) : x697.Month = bestF L := by
  subst hleL; obtain ⟨h1, h2, h3, h4, h5⟩ := ‹_ ∧ best L _ = _ ∧ _›; exact best_resF ‹RowsOK L› h2 ‹_› h1 ‹_› trivial
theorem z_c_impl_BestRun_708 (L : List LibRow) (nL : Nat) (hbdL : (nL : Int) ≤ 9223372036854775807) (hleL : nL = L.length) (h648 : RowsOK L) (hq652 : L.length ≤ 12) (h653 : ¬ ((nL : Int) = 0)) (k : Nat) (a : Nat) (b : Nat) (c : Nat) (hi663 : k ≤ nL ∧ best L k = (a, b, c) ∧ a ≤ b ∧ (b < k ∨ b = 0) ∧ (c < k ∨ c = 0)) (h664 : ¬ ((k : Int) < (nL : Int))) (x697 : LibRow) (hx698 : L[a]? = some x697) (hq699 : ((1 : Int) ≤ x697.Month ∧ x697.Month ≤ 1200) ∧ ((0 : Int) ≤ x697.Lent ∧ x697.Lent ≤ 9999) ∧ ((0 : Int) ≤ x697.Copied ∧ x697.Copied ≤ 9999) ∧ ((0 : Int) ≤ x697.Given ∧ x697.Given ≤ 999) ∧ ((0 : Int) ≤ x697.Fines ∧ x697.Fines ≤ 99999)) (x700 : LibRow) (hx701 : L[b]? = some x700) (hq702 : ((1 : Int) ≤ x700.Month ∧ x700.Month ≤ 1200) ∧ ((0 : Int) ≤ x700.Lent ∧ x700.Lent ≤ 9999) ∧ ((0 : Int) ≤ x700.Copied ∧ x700.Copied ≤ 9999) ∧ ((0 : Int) ≤ x700.Given ∧ x700.Given ≤ 999) ∧ ((0 : Int) ≤ x700.Fines ∧ x700.Fines ≤ 99999)) : x700.Month = bestL L := by
  subst hleL; obtain ⟨h1, h2, h3, h4, h5⟩ := ‹_ ∧ best L _ = _ ∧ _›; exact best_resL ‹RowsOK L› h2 ‹_› h1 ‹_› trivial
theorem z_c_impl_BestRun_709 (L : List LibRow) (nL : Nat) (hbdL : (nL : Int) ≤ 9223372036854775807) (hleL : nL = L.length) (h648 : RowsOK L) (hq652 : L.length ≤ 12) (h653 : ¬ ((nL : Int) = 0)) (k : Nat) (a : Nat) (b : Nat) (c : Nat) (hi663 : k ≤ nL ∧ best L k = (a, b, c) ∧ a ≤ b ∧ (b < k ∨ b = 0) ∧ (c < k ∨ c = 0)) (h664 : ¬ ((k : Int) < (nL : Int))) (x697 : LibRow) (hx698 : L[a]? = some x697) (hq699 : ((1 : Int) ≤ x697.Month ∧ x697.Month ≤ 1200) ∧ ((0 : Int) ≤ x697.Lent ∧ x697.Lent ≤ 9999) ∧ ((0 : Int) ≤ x697.Copied ∧ x697.Copied ≤ 9999) ∧ ((0 : Int) ≤ x697.Given ∧ x697.Given ≤ 999) ∧ ((0 : Int) ≤ x697.Fines ∧ x697.Fines ≤ 99999)) (x700 : LibRow) (hx701 : L[b]? = some x700) (hq702 : ((1 : Int) ≤ x700.Month ∧ x700.Month ≤ 1200) ∧ ((0 : Int) ≤ x700.Lent ∧ x700.Lent ≤ 9999) ∧ ((0 : Int) ≤ x700.Copied ∧ x700.Copied ≤ 9999) ∧ ((0 : Int) ≤ x700.Given ∧ x700.Given ≤ 999) ∧ ((0 : Int) ≤ x700.Fines ∧ x700.Fines ≤ 99999)) : RowsOK L ∧ 0 < L.length := by
  exact ⟨by assumption, by omega⟩
theorem c_impl_BestRun (w : World) {AL : Option Addr} {nL cL BL : Nat} (L : List LibRow) (hL : SlR w BL encLibRow 5 AL nL cL L) : Calls Try.prog 22 #[.slice AL nL cL] w fun e w' => e = .returned (.tuple (List.toArray [.int .i64 (bestF L), .int .i64 (bestL L), .bool (decide (RowsOK L ∧ 0 < L.length))])) ∧ Lo w w' := by
  refine calls_W 59 Try.func22 rfl rfl rfl ?_
  have hbdL := hL.bound
  have hleL := hL.len
  have hBbL := hL.bd
  refine W.seq ?_
  refine W.regS (SR.q' (r_as (v := .int .i64 0) rfl) <| SR.q' (r_as (v := .int .i64 0) rfl) <| SR.q' (r_as (v := .bool false) rfl) <| SR.nil ?_)
  refine W.seq ?_
  refine W.seq ?_
  refine W.regS (SR.q' (r_mv (v := .slice _ _ _) rfl) <| SR.call ent17 (c_impl_AreLibRows w L ((hL))) rfl ?_)
  rintro e w644 ⟨rfl, hk645⟩
  refine ⟨_, rfl, ?_⟩
  have hz646 := hk645.size
  have hB647 := (Lo.refl w).lo hk645
  refine SR.q' (r_not rfl) <| SR.q' (r_mv (v := .bool _) rfl) <| SR.splitN (fun h648 => ?_) (fun h648 => ?_)
  · refine SR.s' rfl <| SR.s' rfl <| SR.s' rfl <| SR.q' (r_pick true rfl (v := .bool true) rfl) <| SR.nil ?_
    refine W.cond_t rfl ?_
    refine W.seq ?_
    refine W.regS (SR.q' (r_as (v := .int .i64 0) rfl) <| SR.q' (r_as (v := .int .i64 0) rfl) <| SR.q' (r_as (v := .bool false) rfl) <| SR.nil ?_)
    refine W.ret ?_
    refine ret3 rfl (v := .int .i64 _) (v' := .int .i64 _) (v'' := .bool _) rfl rfl rfl ?_
    exact ⟨eR (eT3 (eI (z_c_impl_BestRun_649 L nL hbdL hleL h648)) (eI (z_c_impl_BestRun_650 L nL hbdL hleL h648)) (eDF (z_c_impl_BestRun_651 L nL hbdL hleL h648))), hB647⟩
  · have hq652 := rows_len h648
    refine SR.g' rfl (r_mv (v := .slice _ _ _) rfl) <| SR.g' rfl (r_len und31 rfl) <| SR.g' rfl (r_eq rfl rfl) <| SR.q' (r_pick false rfl (v := .bool _) rfl) <| SR.nil ?_
    refine W.cond_d rfl (fun h653 => ?_) (fun h653 => ?_)
    · refine W.seq ?_
      refine W.regS (SR.q' (r_as (v := .int .i64 0) rfl) <| SR.q' (r_as (v := .int .i64 0) rfl) <| SR.q' (r_as (v := .bool false) rfl) <| SR.nil ?_)
      refine W.ret ?_
      refine ret3 rfl (v := .int .i64 _) (v' := .int .i64 _) (v'' := .bool _) rfl rfl rfl ?_
      exact ⟨eR (eT3 (eI (z_c_impl_BestRun_654 L nL hbdL hleL h648 hq652 h653)) (eI (z_c_impl_BestRun_655 L nL hbdL hleL h648 hq652 h653)) (eDF (z_c_impl_BestRun_656 L nL hbdL hleL h648 hq652 h653))), hB647⟩
    · refine W.skip ?_
      refine W.seq ?_
      refine W.regS (SR.q' (r_as (v := .int .i64 0) rfl) <| SR.q' (r_as (v := .int .i64 0) rfl) <| SR.q' (r_as (v := .int .i64 0) rfl) <| SR.nil ?_)
      refine W.seq ?_
      refine W.seq ?_
      refine W.regS (SR.q' (r_mv (v := .slice _ _ _) rfl) <| SR.q' (r_len und31 rfl) <| SR.q' (r_mv (v := .int .i64 0) rfl) <| SR.nil ?_)
      refine W.block ?_
      refine W.loop (σ := Nat × Nat × Nat × Nat) (fun g => [(0, .slice AL nL cL), (2, .int .i64 0), (3, .int .i64 0), (4, .bool false), (5, .int .i64 (g.2.1 : Int)), (6, .int .i64 (g.2.2.1 : Int)), (7, .int .i64 (g.2.2.2 : Int)), (18, .int .i64 (nL : Int)), (19, .int .i64 (g.1 : Int))]) (fun g w' => (Lo w w') ∧ (SlR w' BL encLibRow 5 AL nL cL L) ∧ (g.1 ≤ nL ∧ best L g.1 = (g.2.1, g.2.2.1, g.2.2.2) ∧ g.2.1 ≤ g.2.2.1 ∧ (g.2.2.1 < g.1 ∨ g.2.2.1 = 0) ∧ (g.2.2.2 < g.1 ∨ g.2.2.2 = 0))) (fun g => nL - g.1) (0, 0, 0, 0) ?_ ?_ ?_
      · exact ⟨rfl, rfl, rfl, rfl, rfl, rfl, rfl, rfl, rfl, trivial⟩
      · exact ⟨hB647, (hL).lo hk645, (z_c_impl_BestRun_657 L nL hbdL hleL h648 hq652 h653)⟩
      · rintro ⟨k, a, b, c⟩ f658 w659 hP661
        obtain ⟨hB660, hm662, hi663⟩ : (Lo w w659) ∧ (SlR w659 BL encLibRow 5 AL nL cL L) ∧ (k ≤ nL ∧ best L k = (a, b, c) ∧ a ≤ b ∧ (b < k ∨ b = 0) ∧ (c < k ∨ c = 0)) := hP661
        refine (?_ : W _ _ _ _ _ (act _ (sets f658 [(0, .slice AL nL cL), (2, .int .i64 0), (3, .int .i64 0), (4, .bool false), (5, .int .i64 (a : Int)), (6, .int .i64 (b : Int)), (7, .int .i64 (c : Int)), (18, .int .i64 (nL : Int)), (19, .int .i64 (k : Int))])) _)
        have hzw659 := hB660.size
        refine W.seq ?_
        refine W.regS (SR.q' (r_lt rfl rfl) <| SR.nil ?_)
        refine W.seq ?_
        refine W.cond_d rfl (fun h664 => ?_) (fun h664 => ?_)
        · refine W.skip ?_
          refine W.seq ?_
          refine W.block ?_
          refine W.seq ?_
          refine W.regS (SR.q' (r_mv (v := .int .i64 _) rfl) <| SR.q' (r_as (v := .int .i64 _) rfl) <| SR.nil ?_)
          refine W.seq ?_
          refine W.seq ?_
          refine W.regD mo (by kernel_rfl) (QR.q' (fun w' hw' => r_mv (v := .int .i64 _) rfl) <| QR.q' (fun w' hw' => r_gt rfl rfl) <| QR.q' (fun w' hw' => r_mv (v := .bool _) rfl) <| QR.splitD (fun h665 => ?_) (fun h665 => ?_))
          · refine QR.g' rfl (fun w' hw' => r_mv (v := .slice _ _ _) rfl) <| QR.g' rfl (fun w' hw' => r_mv (v := .int .i64 _) rfl) <| ?_
            obtain ⟨x666, hx667⟩ := (hm662).get (i := k) (by omega)
            have hq668 := rows_rng h648 hx667
            refine QR.g' rfl (fun w' hw' => r_ixR tsl31 ((hm662).lo hw') rfl rfl (by omega)) <| QR.g' rfl (fun w' hw' => r_fa fa25_1 rfl) <| QR.g' rfl (fun w' hw' => r_ld (v := .int .i64 x666.Lent) sca3 rfl (((hm662).lo hw').cell hx667 rfl)) <| QR.g' rfl (fun w' hw' => r_mv (v := .slice _ _ _) rfl) <| QR.g' rfl (fun w' hw' => r_mv (v := .int .i64 _) rfl) <| QR.g' rfl (fun w' hw' => r_sub rfl rfl (by omega)) <| ?_
            obtain ⟨x669, hx670⟩ := (hm662).get (i := ((k : Int) - 1).toNat) (by omega)
            have hx671 : L[k - 1]? = some x669 := (show ((k : Int) - 1).toNat = k - 1 from by omega) ▸ hx670
            have hq672 := rows_rng h648 hx671
            refine QR.g' rfl (fun w' hw' => r_ixR tsl31 ((hm662).lo hw') rfl rfl (by omega)) <| QR.g' rfl (fun w' hw' => r_fa fa25_1 rfl) <| QR.g' rfl (fun w' hw' => r_ld (v := .int .i64 x669.Lent) sca3 rfl (((hm662).lo hw').cell hx670 rfl)) <| QR.g' rfl (fun w' hw' => r_lt rfl rfl) <| QR.q' (fun w' hw' => r_pick true rfl (v := .bool _) rfl) <| QR.nil ?_
            intro w673 hk674
            have hz675 := hk674.size
            have hB676 := hB660.lo hk674
            refine W.cond_d rfl (fun h677 => ?_) (fun h677 => ?_)
            · refine W.regS (SR.q' (r_mv (v := .int .i64 _) rfl) <| SR.q' (r_as (v := .int .i64 _) rfl) <| SR.nil ?_)
              refine W.seq ?_
              refine W.regS (SR.q' (r_mv (v := .int .i64 _) rfl) <| SR.q' (r_mv (v := .int .i64 _) rfl) <| SR.q' (r_sub rfl rfl (by omega)) <| SR.q' (r_mv (v := .int .i64 _) rfl) <| SR.q' (r_mv (v := .int .i64 _) rfl) <| SR.q' (r_sub rfl rfl (by omega)) <| SR.q' (r_gt rfl rfl) <| SR.nil ?_)
              refine W.cond_d rfl (fun h678 => ?_) (fun h678 => ?_)
              · refine W.regS (SR.q' (r_mv (v := .int .i64 _) rfl) <| SR.q' (r_mv (v := .int .i64 _) rfl) <| SR.q' (r_as (v := .int .i64 _) rfl) <| SR.q' (r_as (v := .int .i64 _) rfl) <| SR.nil ?_)
                refine W.regS (SR.q' (r_add rfl rfl (by omega)) <| SR.q' (r_mv (v := .int .i64 _) rfl) <| SR.nil ?_)
                refine ⟨(k + 1, k, k, k), _, rfl, ⟨rfl, rfl, rfl, rfl, rfl, rfl, rfl, rfl, rfl, trivial⟩, ⟨hB676, (hm662).lo hk674, ?_⟩, ?_⟩
                · exact (z_c_impl_BestRun_679 L nL hbdL hleL h648 hq652 h653 k a b c hi663 h664 h665 x666 hx667 hq668 x669 hx671 hq672 h677 h678)
                · exact (z_c_impl_BestRun_680 L nL hbdL hleL h648 hq652 h653 k a b c hi663 h664 h665 x666 hx667 hq668 x669 hx671 hq672 h677 h678)
              · refine W.skip ?_
                refine W.regS (SR.q' (r_add rfl rfl (by omega)) <| SR.q' (r_mv (v := .int .i64 _) rfl) <| SR.nil ?_)
                refine ⟨(k + 1, a, b, k), _, rfl, ⟨rfl, rfl, rfl, rfl, rfl, rfl, rfl, rfl, rfl, trivial⟩, ⟨hB676, (hm662).lo hk674, ?_⟩, ?_⟩
                · exact (z_c_impl_BestRun_681 L nL hbdL hleL h648 hq652 h653 k a b c hi663 h664 h665 x666 hx667 hq668 x669 hx671 hq672 h677 h678)
                · exact (z_c_impl_BestRun_682 L nL hbdL hleL h648 hq652 h653 k a b c hi663 h664 h665 x666 hx667 hq668 x669 hx671 hq672 h677 h678)
            · refine W.skip ?_
              refine W.seq ?_
              refine W.regS (SR.q' (r_mv (v := .int .i64 _) rfl) <| SR.q' (r_mv (v := .int .i64 _) rfl) <| SR.q' (r_sub rfl rfl (by omega)) <| SR.q' (r_mv (v := .int .i64 _) rfl) <| SR.q' (r_mv (v := .int .i64 _) rfl) <| SR.q' (r_sub rfl rfl (by omega)) <| SR.q' (r_gt rfl rfl) <| SR.nil ?_)
              refine W.cond_d rfl (fun h683 => ?_) (fun h683 => ?_)
              · refine W.regS (SR.q' (r_mv (v := .int .i64 _) rfl) <| SR.q' (r_mv (v := .int .i64 _) rfl) <| SR.q' (r_as (v := .int .i64 _) rfl) <| SR.q' (r_as (v := .int .i64 _) rfl) <| SR.nil ?_)
                refine W.regS (SR.q' (r_add rfl rfl (by omega)) <| SR.q' (r_mv (v := .int .i64 _) rfl) <| SR.nil ?_)
                refine ⟨(k + 1, c, k, c), _, rfl, ⟨rfl, rfl, rfl, rfl, rfl, rfl, rfl, rfl, rfl, trivial⟩, ⟨hB676, (hm662).lo hk674, ?_⟩, ?_⟩
                · exact (z_c_impl_BestRun_684 L nL hbdL hleL h648 hq652 h653 k a b c hi663 h664 h665 x666 hx667 hq668 x669 hx671 hq672 h677 h683)
                · exact (z_c_impl_BestRun_685 L nL hbdL hleL h648 hq652 h653 k a b c hi663 h664 h665 x666 hx667 hq668 x669 hx671 hq672 h677 h683)
              · refine W.skip ?_
                refine W.regS (SR.q' (r_add rfl rfl (by omega)) <| SR.q' (r_mv (v := .int .i64 _) rfl) <| SR.nil ?_)
                refine ⟨(k + 1, a, b, c), _, rfl, ⟨rfl, rfl, rfl, rfl, rfl, rfl, rfl, rfl, rfl, trivial⟩, ⟨hB676, (hm662).lo hk674, ?_⟩, ?_⟩
                · exact (z_c_impl_BestRun_686 L nL hbdL hleL h648 hq652 h653 k a b c hi663 h664 h665 x666 hx667 hq668 x669 hx671 hq672 h677 h683)
                · exact (z_c_impl_BestRun_687 L nL hbdL hleL h648 hq652 h653 k a b c hi663 h664 h665 x666 hx667 hq668 x669 hx671 hq672 h677 h683)
          · refine QR.s' rfl <| QR.s' rfl <| QR.s' rfl <| QR.s' rfl <| QR.s' rfl <| QR.s' rfl <| QR.s' rfl <| QR.s' rfl <| QR.s' rfl <| QR.s' rfl <| QR.s' rfl <| QR.s' rfl <| QR.q' (fun w' hw' => r_pick false rfl (v := .bool false) rfl) <| QR.nil ?_
            intro w688 hk689
            have hz690 := hk689.size
            have hB691 := hB660.lo hk689
            refine W.cond_f rfl ?_
            refine W.skip ?_
            refine W.seq ?_
            refine W.regS (SR.q' (r_mv (v := .int .i64 _) rfl) <| SR.q' (r_mv (v := .int .i64 _) rfl) <| SR.q' (r_sub rfl rfl (by omega)) <| SR.q' (r_mv (v := .int .i64 _) rfl) <| SR.q' (r_mv (v := .int .i64 _) rfl) <| SR.q' (r_sub rfl rfl (by omega)) <| SR.q' (r_gt rfl rfl) <| SR.nil ?_)
            refine W.cond_d rfl (fun h692 => ?_) (fun h692 => ?_)
            · refine W.regS (SR.q' (r_mv (v := .int .i64 _) rfl) <| SR.q' (r_mv (v := .int .i64 _) rfl) <| SR.q' (r_as (v := .int .i64 _) rfl) <| SR.q' (r_as (v := .int .i64 _) rfl) <| SR.nil ?_)
              refine W.regS (SR.q' (r_add rfl rfl (by omega)) <| SR.q' (r_mv (v := .int .i64 _) rfl) <| SR.nil ?_)
              refine ⟨(k + 1, c, k, c), _, rfl, ⟨rfl, rfl, rfl, rfl, rfl, rfl, rfl, rfl, rfl, trivial⟩, ⟨hB691, (hm662).lo hk689, ?_⟩, ?_⟩
              · exact (z_c_impl_BestRun_693 L nL hbdL hleL h648 hq652 h653 k a b c hi663 h664 h665 h692)
              · exact (z_c_impl_BestRun_694 L nL hbdL hleL h648 hq652 h653 k a b c hi663 h664 h665 h692)
            · refine W.skip ?_
              refine W.regS (SR.q' (r_add rfl rfl (by omega)) <| SR.q' (r_mv (v := .int .i64 _) rfl) <| SR.nil ?_)
              refine ⟨(k + 1, a, b, c), _, rfl, ⟨rfl, rfl, rfl, rfl, rfl, rfl, rfl, rfl, rfl, trivial⟩, ⟨hB691, (hm662).lo hk689, ?_⟩, ?_⟩
              · exact (z_c_impl_BestRun_695 L nL hbdL hleL h648 hq652 h653 k a b c hi663 h664 h665 h692)
              · exact (z_c_impl_BestRun_696 L nL hbdL hleL h648 hq652 h653 k a b c hi663 h664 h665 h692)
        · refine W.exit (xin_here ?_)
          refine W.seq ?_
          refine W.regD mo (by kernel_rfl) (QR.q' (fun w' hw' => r_mv (v := .slice _ _ _) rfl) <| QR.q' (fun w' hw' => r_mv (v := .int .i64 _) rfl) <| ?_)
          obtain ⟨x697, hx698⟩ := (hm662).get (i := a) (by omega)
          have hq699 := rows_rng h648 hx698
          refine QR.q' (fun w' hw' => r_ixR tsl31 ((hm662).lo hw') rfl rfl (by omega)) <| QR.q' (fun w' hw' => r_fa fa25_0 rfl) <| QR.q' (fun w' hw' => r_ld (v := .int .i64 x697.Month) sca3 rfl (((hm662).lo hw').cell hx698 rfl)) <| QR.q' (fun w' hw' => r_mv (v := .slice _ _ _) rfl) <| QR.q' (fun w' hw' => r_mv (v := .int .i64 _) rfl) <| ?_
          obtain ⟨x700, hx701⟩ := (hm662).get (i := b) (by omega)
          have hq702 := rows_rng h648 hx701
          refine QR.q' (fun w' hw' => r_ixR tsl31 ((hm662).lo hw') rfl rfl (by omega)) <| QR.q' (fun w' hw' => r_fa fa25_0 rfl) <| QR.q' (fun w' hw' => r_ld (v := .int .i64 x700.Month) sca3 rfl (((hm662).lo hw').cell hx701 rfl)) <| QR.q' (fun w' hw' => r_as (v := .int .i64 _) rfl) <| QR.q' (fun w' hw' => r_as (v := .int .i64 _) rfl) <| QR.q' (fun w' hw' => r_as (v := .bool true) rfl) <| QR.nil ?_
          intro w703 hk704
          have hz705 := hk704.size
          have hB706 := hB660.lo hk704
          refine W.ret ?_
          refine ret3 rfl (v := .int .i64 _) (v' := .int .i64 _) (v'' := .bool _) rfl rfl rfl ?_
          exact ⟨eR (eT3 (eI (z_c_impl_BestRun_707 L nL hbdL hleL h648 hq652 h653 k a b c hi663 h664 x697 hx698 hq699 x700 hx701 hq702)) (eI (z_c_impl_BestRun_708 L nL hbdL hleL h648 hq652 h653 k a b c hi663 h664 x697 hx698 hq699 x700 hx701 hq702)) (eDT (z_c_impl_BestRun_709 L nL hbdL hleL h648 hq652 h653 k a b c hi663 h664 x697 hx698 hq699 x700 hx701 hq702))), hB706⟩

theorem z_c_laws_FnExactBestRun_759 (L : List LibRow) (nL : Nat) (hbdL : (nL : Int) ≤ 9223372036854775807) (hleL : nL = L.length) (h714 : ¬ ((szN L.length 1048576) < 0)) (hq715 : ((L.length : Nat) : Int) ≤ 1048576 ∧ szN L.length 1048576 = 1048576 - (L.length : Int)) (n719 : Nat) (hl724 : n719 = (L).length) (hl725 : (n719 : Int) ≤ 9223372036854775807) (n733 : Nat) (hl738 : n733 = (L).length) (hl739 : (n733 : Int) ≤ 9223372036854775807) (n747 : Nat) (hl752 : n747 = (L).length) (hl753 : (n747 : Int) ≤ 9223372036854775807) (h758 : ¬ (L = L)) : false = true := by
  first | (simp_all; done) | omega
theorem c_laws_FnExactBestRun (w : World) {AL : Option Addr} {nL cL BL : Nat} (L : List LibRow) (hL : SlR w BL encLibRow 5 AL nL cL L) : Calls Try.prog 6 #[.slice AL nL cL] w fun e w' => e = .returned (.bool true) ∧ Lo w w' := by
  refine calls_W 49 Try.func6 rfl rfl rfl ?_
  have hbdL := hL.bound
  have hleL := hL.len
  have hBbL := hL.bd
  refine W.seq ?_
  refine W.regS (SR.q' (r_as (v := .bool false) rfl) <| SR.nil ?_)
  refine W.seq ?_
  refine W.regS (SR.q' (r_as (v := .int .i64 1048576) rfl) <| SR.nil ?_)
  refine W.seq ?_
  refine W.regS (SR.q' (r_mv (v := .slice _ _ _) rfl) <| SR.q' (r_mv (v := .int .i64 _) rfl) <| SR.call ent14 (c_laws_szLibRowS w L ((hL)) 1048576 (by omega) (by omega)) rfl ?_)
  rintro e w710 ⟨rfl, hk711⟩
  refine ⟨_, rfl, ?_⟩
  have hz712 := hk711.size
  have hB713 := (Lo.refl w).lo hk711
  refine SR.q' (r_as (v := .int .i64 _) rfl) <| SR.nil ?_
  refine W.seq ?_
  refine W.seq ?_
  refine W.regS (SR.q' (r_mv (v := .int .i64 _) rfl) <| SR.q' (r_lt rfl rfl) <| SR.nil ?_)
  refine W.cond_d rfl (fun h714 => ?_) (fun h714 => ?_)
  · refine W.seq ?_
    refine W.regS (SR.q' (r_as (v := .bool true) rfl) <| SR.nil ?_)
    refine W.ret ?_
    refine ret1 rfl (v := .bool _) rfl ?_
    exact ⟨eR rfl, hB713⟩
  · have hq715 := szN_ok h714
    refine W.skip ?_
    refine W.seq ?_
    refine W.regS (SR.q' (r_mv (v := .slice _ _ _) rfl) <| SR.call ent16 (c_laws_toLibRowS w710 L (((hL).lo hk711)) (by omega)) rfl ?_)
    rintro e w716 ⟨A718, n719, c720, rfl, hO721, hk717⟩
    refine ⟨_, rfl, ?_⟩
    have hz722 := hk717.size
    have hB723 := hB713.lo hk717
    have hl724 := hO721.len
    have hl725 := hO721.rd.bound
    refine SR.call ent21 (c_spec_BestRun w716 L (((hO721).rd))) rfl ?_
    rintro e w726 ⟨rfl, hk727⟩
    refine ⟨_, rfl, ?_⟩
    have hz728 := hk727.size
    have hB729 := hB723.lo hk727
    refine SR.q' (r_mv (v := .tuple (List.toArray _)) rfl) <| SR.q' (r_ext (v := .int .i64 _) rfl rfl) <| SR.q' (r_ext (v := .int .i64 _) rfl rfl) <| SR.q' (r_ext (v := .bool _) rfl rfl) <| SR.q' (r_as (v := .int .i64 _) rfl) <| SR.q' (r_as (v := .int .i64 _) rfl) <| SR.q' (r_as (v := .bool _) rfl) <| SR.nil ?_
    refine W.seq ?_
    refine W.regS (SR.q' (r_mv (v := .slice _ _ _) rfl) <| SR.call ent16 (c_laws_toLibRowS w726 L (((((hL).lo hk711).lo hk717).lo hk727)) (by omega)) rfl ?_)
    rintro e w730 ⟨A732, n733, c734, rfl, hO735, hk731⟩
    refine ⟨_, rfl, ?_⟩
    have hz736 := hk731.size
    have hB737 := hB729.lo hk731
    have hl738 := hO735.len
    have hl739 := hO735.rd.bound
    refine SR.q' (r_as (v := .slice _ _ _) rfl) <| SR.nil ?_
    refine W.seq ?_
    refine W.regS (SR.q' (r_mv (v := .slice _ _ _) rfl) <| SR.call ent22 (c_impl_BestRun w730 L (((hO735).rd))) rfl ?_)
    rintro e w740 ⟨rfl, hk741⟩
    refine ⟨_, rfl, ?_⟩
    have hz742 := hk741.size
    have hB743 := hB737.lo hk741
    refine SR.q' (r_mv (v := .tuple (List.toArray _)) rfl) <| SR.q' (r_ext (v := .int .i64 _) rfl rfl) <| SR.q' (r_ext (v := .int .i64 _) rfl rfl) <| SR.q' (r_ext (v := .bool _) rfl rfl) <| SR.q' (r_as (v := .int .i64 _) rfl) <| SR.q' (r_as (v := .int .i64 _) rfl) <| SR.q' (r_as (v := .bool _) rfl) <| SR.nil ?_
    refine W.seq ?_
    refine W.seq ?_
    refine W.regS (SR.q' (r_mv (v := .int .i64 _) rfl) <| SR.q' (r_mv (v := .int .i64 _) rfl) <| SR.q' (r_ne_s rfl rfl) <| SR.q' (r_mv (v := .bool _) rfl) <| SR.g' rfl (r_mv (v := .int .i64 _) rfl) <| SR.g' rfl (r_mv (v := .int .i64 _) rfl) <| SR.g' rfl (r_ne_s rfl rfl) <| SR.q' (r_pick false rfl (v := .bool _) rfl) <| SR.q' (r_mv (v := .bool _) rfl) <| SR.g' rfl (r_mv (v := .bool _) rfl) <| SR.g' rfl (r_mv (v := .bool _) rfl) <| SR.g' rfl (r_neb_s und4 rfl rfl) <| SR.q' (r_pick false rfl (v := .bool _) rfl) <| SR.nil ?_)
    refine W.cond_f rfl ?_
    refine W.skip ?_
    refine W.seq ?_
    refine W.seq ?_
    refine W.regS (SR.q' (r_mv (v := .slice _ _ _) rfl) <| SR.q' (r_mv (v := .slice _ _ _) rfl) <| SR.call ent16 (c_laws_toLibRowS w740 L (((((((hL).lo hk711).lo hk717).lo hk727).lo hk731).lo hk741)) (by omega)) rfl ?_)
    rintro e w744 ⟨A746, n747, c748, rfl, hO749, hk745⟩
    refine ⟨_, rfl, ?_⟩
    have hz750 := hk745.size
    have hB751 := hB743.lo hk745
    have hl752 := hO749.len
    have hl753 := hO749.rd.bound
    refine SR.call ent18 (c_laws_eqLibRowS w744 L (((((hO735).lo hk741).lo hk745).rd)) L (((hO749).rd))) rfl ?_
    rintro e w754 ⟨rfl, hk755⟩
    refine ⟨_, rfl, ?_⟩
    have hz756 := hk755.size
    have hB757 := hB751.lo hk755
    refine SR.q' (r_not rfl) <| SR.nil ?_
    refine W.cond_n rfl (fun h758 => ?_) (fun h758 => ?_)
    · refine W.seq ?_
      refine W.regS (SR.q' (r_as (v := .bool false) rfl) <| SR.nil ?_)
      refine W.ret ?_
      refine ret1 rfl (v := .bool _) rfl ?_
      exact ⟨eR (eB (z_c_laws_FnExactBestRun_759 L nL hbdL hleL h714 hq715 n719 hl724 hl725 n733 hl738 hl739 n747 hl752 hl753 h758)), hB757⟩
    · refine W.skip ?_
      refine W.seq ?_
      refine W.regS (SR.q' (r_as (v := .bool true) rfl) <| SR.nil ?_)
      refine W.ret ?_
      refine ret1 rfl (v := .bool _) rfl ?_
      exact ⟨eR rfl, hB757⟩
end Go.Proofs.Ytkbmbbdhojfnpaa
