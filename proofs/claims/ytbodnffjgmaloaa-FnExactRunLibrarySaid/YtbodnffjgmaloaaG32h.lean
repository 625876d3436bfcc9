/- Walks, printed by a program of this claim's author. -/
import Derived.Test.YtbodnffjgmaloaaChecked
import Derived.Test.YtbodnffjgmaloaaUa
import Derived.Test.YtbodnffjgmaloaaFs
import Derived.Test.YtbodnffjgmaloaaFq
import Derived.Test.YtbodnffjgmaloaaUb
import Derived.Test.YtbodnffjgmaloaaG32c
namespace Go.Proofs.Ytbodnffjgmaloaa
open Go Go.RowKit Fw
set_option maxRecDepth 10000
set_option linter.unusedVariables false
theorem bld31_ : Try.prog.built 31 [] = some (List.toArray [.slice none 0 0, .slice none 0 0, .int .i64 0, .int .i64 0, .int .i64 0]) := by kernel_rfl
theorem bld31_0_1_2_3_4 (a0 : Option Addr) (b0 c0 : Nat) (a1 : Option Addr) (b1 c1 : Nat) (a2 : Int) (a3 : Int) (a4 : Int) : Try.prog.built 31 [(0, .slice a0 b0 c0), (1, .slice a1 b1 c1), (2, .int .i64 a2), (3, .int .i64 a3), (4, .int .i64 a4)] = some (List.toArray [.slice a0 b0 c0, .slice a1 b1 c1, .int .i64 a2, .int .i64 a3, .int .i64 a4]) := by kernel_rfl
theorem bld73_0 (a0 : Int) : Try.prog.built 73 [(0, .int .i64 a0)] = some (List.toArray [.int .i64 a0, .int .i64 0, .int .i64 0]) := by kernel_rfl
theorem bld77_0_1 (a0 : Int) (a1 : Int) : Try.prog.built 77 [(0, .int .i64 a0), (1, .int .i64 a1)] = some (List.toArray [.int .i64 a0, .int .i64 a1]) := by kernel_rfl
theorem ent101 : Ent Try.prog 101 := ent_of Try.func101 (by decide +kernel) rfl
theorem ent102 : Ent Try.prog 102 := ent_of Try.func102 (by decide +kernel) rfl
theorem ent107 : Ent Try.prog 107 := ent_of Try.func107 (by decide +kernel) rfl
theorem ent113 : Ent Try.prog 113 := ent_of Try.func113 (by decide +kernel) rfl
theorem ent114 : Ent Try.prog 114 := ent_of Try.func114 (by decide +kernel) rfl
theorem ent115 : Ent Try.prog 115 := ent_of Try.func115 (by decide +kernel) rfl
theorem ent117 : Ent Try.prog 117 := ent_of Try.func117 (by decide +kernel) rfl
theorem fa49_0 : FA Try.prog 49 0 0 := fun _ _ => by kernel_rfl
theorem fa49_1 : FA Try.prog 49 1 1 := fun _ _ => by kernel_rfl
theorem fa49_2 : FA Try.prog 49 2 2 := fun _ _ => by kernel_rfl
theorem fa49_3 : FA Try.prog 49 3 3 := fun _ _ => by kernel_rfl
theorem ovl111 : Ovl Try.prog 111 28 4 := fun args w => run_callFunc_extern Try.func111 (by kernel_rfl) (by kernel_rfl) (by kernel_rfl) (by kernel_rfl) args w
theorem ovl118 : Ovl Try.prog 118 29 4 := fun args w => run_callFunc_extern Try.func118 (by kernel_rfl) (by kernel_rfl) (by kernel_rfl) (by kernel_rfl) args w

open Classical in
noncomputable def impl_isLibraryStep (s : LibraryStep) : Bool :=
  if s.Kind = 1 then decide ((1 ≤ s.Id ∧ s.Id ≤ 99) ∧ ((s.Reader = 0) ∧ (1 ≤ s.Value ∧ s.Value ≤ 50))) else if s.Kind = 2 then decide ((1 ≤ s.Reader ∧ s.Reader ≤ 999) ∧ (s.Value = 0)) else if s.Kind = 3 then decide ((1 ≤ s.Reader ∧ s.Reader ≤ 999) ∧ (0 ≤ s.Value ∧ s.Value ≤ 1)) else if s.Kind = 5 then decide ((1 ≤ s.Reader ∧ s.Reader ≤ 999) ∧ (1 ≤ s.Value ∧ s.Value ≤ 999)) else if s.Kind = 4 then decide ((s.Reader = 0) ∧ (1 ≤ s.Value)) else if s.Kind = 6 then decide ((s.Reader = 0) ∧ (1 ≤ s.Value)) else if s.Kind = 7 then decide ((s.Reader = 0) ∧ (1 ≤ s.Value)) else false
theorem c_impl_isLibraryStep (w : World) (s : LibraryStep) : Calls Try.prog 95 #[.agg (List.toArray (encLibraryStep s))] w fun e w' => e = .returned (.bool (impl_isLibraryStep s)) ∧ Lo w w' := by
  refine calls_W 62 Try.func95 rfl rfl rfl ?_
  refine W.seq ?_
  refine W.regS (SR.box (v := .agg (List.toArray _)) (l := [.int .i64 s.Kind, .int .i64 s.Id, .int .i64 s.Reader, .int .i64 s.Value]) rfl rfl ?_)
  intro g1 w2 hg3 hk4 hs5 hb6
  have hz7 := hk4.size
  have hB8 := (Lo.refl w).lo hk4
  refine SR.q' (r_as (v := .bool false) rfl) <| SR.nil ?_
  refine W.seq ?_
  refine W.seq ?_
  refine W.regS (SR.q' (r_fa fa49_0 rfl) <| SR.q' (r_ld (v := .int .i64 s.Kind) sca3 rfl ((hb6).cell rfl)) <| SR.nil ?_)
  refine W.block ?_
  refine W.seq ?_
  refine W.regS (SR.q' (r_eq rfl rfl) <| SR.q' (r_as (v := .bool _) rfl) <| SR.nil ?_)
  refine W.cond_d rfl (fun h9 => ?_) (fun h9 => ?_)
  · refine W.seq ?_
    refine W.regJS (fun f' w' => At f' [(2, .bool (decide ((1 ≤ s.Id ∧ s.Id ≤ 99) ∧ ((s.Reader = 0) ∧ (1 ≤ s.Value ∧ s.Value ≤ 50)))))] ∧ Lo w2 w') ?_ ?_
    · refine SR.q' (r_fa fa49_1 rfl) <| SR.q' (r_ld (v := .int .i64 s.Id) sca3 rfl ((hb6).cell rfl)) <| SR.call ent51 (c_impl_isMapId w2 s.Id) rfl ?_
      rintro e w10 ⟨rfl, hk11⟩
      refine ⟨_, rfl, ?_⟩
      have hz12 := hk11.size
      have hB13 := hB8.lo hk11
      refine SR.q' (r_mv (v := .bool _) rfl) <| SR.splitD (fun h14 => ?_) (fun h14 => ?_)
      · refine SR.g' rfl (r_fa fa49_2 rfl) <| SR.g' rfl (r_ld (v := .int .i64 s.Reader) sca3 rfl (((hb6).lo hk11).cell rfl)) <| SR.g' rfl (r_eq rfl rfl) <| SR.q' (r_pick true rfl (v := .bool _) rfl) <| SR.q' (r_mv (v := .bool _) rfl) <| SR.splitD (fun h15 => ?_) (fun h15 => ?_)
        · refine SR.g' rfl (r_fa fa49_3 rfl) <| SR.g' rfl (r_ld (v := .int .i64 s.Value) sca3 rfl (((hb6).lo hk11).cell rfl)) <| SR.gcall rfl ent52 (c_impl_within w10 s.Value 1 50) rfl ?_
          rintro e w16 ⟨rfl, hk17⟩
          refine ⟨_, rfl, ?_⟩
          have hz18 := hk17.size
          have hB19 := hB13.lo hk17
          refine SR.q' (r_pick true rfl (v := .bool _) rfl) <| SR.q' (r_as (v := .bool _) rfl) <| SR.nil ?_
          exact ⟨_, rfl, ⟨⟨(eDD ((jat h15).trans (jat h14))), trivial⟩, ((hk11).trans hk17)⟩⟩
        · refine SR.s' rfl <| SR.s' rfl <| SR.s' rfl <| SR.q' (r_pick false rfl (v := .bool false) rfl) <| SR.q' (r_as (v := .bool _) rfl) <| SR.nil ?_
          exact ⟨_, rfl, ⟨⟨(eDF ((jaf h15).trans (jat h14)).2), trivial⟩, (hk11)⟩⟩
      · refine SR.s' rfl <| SR.s' rfl <| SR.s' rfl <| SR.q' (r_pick false rfl (v := .bool false) rfl) <| SR.q' (r_mv (v := .bool _) rfl) <| SR.s' rfl <| SR.s' rfl <| SR.s' rfl <| SR.q' (r_pick false rfl (v := .bool false) rfl) <| SR.q' (r_as (v := .bool _) rfl) <| SR.nil ?_
        exact ⟨_, rfl, ⟨⟨(eDF (jaf h14).2), trivial⟩, (hk11)⟩⟩
    rintro f20 w21 ⟨hat22, hk23⟩
    rw [← sets_of_at hat22]
    have hz24 := hk23.size
    have hB25 := hB8.lo hk23
    refine W.ret ?_
    refine ret1 rfl (v := .bool _) rfl ?_
    exact ⟨eR (eB (by unfold impl_isLibraryStep; rw [if_pos h9] <;> rfl)), hB25⟩
  · refine W.seq ?_
    refine W.regS (SR.q' (r_eq rfl rfl) <| SR.q' (r_as (v := .bool _) rfl) <| SR.nil ?_)
    refine W.cond_d rfl (fun h26 => ?_) (fun h26 => ?_)
    · refine W.seq ?_
      refine W.regJS (fun f' w' => At f' [(2, .bool (decide ((1 ≤ s.Reader ∧ s.Reader ≤ 999) ∧ (s.Value = 0))))] ∧ Lo w2 w') ?_ ?_
      · refine SR.q' (r_fa fa49_2 rfl) <| SR.q' (r_ld (v := .int .i64 s.Reader) sca3 rfl ((hb6).cell rfl)) <| SR.call ent54 (c_impl_isId w2 s.Reader) rfl ?_
        rintro e w27 ⟨rfl, hk28⟩
        refine ⟨_, rfl, ?_⟩
        have hz29 := hk28.size
        have hB30 := hB8.lo hk28
        refine SR.q' (r_mv (v := .bool _) rfl) <| SR.splitD (fun h31 => ?_) (fun h31 => ?_)
        · refine SR.g' rfl (r_fa fa49_3 rfl) <| SR.g' rfl (r_ld (v := .int .i64 s.Value) sca3 rfl (((hb6).lo hk28).cell rfl)) <| SR.g' rfl (r_eq rfl rfl) <| SR.q' (r_pick true rfl (v := .bool _) rfl) <| SR.q' (r_as (v := .bool _) rfl) <| SR.nil ?_
          exact ⟨_, rfl, ⟨⟨(eDD (jat h31)), trivial⟩, (hk28)⟩⟩
        · refine SR.s' rfl <| SR.s' rfl <| SR.s' rfl <| SR.q' (r_pick false rfl (v := .bool false) rfl) <| SR.q' (r_as (v := .bool _) rfl) <| SR.nil ?_
          exact ⟨_, rfl, ⟨⟨(eDF (jaf h31).2), trivial⟩, (hk28)⟩⟩
      rintro f32 w33 ⟨hat34, hk35⟩
      rw [← sets_of_at hat34]
      have hz36 := hk35.size
      have hB37 := hB8.lo hk35
      refine W.ret ?_
      refine ret1 rfl (v := .bool _) rfl ?_
      exact ⟨eR (eB (by unfold impl_isLibraryStep; rw [if_neg h9, if_pos h26] <;> rfl)), hB37⟩
    · refine W.seq ?_
      refine W.regS (SR.q' (r_eq rfl rfl) <| SR.q' (r_as (v := .bool _) rfl) <| SR.nil ?_)
      refine W.cond_d rfl (fun h38 => ?_) (fun h38 => ?_)
      · refine W.seq ?_
        refine W.regJS (fun f' w' => At f' [(2, .bool (decide ((1 ≤ s.Reader ∧ s.Reader ≤ 999) ∧ (0 ≤ s.Value ∧ s.Value ≤ 1))))] ∧ Lo w2 w') ?_ ?_
        · refine SR.q' (r_fa fa49_2 rfl) <| SR.q' (r_ld (v := .int .i64 s.Reader) sca3 rfl ((hb6).cell rfl)) <| SR.call ent54 (c_impl_isId w2 s.Reader) rfl ?_
          rintro e w39 ⟨rfl, hk40⟩
          refine ⟨_, rfl, ?_⟩
          have hz41 := hk40.size
          have hB42 := hB8.lo hk40
          refine SR.q' (r_mv (v := .bool _) rfl) <| SR.splitD (fun h43 => ?_) (fun h43 => ?_)
          · refine SR.g' rfl (r_fa fa49_3 rfl) <| SR.g' rfl (r_ld (v := .int .i64 s.Value) sca3 rfl (((hb6).lo hk40).cell rfl)) <| SR.gcall rfl ent52 (c_impl_within w39 s.Value 0 1) rfl ?_
            rintro e w44 ⟨rfl, hk45⟩
            refine ⟨_, rfl, ?_⟩
            have hz46 := hk45.size
            have hB47 := hB42.lo hk45
            refine SR.q' (r_pick true rfl (v := .bool _) rfl) <| SR.q' (r_as (v := .bool _) rfl) <| SR.nil ?_
            exact ⟨_, rfl, ⟨⟨(eDD (jat h43)), trivial⟩, ((hk40).trans hk45)⟩⟩
          · refine SR.s' rfl <| SR.s' rfl <| SR.s' rfl <| SR.q' (r_pick false rfl (v := .bool false) rfl) <| SR.q' (r_as (v := .bool _) rfl) <| SR.nil ?_
            exact ⟨_, rfl, ⟨⟨(eDF (jaf h43).2), trivial⟩, (hk40)⟩⟩
        rintro f48 w49 ⟨hat50, hk51⟩
        rw [← sets_of_at hat50]
        have hz52 := hk51.size
        have hB53 := hB8.lo hk51
        refine W.ret ?_
        refine ret1 rfl (v := .bool _) rfl ?_
        exact ⟨eR (eB (by unfold impl_isLibraryStep; rw [if_neg h9, if_neg h26, if_pos h38] <;> rfl)), hB53⟩
      · refine W.seq ?_
        refine W.regS (SR.q' (r_eq rfl rfl) <| SR.q' (r_as (v := .bool _) rfl) <| SR.nil ?_)
        refine W.cond_d rfl (fun h54 => ?_) (fun h54 => ?_)
        · refine W.seq ?_
          refine W.regJS (fun f' w' => At f' [(2, .bool (decide ((1 ≤ s.Reader ∧ s.Reader ≤ 999) ∧ (1 ≤ s.Value ∧ s.Value ≤ 999))))] ∧ Lo w2 w') ?_ ?_
          · refine SR.q' (r_fa fa49_2 rfl) <| SR.q' (r_ld (v := .int .i64 s.Reader) sca3 rfl ((hb6).cell rfl)) <| SR.call ent54 (c_impl_isId w2 s.Reader) rfl ?_
            rintro e w55 ⟨rfl, hk56⟩
            refine ⟨_, rfl, ?_⟩
            have hz57 := hk56.size
            have hB58 := hB8.lo hk56
            refine SR.q' (r_mv (v := .bool _) rfl) <| SR.splitD (fun h59 => ?_) (fun h59 => ?_)
            · refine SR.g' rfl (r_fa fa49_3 rfl) <| SR.g' rfl (r_ld (v := .int .i64 s.Value) sca3 rfl (((hb6).lo hk56).cell rfl)) <| SR.gcall rfl ent54 (c_impl_isId w55 s.Value) rfl ?_
              rintro e w60 ⟨rfl, hk61⟩
              refine ⟨_, rfl, ?_⟩
              have hz62 := hk61.size
              have hB63 := hB58.lo hk61
              refine SR.q' (r_pick true rfl (v := .bool _) rfl) <| SR.q' (r_as (v := .bool _) rfl) <| SR.nil ?_
              exact ⟨_, rfl, ⟨⟨(eDD (jat h59)), trivial⟩, ((hk56).trans hk61)⟩⟩
            · refine SR.s' rfl <| SR.s' rfl <| SR.s' rfl <| SR.q' (r_pick false rfl (v := .bool false) rfl) <| SR.q' (r_as (v := .bool _) rfl) <| SR.nil ?_
              exact ⟨_, rfl, ⟨⟨(eDF (jaf h59).2), trivial⟩, (hk56)⟩⟩
          rintro f64 w65 ⟨hat66, hk67⟩
          rw [← sets_of_at hat66]
          have hz68 := hk67.size
          have hB69 := hB8.lo hk67
          refine W.ret ?_
          refine ret1 rfl (v := .bool _) rfl ?_
          exact ⟨eR (eB (by unfold impl_isLibraryStep; rw [if_neg h9, if_neg h26, if_neg h38, if_pos h54] <;> rfl)), hB69⟩
        · refine W.seq ?_
          refine W.seq ?_
          refine W.regS (SR.q' (r_eq rfl rfl) <| SR.q' (r_as (v := .bool _) rfl) <| SR.nil ?_)
          refine W.cond_d rfl (fun h70 => ?_) (fun h70 => ?_)
          · refine W.skip ?_
            refine W.cond_t (congrArg Value.bool (decide_eq_true h70)) ?_
            refine W.seq ?_
            refine W.regJS (fun f' w' => At f' [(2, .bool (decide ((s.Reader = 0) ∧ (1 ≤ s.Value))))] ∧ Lo w2 w') ?_ ?_
            · refine SR.q' (r_fa fa49_2 rfl) <| SR.q' (r_ld (v := .int .i64 s.Reader) sca3 rfl ((hb6).cell rfl)) <| SR.q' (r_eq rfl rfl) <| SR.q' (r_mv (v := .bool _) rfl) <| SR.splitD (fun h71 => ?_) (fun h71 => ?_)
              · refine SR.g' rfl (r_fa fa49_3 rfl) <| SR.g' rfl (r_ld (v := .int .i64 s.Value) sca3 rfl ((hb6).cell rfl)) <| SR.g' rfl (r_ge rfl rfl) <| SR.q' (r_pick true rfl (v := .bool _) rfl) <| SR.q' (r_as (v := .bool _) rfl) <| SR.nil ?_
                exact ⟨_, rfl, ⟨⟨(eDD (jat h71)), trivial⟩, (Lo.refl _)⟩⟩
              · refine SR.s' rfl <| SR.s' rfl <| SR.s' rfl <| SR.q' (r_pick false rfl (v := .bool false) rfl) <| SR.q' (r_as (v := .bool _) rfl) <| SR.nil ?_
                exact ⟨_, rfl, ⟨⟨(eDF (jaf h71).2), trivial⟩, (Lo.refl _)⟩⟩
            rintro f72 w73 ⟨hat74, hk75⟩
            rw [← sets_of_at hat74]
            have hz76 := hk75.size
            have hB77 := hB8.lo hk75
            refine W.ret ?_
            refine ret1 rfl (v := .bool _) rfl ?_
            exact ⟨eR (eB (by unfold impl_isLibraryStep; rw [if_neg h9, if_neg h26, if_neg h38, if_neg h54, if_pos h70] <;> rfl)), hB77⟩
          · refine W.seq ?_
            refine W.regS (SR.q' (r_eq rfl rfl) <| SR.q' (r_as (v := .bool _) rfl) <| SR.nil ?_)
            refine W.cond_d rfl (fun h78 => ?_) (fun h78 => ?_)
            · refine W.skip ?_
              refine W.cond_t (congrArg Value.bool (decide_eq_true h78)) ?_
              refine W.seq ?_
              refine W.regJS (fun f' w' => At f' [(2, .bool (decide ((s.Reader = 0) ∧ (1 ≤ s.Value))))] ∧ Lo w2 w') ?_ ?_
              · refine SR.q' (r_fa fa49_2 rfl) <| SR.q' (r_ld (v := .int .i64 s.Reader) sca3 rfl ((hb6).cell rfl)) <| SR.q' (r_eq rfl rfl) <| SR.q' (r_mv (v := .bool _) rfl) <| SR.splitD (fun h79 => ?_) (fun h79 => ?_)
                · refine SR.g' rfl (r_fa fa49_3 rfl) <| SR.g' rfl (r_ld (v := .int .i64 s.Value) sca3 rfl ((hb6).cell rfl)) <| SR.g' rfl (r_ge rfl rfl) <| SR.q' (r_pick true rfl (v := .bool _) rfl) <| SR.q' (r_as (v := .bool _) rfl) <| SR.nil ?_
                  exact ⟨_, rfl, ⟨⟨(eDD (jat h79)), trivial⟩, (Lo.refl _)⟩⟩
                · refine SR.s' rfl <| SR.s' rfl <| SR.s' rfl <| SR.q' (r_pick false rfl (v := .bool false) rfl) <| SR.q' (r_as (v := .bool _) rfl) <| SR.nil ?_
                  exact ⟨_, rfl, ⟨⟨(eDF (jaf h79).2), trivial⟩, (Lo.refl _)⟩⟩
              rintro f80 w81 ⟨hat82, hk83⟩
              rw [← sets_of_at hat82]
              have hz84 := hk83.size
              have hB85 := hB8.lo hk83
              refine W.ret ?_
              refine ret1 rfl (v := .bool _) rfl ?_
              exact ⟨eR (eB (by unfold impl_isLibraryStep; rw [if_neg h9, if_neg h26, if_neg h38, if_neg h54, if_neg h70, if_pos h78] <;> rfl)), hB85⟩
            · refine W.regS (SR.q' (r_eq rfl rfl) <| SR.q' (r_as (v := .bool _) rfl) <| SR.nil ?_)
              refine W.cond_d rfl (fun h86 => ?_) (fun h86 => ?_)
              · refine W.seq ?_
                refine W.regJS (fun f' w' => At f' [(2, .bool (decide ((s.Reader = 0) ∧ (1 ≤ s.Value))))] ∧ Lo w2 w') ?_ ?_
                · refine SR.q' (r_fa fa49_2 rfl) <| SR.q' (r_ld (v := .int .i64 s.Reader) sca3 rfl ((hb6).cell rfl)) <| SR.q' (r_eq rfl rfl) <| SR.q' (r_mv (v := .bool _) rfl) <| SR.splitD (fun h87 => ?_) (fun h87 => ?_)
                  · refine SR.g' rfl (r_fa fa49_3 rfl) <| SR.g' rfl (r_ld (v := .int .i64 s.Value) sca3 rfl ((hb6).cell rfl)) <| SR.g' rfl (r_ge rfl rfl) <| SR.q' (r_pick true rfl (v := .bool _) rfl) <| SR.q' (r_as (v := .bool _) rfl) <| SR.nil ?_
                    exact ⟨_, rfl, ⟨⟨(eDD (jat h87)), trivial⟩, (Lo.refl _)⟩⟩
                  · refine SR.s' rfl <| SR.s' rfl <| SR.s' rfl <| SR.q' (r_pick false rfl (v := .bool false) rfl) <| SR.q' (r_as (v := .bool _) rfl) <| SR.nil ?_
                    exact ⟨_, rfl, ⟨⟨(eDF (jaf h87).2), trivial⟩, (Lo.refl _)⟩⟩
                rintro f88 w89 ⟨hat90, hk91⟩
                rw [← sets_of_at hat90]
                have hz92 := hk91.size
                have hB93 := hB8.lo hk91
                refine W.ret ?_
                refine ret1 rfl (v := .bool _) rfl ?_
                exact ⟨eR (eB (by unfold impl_isLibraryStep; rw [if_neg h9, if_neg h26, if_neg h38, if_neg h54, if_neg h70, if_neg h78, if_pos h86] <;> rfl)), hB93⟩
              · refine W.skip ?_
                refine W.seq ?_
                refine W.regS (SR.q' (r_as (v := .bool false) rfl) <| SR.nil ?_)
                refine W.ret ?_
                refine ret1 rfl (v := .bool _) rfl ?_
                exact ⟨eR (eB (by unfold impl_isLibraryStep; rw [if_neg h9, if_neg h26, if_neg h38, if_neg h54, if_neg h70, if_neg h78, if_neg h86] <;> rfl)), hB8⟩

theorem z_c_slices_Clone___impl_Map_impl_Map__3 (L : List LMap) (nL : Nat) (hbdL : (nL : Int) ≤ 9223372036854775807) (hleL : nL = L.length) (hp0 : (nL : Int) ≤ 1048576) (hq2 : nL = 0) : ([] : List LMap) = L := by
  first | rfl | (exact (List.eq_nil_of_length_eq_zero (by omega)).symm)
theorem c_slices_Clone___impl_Map_impl_Map_ (w : World) {AL : Option Addr} {nL cL BL : Nat}  (L : List LMap) (hL : SlR w BL encLMap 3 AL nL cL L) (hp0 : (nL : Int) ≤ 1048576) : Calls Try.prog 101 #[.slice AL nL cL] w fun e w' => ∃ (A1' : Option Addr) (n1' c1' : Nat), e = .returned (.slice A1' n1' c1') ∧ SlO w' w.heap.size encLMap 3 73 A1' n1' c1' L ∧ Lo w w' := by
  refine calls_W 8 Try.func101 rfl rfl rfl ?_
  have hbdL := hL.bound
  have hleL := hL.len
  have hBbL := hL.bd
  refine W.seq ?_
  refine W.regS (SR.q' (r_as (v := .slice none 0 0) rfl) <| SR.nil ?_)
  refine W.seq ?_
  refine W.seq ?_
  refine W.regS (SR.q' (r_mv (v := .slice _ _ _) rfl) <| SR.q' (r_eqlnil und28 rfl rfl) <| SR.nil ?_)
  refine W.cond_b rfl (fun h1 => ?_) (fun h1 => ?_)
  · have hq2 := slR_nil hL h1
    refine W.seq ?_
    refine W.regS (SR.q' (r_as (v := .slice none 0 0) rfl) <| SR.nil ?_)
    refine W.ret ?_
    refine ret1 rfl (v := .slice none 0 0) rfl ?_
    exact ⟨none, 0, 0, eR rfl, (SlO.eqv (SlO.nil (e := 73) (enc := encLMap) (fun _ => rfl) (Nat.le_refl _)) (z_c_slices_Clone___impl_Map_impl_Map__3 L nL hbdL hleL hp0 hq2)), (Lo.refl w)⟩
  · refine W.skip ?_
    refine W.seq ?_
    refine W.regS (SR.lit (vs := []) (L := ([] : List LMap)) (enc := encLMap) tel28 (fun _ => rfl) rfl rfl rfl (by decide) ?_)
    intro g4 w5 hg6 hk7 hO8
    have hz9 := hk7.size
    have hB10 := (Lo.refl w).lo hk7
    refine SR.q' (r_mv (v := .slice _ _ _) rfl) <| SR.app tel28 rfl rfl (hO8) ((hL).lo hk7) (fun _ => rfl) (by omega) (by omega) ?_
    intro A11 c12 w13 hk14 hO15 hN16
    have hz17 := hk14.size
    have hB18 := hB10.step hk14 (fun i_ hi_ e' => by have := ((hO8)).base_le e'; first | omega | (exfalso; omega) | exact e' | exact .inl e' | exact .inr e')
    rw [List.nil_append] at hO15
    refine SR.q' (r_as (v := .slice _ _ _) rfl) <| SR.nil ?_
    refine W.ret ?_
    refine ret1 rfl (v := .slice _ _ _) rfl ?_
    exact ⟨A11, 0 + nL, c12, eR rfl, ((hO15).down (by omega)), hB18⟩

theorem z_c_slices_Insert___impl_Map_impl_Map__2 (L : List LMap) (cL : Nat) (nL : Nat) (hbdL : (nL : Int) ≤ 9223372036854775807) (hleL : nL = L.length) (i_ : Nat) (V : List LMap) (nV : Nat) (hbdV : (nV : Int) ≤ 9223372036854775807) (hleV : nV = V.length) (hp0 : 0 ≤ (i_ : Int)) (hp1 : (i_ : Int) ≤ (nL : Int)) (hp2 : ((nL + nV : Nat) : Int) ≤ 1048576) (h1 : (nV : Int) = 0) : L = L.take (i_ : Int).toNat ++ V ++ L.drop (i_ : Int).toNat := by
  first | (have hV0 : V = [] := List.eq_nil_of_length_eq_zero (by omega); subst hV0; simp; done) | (exact ins_end hleL (show nL ≤ i_ by omega)) | (exact ins_grow hleL hleV (by omega) (by omega))
theorem z_c_slices_Insert___impl_Map_impl_Map__12 (L : List LMap) (cL : Nat) (nL : Nat) (hbdL : (nL : Int) ≤ 9223372036854775807) (hleL : nL = L.length) (i_ : Nat) (V : List LMap) (nV : Nat) (hbdV : (nV : Int) ≤ 9223372036854775807) (hleV : nV = V.length) (hp0 : 0 ≤ (i_ : Int)) (hp1 : (i_ : Int) ≤ (nL : Int)) (hp2 : ((nL + nV : Nat) : Int) ≤ 1048576) (h1 : ¬ ((nV : Int) = 0)) (h3 : (i_ : Int) = (nL : Int)) : L ++ V = L.take (i_ : Int).toNat ++ V ++ L.drop (i_ : Int).toNat := by
  first | (have hV0 : V = [] := List.eq_nil_of_length_eq_zero (by omega); subst hV0; simp; done) | (exact ins_end hleL (show nL ≤ i_ by omega)) | (exact ins_grow hleL hleV (by omega) (by omega))
theorem z_c_slices_Insert___impl_Map_impl_Map__56 (L : List LMap) (cL : Nat) (nL : Nat) (hbdL : (nL : Int) ≤ 9223372036854775807) (hleL : nL = L.length) (i_ : Nat) (V : List LMap) (nV : Nat) (hbdV : (nV : Int) ≤ 9223372036854775807) (hleV : nV = V.length) (hp0 : 0 ≤ (i_ : Int)) (hp1 : (i_ : Int) ≤ (nL : Int)) (hp2 : ((nL + nV : Nat) : Int) ≤ 1048576) (h1 : ¬ ((nV : Int) = 0)) (h3 : ¬ ((i_ : Int) = (nL : Int))) (h13 : (cL : Int) < ((nL : Int) + (nV : Int))) : (((L.take i_) ++ List.replicate ((nL + nV) - i_) (⟨0, 0, 0⟩ : LMap)).take i_ ++ V.take nV ++ ((L.take i_) ++ List.replicate ((nL + nV) - i_) (⟨0, 0, 0⟩ : LMap)).drop (i_ + nV)).take (i_ + nV) ++ (L.drop i_).take (nL - i_) ++ (((L.take i_) ++ List.replicate ((nL + nV) - i_) (⟨0, 0, 0⟩ : LMap)).take i_ ++ V.take nV ++ ((L.take i_) ++ List.replicate ((nL + nV) - i_) (⟨0, 0, 0⟩ : LMap)).drop (i_ + nV)).drop ((i_ + nV) + (nL - i_)) = L.take (i_ : Int).toNat ++ V ++ L.drop (i_ : Int).toNat := by
  first | (have hV0 : V = [] := List.eq_nil_of_length_eq_zero (by omega); subst hV0; simp; done) | (exact ins_end hleL (show nL ≤ i_ by omega)) | (exact ins_grow hleL hleV (by omega) (by omega))
theorem c_slices_Insert___impl_Map_impl_Map_ (w : World) {AL : Option Addr} {nL cL BL : Nat}  (L : List LMap) (hL : SlO w BL encLMap 3 73 AL nL cL L) (i : Int) {AV : Option Addr} {nV cV BV : Nat}  (V : List LMap) (hV : SlO w BV encLMap 3 73 AV nV cV V) (hp0 : 0 ≤ i) (hp1 : i ≤ (nL : Int)) (hp2 : ((nL + nV : Nat) : Int) ≤ 1048576) (hp3 : ∀ b_, AV = some ⟨b_, 0, none⟩ → ¬ AL = some ⟨b_, 0, none⟩) : Calls Try.prog 107 #[.slice AL nL cL, .int .i64 i, .slice AV nV cV] w fun e w' => ∃ (A1' : Option Addr) (n1' c1' : Nat), e = .returned (.slice A1' n1' c1') ∧ SlO w' BL encLMap 3 73 A1' n1' c1' (L.take i.toNat ++ V ++ L.drop i.toNat) ∧ (∀ b_, A1' = some ⟨b_, 0, none⟩ → (AL = some ⟨b_, 0, none⟩) ∨ w.heap.size ≤ b_) ∧ Kp (fun b_ => AL = some ⟨b_, 0, none⟩) w w' := by
  refine calls_W 95 Try.func107 rfl rfl rfl ?_
  have hcpL := hL.rd.cap
  have hbbL := hL.rd.bd
  have hbdL := hL.rd.bound
  have hleL := hL.len
  have hBbL := hL.bd
  have hcpV := hV.rd.cap
  have hbbV := hV.rd.bd
  have hbdV := hV.rd.bound
  have hleV := hV.len
  have hBbV := hV.bd
  obtain ⟨i_, rfl⟩ := Int.eq_ofNat_of_zero_le hp0
  refine W.seq ?_
  refine W.regS (SR.q' (r_as (v := .slice none 0 0) rfl) <| SR.nil ?_)
  refine W.seq ?_
  refine W.regS (SR.q' (r_mv (v := .slice _ _ _) rfl) <| SR.q' (r_mv (v := .int .i64 _) rfl) <| SR.q' (r_cutl (l := i_) tsl28 rfl rfl rfl (by omega)) <| SR.nil ?_)
  refine W.seq ?_
  refine W.regS (SR.q' (r_mv (v := .slice _ _ _) rfl) <| SR.q' (r_len und28 rfl) <| SR.q' (r_as (v := .int .i64 _) rfl) <| SR.nil ?_)
  refine W.seq ?_
  refine W.seq ?_
  refine W.regS (SR.q' (r_mv (v := .int .i64 _) rfl) <| SR.q' (r_eq rfl rfl) <| SR.nil ?_)
  refine W.cond_d rfl (fun h1 => ?_) (fun h1 => ?_)
  · refine W.seq ?_
    refine W.regS (SR.q' (r_mv (v := .slice _ _ _) rfl) <| SR.q' (r_as (v := .slice _ _ _) rfl) <| SR.nil ?_)
    refine W.ret ?_
    refine ret1 rfl (v := .slice _ _ _) rfl ?_
    exact ⟨AL, nL, cL, eR rfl, (SlO.eqv (hL) (z_c_slices_Insert___impl_Map_impl_Map__2 L cL nL hbdL hleL i_ V nV hbdV hleV hp0 hp1 hp2 h1)), (fun b_ h_ => .inl (h_)), (Kp.refl w : Kp (fun b_ => AL = some ⟨b_, 0, none⟩) w w)⟩
  · refine W.skip ?_
    refine W.seq ?_
    refine W.regS (SR.q' (r_mv (v := .slice _ _ _) rfl) <| SR.q' (r_len und28 rfl) <| SR.q' (r_as (v := .int .i64 _) rfl) <| SR.nil ?_)
    refine W.seq ?_
    refine W.seq ?_
    refine W.regS (SR.q' (r_mv (v := .int .i64 _) rfl) <| SR.q' (r_mv (v := .int .i64 _) rfl) <| SR.q' (r_eq rfl rfl) <| SR.nil ?_)
    refine W.cond_d rfl (fun h3 => ?_) (fun h3 => ?_)
    · refine W.seq ?_
      refine W.regS (SR.q' (r_mv (v := .slice _ _ _) rfl) <| SR.q' (r_mv (v := .slice _ _ _) rfl) <| SR.app tel28 rfl rfl (hL) ((hV).rd) (fun _ => rfl) (by omega) (by omega) ?_)
      intro A4 c5 w6 hk7 hO8 hN9
      have hz10 := hk7.size
      have hB11 := (Kp.refl w : Kp (fun b_ => AL = some ⟨b_, 0, none⟩) w w).step hk7 (fun i_ hi_ e' => by have := ((hL)).base_le e'; first | omega | (exfalso; omega) | exact e' | exact .inl e' | exact .inr e')
      refine SR.q' (r_as (v := .slice _ _ _) rfl) <| SR.nil ?_
      refine W.ret ?_
      refine ret1 rfl (v := .slice _ _ _) rfl ?_
      exact ⟨A4, nL + nV, c5, eR rfl, (SlO.eqv (hO8) (z_c_slices_Insert___impl_Map_impl_Map__12 L cL nL hbdL hleL i_ V nV hbdV hleV hp0 hp1 hp2 h1 h3)), (fun b_ h_ => (hN9 b_ h_).elim (fun h => (fun b_ h_ => .inl (h_)) b_ (h.trans h_)) (fun h => .inr (by omega))), hB11⟩
    · refine W.skip ?_
      refine W.seq ?_
      refine W.seq ?_
      refine W.regS (SR.q' (r_mv (v := .int .i64 _) rfl) <| SR.q' (r_mv (v := .int .i64 _) rfl) <| SR.q' (r_add rfl rfl (by omega)) <| SR.q' (r_mv (v := .slice _ _ _) rfl) <| SR.q' (r_cap und28 rfl) <| SR.q' (r_gt rfl rfl) <| SR.nil ?_)
      refine W.cond_d rfl (fun h13 => ?_) (fun h13 => ?_)
      · refine W.seq ?_
        refine W.regS (SR.q' (r_mv (v := .slice _ _ _) rfl) <| SR.q' (r_mv (v := .int .i64 _) rfl) <| SR.q' (r_cuth (h := i_) tsl28 rfl rfl rfl (Nat.le_trans (by omega : i_ ≤ nL) (hL).rd.cap)) <| SR.q' (r_mv (v := .int .i64 _) rfl) <| SR.q' (r_mv (v := .int .i64 _) rfl) <| SR.q' (r_add rfl rfl (by omega)) <| SR.q' (r_mv (v := .int .i64 _) rfl) <| SR.q' (r_sub rfl rfl (by omega)) <| SR.appZ (k := ((nL + nV) - i_)) (zx := (⟨0, 0, 0⟩ : LMap)) tel28 und3 rfl rfl (by first | rfl | (rw [show (((nL : Int) + (nV : Int)) - (i_ : Int) : Int) = ((((nL + nV) - i_) : Nat) : Int) from by omega]; rfl)) ((hL).head (h := i_) (by omega)) (by omega) (by omega) (by omega) (by omega) ?_)
        intro g14 c15 w16 hg17 hk18 hO19
        have hz20 := hk18.size
        have hB21 := (Kp.refl w : Kp (fun b_ => AL = some ⟨b_, 0, none⟩) w w).lo hk18
        have hd22 : ¬ AL = some ⟨g14, 0, none⟩ := fun e' => by have := (hL).base_le e'; omega
        have hd23 : ¬ AV = some ⟨g14, 0, none⟩ := fun e' => by have := (hV).base_le e'; omega
        refine SR.q' (r_as (v := .slice _ _ _) rfl) <| SR.nil ?_
        refine W.seq ?_
        refine W.regS (SR.q' (r_mv (v := .slice _ _ _) rfl) <| SR.q' (r_mv (v := .int .i64 _) rfl) <| SR.q' (r_cutl (l := i_) tsl28 rfl rfl rfl (by omega)) <| SR.q' (r_mv (v := .slice _ _ _) rfl) <| SR.copyO (l := i_) (q := nV) tel28 rfl rfl (hO19) (((hV).lo hk18).rd) (by simp only [Nat.min_def]; split <;> omega) (by omega) (fun _ => rfl) ?_)
        intro w24 hk25 hO26
        have hz27 := hk25.size
        have hB28 := hB21.step hk25 (fun i_ hi_ e' => by have := ((hO19)).base_le e'; first | omega | (exfalso; omega) | exact e' | exact .inl e' | exact .inr e')
        refine SR.nil ?_
        refine W.seq ?_
        refine W.regA (Kp (fun b_ => (some (⟨g14, 0, none⟩ : Addr)) = some ⟨b_, 0, none⟩) w24) (fun f' w' => At f' [(0, .slice AL nL cL), (1, .int .i64 (i_ : Int)), (2, .slice AV nV cV), (6, .slice none 0 0), (7, .int .i64 (nV : Int)), (8, .int .i64 (nL : Int)), (9, .slice (some (⟨g14, 0, none⟩ : Addr)) (i_ + ((nL + nV) - i_)) c15)] ∧ (Kp (fun b_ => (some (⟨g14, 0, none⟩ : Addr)) = some ⟨b_, 0, none⟩) w24 w') ∧ (SlO w' w.heap.size encLMap 3 73 (some (⟨g14, 0, none⟩ : Addr)) (i_ + ((nL + nV) - i_)) c15 ((((L.take i_) ++ List.replicate ((nL + nV) - i_) (⟨0, 0, 0⟩ : LMap)).take i_ ++ V.take nV ++ ((L.take i_) ++ List.replicate ((nL + nV) - i_) (⟨0, 0, 0⟩ : LMap)).drop (i_ + nV)).take (i_ + nV) ++ (L.drop i_).take (nL - i_) ++ (((L.take i_) ++ List.replicate ((nL + nV) - i_) (⟨0, 0, 0⟩ : LMap)).take i_ ++ V.take nV ++ ((L.take i_) ++ List.replicate ((nL + nV) - i_) (⟨0, 0, 0⟩ : LMap)).drop (i_ + nV)).drop ((i_ + nV) + (nL - i_))))) mo ?_ ?_
        · intro w39 hk40
          have hz41 := hk40.size
          have hB42 := hB28.lo hk40
          refine AH.take 0 rfl (by kernel_rfl) trivial ((Kp.refl w24 : Kp (fun b_ => (some (⟨g14, 0, none⟩ : Addr)) = some ⟨b_, 0, none⟩) w24 w24).lo hk40) (fun w' hw' => r_mv (v := .slice _ _ _) rfl) <| AH.take 1 rfl (by kernel_rfl) trivial ((Kp.refl w24 : Kp (fun b_ => (some (⟨g14, 0, none⟩ : Addr)) = some ⟨b_, 0, none⟩) w24 w24).lo hk40) (fun w' hw' => r_mv (v := .int .i64 _) rfl) <| AH.take 2 rfl (by kernel_rfl) trivial ((Kp.refl w24 : Kp (fun b_ => (some (⟨g14, 0, none⟩ : Addr)) = some ⟨b_, 0, none⟩) w24 w24).lo hk40) (fun w' hw' => r_mv (v := .int .i64 _) rfl) <| AH.take 3 rfl (by kernel_rfl) trivial ((Kp.refl w24 : Kp (fun b_ => (some (⟨g14, 0, none⟩ : Addr)) = some ⟨b_, 0, none⟩) w24 w24).lo hk40) (fun w' hw' => r_add rfl rfl (by omega)) <| AH.take 4 rfl (by kernel_rfl) trivial ((Kp.refl w24 : Kp (fun b_ => (some (⟨g14, 0, none⟩ : Addr)) = some ⟨b_, 0, none⟩) w24 w24).lo hk40) (fun w' hw' => r_cutl (l := (i_ + nV)) tsl28 rfl rfl (by omega) (by omega)) <| AH.take 5 rfl (by kernel_rfl) trivial ((Kp.refl w24 : Kp (fun b_ => (some (⟨g14, 0, none⟩ : Addr)) = some ⟨b_, 0, none⟩) w24 w24).lo hk40) (fun w' hw' => r_mv (v := .slice _ _ _) rfl) <| AH.take 6 rfl (by kernel_rfl) trivial ((Kp.refl w24 : Kp (fun b_ => (some (⟨g14, 0, none⟩ : Addr)) = some ⟨b_, 0, none⟩) w24 w24).lo hk40) (fun w' hw' => r_mv (v := .int .i64 _) rfl) <| AH.take 7 rfl (by kernel_rfl) trivial ((Kp.refl w24 : Kp (fun b_ => (some (⟨g14, 0, none⟩ : Addr)) = some ⟨b_, 0, none⟩) w24 w24).lo hk40) (fun w' hw' => r_cutl (l := i_) tsl28 rfl rfl rfl (by omega)) <| AH.br [8] (by kernel_rfl) rfl ⟨Br.mk' rfl trivial ?_, trivial⟩
          refine SR.copyO (l := (i_ + nV)) (q := nL - i_) tel28 rfl rfl ((hO26).lo hk40) (((((hL).lo hk18).kp hk25 (fun b_ hb e' => by have h1 := ((hO19)).base_le e'; have h2 := ((hL).lo hk18).base_le hb; have h3 := (hL).base_le hb; omega)).rd.cutl (l := i_) (by omega)).lo hk40) (by simp only [Nat.min_def]; split <;> omega) (by omega) (fun _ => rfl) ?_
          intro w43 hk44 hO45
          have hz46 := hk44.size
          have hB47 := hB42.step hk44 (fun i_ hi_ e' => by have := (((hO26).lo hk40)).base_le e'; first | omega | (exfalso; omega) | exact e' | exact .inl e' | exact .inr e')
          have hS48 := ((Kp.refl w24 : Kp (fun b_ => (some (⟨g14, 0, none⟩ : Addr)) = some ⟨b_, 0, none⟩) w24 w24).lo hk40).step hk44 (fun _ _ e => e)
          refine SR.nil ⟨hS48, _, rfl, ?_⟩
          refine AH.done (by kernel_rfl) ?_
          exact ⟨⟨rfl, rfl, rfl, rfl, rfl, rfl, rfl, trivial⟩, hS48, (hO45)⟩
        rintro f50 w51 ⟨hat53, hR52, hm49⟩
        rw [← sets_of_at hat53]
        have hz54 := hR52.size
        have hB55 := hB28.step hR52 (fun i_ hi_ e' => by have := ((hO26)).base_le e'; first | omega | (exfalso; omega) | exact e' | exact .inl e' | exact .inr e')
        refine W.seq ?_
        refine W.regS (SR.q' (r_mv (v := .slice _ _ _) rfl) <| SR.q' (r_as (v := .slice _ _ _) rfl) <| SR.nil ?_)
        refine W.ret ?_
        refine ret1 rfl (v := .slice _ _ _) rfl ?_
        exact ⟨(some (⟨g14, 0, none⟩ : Addr)), i_ + ((nL + nV) - i_), c15, eR rfl, (SlO.eqv ((hm49).down (by omega)) (z_c_slices_Insert___impl_Map_impl_Map__56 L cL nL hbdL hleL i_ V nV hbdV hleV hp0 hp1 hp2 h1 h3 h13)), (fun b_ h => .inr (by have := (hm49).base_le h; omega)), hB55⟩
      · refine W.skip ?_
        refine W.seq ?_
        have hrL := hL.rd
        have hrV := hV.rd
        obtain ⟨gL, cs, rfl, hRw, htk, hcc⟩ := hL.raw (hrL.some (by omega))
        obtain ⟨gV, cv, rfl, hRv, _, _⟩ := hV.raw (hrV.some (by omega))
        have hne : gV ≠ gL := fun e => hp3 gV rfl (by rw [e])
        refine W.regS (SR.q' (r_mv (v := .slice _ _ _) rfl) <| SR.q' (r_mv (v := .int .i64 _) rfl) <| SR.q' (r_mv (v := .int .i64 _) rfl) <| SR.q' (r_add rfl rfl (by omega)) <| SR.q' (r_cuth (h := nL + nV) tsl28 rfl rfl (by omega) (by omega)) <| SR.q' (r_as (v := .slice _ _ _) rfl) <| SR.nil ?_)
        refine W.seq ?_
        refine W.seq ?_
        refine W.regS (SR.q' (r_mv (v := .slice _ _ _) rfl) <| SR.q' (r_mv (v := .slice _ _ _) rfl) <| SR.q' (r_mv (v := .int .i64 _) rfl) <| SR.q' (r_mv (v := .int .i64 _) rfl) <| SR.q' (r_add rfl rfl (by omega)) <| SR.q' (r_cutl (l := i_ + nV) tsl28 rfl rfl (by omega) (by omega)) <| SR.over ovl111 tel28 rfl rfl hne hRv.heap hRw (by omega) <| SR.q' (r_not rfl) <| SR.nil ?_)
        refine W.cond_t rfl ?_
        refine W.seq ?_
        refine W.regT 8 mo (by kernel_rfl) ?_
        intro wd hkd
        refine TR.q' (r_mv (v := .slice _ _ _) rfl) <| TR.q' (r_mv (v := .int .i64 _) rfl) <| TR.q' (r_mv (v := .int .i64 _) rfl) <| TR.q' (r_add rfl rfl (by omega)) <| TR.q' (r_cutl (l := i_ + nV) tsl28 rfl rfl (by omega) (by omega)) <| TR.q' (r_mv (v := .slice _ _ _) rfl) <| TR.q' (r_mv (v := .int .i64 _) rfl) <| TR.q' (r_cutl (l := i_) tsl28 rfl rfl (by omega) (by omega)) <| TR.nil ?_
        refine SR.copyR (l := i_ + nV) (m := nL - i_) (vs := (L.drop i_).flatMap encLMap) tel28 rfl rfl (hRw.lo hkd) (by simp only [Nat.min_def]; split <;> omega) (by omega) (by rw [flat_len (sz := 3) (fun _ => rfl), List.length_drop, ← hleL]) (fun _ => ((hrL.lo hkd).cutl (l := i_) (by omega)).flat) (fun h => (hrL.cutl (l := i_) (by omega)).some (by omega)) (fun u hu => by obtain ⟨q, _, hu⟩ := List.mem_flatMap.1 hu; exact List.all_eq_true.1 (show (encLMap q).all (·.oneCell') = true from rfl) u hu) ?_
        intro we hke hRe
        refine SR.nil ?_
        refine W.seq ?_
        refine W.regS (SR.q' (r_mv (v := .slice _ _ _) rfl) <| SR.q' (r_mv (v := .int .i64 _) rfl) <| SR.q' (r_cutl (l := i_) tsl28 rfl rfl (by omega) (by omega)) <| SR.q' (r_mv (v := .slice _ _ _) rfl) <| SR.copyR (l := i_) (m := nV) (vs := V.flatMap encLMap) tel28 rfl rfl hRe (by simp only [Nat.min_def]; split <;> omega) (by omega) (by rw [flat_len (sz := 3) (fun _ => rfl), ← hleV]) (fun _ => ((((hV).lo hkd).kp hke (fun b hb e' => hne (by injection hb with hb; injection hb with hb; rw [hb, e'])))).rd.flat) (fun h => hrV.some h) (fun u hu => by obtain ⟨q, _, hu⟩ := List.mem_flatMap.1 hu; exact List.all_eq_true.1 (show (encLMap q).all (·.oneCell') = true from rfl) u hu) ?_)
        intro wf hkf hRf
        refine SR.nil ?_
        have hBf := ((((Kp.refl w : Kp (fun b_ => (some (⟨gL, 0, none⟩ : Addr)) = some ⟨b_, 0, none⟩) w w)).lo hkd).step hke (fun _ _ e' => by rw [e'])).step hkf (fun _ _ e' => by rw [e'])
        refine W.seq ?_
        refine W.regS (SR.q' (r_mv (v := .slice _ _ _) rfl) <| SR.q' (r_as (v := .slice _ _ _) rfl) <| SR.nil ?_)
        refine W.ret ?_
        refine ret1 rfl (v := .slice _ _ _) rfl ?_
        exact ⟨(some (⟨gL, 0, none⟩ : Addr)), nL + nV, cL, eR rfl, hRf.own (by omega) (by rw [List.length_append, List.length_append, List.length_take, List.length_drop]; omega) (fun _ => rfl) (ins_flat (enc := encLMap) (sz := 3) (i := i_) (cs := cs) (fun _ => rfl) hleL hleV (by omega) (by rw [hRw.len]; exact Nat.mul_le_mul_right 3 (show nL + nV ≤ cL by omega)) htk), (fun b_ h_ => .inl h_), hBf⟩

theorem z_c_slices_Clone___impl_Away_impl_Away__3 (L : List Away) (nL : Nat) (hbdL : (nL : Int) ≤ 9223372036854775807) (hleL : nL = L.length) (hp0 : (nL : Int) ≤ 1048576) (hq2 : nL = 0) : ([] : List Away) = L := by
  first | rfl | (exact (List.eq_nil_of_length_eq_zero (by omega)).symm)
theorem c_slices_Clone___impl_Away_impl_Away_ (w : World) {AL : Option Addr} {nL cL BL : Nat}  (L : List Away) (hL : SlR w BL encAway 2 AL nL cL L) (hp0 : (nL : Int) ≤ 1048576) : Calls Try.prog 102 #[.slice AL nL cL] w fun e w' => ∃ (A1' : Option Addr) (n1' c1' : Nat), e = .returned (.slice A1' n1' c1') ∧ SlO w' w.heap.size encAway 2 77 A1' n1' c1' L ∧ Lo w w' := by
  refine calls_W 8 Try.func102 rfl rfl rfl ?_
  have hbdL := hL.bound
  have hleL := hL.len
  have hBbL := hL.bd
  refine W.seq ?_
  refine W.regS (SR.q' (r_as (v := .slice none 0 0) rfl) <| SR.nil ?_)
  refine W.seq ?_
  refine W.seq ?_
  refine W.regS (SR.q' (r_mv (v := .slice _ _ _) rfl) <| SR.q' (r_eqlnil und29 rfl rfl) <| SR.nil ?_)
  refine W.cond_b rfl (fun h1 => ?_) (fun h1 => ?_)
  · have hq2 := slR_nil hL h1
    refine W.seq ?_
    refine W.regS (SR.q' (r_as (v := .slice none 0 0) rfl) <| SR.nil ?_)
    refine W.ret ?_
    refine ret1 rfl (v := .slice none 0 0) rfl ?_
    exact ⟨none, 0, 0, eR rfl, (SlO.eqv (SlO.nil (e := 77) (enc := encAway) (fun _ => rfl) (Nat.le_refl _)) (z_c_slices_Clone___impl_Away_impl_Away__3 L nL hbdL hleL hp0 hq2)), (Lo.refl w)⟩
  · refine W.skip ?_
    refine W.seq ?_
    refine W.regS (SR.lit (vs := []) (L := ([] : List Away)) (enc := encAway) tel29 (fun _ => rfl) rfl rfl rfl (by decide) ?_)
    intro g4 w5 hg6 hk7 hO8
    have hz9 := hk7.size
    have hB10 := (Lo.refl w).lo hk7
    refine SR.q' (r_mv (v := .slice _ _ _) rfl) <| SR.app tel29 rfl rfl (hO8) ((hL).lo hk7) (fun _ => rfl) (by omega) (by omega) ?_
    intro A11 c12 w13 hk14 hO15 hN16
    have hz17 := hk14.size
    have hB18 := hB10.step hk14 (fun i_ hi_ e' => by have := ((hO8)).base_le e'; first | omega | (exfalso; omega) | exact e' | exact .inl e' | exact .inr e')
    rw [List.nil_append] at hO15
    refine SR.q' (r_as (v := .slice _ _ _) rfl) <| SR.nil ?_
    refine W.ret ?_
    refine ret1 rfl (v := .slice _ _ _) rfl ?_
    exact ⟨A11, 0 + nL, c12, eR rfl, ((hO15).down (by omega)), hB18⟩

theorem z_c_slices_Insert___impl_Away_impl_Away__2 (L : List Away) (cL : Nat) (nL : Nat) (hbdL : (nL : Int) ≤ 9223372036854775807) (hleL : nL = L.length) (i_ : Nat) (V : List Away) (nV : Nat) (hbdV : (nV : Int) ≤ 9223372036854775807) (hleV : nV = V.length) (hp0 : 0 ≤ (i_ : Int)) (hp1 : (i_ : Int) ≤ (nL : Int)) (hp2 : ((nL + nV : Nat) : Int) ≤ 1048576) (h1 : (nV : Int) = 0) : L = L.take (i_ : Int).toNat ++ V ++ L.drop (i_ : Int).toNat := by
  first | (have hV0 : V = [] := List.eq_nil_of_length_eq_zero (by omega); subst hV0; simp; done) | (exact ins_end hleL (show nL ≤ i_ by omega)) | (exact ins_grow hleL hleV (by omega) (by omega))
theorem z_c_slices_Insert___impl_Away_impl_Away__12 (L : List Away) (cL : Nat) (nL : Nat) (hbdL : (nL : Int) ≤ 9223372036854775807) (hleL : nL = L.length) (i_ : Nat) (V : List Away) (nV : Nat) (hbdV : (nV : Int) ≤ 9223372036854775807) (hleV : nV = V.length) (hp0 : 0 ≤ (i_ : Int)) (hp1 : (i_ : Int) ≤ (nL : Int)) (hp2 : ((nL + nV : Nat) : Int) ≤ 1048576) (h1 : ¬ ((nV : Int) = 0)) (h3 : (i_ : Int) = (nL : Int)) : L ++ V = L.take (i_ : Int).toNat ++ V ++ L.drop (i_ : Int).toNat := by
  first | (have hV0 : V = [] := List.eq_nil_of_length_eq_zero (by omega); subst hV0; simp; done) | (exact ins_end hleL (show nL ≤ i_ by omega)) | (exact ins_grow hleL hleV (by omega) (by omega))
theorem z_c_slices_Insert___impl_Away_impl_Away__56 (L : List Away) (cL : Nat) (nL : Nat) (hbdL : (nL : Int) ≤ 9223372036854775807) (hleL : nL = L.length) (i_ : Nat) (V : List Away) (nV : Nat) (hbdV : (nV : Int) ≤ 9223372036854775807) (hleV : nV = V.length) (hp0 : 0 ≤ (i_ : Int)) (hp1 : (i_ : Int) ≤ (nL : Int)) (hp2 : ((nL + nV : Nat) : Int) ≤ 1048576) (h1 : ¬ ((nV : Int) = 0)) (h3 : ¬ ((i_ : Int) = (nL : Int))) (h13 : (cL : Int) < ((nL : Int) + (nV : Int))) : (((L.take i_) ++ List.replicate ((nL + nV) - i_) (⟨0, 0⟩ : Away)).take i_ ++ V.take nV ++ ((L.take i_) ++ List.replicate ((nL + nV) - i_) (⟨0, 0⟩ : Away)).drop (i_ + nV)).take (i_ + nV) ++ (L.drop i_).take (nL - i_) ++ (((L.take i_) ++ List.replicate ((nL + nV) - i_) (⟨0, 0⟩ : Away)).take i_ ++ V.take nV ++ ((L.take i_) ++ List.replicate ((nL + nV) - i_) (⟨0, 0⟩ : Away)).drop (i_ + nV)).drop ((i_ + nV) + (nL - i_)) = L.take (i_ : Int).toNat ++ V ++ L.drop (i_ : Int).toNat := by
  first | (have hV0 : V = [] := List.eq_nil_of_length_eq_zero (by omega); subst hV0; simp; done) | (exact ins_end hleL (show nL ≤ i_ by omega)) | (exact ins_grow hleL hleV (by omega) (by omega))
theorem c_slices_Insert___impl_Away_impl_Away_ (w : World) {AL : Option Addr} {nL cL BL : Nat}  (L : List Away) (hL : SlO w BL encAway 2 77 AL nL cL L) (i : Int) {AV : Option Addr} {nV cV BV : Nat}  (V : List Away) (hV : SlO w BV encAway 2 77 AV nV cV V) (hp0 : 0 ≤ i) (hp1 : i ≤ (nL : Int)) (hp2 : ((nL + nV : Nat) : Int) ≤ 1048576) (hp3 : ∀ b_, AV = some ⟨b_, 0, none⟩ → ¬ AL = some ⟨b_, 0, none⟩) : Calls Try.prog 114 #[.slice AL nL cL, .int .i64 i, .slice AV nV cV] w fun e w' => ∃ (A1' : Option Addr) (n1' c1' : Nat), e = .returned (.slice A1' n1' c1') ∧ SlO w' BL encAway 2 77 A1' n1' c1' (L.take i.toNat ++ V ++ L.drop i.toNat) ∧ (∀ b_, A1' = some ⟨b_, 0, none⟩ → (AL = some ⟨b_, 0, none⟩) ∨ w.heap.size ≤ b_) ∧ Kp (fun b_ => AL = some ⟨b_, 0, none⟩) w w' := by
  refine calls_W 95 Try.func114 rfl rfl rfl ?_
  have hcpL := hL.rd.cap
  have hbbL := hL.rd.bd
  have hbdL := hL.rd.bound
  have hleL := hL.len
  have hBbL := hL.bd
  have hcpV := hV.rd.cap
  have hbbV := hV.rd.bd
  have hbdV := hV.rd.bound
  have hleV := hV.len
  have hBbV := hV.bd
  obtain ⟨i_, rfl⟩ := Int.eq_ofNat_of_zero_le hp0
  refine W.seq ?_
  refine W.regS (SR.q' (r_as (v := .slice none 0 0) rfl) <| SR.nil ?_)
  refine W.seq ?_
  refine W.regS (SR.q' (r_mv (v := .slice _ _ _) rfl) <| SR.q' (r_mv (v := .int .i64 _) rfl) <| SR.q' (r_cutl (l := i_) tsl29 rfl rfl rfl (by omega)) <| SR.nil ?_)
  refine W.seq ?_
  refine W.regS (SR.q' (r_mv (v := .slice _ _ _) rfl) <| SR.q' (r_len und29 rfl) <| SR.q' (r_as (v := .int .i64 _) rfl) <| SR.nil ?_)
  refine W.seq ?_
  refine W.seq ?_
  refine W.regS (SR.q' (r_mv (v := .int .i64 _) rfl) <| SR.q' (r_eq rfl rfl) <| SR.nil ?_)
  refine W.cond_d rfl (fun h1 => ?_) (fun h1 => ?_)
  · refine W.seq ?_
    refine W.regS (SR.q' (r_mv (v := .slice _ _ _) rfl) <| SR.q' (r_as (v := .slice _ _ _) rfl) <| SR.nil ?_)
    refine W.ret ?_
    refine ret1 rfl (v := .slice _ _ _) rfl ?_
    exact ⟨AL, nL, cL, eR rfl, (SlO.eqv (hL) (z_c_slices_Insert___impl_Away_impl_Away__2 L cL nL hbdL hleL i_ V nV hbdV hleV hp0 hp1 hp2 h1)), (fun b_ h_ => .inl (h_)), (Kp.refl w : Kp (fun b_ => AL = some ⟨b_, 0, none⟩) w w)⟩
  · refine W.skip ?_
    refine W.seq ?_
    refine W.regS (SR.q' (r_mv (v := .slice _ _ _) rfl) <| SR.q' (r_len und29 rfl) <| SR.q' (r_as (v := .int .i64 _) rfl) <| SR.nil ?_)
    refine W.seq ?_
    refine W.seq ?_
    refine W.regS (SR.q' (r_mv (v := .int .i64 _) rfl) <| SR.q' (r_mv (v := .int .i64 _) rfl) <| SR.q' (r_eq rfl rfl) <| SR.nil ?_)
    refine W.cond_d rfl (fun h3 => ?_) (fun h3 => ?_)
    · refine W.seq ?_
      refine W.regS (SR.q' (r_mv (v := .slice _ _ _) rfl) <| SR.q' (r_mv (v := .slice _ _ _) rfl) <| SR.app tel29 rfl rfl (hL) ((hV).rd) (fun _ => rfl) (by omega) (by omega) ?_)
      intro A4 c5 w6 hk7 hO8 hN9
      have hz10 := hk7.size
      have hB11 := (Kp.refl w : Kp (fun b_ => AL = some ⟨b_, 0, none⟩) w w).step hk7 (fun i_ hi_ e' => by have := ((hL)).base_le e'; first | omega | (exfalso; omega) | exact e' | exact .inl e' | exact .inr e')
      refine SR.q' (r_as (v := .slice _ _ _) rfl) <| SR.nil ?_
      refine W.ret ?_
      refine ret1 rfl (v := .slice _ _ _) rfl ?_
      exact ⟨A4, nL + nV, c5, eR rfl, (SlO.eqv (hO8) (z_c_slices_Insert___impl_Away_impl_Away__12 L cL nL hbdL hleL i_ V nV hbdV hleV hp0 hp1 hp2 h1 h3)), (fun b_ h_ => (hN9 b_ h_).elim (fun h => (fun b_ h_ => .inl (h_)) b_ (h.trans h_)) (fun h => .inr (by omega))), hB11⟩
    · refine W.skip ?_
      refine W.seq ?_
      refine W.seq ?_
      refine W.regS (SR.q' (r_mv (v := .int .i64 _) rfl) <| SR.q' (r_mv (v := .int .i64 _) rfl) <| SR.q' (r_add rfl rfl (by omega)) <| SR.q' (r_mv (v := .slice _ _ _) rfl) <| SR.q' (r_cap und29 rfl) <| SR.q' (r_gt rfl rfl) <| SR.nil ?_)
      refine W.cond_d rfl (fun h13 => ?_) (fun h13 => ?_)
      · refine W.seq ?_
        refine W.regS (SR.q' (r_mv (v := .slice _ _ _) rfl) <| SR.q' (r_mv (v := .int .i64 _) rfl) <| SR.q' (r_cuth (h := i_) tsl29 rfl rfl rfl (Nat.le_trans (by omega : i_ ≤ nL) (hL).rd.cap)) <| SR.q' (r_mv (v := .int .i64 _) rfl) <| SR.q' (r_mv (v := .int .i64 _) rfl) <| SR.q' (r_add rfl rfl (by omega)) <| SR.q' (r_mv (v := .int .i64 _) rfl) <| SR.q' (r_sub rfl rfl (by omega)) <| SR.appZ (k := ((nL + nV) - i_)) (zx := (⟨0, 0⟩ : Away)) tel29 und3 rfl rfl (by first | rfl | (rw [show (((nL : Int) + (nV : Int)) - (i_ : Int) : Int) = ((((nL + nV) - i_) : Nat) : Int) from by omega]; rfl)) ((hL).head (h := i_) (by omega)) (by omega) (by omega) (by omega) (by omega) ?_)
        intro g14 c15 w16 hg17 hk18 hO19
        have hz20 := hk18.size
        have hB21 := (Kp.refl w : Kp (fun b_ => AL = some ⟨b_, 0, none⟩) w w).lo hk18
        have hd22 : ¬ AL = some ⟨g14, 0, none⟩ := fun e' => by have := (hL).base_le e'; omega
        have hd23 : ¬ AV = some ⟨g14, 0, none⟩ := fun e' => by have := (hV).base_le e'; omega
        refine SR.q' (r_as (v := .slice _ _ _) rfl) <| SR.nil ?_
        refine W.seq ?_
        refine W.regS (SR.q' (r_mv (v := .slice _ _ _) rfl) <| SR.q' (r_mv (v := .int .i64 _) rfl) <| SR.q' (r_cutl (l := i_) tsl29 rfl rfl rfl (by omega)) <| SR.q' (r_mv (v := .slice _ _ _) rfl) <| SR.copyO (l := i_) (q := nV) tel29 rfl rfl (hO19) (((hV).lo hk18).rd) (by simp only [Nat.min_def]; split <;> omega) (by omega) (fun _ => rfl) ?_)
        intro w24 hk25 hO26
        have hz27 := hk25.size
        have hB28 := hB21.step hk25 (fun i_ hi_ e' => by have := ((hO19)).base_le e'; first | omega | (exfalso; omega) | exact e' | exact .inl e' | exact .inr e')
        refine SR.nil ?_
        refine W.seq ?_
        refine W.regA (Kp (fun b_ => (some (⟨g14, 0, none⟩ : Addr)) = some ⟨b_, 0, none⟩) w24) (fun f' w' => At f' [(0, .slice AL nL cL), (1, .int .i64 (i_ : Int)), (2, .slice AV nV cV), (6, .slice none 0 0), (7, .int .i64 (nV : Int)), (8, .int .i64 (nL : Int)), (9, .slice (some (⟨g14, 0, none⟩ : Addr)) (i_ + ((nL + nV) - i_)) c15)] ∧ (Kp (fun b_ => (some (⟨g14, 0, none⟩ : Addr)) = some ⟨b_, 0, none⟩) w24 w') ∧ (SlO w' w.heap.size encAway 2 77 (some (⟨g14, 0, none⟩ : Addr)) (i_ + ((nL + nV) - i_)) c15 ((((L.take i_) ++ List.replicate ((nL + nV) - i_) (⟨0, 0⟩ : Away)).take i_ ++ V.take nV ++ ((L.take i_) ++ List.replicate ((nL + nV) - i_) (⟨0, 0⟩ : Away)).drop (i_ + nV)).take (i_ + nV) ++ (L.drop i_).take (nL - i_) ++ (((L.take i_) ++ List.replicate ((nL + nV) - i_) (⟨0, 0⟩ : Away)).take i_ ++ V.take nV ++ ((L.take i_) ++ List.replicate ((nL + nV) - i_) (⟨0, 0⟩ : Away)).drop (i_ + nV)).drop ((i_ + nV) + (nL - i_))))) mo ?_ ?_
        · intro w39 hk40
          have hz41 := hk40.size
          have hB42 := hB28.lo hk40
          refine AH.take 0 rfl (by kernel_rfl) trivial ((Kp.refl w24 : Kp (fun b_ => (some (⟨g14, 0, none⟩ : Addr)) = some ⟨b_, 0, none⟩) w24 w24).lo hk40) (fun w' hw' => r_mv (v := .slice _ _ _) rfl) <| AH.take 1 rfl (by kernel_rfl) trivial ((Kp.refl w24 : Kp (fun b_ => (some (⟨g14, 0, none⟩ : Addr)) = some ⟨b_, 0, none⟩) w24 w24).lo hk40) (fun w' hw' => r_mv (v := .int .i64 _) rfl) <| AH.take 2 rfl (by kernel_rfl) trivial ((Kp.refl w24 : Kp (fun b_ => (some (⟨g14, 0, none⟩ : Addr)) = some ⟨b_, 0, none⟩) w24 w24).lo hk40) (fun w' hw' => r_mv (v := .int .i64 _) rfl) <| AH.take 3 rfl (by kernel_rfl) trivial ((Kp.refl w24 : Kp (fun b_ => (some (⟨g14, 0, none⟩ : Addr)) = some ⟨b_, 0, none⟩) w24 w24).lo hk40) (fun w' hw' => r_add rfl rfl (by omega)) <| AH.take 4 rfl (by kernel_rfl) trivial ((Kp.refl w24 : Kp (fun b_ => (some (⟨g14, 0, none⟩ : Addr)) = some ⟨b_, 0, none⟩) w24 w24).lo hk40) (fun w' hw' => r_cutl (l := (i_ + nV)) tsl29 rfl rfl (by omega) (by omega)) <| AH.take 5 rfl (by kernel_rfl) trivial ((Kp.refl w24 : Kp (fun b_ => (some (⟨g14, 0, none⟩ : Addr)) = some ⟨b_, 0, none⟩) w24 w24).lo hk40) (fun w' hw' => r_mv (v := .slice _ _ _) rfl) <| AH.take 6 rfl (by kernel_rfl) trivial ((Kp.refl w24 : Kp (fun b_ => (some (⟨g14, 0, none⟩ : Addr)) = some ⟨b_, 0, none⟩) w24 w24).lo hk40) (fun w' hw' => r_mv (v := .int .i64 _) rfl) <| AH.take 7 rfl (by kernel_rfl) trivial ((Kp.refl w24 : Kp (fun b_ => (some (⟨g14, 0, none⟩ : Addr)) = some ⟨b_, 0, none⟩) w24 w24).lo hk40) (fun w' hw' => r_cutl (l := i_) tsl29 rfl rfl rfl (by omega)) <| AH.br [8] (by kernel_rfl) rfl ⟨Br.mk' rfl trivial ?_, trivial⟩
          refine SR.copyO (l := (i_ + nV)) (q := nL - i_) tel29 rfl rfl ((hO26).lo hk40) (((((hL).lo hk18).kp hk25 (fun b_ hb e' => by have h1 := ((hO19)).base_le e'; have h2 := ((hL).lo hk18).base_le hb; have h3 := (hL).base_le hb; omega)).rd.cutl (l := i_) (by omega)).lo hk40) (by simp only [Nat.min_def]; split <;> omega) (by omega) (fun _ => rfl) ?_
          intro w43 hk44 hO45
          have hz46 := hk44.size
          have hB47 := hB42.step hk44 (fun i_ hi_ e' => by have := (((hO26).lo hk40)).base_le e'; first | omega | (exfalso; omega) | exact e' | exact .inl e' | exact .inr e')
          have hS48 := ((Kp.refl w24 : Kp (fun b_ => (some (⟨g14, 0, none⟩ : Addr)) = some ⟨b_, 0, none⟩) w24 w24).lo hk40).step hk44 (fun _ _ e => e)
          refine SR.nil ⟨hS48, _, rfl, ?_⟩
          refine AH.done (by kernel_rfl) ?_
          exact ⟨⟨rfl, rfl, rfl, rfl, rfl, rfl, rfl, trivial⟩, hS48, (hO45)⟩
        rintro f50 w51 ⟨hat53, hR52, hm49⟩
        rw [← sets_of_at hat53]
        have hz54 := hR52.size
        have hB55 := hB28.step hR52 (fun i_ hi_ e' => by have := ((hO26)).base_le e'; first | omega | (exfalso; omega) | exact e' | exact .inl e' | exact .inr e')
        refine W.seq ?_
        refine W.regS (SR.q' (r_mv (v := .slice _ _ _) rfl) <| SR.q' (r_as (v := .slice _ _ _) rfl) <| SR.nil ?_)
        refine W.ret ?_
        refine ret1 rfl (v := .slice _ _ _) rfl ?_
        exact ⟨(some (⟨g14, 0, none⟩ : Addr)), i_ + ((nL + nV) - i_), c15, eR rfl, (SlO.eqv ((hm49).down (by omega)) (z_c_slices_Insert___impl_Away_impl_Away__56 L cL nL hbdL hleL i_ V nV hbdV hleV hp0 hp1 hp2 h1 h3 h13)), (fun b_ h => .inr (by have := (hm49).base_le h; omega)), hB55⟩
      · refine W.skip ?_
        refine W.seq ?_
        have hrL := hL.rd
        have hrV := hV.rd
        obtain ⟨gL, cs, rfl, hRw, htk, hcc⟩ := hL.raw (hrL.some (by omega))
        obtain ⟨gV, cv, rfl, hRv, _, _⟩ := hV.raw (hrV.some (by omega))
        have hne : gV ≠ gL := fun e => hp3 gV rfl (by rw [e])
        refine W.regS (SR.q' (r_mv (v := .slice _ _ _) rfl) <| SR.q' (r_mv (v := .int .i64 _) rfl) <| SR.q' (r_mv (v := .int .i64 _) rfl) <| SR.q' (r_add rfl rfl (by omega)) <| SR.q' (r_cuth (h := nL + nV) tsl29 rfl rfl (by omega) (by omega)) <| SR.q' (r_as (v := .slice _ _ _) rfl) <| SR.nil ?_)
        refine W.seq ?_
        refine W.seq ?_
        refine W.regS (SR.q' (r_mv (v := .slice _ _ _) rfl) <| SR.q' (r_mv (v := .slice _ _ _) rfl) <| SR.q' (r_mv (v := .int .i64 _) rfl) <| SR.q' (r_mv (v := .int .i64 _) rfl) <| SR.q' (r_add rfl rfl (by omega)) <| SR.q' (r_cutl (l := i_ + nV) tsl29 rfl rfl (by omega) (by omega)) <| SR.over ovl118 tel29 rfl rfl hne hRv.heap hRw (by omega) <| SR.q' (r_not rfl) <| SR.nil ?_)
        refine W.cond_t rfl ?_
        refine W.seq ?_
        refine W.regT 8 mo (by kernel_rfl) ?_
        intro wd hkd
        refine TR.q' (r_mv (v := .slice _ _ _) rfl) <| TR.q' (r_mv (v := .int .i64 _) rfl) <| TR.q' (r_mv (v := .int .i64 _) rfl) <| TR.q' (r_add rfl rfl (by omega)) <| TR.q' (r_cutl (l := i_ + nV) tsl29 rfl rfl (by omega) (by omega)) <| TR.q' (r_mv (v := .slice _ _ _) rfl) <| TR.q' (r_mv (v := .int .i64 _) rfl) <| TR.q' (r_cutl (l := i_) tsl29 rfl rfl (by omega) (by omega)) <| TR.nil ?_
        refine SR.copyR (l := i_ + nV) (m := nL - i_) (vs := (L.drop i_).flatMap encAway) tel29 rfl rfl (hRw.lo hkd) (by simp only [Nat.min_def]; split <;> omega) (by omega) (by rw [flat_len (sz := 2) (fun _ => rfl), List.length_drop, ← hleL]) (fun _ => ((hrL.lo hkd).cutl (l := i_) (by omega)).flat) (fun h => (hrL.cutl (l := i_) (by omega)).some (by omega)) (fun u hu => by obtain ⟨q, _, hu⟩ := List.mem_flatMap.1 hu; exact List.all_eq_true.1 (show (encAway q).all (·.oneCell') = true from rfl) u hu) ?_
        intro we hke hRe
        refine SR.nil ?_
        refine W.seq ?_
        refine W.regS (SR.q' (r_mv (v := .slice _ _ _) rfl) <| SR.q' (r_mv (v := .int .i64 _) rfl) <| SR.q' (r_cutl (l := i_) tsl29 rfl rfl (by omega) (by omega)) <| SR.q' (r_mv (v := .slice _ _ _) rfl) <| SR.copyR (l := i_) (m := nV) (vs := V.flatMap encAway) tel29 rfl rfl hRe (by simp only [Nat.min_def]; split <;> omega) (by omega) (by rw [flat_len (sz := 2) (fun _ => rfl), ← hleV]) (fun _ => ((((hV).lo hkd).kp hke (fun b hb e' => hne (by injection hb with hb; injection hb with hb; rw [hb, e'])))).rd.flat) (fun h => hrV.some h) (fun u hu => by obtain ⟨q, _, hu⟩ := List.mem_flatMap.1 hu; exact List.all_eq_true.1 (show (encAway q).all (·.oneCell') = true from rfl) u hu) ?_)
        intro wf hkf hRf
        refine SR.nil ?_
        have hBf := ((((Kp.refl w : Kp (fun b_ => (some (⟨gL, 0, none⟩ : Addr)) = some ⟨b_, 0, none⟩) w w)).lo hkd).step hke (fun _ _ e' => by rw [e'])).step hkf (fun _ _ e' => by rw [e'])
        refine W.seq ?_
        refine W.regS (SR.q' (r_mv (v := .slice _ _ _) rfl) <| SR.q' (r_as (v := .slice _ _ _) rfl) <| SR.nil ?_)
        refine W.ret ?_
        refine ret1 rfl (v := .slice _ _ _) rfl ?_
        exact ⟨(some (⟨gL, 0, none⟩ : Addr)), nL + nV, cL, eR rfl, hRf.own (by omega) (by rw [List.length_append, List.length_append, List.length_take, List.length_drop]; omega) (fun _ => rfl) (ins_flat (enc := encAway) (sz := 2) (i := i_) (cs := cs) (fun _ => rfl) hleL hleV (by omega) (by rw [hRw.len]; exact Nat.mul_le_mul_right 2 (show nL + nV ≤ cL by omega)) htk), (fun b_ h_ => .inl h_), hBf⟩

theorem z_c_slices_Delete___impl_Away_impl_Away__2 (L : List Away) (cL : Nat) (nL : Nat) (hbdL : (nL : Int) ≤ 9223372036854775807) (hleL : nL = L.length) (i : Int) (j : Int) (hp0 : 0 ≤ i) (hp1 : i ≤ j) (hp2 : j ≤ (nL : Int)) (h1 : i = j) : L = L.take i.toNat ++ L.drop j.toNat := by
  first | rfl | (obtain rfl : i = j := (by omega); exact (List.take_append_drop ..).symm)
theorem z_c_slices_Delete___impl_Away_impl_Away__35 (L : List Away) (cL : Nat) (nL : Nat) (hbdL : (nL : Int) ≤ 9223372036854775807) (hleL : nL = L.length) (i : Int) (j : Int) (hp0 : 0 ≤ i) (hp1 : i ≤ j) (hp2 : j ≤ (nL : Int)) (h1 : ¬ (i = j)) : (L.take i.toNat) ++ (L.drop j.toNat) = L.take i.toNat ++ L.drop j.toNat := by
  first | rfl | (obtain rfl : i = j := (by omega); exact (List.take_append_drop ..).symm)
theorem c_slices_Delete___impl_Away_impl_Away_ (w : World) {AL : Option Addr} {nL cL BL : Nat}  (L : List Away) (hL : SlO w BL encAway 2 77 AL nL cL L) (i : Int) (j : Int) (hp0 : 0 ≤ i) (hp1 : i ≤ j) (hp2 : j ≤ (nL : Int)) : Calls Try.prog 115 #[.slice AL nL cL, .int .i64 i, .int .i64 j] w fun e w' => ∃ (A1' : Option Addr) (n1' c1' : Nat), e = .returned (.slice A1' n1' c1') ∧ SlO w' BL encAway 2 77 A1' n1' c1' (L.take i.toNat ++ L.drop j.toNat) ∧ (∀ b_, A1' = some ⟨b_, 0, none⟩ → (AL = some ⟨b_, 0, none⟩) ∨ w.heap.size ≤ b_) ∧ Kp (fun b_ => AL = some ⟨b_, 0, none⟩) w w' := by
  refine calls_W 33 Try.func115 rfl rfl rfl ?_
  have hcpL := hL.rd.cap
  have hbbL := hL.rd.bd
  have hbdL := hL.rd.bound
  have hleL := hL.len
  have hBbL := hL.bd
  refine W.seq ?_
  refine W.regS (SR.q' (r_as (v := .slice none 0 0) rfl) <| SR.nil ?_)
  refine W.seq ?_
  refine W.regS (SR.q' (r_mv (v := .slice _ _ _) rfl) <| SR.q' (r_mv (v := .int .i64 _) rfl) <| SR.q' (r_mv (v := .int .i64 _) rfl) <| SR.q' (r_mv (v := .slice _ _ _) rfl) <| SR.q' (r_len und29 rfl) <| SR.q' (r_cut3 (l := i.toNat) (h' := j.toNat) (m' := nL) tsl29 rfl rfl rfl rfl (by omega) (by omega) rfl (by omega) (by omega) (Nat.le_trans (by omega : nL ≤ nL) (hL).rd.cap)) <| SR.nil ?_)
  refine W.seq ?_
  refine W.seq ?_
  refine W.regS (SR.q' (r_mv (v := .int .i64 _) rfl) <| SR.q' (r_mv (v := .int .i64 _) rfl) <| SR.q' (r_eq rfl rfl) <| SR.nil ?_)
  refine W.cond_d rfl (fun h1 => ?_) (fun h1 => ?_)
  · refine W.seq ?_
    refine W.regS (SR.q' (r_mv (v := .slice _ _ _) rfl) <| SR.q' (r_as (v := .slice _ _ _) rfl) <| SR.nil ?_)
    refine W.ret ?_
    refine ret1 rfl (v := .slice _ _ _) rfl ?_
    exact ⟨AL, nL, cL, eR rfl, (SlO.eqv (hL) (z_c_slices_Delete___impl_Away_impl_Away__2 L cL nL hbdL hleL i j hp0 hp1 hp2 h1)), (fun b_ h_ => .inl (h_)), (Kp.refl w : Kp (fun b_ => AL = some ⟨b_, 0, none⟩) w w)⟩
  · refine W.skip ?_
    refine W.seq ?_
    refine W.regS (SR.q' (r_mv (v := .slice _ _ _) rfl) <| SR.q' (r_len und29 rfl) <| SR.q' (r_as (v := .int .i64 _) rfl) <| SR.nil ?_)
    refine W.seq ?_
    refine W.regA (Kp (fun b_ => AL = some ⟨b_, 0, none⟩) w) (fun f' w' => At f' [(0, .slice AL (i.toNat + (nL - j.toNat)) cL), (6, .slice none 0 0), (7, .int .i64 (nL : Int))] ∧ (Kp (fun b_ => AL = some ⟨b_, 0, none⟩) w w') ∧ (SlO w' BL encAway 2 77 AL (i.toNat + (nL - j.toNat)) cL ((L.take i.toNat) ++ (L.drop j.toNat)))) mo ?_ ?_
    · intro w13 hk14
      have hz15 := hk14.size
      have hB16 := (Kp.refl w : Kp (fun b_ => AL = some ⟨b_, 0, none⟩) w w).lo hk14
      refine AH.take 0 rfl (by kernel_rfl) trivial ((Kp.refl w : Kp (fun b_ => AL = some ⟨b_, 0, none⟩) w w).lo hk14) (fun w' hw' => r_mv (v := .slice _ _ _) rfl) <| AH.take 1 rfl (by kernel_rfl) trivial ((Kp.refl w : Kp (fun b_ => AL = some ⟨b_, 0, none⟩) w w).lo hk14) (fun w' hw' => r_mv (v := .int .i64 _) rfl) <| AH.take 2 rfl (by kernel_rfl) trivial ((Kp.refl w : Kp (fun b_ => AL = some ⟨b_, 0, none⟩) w w).lo hk14) (fun w' hw' => r_cuth (h := i.toNat) tsl29 rfl rfl (by omega) (Nat.le_trans (by omega : i.toNat ≤ nL) (hL).rd.cap)) <| AH.take 3 rfl (by kernel_rfl) trivial ((Kp.refl w : Kp (fun b_ => AL = some ⟨b_, 0, none⟩) w w).lo hk14) (fun w' hw' => r_mv (v := .slice _ _ _) rfl) <| AH.take 4 rfl (by kernel_rfl) trivial ((Kp.refl w : Kp (fun b_ => AL = some ⟨b_, 0, none⟩) w w).lo hk14) (fun w' hw' => r_mv (v := .int .i64 _) rfl) <| AH.take 5 rfl (by kernel_rfl) trivial ((Kp.refl w : Kp (fun b_ => AL = some ⟨b_, 0, none⟩) w w).lo hk14) (fun w' hw' => r_cutl (l := j.toNat) tsl29 rfl rfl (by omega) (by omega)) <| AH.br [6] (by kernel_rfl) rfl ⟨Br.mk' rfl trivial ?_, trivial⟩
      refine SR.appI tel29 rfl rfl (((hL).head (h := i.toNat) (by omega)).lo hk14) (((hL).rd.cutl (l := j.toNat) (by omega)).lo hk14) (fun _ => rfl) (by omega) ?_
      intro w17 hk18 hO19
      have hz20 := hk18.size
      have hB21 := hB16.step hk18 (fun i_ hi_ e' => by have := ((((hL).head (h := i.toNat) (by omega)).lo hk14)).base_le e'; first | omega | (exfalso; omega) | exact e' | exact .inl e' | exact .inr e')
      have hS22 := ((Kp.refl w : Kp (fun b_ => AL = some ⟨b_, 0, none⟩) w w).lo hk14).step hk18 (fun _ _ e => e)
      refine SR.nil ⟨hS22, _, rfl, ?_⟩
      refine AH.take 7 rfl (by kernel_rfl) trivial (hS22) (fun w' hw' => r_as (v := .slice _ _ _) rfl) <| AH.done (by kernel_rfl) ?_
      exact ⟨⟨rfl, rfl, rfl, trivial⟩, hS22, (hO19)⟩
    rintro f24 w25 ⟨hat27, hR26, hm23⟩
    rw [← sets_of_at hat27]
    have hz28 := hR26.size
    have hB29 := (Kp.refl w : Kp (fun b_ => AL = some ⟨b_, 0, none⟩) w w).step hR26 (fun i_ hi_ e' => by have := ((hL)).base_le e'; first | omega | (exfalso; omega) | exact e' | exact .inl e' | exact .inr e')
    refine W.seq ?_
    refine W.regS (SR.q' (r_mv (v := .slice _ _ _) rfl) <| SR.q' (r_mv (v := .slice _ _ _) rfl) <| SR.q' (r_len und29 rfl) <| SR.q' (r_mv (v := .int .i64 _) rfl) <| SR.q' (r_cut (l := (i.toNat + (nL - j.toNat))) (h := nL) tsl29 rfl rfl rfl rfl rfl (by omega) (by omega)) <| SR.clearO (l := (i.toNat + (nL - j.toNat))) (k := nL - (i.toNat + (nL - j.toNat))) tel29 rfl (hm23) (by omega) (by omega) (by kernel_rfl) ?_)
    intro w30 hk31 hO32
    have hz33 := hk31.size
    have hB34 := hB29.step hk31 (fun i_ hi_ e' => by have := ((hm23)).base_le e'; first | omega | (exfalso; omega) | exact e' | exact .inl e' | exact .inr e')
    refine SR.nil ?_
    refine W.seq ?_
    refine W.regS (SR.q' (r_mv (v := .slice _ _ _) rfl) <| SR.q' (r_as (v := .slice _ _ _) rfl) <| SR.nil ?_)
    refine W.ret ?_
    refine ret1 rfl (v := .slice _ _ _) rfl ?_
    exact ⟨AL, i.toNat + (nL - j.toNat), cL, eR rfl, (SlO.eqv (hO32) (z_c_slices_Delete___impl_Away_impl_Away__35 L cL nL hbdL hleL i j hp0 hp1 hp2 h1)), (fun b_ h_ => .inl (h_)), hB34⟩

theorem c__impl_Library__own (w : World) (x : Library) {Ax_Maps : Option Addr} {nx_Maps cx_Maps Bx_Maps : Nat} (hx_Maps : SlR w Bx_Maps encLMap 3 Ax_Maps nx_Maps cx_Maps x.Maps) {Ax_Away : Option Addr} {nx_Away cx_Away Bx_Away : Nat} (hx_Away : SlR w Bx_Away encAway 2 Ax_Away nx_Away cx_Away x.Away) (hp0 : (nx_Maps : Int) ≤ 1048576) (hp1 : (nx_Away : Int) ≤ 1048576) : Calls Try.prog 78 #[.agg (List.toArray [.slice Ax_Maps nx_Maps cx_Maps, .slice Ax_Away nx_Away cx_Away, .int .i64 x.Bought, .int .i64 x.Dropped, .int .i64 x.Mended])] w fun e w' => ∃ (A1' : Option Addr) (n1' c1' : Nat) (A2' : Option Addr) (n2' c2' : Nat), e = .returned (.agg (List.toArray [.slice A1' n1' c1', .slice A2' n2' c2', .int .i64 x.Bought, .int .i64 x.Dropped, .int .i64 x.Mended])) ∧ SlO w' w.heap.size encLMap 3 73 A1' n1' c1' x.Maps ∧ SlO w' w.heap.size encAway 2 77 A2' n2' c2' x.Away ∧ (∀ b_, A1' = some ⟨b_, 0, none⟩ → ¬ A2' = some ⟨b_, 0, none⟩) ∧ Lo w w' := by
  refine calls_W 12 Try.func78 rfl rfl rfl ?_
  have hbdx_Maps := hx_Maps.bound
  have hlex_Maps := hx_Maps.len
  have hBbx_Maps := hx_Maps.bd
  have hbdx_Away := hx_Away.bound
  have hlex_Away := hx_Away.len
  have hBbx_Away := hx_Away.bd
  refine W.seq ?_
  refine W.regS (SR.box (v := .agg (List.toArray _)) (l := [.slice Ax_Maps nx_Maps cx_Maps, .slice Ax_Away nx_Away cx_Away, .int .i64 x.Bought, .int .i64 x.Dropped, .int .i64 x.Mended]) rfl rfl ?_)
  intro g1 w2 hg3 hk4 hs5 hb6
  have hz7 := hk4.size
  have hB8 := (Lo.refl w).lo hk4
  refine SR.alloc (l := [.slice none 0 0, .slice none 0 0, .int .i64 0, .int .i64 0, .int .i64 0]) tz31 rfl ?_
  intro g9 w10 hg11 hk12 hs13 hb14
  have hz15 := hk12.size
  have hB16 := hB8.lo hk12
  refine SR.nil ?_
  refine W.seq ?_
  have hm17 := ((hx_Maps).lo hk4).lo hk12
  have hm18 := ((hx_Away).lo hk4).lo hk12
  refine W.regA (Kp (fun b_ => b_ = g1) w10) (fun f' w' => ∃ (A58 : Option Addr), ∃ (n59 : Nat), ∃ (c60 : Nat), ∃ (A69 : Option Addr), ∃ (n70 : Nat), ∃ (c71 : Nat), At f' [(1, .pointer (some ((⟨g1, 0, none⟩ : Addr)))), (2, .pointer (some ((⟨g9, 0, none⟩ : Addr))))] ∧ (Kp (fun b_ => b_ = g1) w10 w') ∧ (SlO w' w10.heap.size encLMap 3 73 A58 n59 c60 x.Maps) ∧ (SlO w' w10.heap.size encAway 2 77 A69 n70 c71 x.Away) ∧ (Blk w' g1 31 [.slice A58 n59 c60, .slice A69 n70 c71, .int .i64 x.Bought, .int .i64 x.Dropped, .int .i64 x.Mended]) ∧ (∀ b_, A58 = some ⟨b_, 0, none⟩ → ¬ A69 = some ⟨b_, 0, none⟩) ∧ (n59 = (x.Maps).length) ∧ ((n59 : Int) ≤ 9223372036854775807) ∧ (n70 = (x.Away).length) ∧ ((n70 : Int) ≤ 9223372036854775807)) mo ?_ ?_
  · intro w52 hk53
    have hz54 := hk53.size
    have hB55 := hB16.lo hk53
    refine AH.take 0 rfl (by kernel_rfl) trivial ((Kp.refl w10 : Kp (fun b_ => b_ = g1) w10 w10).lo hk53) (fun w' hw' => r_fa fa31_0 rfl) <| AH.take 3 rfl (by kernel_rfl) trivial ((Kp.refl w10 : Kp (fun b_ => b_ = g1) w10 w10).lo hk53) (fun w' hw' => r_fa fa31_1 rfl) <| AH.br [1, 4] (by kernel_rfl) rfl ⟨Br.mk' rfl trivial ?_, Br.mk' rfl trivial ?_, trivial⟩
    · refine SR.q' (r_ld (v := .slice Ax_Maps nx_Maps cx_Maps) sca28 rfl ((((hb6).lo hk12).lo hk53).cell rfl)) ?_
      refine SR.nil ⟨(Kp.refl w10 : Kp (fun b_ => b_ = g1) w10 w10).lo hk53, _, rfl, ?_⟩
      refine AH.br [2, 4] (by kernel_rfl) rfl ⟨Br.mk' rfl trivial ?_, Br.mk' rfl trivial ?_, trivial⟩
      · refine SR.call ent101 (c_slices_Clone___impl_Map_impl_Map_ w52 x.Maps (((hm17).lo hk53)) (by omega)) rfl ?_
        rintro e w56 ⟨A58, n59, c60, rfl, hO61, hk57⟩
        refine ⟨_, rfl, ?_⟩
        have hz62 := hk57.size
        have hB63 := hB55.lo hk57
        have hS64 := ((Kp.refl w10 : Kp (fun b_ => b_ = g1) w10 w10).lo hk53).lo hk57
        have hl65 := hO61.len
        have hl66 := hO61.rd.bound
        refine SR.nil ⟨hS64, _, rfl, ?_⟩
        refine AH.br [4] (by kernel_rfl) rfl ⟨Br.mk' rfl trivial ?_, trivial⟩
        refine SR.q' (r_ld (v := .slice Ax_Away nx_Away cx_Away) sca29 rfl (((((hb6).lo hk12).lo hk53).lo hk57).cell rfl)) ?_
        refine SR.nil ⟨hS64, _, rfl, ?_⟩
        refine AH.take 6 rfl (by kernel_rfl) trivial (hS64) (fun w' hw' => r_fa fa31_0 rfl) <| AH.br [5] (by kernel_rfl) rfl ⟨Br.mk' rfl trivial ?_, trivial⟩
        refine SR.call ent102 (c_slices_Clone___impl_Away_impl_Away_ w56 x.Away ((((hm18).lo hk53).lo hk57)) (by omega)) rfl ?_
        rintro e w67 ⟨A69, n70, c71, rfl, hO72, hk68⟩
        refine ⟨_, rfl, ?_⟩
        have hz73 := hk68.size
        have hB74 := hB63.lo hk68
        have hS75 := (hS64).lo hk68
        have hl76 := hO72.len
        have hl77 := hO72.rd.bound
        refine SR.nil ⟨hS75, _, rfl, ?_⟩
        refine AH.br [7] (by kernel_rfl) rfl ⟨Br.mk' rfl trivial ?_, trivial⟩
        refine SR.store (o := 0) (vs := [.slice A58 n59 c60]) sca28.2 rfl rfl rfl rfl (((((hb6).lo hk12).lo hk53).lo hk57).lo hk68) (Nat.le_of_ble_eq_true rfl) rfl ?_
        intro w78 hk79 hs80 hb81
        have hz82 := hk79.size
        have hB83 := hB74.new hk79 (by omega)
        have hS84 := (hS75).step hk79 (fun _ _ e => e)
        refine SR.nil ⟨hS84, _, rfl, ?_⟩
        refine AH.take 8 rfl (by kernel_rfl) trivial (hS84) (fun w' hw' => r_fa fa31_1 rfl) <| AH.br [9] (by kernel_rfl) rfl ⟨Br.mk' rfl trivial ?_, trivial⟩
        refine SR.store (o := 1) (vs := [.slice A69 n70 c71]) sca29.2 rfl rfl rfl rfl (hb81) (Nat.le_of_ble_eq_true rfl) rfl ?_
        intro w85 hk86 hs87 hb88
        have hz89 := hk86.size
        have hB90 := hB83.new hk86 (by omega)
        have hS91 := (hS84).step hk86 (fun _ _ e => e)
        refine SR.nil ⟨hS91, _, rfl, ?_⟩
        refine AH.done (by kernel_rfl) ?_
        exact ⟨A58, n59, c60, A69, n70, c71, ⟨rfl, rfl, trivial⟩, hS91, (((((hO61).lo hk68).kp hk79 (fun b_ hb e' => by have e'' : b_ = g1 := e'; have := ((hO61).lo hk68).base_le hb; omega)).kp hk86 (fun b_ hb e' => by have e'' : b_ = g1 := e'; have := (((hO61).lo hk68).kp hk79 (fun b_ hb e' => by have e'' : b_ = g1 := e'; have := ((hO61).lo hk68).base_le hb; omega)).base_le hb; omega)).down (by omega)), ((((hO72).kp hk79 (fun b_ hb e' => by have e'' : b_ = g1 := e'; have := (hO72).base_le hb; omega)).kp hk86 (fun b_ hb e' => by have e'' : b_ = g1 := e'; have := ((hO72).kp hk79 (fun b_ hb e' => by have e'' : b_ = g1 := e'; have := (hO72).base_le hb; omega)).base_le hb; omega)).down (by omega)), (hb88), (fun b_ h h' => by have h1 := (hO61).base_le h; have h2 := (((hO72).kp hk79 (fun b_ hb e' => by have e'' : b_ = g1 := e'; have := (hO72).base_le hb; omega)).kp hk86 (fun b_ hb e' => by have e'' : b_ = g1 := e'; have := ((hO72).kp hk79 (fun b_ hb e' => by have e'' : b_ = g1 := e'; have := (hO72).base_le hb; omega)).base_le hb; omega)).base_le h'; omega), hl65, hl66, hl76, hl77⟩
      · refine SR.q' (r_ld (v := .slice Ax_Away nx_Away cx_Away) sca29 rfl ((((hb6).lo hk12).lo hk53).cell rfl)) ?_
        refine SR.nil ⟨(Kp.refl w10 : Kp (fun b_ => b_ = g1) w10 w10).lo hk53, _, rfl, ?_⟩
        refine AH.br [2] (by kernel_rfl) rfl ⟨Br.mk' rfl trivial ?_, trivial⟩
        refine SR.call ent101 (c_slices_Clone___impl_Map_impl_Map_ w52 x.Maps (((hm17).lo hk53)) (by omega)) rfl ?_
        rintro e w96 ⟨A98, n99, c100, rfl, hO101, hk97⟩
        refine ⟨_, rfl, ?_⟩
        have hz102 := hk97.size
        have hB103 := hB55.lo hk97
        have hS104 := ((Kp.refl w10 : Kp (fun b_ => b_ = g1) w10 w10).lo hk53).lo hk97
        have hl105 := hO101.len
        have hl106 := hO101.rd.bound
        refine SR.nil ⟨hS104, _, rfl, ?_⟩
        refine AH.take 6 rfl (by kernel_rfl) trivial (hS104) (fun w' hw' => r_fa fa31_0 rfl) <| AH.br [5] (by kernel_rfl) rfl ⟨Br.mk' rfl trivial ?_, trivial⟩
        refine SR.call ent102 (c_slices_Clone___impl_Away_impl_Away_ w96 x.Away ((((hm18).lo hk53).lo hk97)) (by omega)) rfl ?_
        rintro e w107 ⟨A109, n110, c111, rfl, hO112, hk108⟩
        refine ⟨_, rfl, ?_⟩
        have hz113 := hk108.size
        have hB114 := hB103.lo hk108
        have hS115 := (hS104).lo hk108
        have hl116 := hO112.len
        have hl117 := hO112.rd.bound
        refine SR.nil ⟨hS115, _, rfl, ?_⟩
        refine AH.br [7] (by kernel_rfl) rfl ⟨Br.mk' rfl trivial ?_, trivial⟩
        refine SR.store (o := 0) (vs := [.slice A98 n99 c100]) sca28.2 rfl rfl rfl rfl (((((hb6).lo hk12).lo hk53).lo hk97).lo hk108) (Nat.le_of_ble_eq_true rfl) rfl ?_
        intro w118 hk119 hs120 hb121
        have hz122 := hk119.size
        have hB123 := hB114.new hk119 (by omega)
        have hS124 := (hS115).step hk119 (fun _ _ e => e)
        refine SR.nil ⟨hS124, _, rfl, ?_⟩
        refine AH.take 8 rfl (by kernel_rfl) trivial (hS124) (fun w' hw' => r_fa fa31_1 rfl) <| AH.br [9] (by kernel_rfl) rfl ⟨Br.mk' rfl trivial ?_, trivial⟩
        refine SR.store (o := 1) (vs := [.slice A109 n110 c111]) sca29.2 rfl rfl rfl rfl (hb121) (Nat.le_of_ble_eq_true rfl) rfl ?_
        intro w125 hk126 hs127 hb128
        have hz129 := hk126.size
        have hB130 := hB123.new hk126 (by omega)
        have hS131 := (hS124).step hk126 (fun _ _ e => e)
        refine SR.nil ⟨hS131, _, rfl, ?_⟩
        refine AH.done (by kernel_rfl) ?_
        exact ⟨A98, n99, c100, A109, n110, c111, ⟨rfl, rfl, trivial⟩, hS131, (((((hO101).lo hk108).kp hk119 (fun b_ hb e' => by have e'' : b_ = g1 := e'; have := ((hO101).lo hk108).base_le hb; omega)).kp hk126 (fun b_ hb e' => by have e'' : b_ = g1 := e'; have := (((hO101).lo hk108).kp hk119 (fun b_ hb e' => by have e'' : b_ = g1 := e'; have := ((hO101).lo hk108).base_le hb; omega)).base_le hb; omega)).down (by omega)), ((((hO112).kp hk119 (fun b_ hb e' => by have e'' : b_ = g1 := e'; have := (hO112).base_le hb; omega)).kp hk126 (fun b_ hb e' => by have e'' : b_ = g1 := e'; have := ((hO112).kp hk119 (fun b_ hb e' => by have e'' : b_ = g1 := e'; have := (hO112).base_le hb; omega)).base_le hb; omega)).down (by omega)), (hb128), (fun b_ h h' => by have h1 := (hO101).base_le h; have h2 := (((hO112).kp hk119 (fun b_ hb e' => by have e'' : b_ = g1 := e'; have := (hO112).base_le hb; omega)).kp hk126 (fun b_ hb e' => by have e'' : b_ = g1 := e'; have := ((hO112).kp hk119 (fun b_ hb e' => by have e'' : b_ = g1 := e'; have := (hO112).base_le hb; omega)).base_le hb; omega)).base_le h'; omega), hl105, hl106, hl116, hl117⟩
    · refine SR.q' (r_ld (v := .slice Ax_Away nx_Away cx_Away) sca29 rfl ((((hb6).lo hk12).lo hk53).cell rfl)) ?_
      refine SR.nil ⟨(Kp.refl w10 : Kp (fun b_ => b_ = g1) w10 w10).lo hk53, _, rfl, ?_⟩
      refine AH.br [1] (by kernel_rfl) rfl ⟨Br.mk' rfl trivial ?_, trivial⟩
      refine SR.q' (r_ld (v := .slice Ax_Maps nx_Maps cx_Maps) sca28 rfl ((((hb6).lo hk12).lo hk53).cell rfl)) ?_
      refine SR.nil ⟨(Kp.refl w10 : Kp (fun b_ => b_ = g1) w10 w10).lo hk53, _, rfl, ?_⟩
      refine AH.br [2] (by kernel_rfl) rfl ⟨Br.mk' rfl trivial ?_, trivial⟩
      refine SR.call ent101 (c_slices_Clone___impl_Map_impl_Map_ w52 x.Maps (((hm17).lo hk53)) (by omega)) rfl ?_
      rintro e w133 ⟨A135, n136, c137, rfl, hO138, hk134⟩
      refine ⟨_, rfl, ?_⟩
      have hz139 := hk134.size
      have hB140 := hB55.lo hk134
      have hS141 := ((Kp.refl w10 : Kp (fun b_ => b_ = g1) w10 w10).lo hk53).lo hk134
      have hl142 := hO138.len
      have hl143 := hO138.rd.bound
      refine SR.nil ⟨hS141, _, rfl, ?_⟩
      refine AH.take 6 rfl (by kernel_rfl) trivial (hS141) (fun w' hw' => r_fa fa31_0 rfl) <| AH.br [5] (by kernel_rfl) rfl ⟨Br.mk' rfl trivial ?_, trivial⟩
      refine SR.call ent102 (c_slices_Clone___impl_Away_impl_Away_ w133 x.Away ((((hm18).lo hk53).lo hk134)) (by omega)) rfl ?_
      rintro e w144 ⟨A146, n147, c148, rfl, hO149, hk145⟩
      refine ⟨_, rfl, ?_⟩
      have hz150 := hk145.size
      have hB151 := hB140.lo hk145
      have hS152 := (hS141).lo hk145
      have hl153 := hO149.len
      have hl154 := hO149.rd.bound
      refine SR.nil ⟨hS152, _, rfl, ?_⟩
      refine AH.br [7] (by kernel_rfl) rfl ⟨Br.mk' rfl trivial ?_, trivial⟩
      refine SR.store (o := 0) (vs := [.slice A135 n136 c137]) sca28.2 rfl rfl rfl rfl (((((hb6).lo hk12).lo hk53).lo hk134).lo hk145) (Nat.le_of_ble_eq_true rfl) rfl ?_
      intro w155 hk156 hs157 hb158
      have hz159 := hk156.size
      have hB160 := hB151.new hk156 (by omega)
      have hS161 := (hS152).step hk156 (fun _ _ e => e)
      refine SR.nil ⟨hS161, _, rfl, ?_⟩
      refine AH.take 8 rfl (by kernel_rfl) trivial (hS161) (fun w' hw' => r_fa fa31_1 rfl) <| AH.br [9] (by kernel_rfl) rfl ⟨Br.mk' rfl trivial ?_, trivial⟩
      refine SR.store (o := 1) (vs := [.slice A146 n147 c148]) sca29.2 rfl rfl rfl rfl (hb158) (Nat.le_of_ble_eq_true rfl) rfl ?_
      intro w162 hk163 hs164 hb165
      have hz166 := hk163.size
      have hB167 := hB160.new hk163 (by omega)
      have hS168 := (hS161).step hk163 (fun _ _ e => e)
      refine SR.nil ⟨hS168, _, rfl, ?_⟩
      refine AH.done (by kernel_rfl) ?_
      exact ⟨A135, n136, c137, A146, n147, c148, ⟨rfl, rfl, trivial⟩, hS168, (((((hO138).lo hk145).kp hk156 (fun b_ hb e' => by have e'' : b_ = g1 := e'; have := ((hO138).lo hk145).base_le hb; omega)).kp hk163 (fun b_ hb e' => by have e'' : b_ = g1 := e'; have := (((hO138).lo hk145).kp hk156 (fun b_ hb e' => by have e'' : b_ = g1 := e'; have := ((hO138).lo hk145).base_le hb; omega)).base_le hb; omega)).down (by omega)), ((((hO149).kp hk156 (fun b_ hb e' => by have e'' : b_ = g1 := e'; have := (hO149).base_le hb; omega)).kp hk163 (fun b_ hb e' => by have e'' : b_ = g1 := e'; have := ((hO149).kp hk156 (fun b_ hb e' => by have e'' : b_ = g1 := e'; have := (hO149).base_le hb; omega)).base_le hb; omega)).down (by omega)), (hb165), (fun b_ h h' => by have h1 := (hO138).base_le h; have h2 := (((hO149).kp hk156 (fun b_ hb e' => by have e'' : b_ = g1 := e'; have := (hO149).base_le hb; omega)).kp hk163 (fun b_ hb e' => by have e'' : b_ = g1 := e'; have := ((hO149).kp hk156 (fun b_ hb e' => by have e'' : b_ = g1 := e'; have := (hO149).base_le hb; omega)).base_le hb; omega)).base_le h'; omega), hl142, hl143, hl153, hl154⟩
  rintro f170 w171 ⟨A58, n59, c60, A69, n70, c71, hat173, hR172, hm92, hm93, hm94, hd95, hl65, hl66, hl76, hl77⟩
  rw [← sets_of_at hat173]
  have hz174 := hR172.size
  have hB175 := hB16.new hR172 (by omega)
  refine W.seq ?_
  refine W.regS (SR.q' (r_lda (l := [.slice A58 n59 c60, .slice A69 n70 c71, .int .i64 x.Bought, .int .i64 x.Dropped, .int .i64 x.Mended]) agg31 rfl (fun _ _ hu => (hm94).cell hu) rfl) <| SR.store (o := 0) (vs := [.slice A58 n59 c60, .slice A69 n70 c71, .int .i64 x.Bought, .int .i64 x.Dropped, .int .i64 x.Mended]) agg31.2 rfl rfl rfl rfl ((hb14).kp hR172 (fun e' => by have e'' : g9 = g1 := e'; omega)) (Nat.le_of_ble_eq_true rfl) rfl ?_)
  intro w176 hk177 hs178 hb179
  have hz180 := hk177.size
  have hB181 := hB175.new hk177 (by omega)
  refine SR.nil ?_
  refine W.ret ?_
  refine retC rfl rfl agg31 (hb179) rfl ?_
  exact ⟨A58, n59, c60, A69, n70, c71, eR rfl, (((hm92).kp hk177 (fun b_ hb e' => by have e'' : b_ = g9 := e'; have := (hm92).base_le hb; omega)).down (by omega)), (((hm93).kp hk177 (fun b_ hb e' => by have e'' : b_ = g9 := e'; have := (hm93).base_le hb; omega)).down (by omega)), hd95, hB181⟩

theorem c_spec_l32Own (w : World) (x : Library) {Ax_Maps : Option Addr} {nx_Maps cx_Maps Bx_Maps : Nat} (hx_Maps : SlR w Bx_Maps encLMap 3 Ax_Maps nx_Maps cx_Maps x.Maps) {Ax_Away : Option Addr} {nx_Away cx_Away Bx_Away : Nat} (hx_Away : SlR w Bx_Away encAway 2 Ax_Away nx_Away cx_Away x.Away) (hp0 : (nx_Maps : Int) ≤ 1048576) (hp1 : (nx_Away : Int) ≤ 1048576) : Calls Try.prog 79 #[.agg (List.toArray [.slice Ax_Maps nx_Maps cx_Maps, .slice Ax_Away nx_Away cx_Away, .int .i64 x.Bought, .int .i64 x.Dropped, .int .i64 x.Mended])] w fun e w' => ∃ (A1' : Option Addr) (n1' c1' : Nat) (A2' : Option Addr) (n2' c2' : Nat), e = .returned (.agg (List.toArray [.slice A1' n1' c1', .slice A2' n2' c2', .int .i64 x.Bought, .int .i64 x.Dropped, .int .i64 x.Mended])) ∧ SlO w' w.heap.size encLMap 3 73 A1' n1' c1' x.Maps ∧ SlO w' w.heap.size encAway 2 77 A2' n2' c2' x.Away ∧ (∀ b_, A1' = some ⟨b_, 0, none⟩ → ¬ A2' = some ⟨b_, 0, none⟩) ∧ Lo w w' := by
  refine calls_W 18 Try.func79 rfl rfl rfl ?_
  have hbdx_Maps := hx_Maps.bound
  have hlex_Maps := hx_Maps.len
  have hBbx_Maps := hx_Maps.bd
  have hbdx_Away := hx_Away.bound
  have hlex_Away := hx_Away.len
  have hBbx_Away := hx_Away.bd
  refine W.seq ?_
  refine W.regS (SR.box (v := .agg (List.toArray _)) (l := [.slice Ax_Maps nx_Maps cx_Maps, .slice Ax_Away nx_Away cx_Away, .int .i64 x.Bought, .int .i64 x.Dropped, .int .i64 x.Mended]) rfl rfl ?_)
  intro g1 w2 hg3 hk4 hs5 hb6
  have hz7 := hk4.size
  have hB8 := (Lo.refl w).lo hk4
  refine SR.alloc (l := [.slice none 0 0, .slice none 0 0, .int .i64 0, .int .i64 0, .int .i64 0]) tz31 rfl ?_
  intro g9 w10 hg11 hk12 hs13 hb14
  have hz15 := hk12.size
  have hB16 := hB8.lo hk12
  refine SR.nil ?_
  refine W.seq ?_
  have hm17 := ((hx_Maps).lo hk4).lo hk12
  have hm18 := ((hx_Away).lo hk4).lo hk12
  refine W.regA (Kp (fun b_ => b_ = g9) w10) (fun f' w' => ∃ (g70 : Nat), ∃ (A78 : Option Addr), ∃ (c79 : Nat), ∃ (g87 : Nat), ∃ (A96 : Option Addr), ∃ (c97 : Nat), At f' [(2, .pointer (some ((⟨g9, 0, none⟩ : Addr))))] ∧ (Kp (fun b_ => b_ = g9) w10 w') ∧ (SlO w' w10.heap.size encLMap 3 73 A78 (0 + nx_Maps) c79 x.Maps) ∧ (SlO w' w10.heap.size encAway 2 77 A96 (0 + nx_Away) c97 x.Away) ∧ (Blk w' g9 31 [.slice A78 (0 + nx_Maps) c79, .slice A96 (0 + nx_Away) c97, .int .i64 x.Bought, .int .i64 x.Dropped, .int .i64 x.Mended]) ∧ (∀ b_, A78 = some ⟨b_, 0, none⟩ → ¬ A96 = some ⟨b_, 0, none⟩)) mo ?_ ?_
  · intro w66 hk67
    have hz68 := hk67.size
    have hB69 := hB16.lo hk67
    refine AH.take 1 rfl (by kernel_rfl) trivial ((Kp.refl w10 : Kp (fun b_ => b_ = g9) w10 w10).lo hk67) (fun w' hw' => r_fa fa31_0 rfl) <| AH.take 2 rfl (by kernel_rfl) trivial ((Kp.refl w10 : Kp (fun b_ => b_ = g9) w10 w10).lo hk67) (fun w' hw' => r_ld (v := .slice Ax_Maps nx_Maps cx_Maps) sca28 rfl ((((hb6).lo hk12).kp hw' (fun e' => by have e'' : g1 = g9 := e'; omega)).cell rfl)) <| AH.take 5 rfl (by kernel_rfl) trivial ((Kp.refl w10 : Kp (fun b_ => b_ = g9) w10 w10).lo hk67) (fun w' hw' => r_fa fa31_1 rfl) <| AH.take 6 rfl (by kernel_rfl) trivial ((Kp.refl w10 : Kp (fun b_ => b_ = g9) w10 w10).lo hk67) (fun w' hw' => r_ld (v := .slice Ax_Away nx_Away cx_Away) sca29 rfl ((((hb6).lo hk12).kp hw' (fun e' => by have e'' : g1 = g9 := e'; omega)).cell rfl)) <| AH.take 8 rfl (by kernel_rfl) trivial ((Kp.refl w10 : Kp (fun b_ => b_ = g9) w10 w10).lo hk67) (fun w' hw' => r_fa fa31_2 rfl) <| AH.take 9 rfl (by kernel_rfl) trivial ((Kp.refl w10 : Kp (fun b_ => b_ = g9) w10 w10).lo hk67) (fun w' hw' => r_ld (v := .int .i64 x.Bought) sca3 rfl ((((hb6).lo hk12).kp hw' (fun e' => by have e'' : g1 = g9 := e'; omega)).cell rfl)) <| AH.take 10 rfl (by kernel_rfl) trivial ((Kp.refl w10 : Kp (fun b_ => b_ = g9) w10 w10).lo hk67) (fun w' hw' => r_fa fa31_3 rfl) <| AH.take 11 rfl (by kernel_rfl) trivial ((Kp.refl w10 : Kp (fun b_ => b_ = g9) w10 w10).lo hk67) (fun w' hw' => r_ld (v := .int .i64 x.Dropped) sca3 rfl ((((hb6).lo hk12).kp hw' (fun e' => by have e'' : g1 = g9 := e'; omega)).cell rfl)) <| AH.take 12 rfl (by kernel_rfl) trivial ((Kp.refl w10 : Kp (fun b_ => b_ = g9) w10 w10).lo hk67) (fun w' hw' => r_fa fa31_4 rfl) <| AH.take 13 rfl (by kernel_rfl) trivial ((Kp.refl w10 : Kp (fun b_ => b_ = g9) w10 w10).lo hk67) (fun w' hw' => r_ld (v := .int .i64 x.Mended) sca3 rfl ((((hb6).lo hk12).kp hw' (fun e' => by have e'' : g1 = g9 := e'; omega)).cell rfl)) <| AH.br [0, 4] (by kernel_rfl) rfl ⟨Br.mk' rfl trivial ?_, Br.mk' rfl trivial ?_, trivial⟩
    · refine SR.lit (vs := []) (L := ([] : List LMap)) (enc := encLMap) tel28 (fun _ => rfl) rfl rfl rfl (by decide) ?_
      intro g70 w71 hg72 hk73 hO74
      have hz75 := hk73.size
      have hB76 := hB69.lo hk73
      have hS77 := ((Kp.refl w10 : Kp (fun b_ => b_ = g9) w10 w10).lo hk67).lo hk73
      refine SR.nil ⟨hS77, _, rfl, ?_⟩
      refine AH.br [3, 4] (by kernel_rfl) rfl ⟨Br.mk' rfl trivial ?_, Br.mk' rfl trivial ?_, trivial⟩
      · refine SR.app tel28 rfl rfl (hO74) (((hm17).lo hk67).lo hk73) (fun _ => rfl) (by omega) (by omega) ?_
        intro A78 c79 w80 hk81 hO82 hN83
        have hz84 := hk81.size
        have hB85 := hB76.step hk81 (fun i_ hi_ e' => by have := ((hO74)).base_le e'; first | omega | (exfalso; omega) | exact e' | exact .inl e' | exact .inr e')
        have hS86 := (hS77).step hk81 (fun i_ hi_ e' => by have := ((hO74)).base_le e'; exfalso; omega)
        rw [List.nil_append] at hO82
        refine SR.nil ⟨hS86, _, rfl, ?_⟩
        refine AH.br [4] (by kernel_rfl) rfl ⟨Br.mk' rfl trivial ?_, trivial⟩
        refine SR.lit (vs := []) (L := ([] : List Away)) (enc := encAway) tel29 (fun _ => rfl) rfl rfl rfl (by decide) ?_
        intro g87 w88 hg89 hk90 hO91
        have hz92 := hk90.size
        have hB93 := hB85.lo hk90
        have hS94 := (hS86).lo hk90
        have hd95 : ¬ A78 = some ⟨g87, 0, none⟩ := fun e' => by have := (hO82).base_le e'; omega
        refine SR.nil ⟨hS94, _, rfl, ?_⟩
        refine AH.br [7] (by kernel_rfl) rfl ⟨Br.mk' rfl trivial ?_, trivial⟩
        refine SR.app tel29 rfl rfl (hO91) (((((hm18).lo hk67).lo hk73).kp hk81 (fun b_ hb e' => by have := ((hO74)).base_le e'; omega)).lo hk90) (fun _ => rfl) (by omega) (by omega) ?_
        intro A96 c97 w98 hk99 hO100 hN101
        have hz102 := hk99.size
        have hB103 := hB93.step hk99 (fun i_ hi_ e' => by have := ((hO91)).base_le e'; first | omega | (exfalso; omega) | exact e' | exact .inl e' | exact .inr e')
        have hS104 := (hS94).step hk99 (fun i_ hi_ e' => by have := ((hO91)).base_le e'; exfalso; omega)
        rw [List.nil_append] at hO100
        have hd105 : ∀ b_, A96 = some ⟨b_, 0, none⟩ → ¬ A78 = some ⟨b_, 0, none⟩ := fun b_ e' h' => (hN101 b_ e').elim (fun h => (fun b_ h h' => hd95 (h'.trans h.symm)) b_ (h.trans e') h') (fun h => by have := ((hO82).lo hk90).base_le h'; omega)
        refine SR.nil ⟨hS104, _, rfl, ?_⟩
        refine AH.take 14 rfl (by kernel_rfl) trivial (hS104) (fun w' hw' => r_build (vs := [(0, .slice A78 (0 + nx_Maps) c79), (1, .slice A96 (0 + nx_Away) c97), (2, .int .i64 x.Bought), (3, .int .i64 x.Dropped), (4, .int .i64 x.Mended)]) rfl (bld31_0_1_2_3_4 _ _ _ _ _ _ _ _ _)) <| AH.br [15] (by kernel_rfl) rfl ⟨Br.mk' rfl trivial ?_, trivial⟩
        refine SR.store (o := 0) (vs := [.slice A78 (0 + nx_Maps) c79, .slice A96 (0 + nx_Away) c97, .int .i64 x.Bought, .int .i64 x.Dropped, .int .i64 x.Mended]) agg31.2 rfl rfl rfl rfl ((((((hb14).lo hk67).lo hk73).kp hk81 (fun e' => by have := ((hO74)).base_le e'; omega)).lo hk90).kp hk99 (fun e' => by have := ((hO91)).base_le e'; omega)) (Nat.le_of_ble_eq_true rfl) rfl ?_
        intro w106 hk107 hs108 hb109
        have hz110 := hk107.size
        have hB111 := hB103.new hk107 (by omega)
        have hS112 := (hS104).step hk107 (fun _ _ e => e)
        refine SR.nil ⟨hS112, _, rfl, ?_⟩
        refine AH.done (by kernel_rfl) ?_
        exact ⟨g70, A78, c79, g87, A96, c97, ⟨rfl, trivial⟩, hS112, (((((hO82).lo hk90).kp hk99 (fun b_ hb e' => by have h1 := ((hO91)).base_le e'; have h2 := ((hO82).lo hk90).base_le hb; have h3 := (hO82).base_le hb; omega)).kp hk107 (fun b_ hb e' => by have e'' : b_ = g9 := e'; have := (((hO82).lo hk90).kp hk99 (fun b_ hb e' => by have h1 := ((hO91)).base_le e'; have h2 := ((hO82).lo hk90).base_le hb; have h3 := (hO82).base_le hb; omega)).base_le hb; omega)).down (by omega)), (((hO100).kp hk107 (fun b_ hb e' => by have e'' : b_ = g9 := e'; have := (hO100).base_le hb; omega)).down (by omega)), (hb109), (fun b_ h h' => hd105 b_ h' h)⟩
      · refine SR.lit (vs := []) (L := ([] : List Away)) (enc := encAway) tel29 (fun _ => rfl) rfl rfl rfl (by decide) ?_
        intro g117 w118 hg119 hk120 hO121
        have hz122 := hk120.size
        have hB123 := hB76.lo hk120
        have hS124 := (hS77).lo hk120
        have hd125 : ¬ (some (⟨g70, 0, none⟩ : Addr)) = some ⟨g117, 0, none⟩ := fun e' => by have := (hO74).base_le e'; omega
        refine SR.nil ⟨hS124, _, rfl, ?_⟩
        refine AH.br [3] (by kernel_rfl) rfl ⟨Br.mk' rfl trivial ?_, trivial⟩
        refine SR.app tel28 rfl rfl ((hO74).lo hk120) ((((hm17).lo hk67).lo hk73).lo hk120) (fun _ => rfl) (by omega) (by omega) ?_
        intro A126 c127 w128 hk129 hO130 hN131
        have hz132 := hk129.size
        have hB133 := hB123.step hk129 (fun i_ hi_ e' => by have := (((hO74).lo hk120)).base_le e'; first | omega | (exfalso; omega) | exact e' | exact .inl e' | exact .inr e')
        have hS134 := (hS124).step hk129 (fun i_ hi_ e' => by have := (((hO74).lo hk120)).base_le e'; exfalso; omega)
        rw [List.nil_append] at hO130
        have hd135 : ∀ b_, A126 = some ⟨b_, 0, none⟩ → ¬ (some (⟨g117, 0, none⟩ : Addr)) = some ⟨b_, 0, none⟩ := fun b_ e' h' => (hN131 b_ e').elim (fun h => (fun b_ h h' => hd125 (h.trans h'.symm)) b_ (h.trans e') h') (fun h => by have := (hO121).base_le h'; omega)
        refine SR.nil ⟨hS134, _, rfl, ?_⟩
        refine AH.br [7] (by kernel_rfl) rfl ⟨Br.mk' rfl trivial ?_, trivial⟩
        refine SR.app tel29 rfl rfl ((hO121).kp hk129 (fun b_ hb e' => hd125 (hb ▸ e'))) (((((hm18).lo hk67).lo hk73).lo hk120).kp hk129 (fun b_ hb e' => by have := (((hO74).lo hk120)).base_le e'; omega)) (fun _ => rfl) (by omega) (by omega) ?_
        intro A136 c137 w138 hk139 hO140 hN141
        have hz142 := hk139.size
        have hB143 := hB133.step hk139 (fun i_ hi_ e' => by have := (((hO121).kp hk129 (fun b_ hb e' => hd125 (hb ▸ e')))).base_le e'; first | omega | (exfalso; omega) | exact e' | exact .inl e' | exact .inr e')
        have hS144 := (hS134).step hk139 (fun i_ hi_ e' => by have := (((hO121).kp hk129 (fun b_ hb e' => hd125 (hb ▸ e')))).base_le e'; exfalso; omega)
        rw [List.nil_append] at hO140
        have hd145 : ∀ b_, A136 = some ⟨b_, 0, none⟩ → ¬ A126 = some ⟨b_, 0, none⟩ := fun b_ e' h' => (hN141 b_ e').elim (fun h => (fun b_ h h' => hd135 b_ h' h) b_ (h.trans e') h') (fun h => by have := (hO130).base_le h'; omega)
        refine SR.nil ⟨hS144, _, rfl, ?_⟩
        refine AH.take 14 rfl (by kernel_rfl) trivial (hS144) (fun w' hw' => r_build (vs := [(0, .slice A126 (0 + nx_Maps) c127), (1, .slice A136 (0 + nx_Away) c137), (2, .int .i64 x.Bought), (3, .int .i64 x.Dropped), (4, .int .i64 x.Mended)]) rfl (bld31_0_1_2_3_4 _ _ _ _ _ _ _ _ _)) <| AH.br [15] (by kernel_rfl) rfl ⟨Br.mk' rfl trivial ?_, trivial⟩
        refine SR.store (o := 0) (vs := [.slice A126 (0 + nx_Maps) c127, .slice A136 (0 + nx_Away) c137, .int .i64 x.Bought, .int .i64 x.Dropped, .int .i64 x.Mended]) agg31.2 rfl rfl rfl rfl ((((((hb14).lo hk67).lo hk73).lo hk120).kp hk129 (fun e' => by have := (((hO74).lo hk120)).base_le e'; omega)).kp hk139 (fun e' => by have := (((hO121).kp hk129 (fun b_ hb e' => hd125 (hb ▸ e')))).base_le e'; omega)) (Nat.le_of_ble_eq_true rfl) rfl ?_
        intro w146 hk147 hs148 hb149
        have hz150 := hk147.size
        have hB151 := hB143.new hk147 (by omega)
        have hS152 := (hS144).step hk147 (fun _ _ e => e)
        refine SR.nil ⟨hS152, _, rfl, ?_⟩
        refine AH.done (by kernel_rfl) ?_
        exact ⟨g70, A126, c127, g117, A136, c137, ⟨rfl, trivial⟩, hS152, ((((hO130).kp hk139 (fun b_ hb e' => hd135 b_ hb e')).kp hk147 (fun b_ hb e' => by have e'' : b_ = g9 := e'; have := ((hO130).kp hk139 (fun b_ hb e' => hd135 b_ hb e')).base_le hb; omega)).down (by omega)), (((hO140).kp hk147 (fun b_ hb e' => by have e'' : b_ = g9 := e'; have := (hO140).base_le hb; omega)).down (by omega)), (hb149), (fun b_ h h' => hd145 b_ h' h)⟩
    · refine SR.lit (vs := []) (L := ([] : List Away)) (enc := encAway) tel29 (fun _ => rfl) rfl rfl rfl (by decide) ?_
      intro g154 w155 hg156 hk157 hO158
      have hz159 := hk157.size
      have hB160 := hB69.lo hk157
      have hS161 := ((Kp.refl w10 : Kp (fun b_ => b_ = g9) w10 w10).lo hk67).lo hk157
      refine SR.nil ⟨hS161, _, rfl, ?_⟩
      refine AH.br [0] (by kernel_rfl) rfl ⟨Br.mk' rfl trivial ?_, trivial⟩
      refine SR.lit (vs := []) (L := ([] : List LMap)) (enc := encLMap) tel28 (fun _ => rfl) rfl rfl rfl (by decide) ?_
      intro g162 w163 hg164 hk165 hO166
      have hz167 := hk165.size
      have hB168 := hB160.lo hk165
      have hS169 := (hS161).lo hk165
      have hd170 : ¬ (some (⟨g154, 0, none⟩ : Addr)) = some ⟨g162, 0, none⟩ := fun e' => by have := (hO158).base_le e'; omega
      refine SR.nil ⟨hS169, _, rfl, ?_⟩
      refine AH.br [3] (by kernel_rfl) rfl ⟨Br.mk' rfl trivial ?_, trivial⟩
      refine SR.app tel28 rfl rfl (hO166) ((((hm17).lo hk67).lo hk157).lo hk165) (fun _ => rfl) (by omega) (by omega) ?_
      intro A171 c172 w173 hk174 hO175 hN176
      have hz177 := hk174.size
      have hB178 := hB168.step hk174 (fun i_ hi_ e' => by have := ((hO166)).base_le e'; first | omega | (exfalso; omega) | exact e' | exact .inl e' | exact .inr e')
      have hS179 := (hS169).step hk174 (fun i_ hi_ e' => by have := ((hO166)).base_le e'; exfalso; omega)
      rw [List.nil_append] at hO175
      have hd180 : ∀ b_, A171 = some ⟨b_, 0, none⟩ → ¬ (some (⟨g154, 0, none⟩ : Addr)) = some ⟨b_, 0, none⟩ := fun b_ e' h' => (hN176 b_ e').elim (fun h => (fun b_ h h' => hd170 (h'.trans h.symm)) b_ (h.trans e') h') (fun h => by have := ((hO158).lo hk165).base_le h'; omega)
      refine SR.nil ⟨hS179, _, rfl, ?_⟩
      refine AH.br [7] (by kernel_rfl) rfl ⟨Br.mk' rfl trivial ?_, trivial⟩
      refine SR.app tel29 rfl rfl (((hO158).lo hk165).kp hk174 (fun b_ hb e' => by have h1 := ((hO166)).base_le e'; have h2 := ((hO158).lo hk165).base_le hb; have h3 := (hO158).base_le hb; omega)) (((((hm18).lo hk67).lo hk157).lo hk165).kp hk174 (fun b_ hb e' => by have := ((hO166)).base_le e'; omega)) (fun _ => rfl) (by omega) (by omega) ?_
      intro A181 c182 w183 hk184 hO185 hN186
      have hz187 := hk184.size
      have hB188 := hB178.step hk184 (fun i_ hi_ e' => by have := ((((hO158).lo hk165).kp hk174 (fun b_ hb e' => by have h1 := ((hO166)).base_le e'; have h2 := ((hO158).lo hk165).base_le hb; have h3 := (hO158).base_le hb; omega))).base_le e'; first | omega | (exfalso; omega) | exact e' | exact .inl e' | exact .inr e')
      have hS189 := (hS179).step hk184 (fun i_ hi_ e' => by have := ((((hO158).lo hk165).kp hk174 (fun b_ hb e' => by have h1 := ((hO166)).base_le e'; have h2 := ((hO158).lo hk165).base_le hb; have h3 := (hO158).base_le hb; omega))).base_le e'; exfalso; omega)
      rw [List.nil_append] at hO185
      have hd190 : ∀ b_, A181 = some ⟨b_, 0, none⟩ → ¬ A171 = some ⟨b_, 0, none⟩ := fun b_ e' h' => (hN186 b_ e').elim (fun h => (fun b_ h h' => hd180 b_ h' h) b_ (h.trans e') h') (fun h => by have := (hO175).base_le h'; omega)
      refine SR.nil ⟨hS189, _, rfl, ?_⟩
      refine AH.take 14 rfl (by kernel_rfl) trivial (hS189) (fun w' hw' => r_build (vs := [(0, .slice A171 (0 + nx_Maps) c172), (1, .slice A181 (0 + nx_Away) c182), (2, .int .i64 x.Bought), (3, .int .i64 x.Dropped), (4, .int .i64 x.Mended)]) rfl (bld31_0_1_2_3_4 _ _ _ _ _ _ _ _ _)) <| AH.br [15] (by kernel_rfl) rfl ⟨Br.mk' rfl trivial ?_, trivial⟩
      refine SR.store (o := 0) (vs := [.slice A171 (0 + nx_Maps) c172, .slice A181 (0 + nx_Away) c182, .int .i64 x.Bought, .int .i64 x.Dropped, .int .i64 x.Mended]) agg31.2 rfl rfl rfl rfl ((((((hb14).lo hk67).lo hk157).lo hk165).kp hk174 (fun e' => by have := ((hO166)).base_le e'; omega)).kp hk184 (fun e' => by have := ((((hO158).lo hk165).kp hk174 (fun b_ hb e' => by have h1 := ((hO166)).base_le e'; have h2 := ((hO158).lo hk165).base_le hb; have h3 := (hO158).base_le hb; omega))).base_le e'; omega)) (Nat.le_of_ble_eq_true rfl) rfl ?_
      intro w191 hk192 hs193 hb194
      have hz195 := hk192.size
      have hB196 := hB188.new hk192 (by omega)
      have hS197 := (hS189).step hk192 (fun _ _ e => e)
      refine SR.nil ⟨hS197, _, rfl, ?_⟩
      refine AH.done (by kernel_rfl) ?_
      exact ⟨g162, A171, c172, g154, A181, c182, ⟨rfl, trivial⟩, hS197, ((((hO175).kp hk184 (fun b_ hb e' => hd180 b_ hb e')).kp hk192 (fun b_ hb e' => by have e'' : b_ = g9 := e'; have := ((hO175).kp hk184 (fun b_ hb e' => hd180 b_ hb e')).base_le hb; omega)).down (by omega)), (((hO185).kp hk192 (fun b_ hb e' => by have e'' : b_ = g9 := e'; have := (hO185).base_le hb; omega)).down (by omega)), (hb194), (fun b_ h h' => hd190 b_ h' h)⟩
  rintro f199 w200 ⟨g70, A78, c79, g87, A96, c97, hat202, hR201, hm113, hm114, hm115, hd116⟩
  rw [← sets_of_at hat202]
  have hz203 := hR201.size
  have hB204 := hB16.new hR201 (by omega)
  refine W.ret ?_
  refine retC rfl rfl agg31 (hm115) rfl ?_
  exact ⟨A78, 0 + nx_Maps, c79, A96, 0 + nx_Away, c97, eR rfl, ((hm113).down (by omega)), ((hm114).down (by omega)), hd116, hB204⟩

theorem z_c__impl_Library__awayAt_14 (x : Library) (nx_Maps : Nat) (hbdx_Maps : (nx_Maps : Int) ≤ 9223372036854775807) (hlex_Maps : nx_Maps = x.Maps.length) (nx_Away : Nat) (hbdx_Away : (nx_Away : Int) ≤ 9223372036854775807) (hlex_Away : nx_Away = x.Away.length) (id : Int) (r : Int) (hp0 : (nx_Away : Int) ≤ 1048576) (hq13 : bsP (fun (u_ : Away) (v_ : Away) => cmpA u_ v_) (⟨id, r⟩ : Away) x.Away ≤ x.Away.length) : (bsP (fun (u_ : Away) (v_ : Away) => cmpA u_ v_) (⟨id, r⟩ : Away) x.Away : Int) = (bsP cmpA (⟨id, r⟩ : Away) x.Away : Int) := by
  rfl
theorem z_c__impl_Library__awayAt_15 (x : Library) (nx_Maps : Nat) (hbdx_Maps : (nx_Maps : Int) ≤ 9223372036854775807) (hlex_Maps : nx_Maps = x.Maps.length) (nx_Away : Nat) (hbdx_Away : (nx_Away : Int) ≤ 9223372036854775807) (hlex_Away : nx_Away = x.Away.length) (id : Int) (r : Int) (hp0 : (nx_Away : Int) ≤ 1048576) (hq13 : bsP (fun (u_ : Away) (v_ : Away) => cmpA u_ v_) (⟨id, r⟩ : Away) x.Away ≤ x.Away.length) : (bsF (fun (u_ : Away) (v_ : Away) => cmpA u_ v_) (⟨id, r⟩ : Away) x.Away) ↔ (bsF cmpA (⟨id, r⟩ : Away) x.Away) := by
  exact Iff.rfl
theorem c__impl_Library__awayAt (w : World) (x : Library) {Ax_Maps : Option Addr} {nx_Maps cx_Maps Bx_Maps : Nat} (hx_Maps : SlR w Bx_Maps encLMap 3 Ax_Maps nx_Maps cx_Maps x.Maps) {Ax_Away : Option Addr} {nx_Away cx_Away Bx_Away : Nat} (hx_Away : SlR w Bx_Away encAway 2 Ax_Away nx_Away cx_Away x.Away) (id : Int) (r : Int) (hp0 : (nx_Away : Int) ≤ 1048576) : Calls Try.prog 113 #[.agg (List.toArray [.slice Ax_Maps nx_Maps cx_Maps, .slice Ax_Away nx_Away cx_Away, .int .i64 x.Bought, .int .i64 x.Dropped, .int .i64 x.Mended]), .int .i64 id, .int .i64 r] w fun e w' => e = .returned (.tuple (List.toArray [.int .i64 (bsP cmpA (⟨id, r⟩ : Away) x.Away : Int), .bool (decide (bsF cmpA (⟨id, r⟩ : Away) x.Away))])) ∧ Lo w w' := by
  refine calls_W 16 Try.func113 rfl rfl rfl ?_
  have hbdx_Maps := hx_Maps.bound
  have hlex_Maps := hx_Maps.len
  have hBbx_Maps := hx_Maps.bd
  have hbdx_Away := hx_Away.bound
  have hlex_Away := hx_Away.len
  have hBbx_Away := hx_Away.bd
  refine W.seq ?_
  refine W.regS (SR.box (v := .agg (List.toArray _)) (l := [.slice Ax_Maps nx_Maps cx_Maps, .slice Ax_Away nx_Away cx_Away, .int .i64 x.Bought, .int .i64 x.Dropped, .int .i64 x.Mended]) rfl rfl ?_)
  intro g1 w2 hg3 hk4 hs5 hb6
  have hz7 := hk4.size
  have hB8 := (Lo.refl w).lo hk4
  refine SR.q' (r_as (v := .int .i64 0) rfl) <| SR.q' (r_as (v := .bool false) rfl) <| SR.nil ?_
  refine W.seq ?_
  refine W.regS (SR.q' (r_fa fa31_1 rfl) <| SR.q' (r_ld (v := .slice Ax_Away nx_Away cx_Away) sca29 rfl ((hb6).cell rfl)) <| SR.q' (r_mv (v := .int .i64 _) rfl) <| SR.q' (r_mv (v := .int .i64 _) rfl) <| SR.q' (r_build (vs := [(0, .int .i64 id), (1, .int .i64 r)]) rfl (bld77_0_1 _ _)) <| SR.call ent117 (c_slices_BinarySearchFunc___impl_Away_impl_Away_impl_Away_ w2 x.Away (((hx_Away).lo hk4)) (⟨id, r⟩ : Away) (fun (u_ : Away) (v_ : Away) => cmpA u_ v_) ⟨ent55, fun w'' hw'' x y => (c_impl_compareAway w'' x y).mono fun _ _ h => ⟨h.1, h.2⟩⟩ (by omega)) rfl ?_)
  rintro e w9 ⟨rfl, hk10⟩
  refine ⟨_, rfl, ?_⟩
  have hz11 := hk10.size
  have hB12 := hB8.lo hk10
  have hq13 : bsP (fun (u_ : Away) (v_ : Away) => cmpA u_ v_) (⟨id, r⟩ : Away) x.Away ≤ x.Away.length := bsP_le
  refine SR.q' (r_ext (v := .int .i64 _) rfl rfl) <| SR.q' (r_ext (v := .bool _) rfl rfl) <| SR.q' (r_as (v := .int .i64 _) rfl) <| SR.q' (r_as (v := .bool _) rfl) <| SR.nil ?_
  refine W.ret ?_
  refine ret2 rfl (v := .int .i64 _) (v' := .bool _) rfl rfl ?_
  exact ⟨eR (eT2 (eI (z_c__impl_Library__awayAt_14 x nx_Maps hbdx_Maps hlex_Maps nx_Away hbdx_Away hlex_Away id r hp0 hq13)) (eDD (z_c__impl_Library__awayAt_15 x nx_Maps hbdx_Maps hlex_Maps nx_Away hbdx_Away hlex_Away id r hp0 hq13))), hB12⟩

open Classical in
noncomputable def impl_Library_buy (x : Library) (s : LibraryStep) : Library :=
  if bsF cmpM s.Id x.Maps then (⟨x.Maps.set ((bsP cmpM s.Id x.Maps : Int).toNat) ({ (gt x.Maps ((bsP cmpM s.Id x.Maps : Int).toNat)) with Copies := IntKind.i64.wrap (((gt x.Maps ((bsP cmpM s.Id x.Maps : Int).toNat)).Copies) + s.Value) }), x.Away, IntKind.i64.wrap (x.Bought + s.Value), x.Dropped, x.Mended⟩ : Library) else (⟨(x.Maps.take (bsP cmpM s.Id x.Maps : Int).toNat ++ ([(⟨s.Id, 0, 0⟩ : LMap)] : List LMap) ++ x.Maps.drop (bsP cmpM s.Id x.Maps : Int).toNat).set ((bsP cmpM s.Id x.Maps : Int).toNat) ({ (gt (x.Maps.take (bsP cmpM s.Id x.Maps : Int).toNat ++ ([(⟨s.Id, 0, 0⟩ : LMap)] : List LMap) ++ x.Maps.drop (bsP cmpM s.Id x.Maps : Int).toNat) ((bsP cmpM s.Id x.Maps : Int).toNat)) with Copies := IntKind.i64.wrap (((gt (x.Maps.take (bsP cmpM s.Id x.Maps : Int).toNat ++ ([(⟨s.Id, 0, 0⟩ : LMap)] : List LMap) ++ x.Maps.drop (bsP cmpM s.Id x.Maps : Int).toNat) ((bsP cmpM s.Id x.Maps : Int).toNat)).Copies) + s.Value) }), x.Away, IntKind.i64.wrap (x.Bought + s.Value), x.Dropped, x.Mended⟩ : Library)
theorem c__impl_Library__buy (w : World) (x : Library) {Ax_Maps : Option Addr} {nx_Maps cx_Maps Bx_Maps : Nat} (hx_Maps : SlO w Bx_Maps encLMap 3 73 Ax_Maps nx_Maps cx_Maps x.Maps) {Ax_Away : Option Addr} {nx_Away cx_Away Bx_Away : Nat} (hx_Away : SlO w Bx_Away encAway 2 77 Ax_Away nx_Away cx_Away x.Away) (s : LibraryStep) (hdx_Maps_x_Away : ∀ b_, Ax_Maps = some ⟨b_, 0, none⟩ → ¬ Ax_Away = some ⟨b_, 0, none⟩) (hp0 : (nx_Maps : Int) ≤ 100) (hp1 : (nx_Away : Int) ≤ 100) : Calls Try.prog 96 #[.agg (List.toArray [.slice Ax_Maps nx_Maps cx_Maps, .slice Ax_Away nx_Away cx_Away, .int .i64 x.Bought, .int .i64 x.Dropped, .int .i64 x.Mended]), .agg (List.toArray (encLibraryStep s))] w fun e w' => ∃ (A1' : Option Addr) (n1' c1' : Nat) (A2' : Option Addr) (n2' c2' : Nat), e = .returned (.agg (List.toArray [.slice A1' n1' c1', .slice A2' n2' c2', .int .i64 ((impl_Library_buy x s).Bought), .int .i64 ((impl_Library_buy x s).Dropped), .int .i64 ((impl_Library_buy x s).Mended)])) ∧ SlO w' Bx_Maps encLMap 3 73 A1' n1' c1' ((impl_Library_buy x s).Maps) ∧ SlO w' Bx_Away encAway 2 77 A2' n2' c2' ((impl_Library_buy x s).Away) ∧ (∀ b_, A1' = some ⟨b_, 0, none⟩ → ¬ A2' = some ⟨b_, 0, none⟩) ∧ (∀ b_, A1' = some ⟨b_, 0, none⟩ → (Ax_Maps = some ⟨b_, 0, none⟩ ∨ Ax_Away = some ⟨b_, 0, none⟩) ∨ w.heap.size ≤ b_) ∧ (∀ b_, A2' = some ⟨b_, 0, none⟩ → (Ax_Maps = some ⟨b_, 0, none⟩ ∨ Ax_Away = some ⟨b_, 0, none⟩) ∨ w.heap.size ≤ b_) ∧ Kp (fun b_ => Ax_Maps = some ⟨b_, 0, none⟩ ∨ Ax_Away = some ⟨b_, 0, none⟩) w w' := by
  refine calls_W 43 Try.func96 rfl rfl rfl ?_
  have hcpx_Maps := hx_Maps.rd.cap
  have hbbx_Maps := hx_Maps.rd.bd
  have hbdx_Maps := hx_Maps.rd.bound
  have hlex_Maps := hx_Maps.len
  have hBbx_Maps := hx_Maps.bd
  have hcpx_Away := hx_Away.rd.cap
  have hbbx_Away := hx_Away.rd.bd
  have hbdx_Away := hx_Away.rd.bound
  have hlex_Away := hx_Away.len
  have hBbx_Away := hx_Away.bd
  have hcpx_Maps := hx_Maps.rd.cap
  have hbbx_Maps := hx_Maps.rd.bd
  have hbdx_Maps := hx_Maps.rd.bound
  have hlex_Maps := hx_Maps.len
  have hBbx_Maps := hx_Maps.bd
  have hcpx_Away := hx_Away.rd.cap
  have hbbx_Away := hx_Away.rd.bd
  have hbdx_Away := hx_Away.rd.bound
  have hlex_Away := hx_Away.len
  have hBbx_Away := hx_Away.bd
  refine W.seq ?_
  refine W.regS (SR.box (v := .agg (List.toArray _)) (l := [.slice Ax_Maps nx_Maps cx_Maps, .slice Ax_Away nx_Away cx_Away, .int .i64 x.Bought, .int .i64 x.Dropped, .int .i64 x.Mended]) rfl rfl ?_)
  intro g1 w2 hg3 hk4 hs5 hb6
  have hz7 := hk4.size
  have hB8 := (Kp.refl w : Kp (fun b_ => Ax_Maps = some ⟨b_, 0, none⟩ ∨ Ax_Away = some ⟨b_, 0, none⟩) w w).lo hk4
  have hd9 : ¬ Ax_Maps = some ⟨g1, 0, none⟩ := fun e' => by have := (hx_Maps).base_le e'; omega
  have hd10 : ¬ Ax_Away = some ⟨g1, 0, none⟩ := fun e' => by have := (hx_Away).base_le e'; omega
  refine SR.box (v := .agg (List.toArray _)) (l := [.int .i64 s.Kind, .int .i64 s.Id, .int .i64 s.Reader, .int .i64 s.Value]) rfl rfl ?_
  intro g11 w12 hg13 hk14 hs15 hb16
  have hz17 := hk14.size
  have hB18 := hB8.lo hk14
  have hd19 : ¬ Ax_Maps = some ⟨g11, 0, none⟩ := fun e' => by have := ((hx_Maps).lo hk4).base_le e'; omega
  have hd20 : ¬ Ax_Away = some ⟨g11, 0, none⟩ := fun e' => by have := ((hx_Away).lo hk4).base_le e'; omega
  refine SR.alloc (l := [.slice none 0 0, .slice none 0 0, .int .i64 0, .int .i64 0, .int .i64 0]) tz31 rfl ?_
  intro g21 w22 hg23 hk24 hs25 hb26
  have hz27 := hk24.size
  have hB28 := hB18.lo hk24
  have hd29 : ¬ Ax_Maps = some ⟨g21, 0, none⟩ := fun e' => by have := (((hx_Maps).lo hk4).lo hk14).base_le e'; omega
  have hd30 : ¬ Ax_Away = some ⟨g21, 0, none⟩ := fun e' => by have := (((hx_Away).lo hk4).lo hk14).base_le e'; omega
  refine SR.nil ?_
  refine W.seq ?_
  have hm31 := ((hb6).lo hk14).lo hk24
  have hm32 := (((hx_Maps).lo hk4).lo hk14).lo hk24
  have hm33 := (((hx_Away).lo hk4).lo hk14).lo hk24
  refine W.regS (SR.q' (r_lda (l := [.slice Ax_Maps nx_Maps cx_Maps, .slice Ax_Away nx_Away cx_Away, .int .i64 x.Bought, .int .i64 x.Dropped, .int .i64 x.Mended]) agg31 rfl (fun _ _ hu => (hm31).cell hu) rfl) <| SR.q' (r_fa fa49_1 rfl) <| SR.q' (r_ld (v := .int .i64 s.Id) sca3 rfl (((hb16).lo hk24).cell rfl)) <| SR.call ent53 (c__impl_Library__mapAt w22 x (((hm32).rd)) (((hm33).rd)) s.Id (by omega)) rfl ?_)
  rintro e w34 ⟨rfl, hk35⟩
  refine ⟨_, rfl, ?_⟩
  have hz36 := hk35.size
  have hB37 := hB28.lo hk35
  have hq38 : bsP cmpM s.Id x.Maps ≤ x.Maps.length := bsP_le
  refine SR.q' (r_mv (v := .tuple (List.toArray _)) rfl) <| SR.q' (r_ext (v := .int .i64 _) rfl rfl) <| SR.q' (r_ext (v := .bool _) rfl rfl) <| SR.q' (r_as (v := .int .i64 _) rfl) <| SR.q' (r_as (v := .bool _) rfl) <| SR.nil ?_
  refine W.seq ?_
  refine W.seq ?_
  have hm39 := ((hb16).lo hk24).lo hk35
  refine W.regS (SR.q' (r_mv (v := .bool _) rfl) <| SR.q' (r_not rfl) <| SR.nil ?_)
  refine W.cond_n rfl (fun h40 => ?_) (fun h40 => ?_)
  · refine W.regS (SR.q' (r_fa fa31_0 rfl) <| SR.q' (r_ld (v := .slice Ax_Maps nx_Maps cx_Maps) sca28 rfl (((hm31).lo hk35).cell rfl)) <| SR.q' (r_mv (v := .int .i64 _) rfl) <| SR.q' (r_fa fa49_1 rfl) <| SR.q' (r_ld (v := .int .i64 s.Id) sca3 rfl ((hm39).cell rfl)) <| SR.q' (r_build (vs := [(0, .int .i64 s.Id)]) rfl (bld73_0 _)) <| SR.lit (vs := [.agg (List.toArray [.int .i64 s.Id, .int .i64 0, .int .i64 0])]) (L := ([(⟨s.Id, 0, 0⟩ : LMap)] : List LMap)) (enc := encLMap) tel28 (fun _ => rfl) rfl rfl rfl (by decide) ?_)
    intro g41 w42 hg43 hk44 hO45
    have hz46 := hk44.size
    have hB47 := hB37.lo hk44
    have hd48 : ¬ Ax_Maps = some ⟨g41, 0, none⟩ := fun e' => by have := ((hm32).lo hk35).base_le e'; omega
    have hd49 : ¬ Ax_Away = some ⟨g41, 0, none⟩ := fun e' => by have := ((hm33).lo hk35).base_le e'; omega
    refine SR.call ent107 (c_slices_Insert___impl_Map_impl_Map_ w42 x.Maps (((hm32).lo hk35).lo hk44) (bsP cmpM s.Id x.Maps : Int) ([(⟨s.Id, 0, 0⟩ : LMap)] : List LMap) (hO45) (by omega) (by omega) (by omega) (fun b_ h h' => hd48 (h'.trans h.symm))) rfl ?_
    rintro e w50 ⟨A52, n53, c54, rfl, hO55, hN56, hk51⟩
    refine ⟨_, rfl, ?_⟩
    have hz57 := hk51.size
    have hB58 := hB47.step hk51 (fun i_ hi_ e' => by have := ((((hm32).lo hk35).lo hk44)).base_le e'; first | omega | (exfalso; omega) | exact e' | exact .inl e' | exact .inr e')
    have hd59 : ∀ b_, A52 = some ⟨b_, 0, none⟩ → ¬ Ax_Away = some ⟨b_, 0, none⟩ := fun b_ e' h' => (hN56 b_ e').elim (fun h => hdx_Maps_x_Away b_ h h') (fun h => by have := (((hm33).lo hk35).lo hk44).base_le h'; omega)
    have hd60 : ∀ b_, A52 = some ⟨b_, 0, none⟩ → ¬ (some (⟨g41, 0, none⟩ : Addr)) = some ⟨b_, 0, none⟩ := fun b_ e' h' => (hN56 b_ e').elim (fun h => (fun b_ h h' => hd48 (h.trans h'.symm)) b_ h h') (fun h => by have := (hO45).base_le h'; omega)
    have hd61 : ¬ A52 = some ⟨g1, 0, none⟩ := fun e' => (hN56 g1 e').elim (fun h => hd9 h) (fun h => by have := (((hm31).lo hk35).lo hk44).lt; omega)
    have hd62 : ¬ A52 = some ⟨g11, 0, none⟩ := fun e' => (hN56 g11 e').elim (fun h => hd19 h) (fun h => by have := ((hm39).lo hk44).lt; omega)
    have hd63 : ¬ A52 = some ⟨g21, 0, none⟩ := fun e' => (hN56 g21 e').elim (fun h => hd29 h) (fun h => by have := (((hb26).lo hk35).lo hk44).lt; omega)
    have hl64 := hO55.len
    have hl65 := hO55.rd.bound
    have hq66 := ins_len1 x.Maps ((⟨s.Id, 0, 0⟩ : LMap)) ((bsP cmpM s.Id x.Maps : Int).toNat)
    refine SR.q' (r_fa fa31_0 rfl) <| SR.store (o := 0) (vs := [.slice A52 n53 c54]) sca28.2 rfl rfl rfl rfl ((((hm31).lo hk35).lo hk44).kp hk51 (fun e' => hd9 e')) (Nat.le_of_ble_eq_true rfl) rfl ?_
    intro w67 hk68 hs69 hb70
    have hz71 := hk68.size
    have hB72 := hB58.new hk68 (by omega)
    refine SR.nil ?_
    refine W.seq ?_
    have hm73 := ((((hm33).lo hk35).lo hk44).kp hk51 (fun b_ hb e' => hdx_Maps_x_Away b_ e' hb)).kp hk68 (fun b_ hb e' => hd10 (by have e'' : b_ = g1 := e'; rw [← e'']; exact hb))
    have hm74 := (((hm39).lo hk44).kp hk51 (fun e' => hd19 e')).kp hk68 (fun e' => by have e'' : g11 = g1 := e'; omega)
    have hm75 := ((((hb26).lo hk35).lo hk44).kp hk51 (fun e' => hd29 e')).kp hk68 (fun e' => by have e'' : g21 = g1 := e'; omega)
    refine W.regA (Kp (fun b_ => A52 = some ⟨b_, 0, none⟩) w67) (fun f' w' => At f' [(2, .pointer (some ((⟨g1, 0, none⟩ : Addr)))), (3, .pointer (some ((⟨g11, 0, none⟩ : Addr)))), (4, .pointer (some ((⟨g21, 0, none⟩ : Addr))))] ∧ (Kp (fun b_ => A52 = some ⟨b_, 0, none⟩) w67 w') ∧ (SlO w' Bx_Maps encLMap 3 73 A52 n53 c54 ((x.Maps.take (bsP cmpM s.Id x.Maps : Int).toNat ++ ([(⟨s.Id, 0, 0⟩ : LMap)] : List LMap) ++ x.Maps.drop (bsP cmpM s.Id x.Maps : Int).toNat).set ((bsP cmpM s.Id x.Maps : Int).toNat) ({ (gt (x.Maps.take (bsP cmpM s.Id x.Maps : Int).toNat ++ ([(⟨s.Id, 0, 0⟩ : LMap)] : List LMap) ++ x.Maps.drop (bsP cmpM s.Id x.Maps : Int).toNat) ((bsP cmpM s.Id x.Maps : Int).toNat)) with Copies := IntKind.i64.wrap (((gt (x.Maps.take (bsP cmpM s.Id x.Maps : Int).toNat ++ ([(⟨s.Id, 0, 0⟩ : LMap)] : List LMap) ++ x.Maps.drop (bsP cmpM s.Id x.Maps : Int).toNat) ((bsP cmpM s.Id x.Maps : Int).toNat)).Copies) + s.Value) }))) ∧ ((x.Maps.take (bsP cmpM s.Id x.Maps : Int).toNat ++ ([(⟨s.Id, 0, 0⟩ : LMap)] : List LMap) ++ x.Maps.drop (bsP cmpM s.Id x.Maps : Int).toNat)[(bsP cmpM s.Id x.Maps : Int).toNat]? = some (gt (x.Maps.take (bsP cmpM s.Id x.Maps : Int).toNat ++ ([(⟨s.Id, 0, 0⟩ : LMap)] : List LMap) ++ x.Maps.drop (bsP cmpM s.Id x.Maps : Int).toNat) ((bsP cmpM s.Id x.Maps : Int).toNat))) ∧ (((x.Maps.take (bsP cmpM s.Id x.Maps : Int).toNat ++ ([(⟨s.Id, 0, 0⟩ : LMap)] : List LMap) ++ x.Maps.drop (bsP cmpM s.Id x.Maps : Int).toNat).set ((bsP cmpM s.Id x.Maps : Int).toNat) ({ (gt (x.Maps.take (bsP cmpM s.Id x.Maps : Int).toNat ++ ([(⟨s.Id, 0, 0⟩ : LMap)] : List LMap) ++ x.Maps.drop (bsP cmpM s.Id x.Maps : Int).toNat) ((bsP cmpM s.Id x.Maps : Int).toNat)) with Copies := IntKind.i64.wrap (((gt (x.Maps.take (bsP cmpM s.Id x.Maps : Int).toNat ++ ([(⟨s.Id, 0, 0⟩ : LMap)] : List LMap) ++ x.Maps.drop (bsP cmpM s.Id x.Maps : Int).toNat) ((bsP cmpM s.Id x.Maps : Int).toNat)).Copies) + s.Value) }))[(bsP cmpM s.Id x.Maps : Int).toNat]? = some ({ (gt (x.Maps.take (bsP cmpM s.Id x.Maps : Int).toNat ++ ([(⟨s.Id, 0, 0⟩ : LMap)] : List LMap) ++ x.Maps.drop (bsP cmpM s.Id x.Maps : Int).toNat) ((bsP cmpM s.Id x.Maps : Int).toNat)) with Copies := IntKind.i64.wrap (((gt (x.Maps.take (bsP cmpM s.Id x.Maps : Int).toNat ++ ([(⟨s.Id, 0, 0⟩ : LMap)] : List LMap) ++ x.Maps.drop (bsP cmpM s.Id x.Maps : Int).toNat) ((bsP cmpM s.Id x.Maps : Int).toNat)).Copies) + s.Value) }))) mo ?_ ?_
    · intro w89 hk90
      have hz91 := hk90.size
      have hB92 := hB72.lo hk90
      refine AH.take 0 rfl (by kernel_rfl) trivial ((Kp.refl w67 : Kp (fun b_ => A52 = some ⟨b_, 0, none⟩) w67 w67).lo hk90) (fun w' hw' => r_fa fa31_0 rfl) <| AH.take 1 rfl (by kernel_rfl) trivial ((Kp.refl w67 : Kp (fun b_ => A52 = some ⟨b_, 0, none⟩) w67 w67).lo hk90) (fun w' hw' => r_ld (v := .slice A52 n53 c54) sca28 rfl (((hb70).kp hw' (fun e' => hd61 e')).cell rfl)) <| AH.take 2 rfl (by kernel_rfl) trivial ((Kp.refl w67 : Kp (fun b_ => A52 = some ⟨b_, 0, none⟩) w67 w67).lo hk90) (fun w' hw' => r_mv (v := .int .i64 _) rfl) <| ?_
      have hx94 := ((((hO55).kp hk68 (fun b_ hb e' => hd61 (by have e'' : b_ = g1 := e'; rw [← e'']; exact hb))).lo hk90).rd).elem (i := (bsP cmpM s.Id x.Maps : Int).toNat) (by omega)
      refine AH.take 6 rfl (by kernel_rfl) trivial ((Kp.refl w67 : Kp (fun b_ => A52 = some ⟨b_, 0, none⟩) w67 w67).lo hk90) (fun w' hw' => r_fa fa49_3 rfl) <| AH.take 7 rfl (by kernel_rfl) trivial ((Kp.refl w67 : Kp (fun b_ => A52 = some ⟨b_, 0, none⟩) w67 w67).lo hk90) (fun w' hw' => r_ld (v := .int .i64 s.Value) sca3 rfl (((hm74).kp hw' (fun e' => hd62 e')).cell rfl)) <| AH.br [3] (by kernel_rfl) rfl ⟨Br.mk' rfl trivial ?_, trivial⟩
      refine SR.q' (r_ixR tsl28 ((((hO55).kp hk68 (fun b_ hb e' => hd61 (by have e'' : b_ = g1 := e'; rw [← e'']; exact hb))).lo hk90).rd) rfl rfl (by omega)) ?_
      refine SR.nil ⟨(Kp.refl w67 : Kp (fun b_ => A52 = some ⟨b_, 0, none⟩) w67 w67).lo hk90, _, rfl, ?_⟩
      refine AH.take 4 rfl (by kernel_rfl) trivial ((Kp.refl w67 : Kp (fun b_ => A52 = some ⟨b_, 0, none⟩) w67 w67).lo hk90) (fun w' hw' => r_fa fa73_1 rfl) <| AH.br [5] (by kernel_rfl) rfl ⟨Br.mk' rfl trivial ?_, trivial⟩
      refine SR.q' (r_ld (v := .int .i64 ((gt (x.Maps.take (bsP cmpM s.Id x.Maps : Int).toNat ++ ([(⟨s.Id, 0, 0⟩ : LMap)] : List LMap) ++ x.Maps.drop (bsP cmpM s.Id x.Maps : Int).toNat) ((bsP cmpM s.Id x.Maps : Int).toNat)).Copies)) sca3 rfl (((((hO55).kp hk68 (fun b_ hb e' => hd61 (by have e'' : b_ = g1 := e'; rw [← e'']; exact hb))).lo hk90).rd).cell hx94 rfl)) ?_
      refine SR.nil ⟨(Kp.refl w67 : Kp (fun b_ => A52 = some ⟨b_, 0, none⟩) w67 w67).lo hk90, _, rfl, ?_⟩
      refine AH.take 8 rfl (by kernel_rfl) trivial ((Kp.refl w67 : Kp (fun b_ => A52 = some ⟨b_, 0, none⟩) w67 w67).lo hk90) (fun w' hw' => r_addW rfl rfl) <| AH.br [9] (by kernel_rfl) rfl ⟨Br.mk' rfl trivial ?_, trivial⟩
      refine SR.q' (r_ixR tsl28 ((((hO55).kp hk68 (fun b_ hb e' => hd61 (by have e'' : b_ = g1 := e'; rw [← e'']; exact hb))).lo hk90).rd) rfl rfl (by omega)) ?_
      refine SR.nil ⟨(Kp.refl w67 : Kp (fun b_ => A52 = some ⟨b_, 0, none⟩) w67 w67).lo hk90, _, rfl, ?_⟩
      refine AH.take 10 rfl (by kernel_rfl) trivial ((Kp.refl w67 : Kp (fun b_ => A52 = some ⟨b_, 0, none⟩) w67 w67).lo hk90) (fun w' hw' => r_fa fa73_1 rfl) <| AH.br [11] (by kernel_rfl) rfl ⟨Br.mk' rfl trivial ?_, trivial⟩
      refine SR.storeO (o := 1) (vs := [.int .i64 (IntKind.i64.wrap (((gt (x.Maps.take (bsP cmpM s.Id x.Maps : Int).toNat ++ ([(⟨s.Id, 0, 0⟩ : LMap)] : List LMap) ++ x.Maps.drop (bsP cmpM s.Id x.Maps : Int).toNat) ((bsP cmpM s.Id x.Maps : Int).toNat)).Copies) + s.Value))]) (x1 := { (gt (x.Maps.take (bsP cmpM s.Id x.Maps : Int).toNat ++ ([(⟨s.Id, 0, 0⟩ : LMap)] : List LMap) ++ x.Maps.drop (bsP cmpM s.Id x.Maps : Int).toNat) ((bsP cmpM s.Id x.Maps : Int).toNat)) with Copies := IntKind.i64.wrap (((gt (x.Maps.take (bsP cmpM s.Id x.Maps : Int).toNat ++ ([(⟨s.Id, 0, 0⟩ : LMap)] : List LMap) ++ x.Maps.drop (bsP cmpM s.Id x.Maps : Int).toNat) ((bsP cmpM s.Id x.Maps : Int).toNat)).Copies) + s.Value) }) sca3.2 rfl (add_add _ _ _) rfl rfl (((hO55).kp hk68 (fun b_ hb e' => hd61 (by have e'' : b_ = g1 := e'; rw [← e'']; exact hb))).lo hk90) hx94 rfl (Nat.le_of_ble_eq_true rfl) rfl ?_
      intro w95 hk96 hs97 hO98
      have hz99 := hk96.size
      have hB100 := hB92.step hk96 (fun i_ hi_ e' => ((show ∀ b_, A52 = some ⟨b_, 0, none⟩ → (Ax_Maps = some ⟨b_, 0, none⟩ ∨ Ax_Away = some ⟨b_, 0, none⟩) ∨ w.heap.size ≤ b_ from (fun b_ h_ => (hN56 b_ h_).elim (fun h => ((show ∀ b_, Ax_Maps = some ⟨b_, 0, none⟩ → (Ax_Maps = some ⟨b_, 0, none⟩ ∨ Ax_Away = some ⟨b_, 0, none⟩) ∨ w.heap.size ≤ b_ from (fun b_ h_ => .inl (.inl h_))) b_ h)) (fun h => .inr (by omega)))) i_ e').elim (fun e_ => e_) (fun e_ => by exfalso; omega))
      have hS101 := ((Kp.refl w67 : Kp (fun b_ => A52 = some ⟨b_, 0, none⟩) w67 w67).lo hk90).step hk96 (fun _ _ e => e)
      have hx102 : ((x.Maps.take (bsP cmpM s.Id x.Maps : Int).toNat ++ ([(⟨s.Id, 0, 0⟩ : LMap)] : List LMap) ++ x.Maps.drop (bsP cmpM s.Id x.Maps : Int).toNat).set ((bsP cmpM s.Id x.Maps : Int).toNat) ({ (gt (x.Maps.take (bsP cmpM s.Id x.Maps : Int).toNat ++ ([(⟨s.Id, 0, 0⟩ : LMap)] : List LMap) ++ x.Maps.drop (bsP cmpM s.Id x.Maps : Int).toNat) ((bsP cmpM s.Id x.Maps : Int).toNat)) with Copies := IntKind.i64.wrap (((gt (x.Maps.take (bsP cmpM s.Id x.Maps : Int).toNat ++ ([(⟨s.Id, 0, 0⟩ : LMap)] : List LMap) ++ x.Maps.drop (bsP cmpM s.Id x.Maps : Int).toNat) ((bsP cmpM s.Id x.Maps : Int).toNat)).Copies) + s.Value) }))[(bsP cmpM s.Id x.Maps : Int).toNat]? = some ({ (gt (x.Maps.take (bsP cmpM s.Id x.Maps : Int).toNat ++ ([(⟨s.Id, 0, 0⟩ : LMap)] : List LMap) ++ x.Maps.drop (bsP cmpM s.Id x.Maps : Int).toNat) ((bsP cmpM s.Id x.Maps : Int).toNat)) with Copies := IntKind.i64.wrap (((gt (x.Maps.take (bsP cmpM s.Id x.Maps : Int).toNat ++ ([(⟨s.Id, 0, 0⟩ : LMap)] : List LMap) ++ x.Maps.drop (bsP cmpM s.Id x.Maps : Int).toNat) ((bsP cmpM s.Id x.Maps : Int).toNat)).Copies) + s.Value) }) := List.getElem?_set_self (List.getElem?_eq_some_iff.1 hx94).1
      refine SR.nil ⟨hS101, _, rfl, ?_⟩
      refine AH.done (by kernel_rfl) ?_
      exact ⟨⟨rfl, rfl, rfl, trivial⟩, hS101, (hO98), hx94, hx102⟩
    rintro f104 w105 ⟨hat107, hR106, hm103, hx94, hx102⟩
    rw [← sets_of_at hat107]
    have hz108 := hR106.size
    have hB109 := hB72.step hR106 (fun i_ hi_ e' => ((show ∀ b_, A52 = some ⟨b_, 0, none⟩ → (Ax_Maps = some ⟨b_, 0, none⟩ ∨ Ax_Away = some ⟨b_, 0, none⟩) ∨ w.heap.size ≤ b_ from (fun b_ h_ => (hN56 b_ h_).elim (fun h => ((show ∀ b_, Ax_Maps = some ⟨b_, 0, none⟩ → (Ax_Maps = some ⟨b_, 0, none⟩ ∨ Ax_Away = some ⟨b_, 0, none⟩) ∨ w.heap.size ≤ b_ from (fun b_ h_ => .inl (.inl h_))) b_ h)) (fun h => .inr (by omega)))) i_ e').elim (fun e_ => e_) (fun e_ => by exfalso; omega))
    refine W.seq ?_
    refine W.regS (SR.q' (r_fa fa31_2 rfl) <| SR.q' (r_ld (v := .int .i64 x.Bought) sca3 rfl (((hb70).kp hR106 (fun e' => hd61 e')).cell rfl)) <| SR.q' (r_fa fa49_3 rfl) <| SR.q' (r_ld (v := .int .i64 s.Value) sca3 rfl (((hm74).kp hR106 (fun e' => hd62 e')).cell rfl)) <| SR.q' (r_addW rfl rfl) <| SR.q' (r_fa fa31_2 rfl) <| SR.store (o := 2) (vs := [.int .i64 (IntKind.i64.wrap (x.Bought + s.Value))]) sca3.2 rfl rfl rfl rfl ((hb70).kp hR106 (fun e' => hd61 e')) (Nat.le_of_ble_eq_true rfl) rfl ?_)
    intro w110 hk111 hs112 hb113
    have hz114 := hk111.size
    have hB115 := hB109.new hk111 (by omega)
    refine SR.nil ?_
    refine W.seq ?_
    have hm116 := ((hm73).kp hR106 (fun b_ hb e' => hd59 b_ e' hb)).kp hk111 (fun b_ hb e' => hd10 (by have e'' : b_ = g1 := e'; rw [← e'']; exact hb))
    have hm117 := ((hm75).kp hR106 (fun e' => hd63 e')).kp hk111 (fun e' => by have e'' : g21 = g1 := e'; omega)
    refine W.regS (SR.q' (r_lda (l := [.slice A52 n53 c54, .slice Ax_Away nx_Away cx_Away, .int .i64 (IntKind.i64.wrap (x.Bought + s.Value)), .int .i64 x.Dropped, .int .i64 x.Mended]) agg31 rfl (fun _ _ hu => (hb113).cell hu) rfl) <| SR.store (o := 0) (vs := [.slice A52 n53 c54, .slice Ax_Away nx_Away cx_Away, .int .i64 (IntKind.i64.wrap (x.Bought + s.Value)), .int .i64 x.Dropped, .int .i64 x.Mended]) agg31.2 rfl rfl rfl rfl (hm117) (Nat.le_of_ble_eq_true rfl) rfl ?_)
    intro w118 hk119 hs120 hb121
    have hz122 := hk119.size
    have hB123 := hB115.new hk119 (by omega)
    refine SR.nil ?_
    refine W.ret ?_
    refine retC rfl rfl agg31 (hb121) rfl ?_
    exact ⟨A52, n53, c54, Ax_Away, nx_Away, cx_Away, eR (eA (eC rfl (eC rfl (eC (eI (by subst hlex_Away hl64; unfold impl_Library_buy; rw [if_neg h40] <;> rfl)) (eC (eI (by subst hlex_Away hl64; unfold impl_Library_buy; rw [if_neg h40] <;> rfl)) (eC (eI (by subst hlex_Away hl64; unfold impl_Library_buy; rw [if_neg h40] <;> rfl)) rfl)))))), (SlO.eqv (((hm103).kp hk111 (fun b_ hb e' => hd61 (by have e'' : b_ = g1 := e'; rw [← e'']; exact hb))).kp hk119 (fun b_ hb e' => hd63 (by have e'' : b_ = g21 := e'; rw [← e'']; exact hb))) (by subst hlex_Away hl64; unfold impl_Library_buy; rw [if_neg h40] <;> rfl)), (SlO.eqv ((hm116).kp hk119 (fun b_ hb e' => hd30 (by have e'' : b_ = g21 := e'; rw [← e'']; exact hb))) (by subst hlex_Away hl64; unfold impl_Library_buy; rw [if_neg h40] <;> rfl)), hd59, (fun b_ h_ => (hN56 b_ h_).elim (fun h => ((show ∀ b_, Ax_Maps = some ⟨b_, 0, none⟩ → (Ax_Maps = some ⟨b_, 0, none⟩ ∨ Ax_Away = some ⟨b_, 0, none⟩) ∨ w.heap.size ≤ b_ from (fun b_ h_ => .inl (.inl h_))) b_ h)) (fun h => .inr (by omega))), (fun b_ h_ => .inl (.inr (h_))), hB123⟩
  · have hq124 := And.left h40
    refine W.skip ?_
    refine W.seq ?_
    refine W.regA (Kp (fun b_ => Ax_Maps = some ⟨b_, 0, none⟩) w34) (fun f' w' => At f' [(2, .pointer (some ((⟨g1, 0, none⟩ : Addr)))), (3, .pointer (some ((⟨g11, 0, none⟩ : Addr)))), (4, .pointer (some ((⟨g21, 0, none⟩ : Addr))))] ∧ (Kp (fun b_ => Ax_Maps = some ⟨b_, 0, none⟩) w34 w') ∧ (SlO w' Bx_Maps encLMap 3 73 Ax_Maps nx_Maps cx_Maps (x.Maps.set ((bsP cmpM s.Id x.Maps : Int).toNat) ({ (gt x.Maps ((bsP cmpM s.Id x.Maps : Int).toNat)) with Copies := IntKind.i64.wrap (((gt x.Maps ((bsP cmpM s.Id x.Maps : Int).toNat)).Copies) + s.Value) }))) ∧ (x.Maps[(bsP cmpM s.Id x.Maps : Int).toNat]? = some (gt x.Maps ((bsP cmpM s.Id x.Maps : Int).toNat))) ∧ ((x.Maps.set ((bsP cmpM s.Id x.Maps : Int).toNat) ({ (gt x.Maps ((bsP cmpM s.Id x.Maps : Int).toNat)) with Copies := IntKind.i64.wrap (((gt x.Maps ((bsP cmpM s.Id x.Maps : Int).toNat)).Copies) + s.Value) }))[(bsP cmpM s.Id x.Maps : Int).toNat]? = some ({ (gt x.Maps ((bsP cmpM s.Id x.Maps : Int).toNat)) with Copies := IntKind.i64.wrap (((gt x.Maps ((bsP cmpM s.Id x.Maps : Int).toNat)).Copies) + s.Value) }))) mo ?_ ?_
    · intro w138 hk139
      have hz140 := hk139.size
      have hB141 := hB37.lo hk139
      refine AH.take 0 rfl (by kernel_rfl) trivial ((Kp.refl w34 : Kp (fun b_ => Ax_Maps = some ⟨b_, 0, none⟩) w34 w34).lo hk139) (fun w' hw' => r_fa fa31_0 rfl) <| AH.take 1 rfl (by kernel_rfl) trivial ((Kp.refl w34 : Kp (fun b_ => Ax_Maps = some ⟨b_, 0, none⟩) w34 w34).lo hk139) (fun w' hw' => r_ld (v := .slice Ax_Maps nx_Maps cx_Maps) sca28 rfl ((((hm31).lo hk35).kp hw' (fun e' => hd9 e')).cell rfl)) <| AH.take 2 rfl (by kernel_rfl) trivial ((Kp.refl w34 : Kp (fun b_ => Ax_Maps = some ⟨b_, 0, none⟩) w34 w34).lo hk139) (fun w' hw' => r_mv (v := .int .i64 _) rfl) <| ?_
      have hx143 := ((((hm32).lo hk35).lo hk139).rd).elem (i := (bsP cmpM s.Id x.Maps : Int).toNat) (by omega)
      refine AH.take 6 rfl (by kernel_rfl) trivial ((Kp.refl w34 : Kp (fun b_ => Ax_Maps = some ⟨b_, 0, none⟩) w34 w34).lo hk139) (fun w' hw' => r_fa fa49_3 rfl) <| AH.take 7 rfl (by kernel_rfl) trivial ((Kp.refl w34 : Kp (fun b_ => Ax_Maps = some ⟨b_, 0, none⟩) w34 w34).lo hk139) (fun w' hw' => r_ld (v := .int .i64 s.Value) sca3 rfl (((hm39).kp hw' (fun e' => hd19 e')).cell rfl)) <| AH.br [3] (by kernel_rfl) rfl ⟨Br.mk' rfl trivial ?_, trivial⟩
      refine SR.q' (r_ixR tsl28 ((((hm32).lo hk35).lo hk139).rd) rfl rfl (by omega)) ?_
      refine SR.nil ⟨(Kp.refl w34 : Kp (fun b_ => Ax_Maps = some ⟨b_, 0, none⟩) w34 w34).lo hk139, _, rfl, ?_⟩
      refine AH.take 4 rfl (by kernel_rfl) trivial ((Kp.refl w34 : Kp (fun b_ => Ax_Maps = some ⟨b_, 0, none⟩) w34 w34).lo hk139) (fun w' hw' => r_fa fa73_1 rfl) <| AH.br [5] (by kernel_rfl) rfl ⟨Br.mk' rfl trivial ?_, trivial⟩
      refine SR.q' (r_ld (v := .int .i64 ((gt x.Maps ((bsP cmpM s.Id x.Maps : Int).toNat)).Copies)) sca3 rfl (((((hm32).lo hk35).lo hk139).rd).cell hx143 rfl)) ?_
      refine SR.nil ⟨(Kp.refl w34 : Kp (fun b_ => Ax_Maps = some ⟨b_, 0, none⟩) w34 w34).lo hk139, _, rfl, ?_⟩
      refine AH.take 8 rfl (by kernel_rfl) trivial ((Kp.refl w34 : Kp (fun b_ => Ax_Maps = some ⟨b_, 0, none⟩) w34 w34).lo hk139) (fun w' hw' => r_addW rfl rfl) <| AH.br [9] (by kernel_rfl) rfl ⟨Br.mk' rfl trivial ?_, trivial⟩
      refine SR.q' (r_ixR tsl28 ((((hm32).lo hk35).lo hk139).rd) rfl rfl (by omega)) ?_
      refine SR.nil ⟨(Kp.refl w34 : Kp (fun b_ => Ax_Maps = some ⟨b_, 0, none⟩) w34 w34).lo hk139, _, rfl, ?_⟩
      refine AH.take 10 rfl (by kernel_rfl) trivial ((Kp.refl w34 : Kp (fun b_ => Ax_Maps = some ⟨b_, 0, none⟩) w34 w34).lo hk139) (fun w' hw' => r_fa fa73_1 rfl) <| AH.br [11] (by kernel_rfl) rfl ⟨Br.mk' rfl trivial ?_, trivial⟩
      refine SR.storeO (o := 1) (vs := [.int .i64 (IntKind.i64.wrap (((gt x.Maps ((bsP cmpM s.Id x.Maps : Int).toNat)).Copies) + s.Value))]) (x1 := { (gt x.Maps ((bsP cmpM s.Id x.Maps : Int).toNat)) with Copies := IntKind.i64.wrap (((gt x.Maps ((bsP cmpM s.Id x.Maps : Int).toNat)).Copies) + s.Value) }) sca3.2 rfl (add_add _ _ _) rfl rfl (((hm32).lo hk35).lo hk139) hx143 rfl (Nat.le_of_ble_eq_true rfl) rfl ?_
      intro w144 hk145 hs146 hO147
      have hz148 := hk145.size
      have hB149 := hB141.step hk145 (fun i_ hi_ e' => by have := ((((hm32).lo hk35).lo hk139)).base_le e'; first | omega | (exfalso; omega) | exact e' | exact .inl e' | exact .inr e')
      have hS150 := ((Kp.refl w34 : Kp (fun b_ => Ax_Maps = some ⟨b_, 0, none⟩) w34 w34).lo hk139).step hk145 (fun _ _ e => e)
      have hx151 : (x.Maps.set ((bsP cmpM s.Id x.Maps : Int).toNat) ({ (gt x.Maps ((bsP cmpM s.Id x.Maps : Int).toNat)) with Copies := IntKind.i64.wrap (((gt x.Maps ((bsP cmpM s.Id x.Maps : Int).toNat)).Copies) + s.Value) }))[(bsP cmpM s.Id x.Maps : Int).toNat]? = some ({ (gt x.Maps ((bsP cmpM s.Id x.Maps : Int).toNat)) with Copies := IntKind.i64.wrap (((gt x.Maps ((bsP cmpM s.Id x.Maps : Int).toNat)).Copies) + s.Value) }) := List.getElem?_set_self (List.getElem?_eq_some_iff.1 hx143).1
      refine SR.nil ⟨hS150, _, rfl, ?_⟩
      refine AH.done (by kernel_rfl) ?_
      exact ⟨⟨rfl, rfl, rfl, trivial⟩, hS150, (hO147), hx143, hx151⟩
    rintro f153 w154 ⟨hat156, hR155, hm152, hx143, hx151⟩
    rw [← sets_of_at hat156]
    have hz157 := hR155.size
    have hB158 := hB37.step hR155 (fun i_ hi_ e' => by have := (((hm32).lo hk35)).base_le e'; first | omega | (exfalso; omega) | exact e' | exact .inl e' | exact .inr e')
    refine W.seq ?_
    have hm159 := ((hm31).lo hk35).kp hR155 (fun e' => hd9 e')
    have hm160 := ((hm33).lo hk35).kp hR155 (fun b_ hb e' => hdx_Maps_x_Away b_ e' hb)
    have hm161 := ((hb26).lo hk35).kp hR155 (fun e' => hd29 e')
    refine W.regS (SR.q' (r_fa fa31_2 rfl) <| SR.q' (r_ld (v := .int .i64 x.Bought) sca3 rfl ((hm159).cell rfl)) <| SR.q' (r_fa fa49_3 rfl) <| SR.q' (r_ld (v := .int .i64 s.Value) sca3 rfl (((hm39).kp hR155 (fun e' => hd19 e')).cell rfl)) <| SR.q' (r_addW rfl rfl) <| SR.q' (r_fa fa31_2 rfl) <| SR.store (o := 2) (vs := [.int .i64 (IntKind.i64.wrap (x.Bought + s.Value))]) sca3.2 rfl rfl rfl rfl (hm159) (Nat.le_of_ble_eq_true rfl) rfl ?_)
    intro w162 hk163 hs164 hb165
    have hz166 := hk163.size
    have hB167 := hB158.new hk163 (by omega)
    refine SR.nil ?_
    refine W.seq ?_
    refine W.regS (SR.q' (r_lda (l := [.slice Ax_Maps nx_Maps cx_Maps, .slice Ax_Away nx_Away cx_Away, .int .i64 (IntKind.i64.wrap (x.Bought + s.Value)), .int .i64 x.Dropped, .int .i64 x.Mended]) agg31 rfl (fun _ _ hu => (hb165).cell hu) rfl) <| SR.store (o := 0) (vs := [.slice Ax_Maps nx_Maps cx_Maps, .slice Ax_Away nx_Away cx_Away, .int .i64 (IntKind.i64.wrap (x.Bought + s.Value)), .int .i64 x.Dropped, .int .i64 x.Mended]) agg31.2 rfl rfl rfl rfl ((hm161).kp hk163 (fun e' => by have e'' : g21 = g1 := e'; omega)) (Nat.le_of_ble_eq_true rfl) rfl ?_)
    intro w168 hk169 hs170 hb171
    have hz172 := hk169.size
    have hB173 := hB167.new hk169 (by omega)
    refine SR.nil ?_
    refine W.ret ?_
    refine retC rfl rfl agg31 (hb171) rfl ?_
    exact ⟨Ax_Maps, nx_Maps, cx_Maps, Ax_Away, nx_Away, cx_Away, eR (eA (eC rfl (eC rfl (eC (eI (by subst hlex_Maps hlex_Away; unfold impl_Library_buy; rw [if_pos h40] <;> rfl)) (eC (eI (by subst hlex_Maps hlex_Away; unfold impl_Library_buy; rw [if_pos h40] <;> rfl)) (eC (eI (by subst hlex_Maps hlex_Away; unfold impl_Library_buy; rw [if_pos h40] <;> rfl)) rfl)))))), (SlO.eqv (((hm152).kp hk163 (fun b_ hb e' => hd9 (by have e'' : b_ = g1 := e'; rw [← e'']; exact hb))).kp hk169 (fun b_ hb e' => hd29 (by have e'' : b_ = g21 := e'; rw [← e'']; exact hb))) (by subst hlex_Maps hlex_Away; unfold impl_Library_buy; rw [if_pos h40] <;> rfl)), (SlO.eqv (((hm160).kp hk163 (fun b_ hb e' => hd10 (by have e'' : b_ = g1 := e'; rw [← e'']; exact hb))).kp hk169 (fun b_ hb e' => hd30 (by have e'' : b_ = g21 := e'; rw [← e'']; exact hb))) (by subst hlex_Maps hlex_Away; unfold impl_Library_buy; rw [if_pos h40] <;> rfl)), hdx_Maps_x_Away, (fun b_ h_ => .inl (.inl h_)), (fun b_ h_ => .inl (.inr (h_))), hB173⟩

open Classical in
noncomputable def impl_Library_give (x : Library) (id : Int) (reader : Int) : Library × Bool :=
  if bsF cmpA (⟨id, reader⟩ : Away) x.Away then ((⟨([] : List LMap), ([] : List Away), 0, 0, 0⟩ : Library), false) else ((⟨x.Maps, x.Away.take (bsP cmpA (⟨id, reader⟩ : Away) x.Away : Int).toNat ++ ([(⟨id, reader⟩ : Away)] : List Away) ++ x.Away.drop (bsP cmpA (⟨id, reader⟩ : Away) x.Away : Int).toNat, x.Bought, x.Dropped, x.Mended⟩ : Library), true)
theorem c__impl_Library__give (w : World) (x : Library) {Ax_Maps : Option Addr} {nx_Maps cx_Maps Bx_Maps : Nat} (hx_Maps : SlO w Bx_Maps encLMap 3 73 Ax_Maps nx_Maps cx_Maps x.Maps) {Ax_Away : Option Addr} {nx_Away cx_Away Bx_Away : Nat} (hx_Away : SlO w Bx_Away encAway 2 77 Ax_Away nx_Away cx_Away x.Away) (id : Int) (reader : Int) (hdx_Maps_x_Away : ∀ b_, Ax_Maps = some ⟨b_, 0, none⟩ → ¬ Ax_Away = some ⟨b_, 0, none⟩) (hp0 : (nx_Maps : Int) ≤ 100) (hp1 : (nx_Away : Int) ≤ 100) : Calls Try.prog 108 #[.agg (List.toArray [.slice Ax_Maps nx_Maps cx_Maps, .slice Ax_Away nx_Away cx_Away, .int .i64 x.Bought, .int .i64 x.Dropped, .int .i64 x.Mended]), .int .i64 id, .int .i64 reader] w fun e w' => ∃ (A1' : Option Addr) (n1' c1' : Nat) (A2' : Option Addr) (n2' c2' : Nat), e = .returned (.tuple (List.toArray [.agg (List.toArray [.slice A1' n1' c1', .slice A2' n2' c2', .int .i64 (((impl_Library_give x id reader).1).Bought), .int .i64 (((impl_Library_give x id reader).1).Dropped), .int .i64 (((impl_Library_give x id reader).1).Mended)]), .bool ((impl_Library_give x id reader).2)])) ∧ SlO w' Bx_Maps encLMap 3 73 A1' n1' c1' (((impl_Library_give x id reader).1).Maps) ∧ SlO w' Bx_Away encAway 2 77 A2' n2' c2' (((impl_Library_give x id reader).1).Away) ∧ (∀ b_, A1' = some ⟨b_, 0, none⟩ → ¬ A2' = some ⟨b_, 0, none⟩) ∧ (∀ b_, A1' = some ⟨b_, 0, none⟩ → (Ax_Maps = some ⟨b_, 0, none⟩ ∨ Ax_Away = some ⟨b_, 0, none⟩) ∨ w.heap.size ≤ b_) ∧ (∀ b_, A2' = some ⟨b_, 0, none⟩ → (Ax_Maps = some ⟨b_, 0, none⟩ ∨ Ax_Away = some ⟨b_, 0, none⟩) ∨ w.heap.size ≤ b_) ∧ Kp (fun b_ => Ax_Maps = some ⟨b_, 0, none⟩ ∨ Ax_Away = some ⟨b_, 0, none⟩) w w' := by
  refine calls_W 29 Try.func108 rfl rfl rfl ?_
  have hcpx_Maps := hx_Maps.rd.cap
  have hbbx_Maps := hx_Maps.rd.bd
  have hbdx_Maps := hx_Maps.rd.bound
  have hlex_Maps := hx_Maps.len
  have hBbx_Maps := hx_Maps.bd
  have hcpx_Away := hx_Away.rd.cap
  have hbbx_Away := hx_Away.rd.bd
  have hbdx_Away := hx_Away.rd.bound
  have hlex_Away := hx_Away.len
  have hBbx_Away := hx_Away.bd
  have hcpx_Maps := hx_Maps.rd.cap
  have hbbx_Maps := hx_Maps.rd.bd
  have hbdx_Maps := hx_Maps.rd.bound
  have hlex_Maps := hx_Maps.len
  have hBbx_Maps := hx_Maps.bd
  have hcpx_Away := hx_Away.rd.cap
  have hbbx_Away := hx_Away.rd.bd
  have hbdx_Away := hx_Away.rd.bound
  have hlex_Away := hx_Away.len
  have hBbx_Away := hx_Away.bd
  refine W.seq ?_
  refine W.regS (SR.box (v := .agg (List.toArray _)) (l := [.slice Ax_Maps nx_Maps cx_Maps, .slice Ax_Away nx_Away cx_Away, .int .i64 x.Bought, .int .i64 x.Dropped, .int .i64 x.Mended]) rfl rfl ?_)
  intro g1 w2 hg3 hk4 hs5 hb6
  have hz7 := hk4.size
  have hB8 := (Kp.refl w : Kp (fun b_ => Ax_Maps = some ⟨b_, 0, none⟩ ∨ Ax_Away = some ⟨b_, 0, none⟩) w w).lo hk4
  have hd9 : ¬ Ax_Maps = some ⟨g1, 0, none⟩ := fun e' => by have := (hx_Maps).base_le e'; omega
  have hd10 : ¬ Ax_Away = some ⟨g1, 0, none⟩ := fun e' => by have := (hx_Away).base_le e'; omega
  refine SR.alloc (l := [.slice none 0 0, .slice none 0 0, .int .i64 0, .int .i64 0, .int .i64 0]) tz31 rfl ?_
  intro g11 w12 hg13 hk14 hs15 hb16
  have hz17 := hk14.size
  have hB18 := hB8.lo hk14
  have hd19 : ¬ Ax_Maps = some ⟨g11, 0, none⟩ := fun e' => by have := ((hx_Maps).lo hk4).base_le e'; omega
  have hd20 : ¬ Ax_Away = some ⟨g11, 0, none⟩ := fun e' => by have := ((hx_Away).lo hk4).base_le e'; omega
  refine SR.q' (r_as (v := .bool false) rfl) <| SR.nil ?_
  refine W.seq ?_
  have hm21 := ((hx_Maps).lo hk4).lo hk14
  have hm22 := ((hx_Away).lo hk4).lo hk14
  refine W.regS (SR.q' (r_lda (l := [.slice Ax_Maps nx_Maps cx_Maps, .slice Ax_Away nx_Away cx_Away, .int .i64 x.Bought, .int .i64 x.Dropped, .int .i64 x.Mended]) agg31 rfl (fun _ _ hu => ((hb6).lo hk14).cell hu) rfl) <| SR.q' (r_mv (v := .int .i64 _) rfl) <| SR.q' (r_mv (v := .int .i64 _) rfl) <| SR.call ent113 (c__impl_Library__awayAt w12 x (((hm21).rd)) (((hm22).rd)) id reader (by omega)) rfl ?_)
  rintro e w23 ⟨rfl, hk24⟩
  refine ⟨_, rfl, ?_⟩
  have hz25 := hk24.size
  have hB26 := hB18.lo hk24
  have hq27 : bsP cmpA (⟨id, reader⟩ : Away) x.Away ≤ x.Away.length := bsP_le
  refine SR.q' (r_mv (v := .tuple (List.toArray _)) rfl) <| SR.q' (r_ext (v := .int .i64 _) rfl rfl) <| SR.q' (r_ext (v := .bool _) rfl rfl) <| SR.q' (r_as (v := .int .i64 _) rfl) <| SR.q' (r_as (v := .bool _) rfl) <| SR.nil ?_
  refine W.seq ?_
  refine W.seq ?_
  have hm28 := ((hb6).lo hk14).lo hk24
  refine W.regS (SR.q' (r_mv (v := .bool _) rfl) <| SR.nil ?_)
  refine W.cond_d rfl (fun h29 => ?_) (fun h29 => ?_)
  · have hq30 := And.left h29
    refine W.seq ?_
    refine W.regS (SR.q' (r_build (vs := []) rfl (bld31_)) <| SR.store (o := 0) (vs := [.slice none 0 0, .slice none 0 0, .int .i64 0, .int .i64 0, .int .i64 0]) agg31.2 rfl rfl rfl rfl ((hb16).lo hk24) (Nat.le_of_ble_eq_true rfl) rfl ?_)
    intro w31 hk32 hs33 hb34
    have hz35 := hk32.size
    have hB36 := hB26.new hk32 (by omega)
    refine SR.q' (r_as (v := .bool false) rfl) <| SR.nil ?_
    refine W.ret ?_
    refine retCT rfl rfl agg31 (hb34) rfl (v := .bool _) rfl ?_
    exact ⟨none, 0, 0, none, 0, 0, eR (eT2 (eA (eC rfl (eC rfl (eC (eI (by unfold impl_Library_give; rw [if_pos h29] <;> rfl)) (eC (eI (by unfold impl_Library_give; rw [if_pos h29] <;> rfl)) (eC (eI (by unfold impl_Library_give; rw [if_pos h29] <;> rfl)) rfl)))))) (eB (by unfold impl_Library_give; rw [if_pos h29] <;> rfl))), (SlO.eqv (SlO.nil (e := 73) (enc := encLMap) (fun _ => rfl) (by omega)) (by unfold impl_Library_give; rw [if_pos h29] <;> rfl)), (SlO.eqv (SlO.nil (e := 77) (enc := encAway) (fun _ => rfl) (by omega)) (by unfold impl_Library_give; rw [if_pos h29] <;> rfl)), (fun b_ h => by cases h), (fun b_ h => by cases h), (fun b_ h => by cases h), hB36⟩
  · refine W.skip ?_
    refine W.seq ?_
    refine W.regS (SR.q' (r_fa fa31_1 rfl) <| SR.q' (r_ld (v := .slice Ax_Away nx_Away cx_Away) sca29 rfl ((hm28).cell rfl)) <| SR.q' (r_mv (v := .int .i64 _) rfl) <| SR.q' (r_mv (v := .int .i64 _) rfl) <| SR.q' (r_mv (v := .int .i64 _) rfl) <| SR.q' (r_build (vs := [(0, .int .i64 id), (1, .int .i64 reader)]) rfl (bld77_0_1 _ _)) <| SR.lit (vs := [.agg (List.toArray [.int .i64 id, .int .i64 reader])]) (L := ([(⟨id, reader⟩ : Away)] : List Away)) (enc := encAway) tel29 (fun _ => rfl) rfl rfl rfl (by decide) ?_)
    intro g37 w38 hg39 hk40 hO41
    have hz42 := hk40.size
    have hB43 := hB26.lo hk40
    have hd44 : ¬ Ax_Maps = some ⟨g37, 0, none⟩ := fun e' => by have := ((hm21).lo hk24).base_le e'; omega
    have hd45 : ¬ Ax_Away = some ⟨g37, 0, none⟩ := fun e' => by have := ((hm22).lo hk24).base_le e'; omega
    refine SR.call ent114 (c_slices_Insert___impl_Away_impl_Away_ w38 x.Away (((hm22).lo hk24).lo hk40) (bsP cmpA (⟨id, reader⟩ : Away) x.Away : Int) ([(⟨id, reader⟩ : Away)] : List Away) (hO41) (by omega) (by omega) (by omega) (fun b_ h h' => hd45 (h'.trans h.symm))) rfl ?_
    rintro e w46 ⟨A48, n49, c50, rfl, hO51, hN52, hk47⟩
    refine ⟨_, rfl, ?_⟩
    have hz53 := hk47.size
    have hB54 := hB43.step hk47 (fun i_ hi_ e' => by have := ((((hm22).lo hk24).lo hk40)).base_le e'; first | omega | (exfalso; omega) | exact e' | exact .inl e' | exact .inr e')
    have hd55 : ∀ b_, A48 = some ⟨b_, 0, none⟩ → ¬ Ax_Maps = some ⟨b_, 0, none⟩ := fun b_ e' h' => (hN52 b_ e').elim (fun h => (fun b_ h h' => hdx_Maps_x_Away b_ h' h) b_ h h') (fun h => by have := (((hm21).lo hk24).lo hk40).base_le h'; omega)
    have hd56 : ∀ b_, A48 = some ⟨b_, 0, none⟩ → ¬ (some (⟨g37, 0, none⟩ : Addr)) = some ⟨b_, 0, none⟩ := fun b_ e' h' => (hN52 b_ e').elim (fun h => (fun b_ h h' => hd45 (h.trans h'.symm)) b_ h h') (fun h => by have := (hO41).base_le h'; omega)
    have hd57 : ¬ A48 = some ⟨g1, 0, none⟩ := fun e' => (hN52 g1 e').elim (fun h => hd10 h) (fun h => by have := ((hm28).lo hk40).lt; omega)
    have hd58 : ¬ A48 = some ⟨g11, 0, none⟩ := fun e' => (hN52 g11 e').elim (fun h => hd20 h) (fun h => by have := (((hb16).lo hk24).lo hk40).lt; omega)
    have hl59 := hO51.len
    have hl60 := hO51.rd.bound
    have hq61 := ins_len1 x.Away ((⟨id, reader⟩ : Away)) ((bsP cmpA (⟨id, reader⟩ : Away) x.Away : Int).toNat)
    refine SR.q' (r_fa fa31_1 rfl) <| SR.store (o := 1) (vs := [.slice A48 n49 c50]) sca29.2 rfl rfl rfl rfl (((hm28).lo hk40).kp hk47 (fun e' => hd10 e')) (Nat.le_of_ble_eq_true rfl) rfl ?_
    intro w62 hk63 hs64 hb65
    have hz66 := hk63.size
    have hB67 := hB54.new hk63 (by omega)
    refine SR.nil ?_
    refine W.seq ?_
    have hm68 := ((((hm21).lo hk24).lo hk40).kp hk47 (fun b_ hb e' => hdx_Maps_x_Away b_ hb e')).kp hk63 (fun b_ hb e' => hd9 (by have e'' : b_ = g1 := e'; rw [← e'']; exact hb))
    have hm69 := ((((hb16).lo hk24).lo hk40).kp hk47 (fun e' => hd20 e')).kp hk63 (fun e' => by have e'' : g11 = g1 := e'; omega)
    refine W.regS (SR.q' (r_lda (l := [.slice Ax_Maps nx_Maps cx_Maps, .slice A48 n49 c50, .int .i64 x.Bought, .int .i64 x.Dropped, .int .i64 x.Mended]) agg31 rfl (fun _ _ hu => (hb65).cell hu) rfl) <| SR.store (o := 0) (vs := [.slice Ax_Maps nx_Maps cx_Maps, .slice A48 n49 c50, .int .i64 x.Bought, .int .i64 x.Dropped, .int .i64 x.Mended]) agg31.2 rfl rfl rfl rfl (hm69) (Nat.le_of_ble_eq_true rfl) rfl ?_)
    intro w70 hk71 hs72 hb73
    have hz74 := hk71.size
    have hB75 := hB67.new hk71 (by omega)
    refine SR.q' (r_as (v := .bool true) rfl) <| SR.nil ?_
    refine W.ret ?_
    refine retCT rfl rfl agg31 (hb73) rfl (v := .bool _) rfl ?_
    exact ⟨Ax_Maps, nx_Maps, cx_Maps, A48, n49, c50, eR (eT2 (eA (eC rfl (eC rfl (eC (eI (by subst hlex_Maps hl59; unfold impl_Library_give; rw [if_neg h29] <;> rfl)) (eC (eI (by subst hlex_Maps hl59; unfold impl_Library_give; rw [if_neg h29] <;> rfl)) (eC (eI (by subst hlex_Maps hl59; unfold impl_Library_give; rw [if_neg h29] <;> rfl)) rfl)))))) (eB (by subst hlex_Maps hl59; unfold impl_Library_give; rw [if_neg h29] <;> rfl))), (SlO.eqv ((hm68).kp hk71 (fun b_ hb e' => hd19 (by have e'' : b_ = g11 := e'; rw [← e'']; exact hb))) (by subst hlex_Maps hl59; unfold impl_Library_give; rw [if_neg h29] <;> rfl)), (SlO.eqv (((hO51).kp hk63 (fun b_ hb e' => hd57 (by have e'' : b_ = g1 := e'; rw [← e'']; exact hb))).kp hk71 (fun b_ hb e' => hd58 (by have e'' : b_ = g11 := e'; rw [← e'']; exact hb))) (by subst hlex_Maps hl59; unfold impl_Library_give; rw [if_neg h29] <;> rfl)), (fun b_ h h' => hd55 b_ h' h), (fun b_ h_ => .inl (.inl h_)), (fun b_ h_ => (hN52 b_ h_).elim (fun h => ((show ∀ b_, Ax_Away = some ⟨b_, 0, none⟩ → (Ax_Maps = some ⟨b_, 0, none⟩ ∨ Ax_Away = some ⟨b_, 0, none⟩) ∨ w.heap.size ≤ b_ from (fun b_ h_ => .inl (.inr (h_)))) b_ h)) (fun h => .inr (by omega))), hB75⟩

open Classical in
noncomputable def impl_Library_fetch (x : Library) (id : Int) (reader : Int) : Library × Bool :=
  if bsF cmpA (⟨id, reader⟩ : Away) x.Away then ((⟨x.Maps, x.Away.take (bsP cmpA (⟨id, reader⟩ : Away) x.Away : Int).toNat ++ x.Away.drop ((bsP cmpA (⟨id, reader⟩ : Away) x.Away : Int) + 1).toNat, x.Bought, x.Dropped, x.Mended⟩ : Library), true) else ((⟨([] : List LMap), ([] : List Away), 0, 0, 0⟩ : Library), false)
theorem c__impl_Library__fetch (w : World) (x : Library) {Ax_Maps : Option Addr} {nx_Maps cx_Maps Bx_Maps : Nat} (hx_Maps : SlO w Bx_Maps encLMap 3 73 Ax_Maps nx_Maps cx_Maps x.Maps) {Ax_Away : Option Addr} {nx_Away cx_Away Bx_Away : Nat} (hx_Away : SlO w Bx_Away encAway 2 77 Ax_Away nx_Away cx_Away x.Away) (id : Int) (reader : Int) (hdx_Maps_x_Away : ∀ b_, Ax_Maps = some ⟨b_, 0, none⟩ → ¬ Ax_Away = some ⟨b_, 0, none⟩) (hp0 : (nx_Maps : Int) ≤ 100) (hp1 : (nx_Away : Int) ≤ 100) : Calls Try.prog 109 #[.agg (List.toArray [.slice Ax_Maps nx_Maps cx_Maps, .slice Ax_Away nx_Away cx_Away, .int .i64 x.Bought, .int .i64 x.Dropped, .int .i64 x.Mended]), .int .i64 id, .int .i64 reader] w fun e w' => ∃ (A1' : Option Addr) (n1' c1' : Nat) (A2' : Option Addr) (n2' c2' : Nat), e = .returned (.tuple (List.toArray [.agg (List.toArray [.slice A1' n1' c1', .slice A2' n2' c2', .int .i64 (((impl_Library_fetch x id reader).1).Bought), .int .i64 (((impl_Library_fetch x id reader).1).Dropped), .int .i64 (((impl_Library_fetch x id reader).1).Mended)]), .bool ((impl_Library_fetch x id reader).2)])) ∧ SlO w' Bx_Maps encLMap 3 73 A1' n1' c1' (((impl_Library_fetch x id reader).1).Maps) ∧ SlO w' Bx_Away encAway 2 77 A2' n2' c2' (((impl_Library_fetch x id reader).1).Away) ∧ (∀ b_, A1' = some ⟨b_, 0, none⟩ → ¬ A2' = some ⟨b_, 0, none⟩) ∧ (∀ b_, A1' = some ⟨b_, 0, none⟩ → (Ax_Maps = some ⟨b_, 0, none⟩ ∨ Ax_Away = some ⟨b_, 0, none⟩) ∨ w.heap.size ≤ b_) ∧ (∀ b_, A2' = some ⟨b_, 0, none⟩ → (Ax_Maps = some ⟨b_, 0, none⟩ ∨ Ax_Away = some ⟨b_, 0, none⟩) ∨ w.heap.size ≤ b_) ∧ Kp (fun b_ => Ax_Maps = some ⟨b_, 0, none⟩ ∨ Ax_Away = some ⟨b_, 0, none⟩) w w' := by
  refine calls_W 28 Try.func109 rfl rfl rfl ?_
  have hcpx_Maps := hx_Maps.rd.cap
  have hbbx_Maps := hx_Maps.rd.bd
  have hbdx_Maps := hx_Maps.rd.bound
  have hlex_Maps := hx_Maps.len
  have hBbx_Maps := hx_Maps.bd
  have hcpx_Away := hx_Away.rd.cap
  have hbbx_Away := hx_Away.rd.bd
  have hbdx_Away := hx_Away.rd.bound
  have hlex_Away := hx_Away.len
  have hBbx_Away := hx_Away.bd
  have hcpx_Maps := hx_Maps.rd.cap
  have hbbx_Maps := hx_Maps.rd.bd
  have hbdx_Maps := hx_Maps.rd.bound
  have hlex_Maps := hx_Maps.len
  have hBbx_Maps := hx_Maps.bd
  have hcpx_Away := hx_Away.rd.cap
  have hbbx_Away := hx_Away.rd.bd
  have hbdx_Away := hx_Away.rd.bound
  have hlex_Away := hx_Away.len
  have hBbx_Away := hx_Away.bd
  refine W.seq ?_
  refine W.regS (SR.box (v := .agg (List.toArray _)) (l := [.slice Ax_Maps nx_Maps cx_Maps, .slice Ax_Away nx_Away cx_Away, .int .i64 x.Bought, .int .i64 x.Dropped, .int .i64 x.Mended]) rfl rfl ?_)
  intro g1 w2 hg3 hk4 hs5 hb6
  have hz7 := hk4.size
  have hB8 := (Kp.refl w : Kp (fun b_ => Ax_Maps = some ⟨b_, 0, none⟩ ∨ Ax_Away = some ⟨b_, 0, none⟩) w w).lo hk4
  have hd9 : ¬ Ax_Maps = some ⟨g1, 0, none⟩ := fun e' => by have := (hx_Maps).base_le e'; omega
  have hd10 : ¬ Ax_Away = some ⟨g1, 0, none⟩ := fun e' => by have := (hx_Away).base_le e'; omega
  refine SR.alloc (l := [.slice none 0 0, .slice none 0 0, .int .i64 0, .int .i64 0, .int .i64 0]) tz31 rfl ?_
  intro g11 w12 hg13 hk14 hs15 hb16
  have hz17 := hk14.size
  have hB18 := hB8.lo hk14
  have hd19 : ¬ Ax_Maps = some ⟨g11, 0, none⟩ := fun e' => by have := ((hx_Maps).lo hk4).base_le e'; omega
  have hd20 : ¬ Ax_Away = some ⟨g11, 0, none⟩ := fun e' => by have := ((hx_Away).lo hk4).base_le e'; omega
  refine SR.q' (r_as (v := .bool false) rfl) <| SR.nil ?_
  refine W.seq ?_
  have hm21 := ((hx_Maps).lo hk4).lo hk14
  have hm22 := ((hx_Away).lo hk4).lo hk14
  refine W.regS (SR.q' (r_lda (l := [.slice Ax_Maps nx_Maps cx_Maps, .slice Ax_Away nx_Away cx_Away, .int .i64 x.Bought, .int .i64 x.Dropped, .int .i64 x.Mended]) agg31 rfl (fun _ _ hu => ((hb6).lo hk14).cell hu) rfl) <| SR.q' (r_mv (v := .int .i64 _) rfl) <| SR.q' (r_mv (v := .int .i64 _) rfl) <| SR.call ent113 (c__impl_Library__awayAt w12 x (((hm21).rd)) (((hm22).rd)) id reader (by omega)) rfl ?_)
  rintro e w23 ⟨rfl, hk24⟩
  refine ⟨_, rfl, ?_⟩
  have hz25 := hk24.size
  have hB26 := hB18.lo hk24
  have hq27 : bsP cmpA (⟨id, reader⟩ : Away) x.Away ≤ x.Away.length := bsP_le
  refine SR.q' (r_mv (v := .tuple (List.toArray _)) rfl) <| SR.q' (r_ext (v := .int .i64 _) rfl rfl) <| SR.q' (r_ext (v := .bool _) rfl rfl) <| SR.q' (r_as (v := .int .i64 _) rfl) <| SR.q' (r_as (v := .bool _) rfl) <| SR.nil ?_
  refine W.seq ?_
  refine W.seq ?_
  have hm28 := ((hb6).lo hk14).lo hk24
  refine W.regS (SR.q' (r_mv (v := .bool _) rfl) <| SR.q' (r_not rfl) <| SR.nil ?_)
  refine W.cond_n rfl (fun h29 => ?_) (fun h29 => ?_)
  · refine W.seq ?_
    refine W.regS (SR.q' (r_build (vs := []) rfl (bld31_)) <| SR.store (o := 0) (vs := [.slice none 0 0, .slice none 0 0, .int .i64 0, .int .i64 0, .int .i64 0]) agg31.2 rfl rfl rfl rfl ((hb16).lo hk24) (Nat.le_of_ble_eq_true rfl) rfl ?_)
    intro w30 hk31 hs32 hb33
    have hz34 := hk31.size
    have hB35 := hB26.new hk31 (by omega)
    refine SR.q' (r_as (v := .bool false) rfl) <| SR.nil ?_
    refine W.ret ?_
    refine retCT rfl rfl agg31 (hb33) rfl (v := .bool _) rfl ?_
    exact ⟨none, 0, 0, none, 0, 0, eR (eT2 (eA (eC rfl (eC rfl (eC (eI (by unfold impl_Library_fetch; rw [if_neg h29] <;> rfl)) (eC (eI (by unfold impl_Library_fetch; rw [if_neg h29] <;> rfl)) (eC (eI (by unfold impl_Library_fetch; rw [if_neg h29] <;> rfl)) rfl)))))) (eB (by unfold impl_Library_fetch; rw [if_neg h29] <;> rfl))), (SlO.eqv (SlO.nil (e := 73) (enc := encLMap) (fun _ => rfl) (by omega)) (by unfold impl_Library_fetch; rw [if_neg h29] <;> rfl)), (SlO.eqv (SlO.nil (e := 77) (enc := encAway) (fun _ => rfl) (by omega)) (by unfold impl_Library_fetch; rw [if_neg h29] <;> rfl)), (fun b_ h => by cases h), (fun b_ h => by cases h), (fun b_ h => by cases h), hB35⟩
  · have hq36 := And.left h29
    refine W.skip ?_
    refine W.seq ?_
    refine W.regS (SR.q' (r_fa fa31_1 rfl) <| SR.q' (r_ld (v := .slice Ax_Away nx_Away cx_Away) sca29 rfl ((hm28).cell rfl)) <| SR.q' (r_mv (v := .int .i64 _) rfl) <| SR.q' (r_mv (v := .int .i64 _) rfl) <| SR.q' (r_add rfl rfl (by omega)) <| SR.call ent115 (c_slices_Delete___impl_Away_impl_Away_ w23 x.Away ((hm22).lo hk24) (bsP cmpA (⟨id, reader⟩ : Away) x.Away : Int) ((bsP cmpA (⟨id, reader⟩ : Away) x.Away : Int) + 1) (by omega) (by omega) (by omega)) rfl ?_)
    rintro e w37 ⟨A39, n40, c41, rfl, hO42, hN43, hk38⟩
    refine ⟨_, rfl, ?_⟩
    have hz44 := hk38.size
    have hB45 := hB26.step hk38 (fun i_ hi_ e' => by have := (((hm22).lo hk24)).base_le e'; first | omega | (exfalso; omega) | exact e' | exact .inl e' | exact .inr e')
    have hd46 : ∀ b_, A39 = some ⟨b_, 0, none⟩ → ¬ Ax_Maps = some ⟨b_, 0, none⟩ := fun b_ e' h' => (hN43 b_ e').elim (fun h => (fun b_ h h' => hdx_Maps_x_Away b_ h' h) b_ h h') (fun h => by have := ((hm21).lo hk24).base_le h'; omega)
    have hd47 : ¬ A39 = some ⟨g1, 0, none⟩ := fun e' => (hN43 g1 e').elim (fun h => hd10 h) (fun h => by have := (hm28).lt; omega)
    have hd48 : ¬ A39 = some ⟨g11, 0, none⟩ := fun e' => (hN43 g11 e').elim (fun h => hd20 h) (fun h => by have := ((hb16).lo hk24).lt; omega)
    have hl49 := hO42.len
    have hl50 := hO42.rd.bound
    have hq51 := del_lenT x.Away (i := (bsP cmpA (⟨id, reader⟩ : Away) x.Away : Int).toNat) (j := ((bsP cmpA (⟨id, reader⟩ : Away) x.Away : Int) + 1).toNat) (by omega)
    refine SR.q' (r_fa fa31_1 rfl) <| SR.store (o := 1) (vs := [.slice A39 n40 c41]) sca29.2 rfl rfl rfl rfl ((hm28).kp hk38 (fun e' => hd10 e')) (Nat.le_of_ble_eq_true rfl) rfl ?_
    intro w52 hk53 hs54 hb55
    have hz56 := hk53.size
    have hB57 := hB45.new hk53 (by omega)
    refine SR.nil ?_
    refine W.seq ?_
    have hm58 := (((hm21).lo hk24).kp hk38 (fun b_ hb e' => hdx_Maps_x_Away b_ hb e')).kp hk53 (fun b_ hb e' => hd9 (by have e'' : b_ = g1 := e'; rw [← e'']; exact hb))
    have hm59 := (((hb16).lo hk24).kp hk38 (fun e' => hd20 e')).kp hk53 (fun e' => by have e'' : g11 = g1 := e'; omega)
    refine W.regS (SR.q' (r_lda (l := [.slice Ax_Maps nx_Maps cx_Maps, .slice A39 n40 c41, .int .i64 x.Bought, .int .i64 x.Dropped, .int .i64 x.Mended]) agg31 rfl (fun _ _ hu => (hb55).cell hu) rfl) <| SR.store (o := 0) (vs := [.slice Ax_Maps nx_Maps cx_Maps, .slice A39 n40 c41, .int .i64 x.Bought, .int .i64 x.Dropped, .int .i64 x.Mended]) agg31.2 rfl rfl rfl rfl (hm59) (Nat.le_of_ble_eq_true rfl) rfl ?_)
    intro w60 hk61 hs62 hb63
    have hz64 := hk61.size
    have hB65 := hB57.new hk61 (by omega)
    refine SR.q' (r_as (v := .bool true) rfl) <| SR.nil ?_
    refine W.ret ?_
    refine retCT rfl rfl agg31 (hb63) rfl (v := .bool _) rfl ?_
    exact ⟨Ax_Maps, nx_Maps, cx_Maps, A39, n40, c41, eR (eT2 (eA (eC rfl (eC rfl (eC (eI (by subst hlex_Maps hl49; unfold impl_Library_fetch; rw [if_pos h29] <;> rfl)) (eC (eI (by subst hlex_Maps hl49; unfold impl_Library_fetch; rw [if_pos h29] <;> rfl)) (eC (eI (by subst hlex_Maps hl49; unfold impl_Library_fetch; rw [if_pos h29] <;> rfl)) rfl)))))) (eB (by subst hlex_Maps hl49; unfold impl_Library_fetch; rw [if_pos h29] <;> rfl))), (SlO.eqv ((hm58).kp hk61 (fun b_ hb e' => hd19 (by have e'' : b_ = g11 := e'; rw [← e'']; exact hb))) (by subst hlex_Maps hl49; unfold impl_Library_fetch; rw [if_pos h29] <;> rfl)), (SlO.eqv (((hO42).kp hk53 (fun b_ hb e' => hd47 (by have e'' : b_ = g1 := e'; rw [← e'']; exact hb))).kp hk61 (fun b_ hb e' => hd48 (by have e'' : b_ = g11 := e'; rw [← e'']; exact hb))) (by subst hlex_Maps hl49; unfold impl_Library_fetch; rw [if_pos h29] <;> rfl)), (fun b_ h h' => hd46 b_ h' h), (fun b_ h_ => .inl (.inl h_)), (fun b_ h_ => (hN43 b_ h_).elim (fun h => ((show ∀ b_, Ax_Away = some ⟨b_, 0, none⟩ → (Ax_Maps = some ⟨b_, 0, none⟩ ∨ Ax_Away = some ⟨b_, 0, none⟩) ∨ w.heap.size ≤ b_ from (fun b_ h_ => .inl (.inr (h_)))) b_ h)) (fun h => .inr (by omega))), hB65⟩
end Go.Proofs.Ytbodnffjgmaloaa
