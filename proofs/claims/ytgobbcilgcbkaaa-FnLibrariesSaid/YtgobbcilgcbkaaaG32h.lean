/- Walks, printed by a program of this claim's author. -/
import Derived.Test.YtgobbcilgcbkaaaChecked
import Derived.Test.YtgobbcilgcbkaaaUa
import Derived.Test.YtgobbcilgcbkaaaFu
import Derived.Test.YtgobbcilgcbkaaaFs
import Derived.Test.YtgobbcilgcbkaaaFq
import Derived.Test.YtgobbcilgcbkaaaFo
import Derived.Test.YtgobbcilgcbkaaaDa
import Derived.Test.YtgobbcilgcbkaaaUb
import Derived.Test.YtgobbcilgcbkaaaG32c
namespace Go.Proofs.Ytgobbcilgcbkaaa
open Go Go.RowKit Fw
set_option maxRecDepth 10000
set_option maxHeartbeats 2000000
set_option linter.unusedVariables false
theorem bld27_ : Try.prog.built 27 [] = some (List.toArray [.slice none 0 0, .slice none 0 0, .int .i64 0, .int .i64 0, .int .i64 0]) := by kernel_rfl
theorem bld27_0_1_2_3_4 (a0 : Option Addr) (b0 c0 : Nat) (a1 : Option Addr) (b1 c1 : Nat) (a2 : Int) (a3 : Int) (a4 : Int) : Try.prog.built 27 [(0, .slice a0 b0 c0), (1, .slice a1 b1 c1), (2, .int .i64 a2), (3, .int .i64 a3), (4, .int .i64 a4)] = some (List.toArray [.slice a0 b0 c0, .slice a1 b1 c1, .int .i64 a2, .int .i64 a3, .int .i64 a4]) := by kernel_rfl
theorem bld59_0 (a0 : Int) : Try.prog.built 59 [(0, .int .i64 a0)] = some (List.toArray [.int .i64 a0, .int .i64 0, .int .i64 0]) := by kernel_rfl
theorem bld63_0_1 (a0 : Int) (a1 : Int) : Try.prog.built 63 [(0, .int .i64 a0), (1, .int .i64 a1)] = some (List.toArray [.int .i64 a0, .int .i64 a1]) := by kernel_rfl
theorem ent59 : Ent Try.prog 59 := ent_of Try.func59 (by decide +kernel) rfl
theorem ent60 : Ent Try.prog 60 := ent_of Try.func60 (by decide +kernel) rfl
theorem ent61 : Ent Try.prog 61 := ent_of Try.func61 (by decide +kernel) rfl
theorem ent71 : Ent Try.prog 71 := ent_of Try.func71 (by decide +kernel) rfl
theorem ent72 : Ent Try.prog 72 := ent_of Try.func72 (by decide +kernel) rfl
theorem ent73 : Ent Try.prog 73 := ent_of Try.func73 (by decide +kernel) rfl
theorem ent75 : Ent Try.prog 75 := ent_of Try.func75 (by decide +kernel) rfl
theorem fa29_0 : FA Try.prog 29 0 0 := fun _ _ => by kernel_rfl
theorem fa29_1 : FA Try.prog 29 1 1 := fun _ _ => by kernel_rfl
theorem fa29_2 : FA Try.prog 29 2 2 := fun _ _ => by kernel_rfl
theorem fa29_3 : FA Try.prog 29 3 3 := fun _ _ => by kernel_rfl
theorem ovl69 : Ovl Try.prog 69 24 4 := fun args w => run_callFunc_extern Try.func69 (by kernel_rfl) (by kernel_rfl) (by kernel_rfl) (by kernel_rfl) args w
theorem ovl76 : Ovl Try.prog 76 25 4 := fun args w => run_callFunc_extern Try.func76 (by kernel_rfl) (by kernel_rfl) (by kernel_rfl) (by kernel_rfl) args w
theorem tel24 : TEl Try.prog 24 59 (.agg (List.toArray [.int .i64 0, .int .i64 0, .int .i64 0])) 3 24 := ⟨by kernel_rfl, by kernel_rfl, rfl, by decide⟩
theorem tel25 : TEl Try.prog 25 63 (.agg (List.toArray [.int .i64 0, .int .i64 0])) 2 16 := ⟨by kernel_rfl, by kernel_rfl, rfl, by decide⟩
theorem tz27 : TZ Try.prog 27 (.agg (List.toArray [.slice none 0 0, .slice none 0 0, .int .i64 0, .int .i64 0, .int .i64 0])) := fun _ => by kernel_rfl

open Classical in
noncomputable def impl_isLibraryStep (s : LibraryStep) : Bool :=
  if s.Kind = 1 then decide ((1 ≤ s.Id ∧ s.Id ≤ 99) ∧ ((s.Reader = 0) ∧ (1 ≤ s.Value ∧ s.Value ≤ 50))) else if s.Kind = 2 then decide ((1 ≤ s.Reader ∧ s.Reader ≤ 999) ∧ (s.Value = 0)) else if s.Kind = 3 then decide ((1 ≤ s.Reader ∧ s.Reader ≤ 999) ∧ (0 ≤ s.Value ∧ s.Value ≤ 1)) else if s.Kind = 5 then decide ((1 ≤ s.Reader ∧ s.Reader ≤ 999) ∧ (1 ≤ s.Value ∧ s.Value ≤ 999)) else if s.Kind = 4 then decide ((s.Reader = 0) ∧ (1 ≤ s.Value)) else if s.Kind = 6 then decide ((s.Reader = 0) ∧ (1 ≤ s.Value)) else if s.Kind = 7 then decide ((s.Reader = 0) ∧ (1 ≤ s.Value)) else false
theorem c_impl_isLibraryStep (w : World) (s : LibraryStep) : Calls Try.prog 42 #[.agg (List.toArray (encLibraryStep s))] w fun e w' => e = .returned (.bool (impl_isLibraryStep s)) ∧ Lo w w' := by
  refine calls_W 62 Try.func42 rfl rfl rfl ?_
  refine W.seq ?_
  refine W.regS (SR.box (v := .agg (List.toArray _)) (l := [.int .i64 s.Kind, .int .i64 s.Id, .int .i64 s.Reader, .int .i64 s.Value]) rfl rfl ?_)
  intro g1 w2 hg3 hk4 hs5 hb6
  have hz7 := hk4.size
  have hB8 := (Lo.refl w).lo hk4
  refine SR.q' (r_as (v := .bool false) rfl) <| SR.nil ?_
  refine W.seq ?_
  refine W.seq ?_
  refine W.regS (SR.q' (r_fa fa29_0 rfl) <| SR.q' (r_ld (v := .int .i64 s.Kind) sca3 rfl ((hb6).cell rfl)) <| SR.nil ?_)
  refine W.block ?_
  refine W.seq ?_
  refine W.regS (SR.q' (r_eq rfl rfl) <| SR.q' (r_as (v := .bool _) rfl) <| SR.nil ?_)
  refine W.cond_d rfl (fun h9 => ?_) (fun h9 => ?_)
  · refine W.seq ?_
    refine W.regJS (fun f' w' => At f' [(2, .bool (decide ((1 ≤ s.Id ∧ s.Id ≤ 99) ∧ ((s.Reader = 0) ∧ (1 ≤ s.Value ∧ s.Value ≤ 50)))))] ∧ Lo w2 w') ?_ ?_
    · refine SR.q' (r_fa fa29_1 rfl) <| SR.q' (r_ld (v := .int .i64 s.Id) sca3 rfl ((hb6).cell rfl)) <| SR.call ent28 (c_impl_isMapId w2 s.Id) rfl ?_
      rintro e w10 ⟨rfl, hk11⟩
      refine ⟨_, rfl, ?_⟩
      have hz12 := hk11.size
      have hB13 := hB8.lo hk11
      refine SR.q' (r_mv (v := .bool _) rfl) <| SR.splitD (fun h14 => ?_) (fun h14 => ?_)
      · refine SR.g' rfl (r_fa fa29_2 rfl) <| SR.g' rfl (r_ld (v := .int .i64 s.Reader) sca3 rfl (((hb6).lo hk11).cell rfl)) <| SR.g' rfl (r_eq rfl rfl) <| SR.q' (r_pick true rfl (v := .bool _) rfl) <| SR.q' (r_mv (v := .bool _) rfl) <| SR.splitD (fun h15 => ?_) (fun h15 => ?_)
        · refine SR.g' rfl (r_fa fa29_3 rfl) <| SR.g' rfl (r_ld (v := .int .i64 s.Value) sca3 rfl (((hb6).lo hk11).cell rfl)) <| SR.gcall rfl ent29 (c_impl_within w10 s.Value 1 50) rfl ?_
          rintro e w16 ⟨rfl, hk17⟩
          refine ⟨_, rfl, ?_⟩
          have hz18 := hk17.size
          have hB19 := hB13.lo hk17
          refine SR.q' (r_pick true rfl (v := .bool _) rfl) <| SR.q' (r_as (v := .bool _) rfl) <| SR.nil ?_
          exact ⟨_, rfl, ⟨⟨(eDD ((jat h15).trans (jat h14))), trivial⟩, ((hk11).trans hk17)⟩⟩
        · refine SR.s' rfl <| SR.s' rfl <| SR.s' rfl <| SR.q' (r_pick false rfl (v := .bool false) rfl) <| SR.q' (r_as (v := .bool _) rfl) <| SR.nil ?_
          exact ⟨_, rfl, ⟨⟨(eDF ((jaf h15).trans (jat h14)).2), trivial⟩, (hk11)⟩⟩
      · refine SR.s' rfl <| SR.s' rfl <| SR.s' rfl <| SR.q' (r_pick false rfl (v := .bool false) rfl) <| SR.q' (r_mv (v := .bool _) rfl) <| SR.s' rfl <| SR.s' rfl <| SR.s' rfl <| SR.q' (r_pick false rfl (v := .bool false) rfl) <| SR.q' (r_as (v := .bool _) rfl) <| SR.nil ?_
        exact ⟨_, rfl, ⟨⟨(eDF (jaf h14).2), trivial⟩, (hk11)⟩⟩
    rintro f20 w21 ⟨hat22, hk23⟩
    rw [← sets_of_at hat22]
    have hz24 := hk23.size
    have hB25 := hB8.lo hk23
    refine W.ret ?_
    refine ret1 rfl (v := .bool _) rfl ?_
    exact ⟨eR (eB (by unfold impl_isLibraryStep; rw [if_pos h9] <;> rfl)), hB25⟩
  · refine W.seq ?_
    refine W.regS (SR.q' (r_eq rfl rfl) <| SR.q' (r_as (v := .bool _) rfl) <| SR.nil ?_)
    refine W.cond_d rfl (fun h26 => ?_) (fun h26 => ?_)
    · refine W.seq ?_
      refine W.regJS (fun f' w' => At f' [(2, .bool (decide ((1 ≤ s.Reader ∧ s.Reader ≤ 999) ∧ (s.Value = 0))))] ∧ Lo w2 w') ?_ ?_
      · refine SR.q' (r_fa fa29_2 rfl) <| SR.q' (r_ld (v := .int .i64 s.Reader) sca3 rfl ((hb6).cell rfl)) <| SR.call ent31 (c_impl_isId w2 s.Reader) rfl ?_
        rintro e w27 ⟨rfl, hk28⟩
        refine ⟨_, rfl, ?_⟩
        have hz29 := hk28.size
        have hB30 := hB8.lo hk28
        refine SR.q' (r_mv (v := .bool _) rfl) <| SR.splitD (fun h31 => ?_) (fun h31 => ?_)
        · refine SR.g' rfl (r_fa fa29_3 rfl) <| SR.g' rfl (r_ld (v := .int .i64 s.Value) sca3 rfl (((hb6).lo hk28).cell rfl)) <| SR.g' rfl (r_eq rfl rfl) <| SR.q' (r_pick true rfl (v := .bool _) rfl) <| SR.q' (r_as (v := .bool _) rfl) <| SR.nil ?_
          exact ⟨_, rfl, ⟨⟨(eDD (jat h31)), trivial⟩, (hk28)⟩⟩
        · refine SR.s' rfl <| SR.s' rfl <| SR.s' rfl <| SR.q' (r_pick false rfl (v := .bool false) rfl) <| SR.q' (r_as (v := .bool _) rfl) <| SR.nil ?_
          exact ⟨_, rfl, ⟨⟨(eDF (jaf h31).2), trivial⟩, (hk28)⟩⟩
      rintro f32 w33 ⟨hat34, hk35⟩
      rw [← sets_of_at hat34]
      have hz36 := hk35.size
      have hB37 := hB8.lo hk35
      refine W.ret ?_
      refine ret1 rfl (v := .bool _) rfl ?_
      exact ⟨eR (eB (by unfold impl_isLibraryStep; rw [if_neg h9, if_pos h26] <;> rfl)), hB37⟩
    · refine W.seq ?_
      refine W.regS (SR.q' (r_eq rfl rfl) <| SR.q' (r_as (v := .bool _) rfl) <| SR.nil ?_)
      refine W.cond_d rfl (fun h38 => ?_) (fun h38 => ?_)
      · refine W.seq ?_
        refine W.regJS (fun f' w' => At f' [(2, .bool (decide ((1 ≤ s.Reader ∧ s.Reader ≤ 999) ∧ (0 ≤ s.Value ∧ s.Value ≤ 1))))] ∧ Lo w2 w') ?_ ?_
        · refine SR.q' (r_fa fa29_2 rfl) <| SR.q' (r_ld (v := .int .i64 s.Reader) sca3 rfl ((hb6).cell rfl)) <| SR.call ent31 (c_impl_isId w2 s.Reader) rfl ?_
          rintro e w39 ⟨rfl, hk40⟩
          refine ⟨_, rfl, ?_⟩
          have hz41 := hk40.size
          have hB42 := hB8.lo hk40
          refine SR.q' (r_mv (v := .bool _) rfl) <| SR.splitD (fun h43 => ?_) (fun h43 => ?_)
          · refine SR.g' rfl (r_fa fa29_3 rfl) <| SR.g' rfl (r_ld (v := .int .i64 s.Value) sca3 rfl (((hb6).lo hk40).cell rfl)) <| SR.gcall rfl ent29 (c_impl_within w39 s.Value 0 1) rfl ?_
            rintro e w44 ⟨rfl, hk45⟩
            refine ⟨_, rfl, ?_⟩
            have hz46 := hk45.size
            have hB47 := hB42.lo hk45
            refine SR.q' (r_pick true rfl (v := .bool _) rfl) <| SR.q' (r_as (v := .bool _) rfl) <| SR.nil ?_
            exact ⟨_, rfl, ⟨⟨(eDD (jat h43)), trivial⟩, ((hk40).trans hk45)⟩⟩
          · refine SR.s' rfl <| SR.s' rfl <| SR.s' rfl <| SR.q' (r_pick false rfl (v := .bool false) rfl) <| SR.q' (r_as (v := .bool _) rfl) <| SR.nil ?_
            exact ⟨_, rfl, ⟨⟨(eDF (jaf h43).2), trivial⟩, (hk40)⟩⟩
        rintro f48 w49 ⟨hat50, hk51⟩
        rw [← sets_of_at hat50]
        have hz52 := hk51.size
        have hB53 := hB8.lo hk51
        refine W.ret ?_
        refine ret1 rfl (v := .bool _) rfl ?_
        exact ⟨eR (eB (by unfold impl_isLibraryStep; rw [if_neg h9, if_neg h26, if_pos h38] <;> rfl)), hB53⟩
      · refine W.seq ?_
        refine W.regS (SR.q' (r_eq rfl rfl) <| SR.q' (r_as (v := .bool _) rfl) <| SR.nil ?_)
        refine W.cond_d rfl (fun h54 => ?_) (fun h54 => ?_)
        · refine W.seq ?_
          refine W.regJS (fun f' w' => At f' [(2, .bool (decide ((1 ≤ s.Reader ∧ s.Reader ≤ 999) ∧ (1 ≤ s.Value ∧ s.Value ≤ 999))))] ∧ Lo w2 w') ?_ ?_
          · refine SR.q' (r_fa fa29_2 rfl) <| SR.q' (r_ld (v := .int .i64 s.Reader) sca3 rfl ((hb6).cell rfl)) <| SR.call ent31 (c_impl_isId w2 s.Reader) rfl ?_
            rintro e w55 ⟨rfl, hk56⟩
            refine ⟨_, rfl, ?_⟩
            have hz57 := hk56.size
            have hB58 := hB8.lo hk56
            refine SR.q' (r_mv (v := .bool _) rfl) <| SR.splitD (fun h59 => ?_) (fun h59 => ?_)
            · refine SR.g' rfl (r_fa fa29_3 rfl) <| SR.g' rfl (r_ld (v := .int .i64 s.Value) sca3 rfl (((hb6).lo hk56).cell rfl)) <| SR.gcall rfl ent31 (c_impl_isId w55 s.Value) rfl ?_
              rintro e w60 ⟨rfl, hk61⟩
              refine ⟨_, rfl, ?_⟩
              have hz62 := hk61.size
              have hB63 := hB58.lo hk61
              refine SR.q' (r_pick true rfl (v := .bool _) rfl) <| SR.q' (r_as (v := .bool _) rfl) <| SR.nil ?_
              exact ⟨_, rfl, ⟨⟨(eDD (jat h59)), trivial⟩, ((hk56).trans hk61)⟩⟩
            · refine SR.s' rfl <| SR.s' rfl <| SR.s' rfl <| SR.q' (r_pick false rfl (v := .bool false) rfl) <| SR.q' (r_as (v := .bool _) rfl) <| SR.nil ?_
              exact ⟨_, rfl, ⟨⟨(eDF (jaf h59).2), trivial⟩, (hk56)⟩⟩
          rintro f64 w65 ⟨hat66, hk67⟩
          rw [← sets_of_at hat66]
          have hz68 := hk67.size
          have hB69 := hB8.lo hk67
          refine W.ret ?_
          refine ret1 rfl (v := .bool _) rfl ?_
          exact ⟨eR (eB (by unfold impl_isLibraryStep; rw [if_neg h9, if_neg h26, if_neg h38, if_pos h54] <;> rfl)), hB69⟩
        · refine W.seq ?_
          refine W.seq ?_
          refine W.regS (SR.q' (r_eq rfl rfl) <| SR.q' (r_as (v := .bool _) rfl) <| SR.nil ?_)
          refine W.cond_d rfl (fun h70 => ?_) (fun h70 => ?_)
          · refine W.skip ?_
            refine W.cond_t (congrArg Value.bool (decide_eq_true h70)) ?_
            refine W.seq ?_
            refine W.regJS (fun f' w' => At f' [(2, .bool (decide ((s.Reader = 0) ∧ (1 ≤ s.Value))))] ∧ Lo w2 w') ?_ ?_
            · refine SR.q' (r_fa fa29_2 rfl) <| SR.q' (r_ld (v := .int .i64 s.Reader) sca3 rfl ((hb6).cell rfl)) <| SR.q' (r_eq rfl rfl) <| SR.q' (r_mv (v := .bool _) rfl) <| SR.splitD (fun h71 => ?_) (fun h71 => ?_)
              · refine SR.g' rfl (r_fa fa29_3 rfl) <| SR.g' rfl (r_ld (v := .int .i64 s.Value) sca3 rfl ((hb6).cell rfl)) <| SR.g' rfl (r_ge rfl rfl) <| SR.q' (r_pick true rfl (v := .bool _) rfl) <| SR.q' (r_as (v := .bool _) rfl) <| SR.nil ?_
                exact ⟨_, rfl, ⟨⟨(eDD (jat h71)), trivial⟩, (Lo.refl _)⟩⟩
              · refine SR.s' rfl <| SR.s' rfl <| SR.s' rfl <| SR.q' (r_pick false rfl (v := .bool false) rfl) <| SR.q' (r_as (v := .bool _) rfl) <| SR.nil ?_
                exact ⟨_, rfl, ⟨⟨(eDF (jaf h71).2), trivial⟩, (Lo.refl _)⟩⟩
            rintro f72 w73 ⟨hat74, hk75⟩
            rw [← sets_of_at hat74]
            have hz76 := hk75.size
            have hB77 := hB8.lo hk75
            refine W.ret ?_
            refine ret1 rfl (v := .bool _) rfl ?_
            exact ⟨eR (eB (by unfold impl_isLibraryStep; rw [if_neg h9, if_neg h26, if_neg h38, if_neg h54, if_pos h70] <;> rfl)), hB77⟩
          · refine W.seq ?_
            refine W.regS (SR.q' (r_eq rfl rfl) <| SR.q' (r_as (v := .bool _) rfl) <| SR.nil ?_)
            refine W.cond_d rfl (fun h78 => ?_) (fun h78 => ?_)
            · refine W.skip ?_
              refine W.cond_t (congrArg Value.bool (decide_eq_true h78)) ?_
              refine W.seq ?_
              refine W.regJS (fun f' w' => At f' [(2, .bool (decide ((s.Reader = 0) ∧ (1 ≤ s.Value))))] ∧ Lo w2 w') ?_ ?_
              · refine SR.q' (r_fa fa29_2 rfl) <| SR.q' (r_ld (v := .int .i64 s.Reader) sca3 rfl ((hb6).cell rfl)) <| SR.q' (r_eq rfl rfl) <| SR.q' (r_mv (v := .bool _) rfl) <| SR.splitD (fun h79 => ?_) (fun h79 => ?_)
                · refine SR.g' rfl (r_fa fa29_3 rfl) <| SR.g' rfl (r_ld (v := .int .i64 s.Value) sca3 rfl ((hb6).cell rfl)) <| SR.g' rfl (r_ge rfl rfl) <| SR.q' (r_pick true rfl (v := .bool _) rfl) <| SR.q' (r_as (v := .bool _) rfl) <| SR.nil ?_
                  exact ⟨_, rfl, ⟨⟨(eDD (jat h79)), trivial⟩, (Lo.refl _)⟩⟩
                · refine SR.s' rfl <| SR.s' rfl <| SR.s' rfl <| SR.q' (r_pick false rfl (v := .bool false) rfl) <| SR.q' (r_as (v := .bool _) rfl) <| SR.nil ?_
                  exact ⟨_, rfl, ⟨⟨(eDF (jaf h79).2), trivial⟩, (Lo.refl _)⟩⟩
              rintro f80 w81 ⟨hat82, hk83⟩
              rw [← sets_of_at hat82]
              have hz84 := hk83.size
              have hB85 := hB8.lo hk83
              refine W.ret ?_
              refine ret1 rfl (v := .bool _) rfl ?_
              exact ⟨eR (eB (by unfold impl_isLibraryStep; rw [if_neg h9, if_neg h26, if_neg h38, if_neg h54, if_neg h70, if_pos h78] <;> rfl)), hB85⟩
            · refine W.regS (SR.q' (r_eq rfl rfl) <| SR.q' (r_as (v := .bool _) rfl) <| SR.nil ?_)
              refine W.cond_d rfl (fun h86 => ?_) (fun h86 => ?_)
              · refine W.seq ?_
                refine W.regJS (fun f' w' => At f' [(2, .bool (decide ((s.Reader = 0) ∧ (1 ≤ s.Value))))] ∧ Lo w2 w') ?_ ?_
                · refine SR.q' (r_fa fa29_2 rfl) <| SR.q' (r_ld (v := .int .i64 s.Reader) sca3 rfl ((hb6).cell rfl)) <| SR.q' (r_eq rfl rfl) <| SR.q' (r_mv (v := .bool _) rfl) <| SR.splitD (fun h87 => ?_) (fun h87 => ?_)
                  · refine SR.g' rfl (r_fa fa29_3 rfl) <| SR.g' rfl (r_ld (v := .int .i64 s.Value) sca3 rfl ((hb6).cell rfl)) <| SR.g' rfl (r_ge rfl rfl) <| SR.q' (r_pick true rfl (v := .bool _) rfl) <| SR.q' (r_as (v := .bool _) rfl) <| SR.nil ?_
                    exact ⟨_, rfl, ⟨⟨(eDD (jat h87)), trivial⟩, (Lo.refl _)⟩⟩
                  · refine SR.s' rfl <| SR.s' rfl <| SR.s' rfl <| SR.q' (r_pick false rfl (v := .bool false) rfl) <| SR.q' (r_as (v := .bool _) rfl) <| SR.nil ?_
                    exact ⟨_, rfl, ⟨⟨(eDF (jaf h87).2), trivial⟩, (Lo.refl _)⟩⟩
                rintro f88 w89 ⟨hat90, hk91⟩
                rw [← sets_of_at hat90]
                have hz92 := hk91.size
                have hB93 := hB8.lo hk91
                refine W.ret ?_
                refine ret1 rfl (v := .bool _) rfl ?_
                exact ⟨eR (eB (by unfold impl_isLibraryStep; rw [if_neg h9, if_neg h26, if_neg h38, if_neg h54, if_neg h70, if_neg h78, if_pos h86] <;> rfl)), hB93⟩
              · refine W.skip ?_
                refine W.seq ?_
                refine W.regS (SR.q' (r_as (v := .bool false) rfl) <| SR.nil ?_)
                refine W.ret ?_
                refine ret1 rfl (v := .bool _) rfl ?_
                exact ⟨eR (eB (by unfold impl_isLibraryStep; rw [if_neg h9, if_neg h26, if_neg h38, if_neg h54, if_neg h70, if_neg h78, if_neg h86] <;> rfl)), hB8⟩

theorem c_slices_Clone___impl_Map_impl_Map_ (w : World) {AL : Option Addr} {nL cL BL : Nat}  (L : List LMap) (hL : SlR w BL encLMap 3 AL nL cL L) (hp0 : (nL : Int) ≤ 1048576) : Calls Try.prog 59 #[.slice AL nL cL] w fun e w' => ∃ (A1' : Option Addr) (n1' c1' : Nat), e = .returned (.slice A1' n1' c1') ∧ SlO w' w.heap.size encLMap 3 59 A1' n1' c1' L ∧ Lo w w' := by
  refine calls_W 8 Try.func59 rfl rfl rfl ?_
  have hbdL := hL.bound
  have hleL := hL.len
  have hBbL := hL.bd
  refine W.seq ?_
  refine W.regS (SR.q' (r_as (v := .slice none 0 0) rfl) <| SR.nil ?_)
  refine W.seq ?_
  refine W.seq ?_
  refine W.regS (SR.q' (r_mv (v := .slice _ _ _) rfl) <| SR.q' (r_eqlnil und24 rfl rfl) <| SR.nil ?_)
  refine W.cond_b rfl (fun h1 => ?_) (fun h1 => ?_)
  · have hq2 := slR_nil hL h1
    refine W.seq ?_
    refine W.regS (SR.q' (r_as (v := .slice none 0 0) rfl) <| SR.nil ?_)
    refine W.ret ?_
    refine ret1 rfl (v := .slice none 0 0) rfl ?_
    exact ⟨none, 0, 0, eR rfl, (SlO.eqv (SlO.nil (e := 59) (enc := encLMap) (fun _ => rfl) (Nat.le_refl _)) (by first | rfl | (exact (List.eq_nil_of_length_eq_zero (by omega)).symm))), (Lo.refl w)⟩
  · refine W.skip ?_
    refine W.seq ?_
    refine W.regS (SR.lit (vs := []) (L := ([] : List LMap)) (enc := encLMap) tel24 (fun _ => rfl) rfl rfl rfl (by decide) ?_)
    intro g3 w4 hg5 hk6 hO7
    have hz8 := hk6.size
    have hB9 := (Lo.refl w).lo hk6
    refine SR.q' (r_mv (v := .slice _ _ _) rfl) <| SR.app tel24 rfl rfl (hO7) ((hL).lo hk6) (fun _ => rfl) (by omega) (by omega) ?_
    intro A10 c11 w12 hk13 hO14 hN15
    have hz16 := hk13.size
    have hB17 := hB9.step hk13 (fun i_ hi_ e' => by have := ((hO7)).base_le e'; first | omega | (exfalso; omega) | exact e' | exact .inl e' | exact .inr e')
    rw [List.nil_append] at hO14
    refine SR.q' (r_as (v := .slice _ _ _) rfl) <| SR.nil ?_
    refine W.ret ?_
    refine ret1 rfl (v := .slice _ _ _) rfl ?_
    exact ⟨A10, 0 + nL, c11, eR rfl, ((hO14).down (by omega)), hB17⟩

theorem c_slices_Insert___impl_Map_impl_Map_ (w : World) {AL : Option Addr} {nL cL BL : Nat}  (L : List LMap) (hL : SlO w BL encLMap 3 59 AL nL cL L) (i : Int) {AV : Option Addr} {nV cV BV : Nat}  (V : List LMap) (hV : SlO w BV encLMap 3 59 AV nV cV V) (hp0 : 0 ≤ i) (hp1 : i ≤ (nL : Int)) (hp2 : ((nL + nV : Nat) : Int) ≤ 1048576) (hp3 : ∀ b_, AV = some ⟨b_, 0, none⟩ → ¬ AL = some ⟨b_, 0, none⟩) : Calls Try.prog 61 #[.slice AL nL cL, .int .i64 i, .slice AV nV cV] w fun e w' => ∃ (A1' : Option Addr) (n1' c1' : Nat), e = .returned (.slice A1' n1' c1') ∧ SlO w' BL encLMap 3 59 A1' n1' c1' (L.take i.toNat ++ V ++ L.drop i.toNat) ∧ (∀ b_, A1' = some ⟨b_, 0, none⟩ → (AL = some ⟨b_, 0, none⟩) ∨ w.heap.size ≤ b_) ∧ Kp (fun b_ => AL = some ⟨b_, 0, none⟩) w w' := by
  refine calls_W 95 Try.func61 rfl rfl rfl ?_
  have hcpL := hL.rd.cap
  have hbbL := hL.rd.bd
  have hbdL := hL.rd.bound
  have hleL := hL.len
  have hBbL := hL.bd
  have hcpV := hV.rd.cap
  have hbbV := hV.rd.bd
  have hbdV := hV.rd.bound
  have hleV := hV.len
  have hBbV := hV.bd
  obtain ⟨i_, rfl⟩ := Int.eq_ofNat_of_zero_le hp0
  refine W.seq ?_
  refine W.regS (SR.q' (r_as (v := .slice none 0 0) rfl) <| SR.nil ?_)
  refine W.seq ?_
  refine W.regS (SR.q' (r_mv (v := .slice _ _ _) rfl) <| SR.q' (r_mv (v := .int .i64 _) rfl) <| SR.q' (r_cutl (l := i_) tsl24 rfl rfl rfl (by omega)) <| SR.nil ?_)
  refine W.seq ?_
  refine W.regS (SR.q' (r_mv (v := .slice _ _ _) rfl) <| SR.q' (r_len und24 rfl) <| SR.q' (r_as (v := .int .i64 _) rfl) <| SR.nil ?_)
  refine W.seq ?_
  refine W.seq ?_
  refine W.regS (SR.q' (r_mv (v := .int .i64 _) rfl) <| SR.q' (r_eq rfl rfl) <| SR.nil ?_)
  refine W.cond_d rfl (fun h1 => ?_) (fun h1 => ?_)
  · refine W.seq ?_
    refine W.regS (SR.q' (r_mv (v := .slice _ _ _) rfl) <| SR.q' (r_as (v := .slice _ _ _) rfl) <| SR.nil ?_)
    refine W.ret ?_
    refine ret1 rfl (v := .slice _ _ _) rfl ?_
    exact ⟨AL, nL, cL, eR rfl, (SlO.eqv (hL) (by first | (have hV0 : V = [] := List.eq_nil_of_length_eq_zero (by omega); subst hV0; simp; done) | (exact ins_end hleL (show nL ≤ i_ by omega)) | (exact ins_grow hleL hleV (by omega) (by omega)))), (fun b_ h_ => .inl (h_)), (Kp.refl w : Kp (fun b_ => AL = some ⟨b_, 0, none⟩) w w)⟩
  · refine W.skip ?_
    refine W.seq ?_
    refine W.regS (SR.q' (r_mv (v := .slice _ _ _) rfl) <| SR.q' (r_len und24 rfl) <| SR.q' (r_as (v := .int .i64 _) rfl) <| SR.nil ?_)
    refine W.seq ?_
    refine W.seq ?_
    refine W.regS (SR.q' (r_mv (v := .int .i64 _) rfl) <| SR.q' (r_mv (v := .int .i64 _) rfl) <| SR.q' (r_eq rfl rfl) <| SR.nil ?_)
    refine W.cond_d rfl (fun h2 => ?_) (fun h2 => ?_)
    · refine W.seq ?_
      refine W.regS (SR.q' (r_mv (v := .slice _ _ _) rfl) <| SR.q' (r_mv (v := .slice _ _ _) rfl) <| SR.app tel24 rfl rfl (hL) ((hV).rd) (fun _ => rfl) (by omega) (by omega) ?_)
      intro A3 c4 w5 hk6 hO7 hN8
      have hz9 := hk6.size
      have hB10 := (Kp.refl w : Kp (fun b_ => AL = some ⟨b_, 0, none⟩) w w).step hk6 (fun i_ hi_ e' => by have := ((hL)).base_le e'; first | omega | (exfalso; omega) | exact e' | exact .inl e' | exact .inr e')
      refine SR.q' (r_as (v := .slice _ _ _) rfl) <| SR.nil ?_
      refine W.ret ?_
      refine ret1 rfl (v := .slice _ _ _) rfl ?_
      exact ⟨A3, nL + nV, c4, eR rfl, (SlO.eqv (hO7) (by first | (have hV0 : V = [] := List.eq_nil_of_length_eq_zero (by omega); subst hV0; simp; done) | (exact ins_end hleL (show nL ≤ i_ by omega)) | (exact ins_grow hleL hleV (by omega) (by omega)))), (fun b_ h_ => (hN8 b_ h_).elim (fun h => (fun b_ h_ => .inl (h_)) b_ (h.trans h_)) (fun h => .inr (by omega))), hB10⟩
    · refine W.skip ?_
      refine W.seq ?_
      refine W.seq ?_
      refine W.regS (SR.q' (r_mv (v := .int .i64 _) rfl) <| SR.q' (r_mv (v := .int .i64 _) rfl) <| SR.q' (r_add rfl rfl (by omega)) <| SR.q' (r_mv (v := .slice _ _ _) rfl) <| SR.q' (r_cap und24 rfl) <| SR.q' (r_gt rfl rfl) <| SR.nil ?_)
      refine W.cond_d rfl (fun h11 => ?_) (fun h11 => ?_)
      · refine W.seq ?_
        refine W.regS (SR.q' (r_mv (v := .slice _ _ _) rfl) <| SR.q' (r_mv (v := .int .i64 _) rfl) <| SR.q' (r_cuth (h := i_) tsl24 rfl rfl rfl (Nat.le_trans (by omega : i_ ≤ nL) (hL).rd.cap)) <| SR.q' (r_mv (v := .int .i64 _) rfl) <| SR.q' (r_mv (v := .int .i64 _) rfl) <| SR.q' (r_add rfl rfl (by omega)) <| SR.q' (r_mv (v := .int .i64 _) rfl) <| SR.q' (r_sub rfl rfl (by omega)) <| SR.appZ (k := ((nL + nV) - i_)) (zx := (⟨0, 0, 0⟩ : LMap)) tel24 und3 rfl rfl (by first | rfl | (rw [show (((nL : Int) + (nV : Int)) - (i_ : Int) : Int) = ((((nL + nV) - i_) : Nat) : Int) from by omega]; rfl)) ((hL).head (h := i_) (by omega)) (by omega) (by omega) (by omega) (by omega) ?_)
        intro g12 c13 w14 hg15 hk16 hO17
        have hz18 := hk16.size
        have hB19 := (Kp.refl w : Kp (fun b_ => AL = some ⟨b_, 0, none⟩) w w).lo hk16
        refine SR.q' (r_as (v := .slice _ _ _) rfl) <| SR.nil ?_
        refine W.seq ?_
        refine W.regS (SR.q' (r_mv (v := .slice _ _ _) rfl) <| SR.q' (r_mv (v := .int .i64 _) rfl) <| SR.q' (r_cutl (l := i_) tsl24 rfl rfl rfl (by omega)) <| SR.q' (r_mv (v := .slice _ _ _) rfl) <| SR.copyO (l := i_) (q := nV) tel24 rfl rfl (hO17) (((hV).lo hk16).rd) (by simp only [Nat.min_def]; split <;> omega) (by omega) (fun _ => rfl) ?_)
        intro w22 hk23 hO24
        have hz25 := hk23.size
        have hB26 := hB19.step hk23 (fun i_ hi_ e' => by have := ((hO17)).base_le e'; first | omega | (exfalso; omega) | exact e' | exact .inl e' | exact .inr e')
        refine SR.nil ?_
        refine W.seq ?_
        refine W.regA (Kp (fun b_ => (pA g12) = some ⟨b_, 0, none⟩) w22) (fun f' w' => At f' [(0, .slice AL nL cL), (1, .int .i64 (i_ : Int)), (2, .slice AV nV cV), (6, .slice none 0 0), (7, .int .i64 (nV : Int)), (8, .int .i64 (nL : Int)), (9, .slice (pA g12) (i_ + ((nL + nV) - i_)) c13)] ∧ (Kp (fun b_ => (pA g12) = some ⟨b_, 0, none⟩) w22 w') ∧ (SlO w' w.heap.size encLMap 3 59 (pA g12) (i_ + ((nL + nV) - i_)) c13 ((((L.take i_) ++ List.replicate ((nL + nV) - i_) (⟨0, 0, 0⟩ : LMap)).take i_ ++ V.take nV ++ ((L.take i_) ++ List.replicate ((nL + nV) - i_) (⟨0, 0, 0⟩ : LMap)).drop (i_ + nV)).take (i_ + nV) ++ (L.drop i_).take (nL - i_) ++ (((L.take i_) ++ List.replicate ((nL + nV) - i_) (⟨0, 0, 0⟩ : LMap)).take i_ ++ V.take nV ++ ((L.take i_) ++ List.replicate ((nL + nV) - i_) (⟨0, 0, 0⟩ : LMap)).drop (i_ + nV)).drop ((i_ + nV) + (nL - i_))))) mo ?_ ?_
        · intro w49 hk50
          have hz51 := hk50.size
          have hB52 := hB26.lo hk50
          refine AH.take 0 rfl (by kernel_rfl) trivial ((Kp.refl w22 : Kp (fun b_ => (pA g12) = some ⟨b_, 0, none⟩) w22 w22).lo hk50) (fun w' hw' => r_mv (v := .slice _ _ _) rfl) <| AH.take 1 rfl (by kernel_rfl) trivial ((Kp.refl w22 : Kp (fun b_ => (pA g12) = some ⟨b_, 0, none⟩) w22 w22).lo hk50) (fun w' hw' => r_mv (v := .int .i64 _) rfl) <| AH.take 2 rfl (by kernel_rfl) trivial ((Kp.refl w22 : Kp (fun b_ => (pA g12) = some ⟨b_, 0, none⟩) w22 w22).lo hk50) (fun w' hw' => r_mv (v := .int .i64 _) rfl) <| AH.take 3 rfl (by kernel_rfl) trivial ((Kp.refl w22 : Kp (fun b_ => (pA g12) = some ⟨b_, 0, none⟩) w22 w22).lo hk50) (fun w' hw' => r_add rfl rfl (by omega)) <| AH.take 4 rfl (by kernel_rfl) trivial ((Kp.refl w22 : Kp (fun b_ => (pA g12) = some ⟨b_, 0, none⟩) w22 w22).lo hk50) (fun w' hw' => r_cutl (l := (i_ + nV)) tsl24 rfl rfl (by omega) (by omega)) <| AH.take 5 rfl (by kernel_rfl) trivial ((Kp.refl w22 : Kp (fun b_ => (pA g12) = some ⟨b_, 0, none⟩) w22 w22).lo hk50) (fun w' hw' => r_mv (v := .slice _ _ _) rfl) <| AH.take 6 rfl (by kernel_rfl) trivial ((Kp.refl w22 : Kp (fun b_ => (pA g12) = some ⟨b_, 0, none⟩) w22 w22).lo hk50) (fun w' hw' => r_mv (v := .int .i64 _) rfl) <| AH.take 7 rfl (by kernel_rfl) trivial ((Kp.refl w22 : Kp (fun b_ => (pA g12) = some ⟨b_, 0, none⟩) w22 w22).lo hk50) (fun w' hw' => r_cutl (l := i_) tsl24 rfl rfl rfl (by omega)) <| AH.br [8] (by kernel_rfl) rfl ⟨Br.mk' rfl trivial ?_, trivial⟩
          refine SR.copyO (l := (i_ + nV)) (q := nL - i_) tel24 rfl rfl ((hO24).lo hk50) (((((hL).lo hk16).kp hk23 (fun b_ hb e' => by have h1 := ((hO17)).base_le e'; have h2 := ((hL).lo hk16).base_le hb; have h3 := (hL).base_le hb; omega)).rd.cutl (l := i_) (by omega)).lo hk50) (by simp only [Nat.min_def]; split <;> omega) (by omega) (fun _ => rfl) ?_
          intro w53 hk54 hO55
          have hz56 := hk54.size
          have hB57 := hB52.step hk54 (fun i_ hi_ e' => by have := (((hO24).lo hk50)).base_le e'; first | omega | (exfalso; omega) | exact e' | exact .inl e' | exact .inr e')
          have hS58 := ((Kp.refl w22 : Kp (fun b_ => (pA g12) = some ⟨b_, 0, none⟩) w22 w22).lo hk50).step hk54 (fun _ _ e => e)
          refine SR.nil ⟨hS58, _, rfl, ?_⟩
          refine AH.done (by kernel_rfl) ?_
          exact ⟨⟨rfl, rfl, rfl, rfl, rfl, rfl, rfl, trivial⟩, hS58, (hO55)⟩
        rintro f59 w60 ⟨hat62, hR61, hm48⟩
        rw [← sets_of_at hat62]
        have hz63 := hR61.size
        have hB64 := hB26.step hR61 (fun i_ hi_ e' => by have := ((hO24)).base_le e'; first | omega | (exfalso; omega) | exact e' | exact .inl e' | exact .inr e')
        refine W.seq ?_
        refine W.regS (SR.q' (r_mv (v := .slice _ _ _) rfl) <| SR.q' (r_as (v := .slice _ _ _) rfl) <| SR.nil ?_)
        refine W.ret ?_
        refine ret1 rfl (v := .slice _ _ _) rfl ?_
        exact ⟨(pA g12), i_ + ((nL + nV) - i_), c13, eR rfl, (SlO.eqv ((hm48).down (by omega)) (by first | (have hV0 : V = [] := List.eq_nil_of_length_eq_zero (by omega); subst hV0; simp; done) | (exact ins_end hleL (show nL ≤ i_ by omega)) | (exact ins_grow hleL hleV (by omega) (by omega)))), (fun b_ h => .inr (by have := (hm48).base_le h; omega)), hB64⟩
      · refine W.skip ?_
        refine W.seq ?_
        have hrL := hL.rd
        have hrV := hV.rd
        obtain ⟨gL, cs, rfl, hRw, htk, hcc⟩ := hL.raw (hrL.some (by omega))
        obtain ⟨gV, cv, rfl, hRv, _, _⟩ := hV.raw (hrV.some (by omega))
        have hne : gV ≠ gL := fun e => hp3 gV rfl (by rw [e])
        refine W.regS (SR.q' (r_mv (v := .slice _ _ _) rfl) <| SR.q' (r_mv (v := .int .i64 _) rfl) <| SR.q' (r_mv (v := .int .i64 _) rfl) <| SR.q' (r_add rfl rfl (by omega)) <| SR.q' (r_cuth (h := nL + nV) tsl24 rfl rfl (by omega) (by omega)) <| SR.q' (r_as (v := .slice _ _ _) rfl) <| SR.nil ?_)
        refine W.seq ?_
        refine W.seq ?_
        refine W.regS (SR.q' (r_mv (v := .slice _ _ _) rfl) <| SR.q' (r_mv (v := .slice _ _ _) rfl) <| SR.q' (r_mv (v := .int .i64 _) rfl) <| SR.q' (r_mv (v := .int .i64 _) rfl) <| SR.q' (r_add rfl rfl (by omega)) <| SR.q' (r_cutl (l := i_ + nV) tsl24 rfl rfl (by omega) (by omega)) <| SR.over ovl69 tel24 rfl rfl hne hRv.heap hRw (by omega) <| SR.q' (r_not rfl) <| SR.nil ?_)
        refine W.cond_t rfl ?_
        refine W.seq ?_
        refine W.regT 8 mo (by kernel_rfl) ?_
        intro wd hkd
        refine TR.q' (r_mv (v := .slice _ _ _) rfl) <| TR.q' (r_mv (v := .int .i64 _) rfl) <| TR.q' (r_mv (v := .int .i64 _) rfl) <| TR.q' (r_add rfl rfl (by omega)) <| TR.q' (r_cutl (l := i_ + nV) tsl24 rfl rfl (by omega) (by omega)) <| TR.q' (r_mv (v := .slice _ _ _) rfl) <| TR.q' (r_mv (v := .int .i64 _) rfl) <| TR.q' (r_cutl (l := i_) tsl24 rfl rfl (by omega) (by omega)) <| TR.nil ?_
        refine SR.copyR (l := i_ + nV) (m := nL - i_) (vs := (L.drop i_).flatMap encLMap) tel24 rfl rfl (hRw.lo hkd) (by simp only [Nat.min_def]; split <;> omega) (by omega) (by rw [flat_len (sz := 3) (fun _ => rfl), List.length_drop, ← hleL]) (fun _ => ((hrL.lo hkd).cutl (l := i_) (by omega)).flat) (fun h => (hrL.cutl (l := i_) (by omega)).some (by omega)) (fun u hu => by obtain ⟨q, _, hu⟩ := List.mem_flatMap.1 hu; exact List.all_eq_true.1 (show (encLMap q).all (·.oneCell') = true from rfl) u hu) ?_
        intro we hke hRe
        refine SR.nil ?_
        refine W.seq ?_
        refine W.regS (SR.q' (r_mv (v := .slice _ _ _) rfl) <| SR.q' (r_mv (v := .int .i64 _) rfl) <| SR.q' (r_cutl (l := i_) tsl24 rfl rfl (by omega) (by omega)) <| SR.q' (r_mv (v := .slice _ _ _) rfl) <| SR.copyR (l := i_) (m := nV) (vs := V.flatMap encLMap) tel24 rfl rfl hRe (by simp only [Nat.min_def]; split <;> omega) (by omega) (by rw [flat_len (sz := 3) (fun _ => rfl), ← hleV]) (fun _ => ((((hV).lo hkd).kp hke (fun b hb e' => hne (by injection hb with hb; injection hb with hb; rw [hb, e'])))).rd.flat) (fun h => hrV.some h) (fun u hu => by obtain ⟨q, _, hu⟩ := List.mem_flatMap.1 hu; exact List.all_eq_true.1 (show (encLMap q).all (·.oneCell') = true from rfl) u hu) ?_)
        intro wf hkf hRf
        refine SR.nil ?_
        have hBf := ((((Kp.refl w : Kp (fun b_ => (pA gL) = some ⟨b_, 0, none⟩) w w)).lo hkd).step hke (fun _ _ e' => by rw [e'])).step hkf (fun _ _ e' => by rw [e'])
        refine W.seq ?_
        refine W.regS (SR.q' (r_mv (v := .slice _ _ _) rfl) <| SR.q' (r_as (v := .slice _ _ _) rfl) <| SR.nil ?_)
        refine W.ret ?_
        refine ret1 rfl (v := .slice _ _ _) rfl ?_
        exact ⟨(pA gL), nL + nV, cL, eR rfl, hRf.own (by omega) (by rw [List.length_append, List.length_append, List.length_take, List.length_drop]; omega) (fun _ => rfl) (ins_flat (enc := encLMap) (sz := 3) (i := i_) (cs := cs) (fun _ => rfl) hleL hleV (by omega) (by rw [hRw.len]; exact Nat.mul_le_mul_right 3 (show nL + nV ≤ cL by omega)) htk), (fun b_ h_ => .inl h_), hBf⟩

theorem c_slices_Clone___impl_Away_impl_Away_ (w : World) {AL : Option Addr} {nL cL BL : Nat}  (L : List Away) (hL : SlR w BL encAway 2 AL nL cL L) (hp0 : (nL : Int) ≤ 1048576) : Calls Try.prog 60 #[.slice AL nL cL] w fun e w' => ∃ (A1' : Option Addr) (n1' c1' : Nat), e = .returned (.slice A1' n1' c1') ∧ SlO w' w.heap.size encAway 2 63 A1' n1' c1' L ∧ Lo w w' := by
  refine calls_W 8 Try.func60 rfl rfl rfl ?_
  have hbdL := hL.bound
  have hleL := hL.len
  have hBbL := hL.bd
  refine W.seq ?_
  refine W.regS (SR.q' (r_as (v := .slice none 0 0) rfl) <| SR.nil ?_)
  refine W.seq ?_
  refine W.seq ?_
  refine W.regS (SR.q' (r_mv (v := .slice _ _ _) rfl) <| SR.q' (r_eqlnil und25 rfl rfl) <| SR.nil ?_)
  refine W.cond_b rfl (fun h1 => ?_) (fun h1 => ?_)
  · have hq2 := slR_nil hL h1
    refine W.seq ?_
    refine W.regS (SR.q' (r_as (v := .slice none 0 0) rfl) <| SR.nil ?_)
    refine W.ret ?_
    refine ret1 rfl (v := .slice none 0 0) rfl ?_
    exact ⟨none, 0, 0, eR rfl, (SlO.eqv (SlO.nil (e := 63) (enc := encAway) (fun _ => rfl) (Nat.le_refl _)) (by first | rfl | (exact (List.eq_nil_of_length_eq_zero (by omega)).symm))), (Lo.refl w)⟩
  · refine W.skip ?_
    refine W.seq ?_
    refine W.regS (SR.lit (vs := []) (L := ([] : List Away)) (enc := encAway) tel25 (fun _ => rfl) rfl rfl rfl (by decide) ?_)
    intro g3 w4 hg5 hk6 hO7
    have hz8 := hk6.size
    have hB9 := (Lo.refl w).lo hk6
    refine SR.q' (r_mv (v := .slice _ _ _) rfl) <| SR.app tel25 rfl rfl (hO7) ((hL).lo hk6) (fun _ => rfl) (by omega) (by omega) ?_
    intro A10 c11 w12 hk13 hO14 hN15
    have hz16 := hk13.size
    have hB17 := hB9.step hk13 (fun i_ hi_ e' => by have := ((hO7)).base_le e'; first | omega | (exfalso; omega) | exact e' | exact .inl e' | exact .inr e')
    rw [List.nil_append] at hO14
    refine SR.q' (r_as (v := .slice _ _ _) rfl) <| SR.nil ?_
    refine W.ret ?_
    refine ret1 rfl (v := .slice _ _ _) rfl ?_
    exact ⟨A10, 0 + nL, c11, eR rfl, ((hO14).down (by omega)), hB17⟩

theorem c_slices_Insert___impl_Away_impl_Away_ (w : World) {AL : Option Addr} {nL cL BL : Nat}  (L : List Away) (hL : SlO w BL encAway 2 63 AL nL cL L) (i : Int) {AV : Option Addr} {nV cV BV : Nat}  (V : List Away) (hV : SlO w BV encAway 2 63 AV nV cV V) (hp0 : 0 ≤ i) (hp1 : i ≤ (nL : Int)) (hp2 : ((nL + nV : Nat) : Int) ≤ 1048576) (hp3 : ∀ b_, AV = some ⟨b_, 0, none⟩ → ¬ AL = some ⟨b_, 0, none⟩) : Calls Try.prog 72 #[.slice AL nL cL, .int .i64 i, .slice AV nV cV] w fun e w' => ∃ (A1' : Option Addr) (n1' c1' : Nat), e = .returned (.slice A1' n1' c1') ∧ SlO w' BL encAway 2 63 A1' n1' c1' (L.take i.toNat ++ V ++ L.drop i.toNat) ∧ (∀ b_, A1' = some ⟨b_, 0, none⟩ → (AL = some ⟨b_, 0, none⟩) ∨ w.heap.size ≤ b_) ∧ Kp (fun b_ => AL = some ⟨b_, 0, none⟩) w w' := by
  refine calls_W 95 Try.func72 rfl rfl rfl ?_
  have hcpL := hL.rd.cap
  have hbbL := hL.rd.bd
  have hbdL := hL.rd.bound
  have hleL := hL.len
  have hBbL := hL.bd
  have hcpV := hV.rd.cap
  have hbbV := hV.rd.bd
  have hbdV := hV.rd.bound
  have hleV := hV.len
  have hBbV := hV.bd
  obtain ⟨i_, rfl⟩ := Int.eq_ofNat_of_zero_le hp0
  refine W.seq ?_
  refine W.regS (SR.q' (r_as (v := .slice none 0 0) rfl) <| SR.nil ?_)
  refine W.seq ?_
  refine W.regS (SR.q' (r_mv (v := .slice _ _ _) rfl) <| SR.q' (r_mv (v := .int .i64 _) rfl) <| SR.q' (r_cutl (l := i_) tsl25 rfl rfl rfl (by omega)) <| SR.nil ?_)
  refine W.seq ?_
  refine W.regS (SR.q' (r_mv (v := .slice _ _ _) rfl) <| SR.q' (r_len und25 rfl) <| SR.q' (r_as (v := .int .i64 _) rfl) <| SR.nil ?_)
  refine W.seq ?_
  refine W.seq ?_
  refine W.regS (SR.q' (r_mv (v := .int .i64 _) rfl) <| SR.q' (r_eq rfl rfl) <| SR.nil ?_)
  refine W.cond_d rfl (fun h1 => ?_) (fun h1 => ?_)
  · refine W.seq ?_
    refine W.regS (SR.q' (r_mv (v := .slice _ _ _) rfl) <| SR.q' (r_as (v := .slice _ _ _) rfl) <| SR.nil ?_)
    refine W.ret ?_
    refine ret1 rfl (v := .slice _ _ _) rfl ?_
    exact ⟨AL, nL, cL, eR rfl, (SlO.eqv (hL) (by first | (have hV0 : V = [] := List.eq_nil_of_length_eq_zero (by omega); subst hV0; simp; done) | (exact ins_end hleL (show nL ≤ i_ by omega)) | (exact ins_grow hleL hleV (by omega) (by omega)))), (fun b_ h_ => .inl (h_)), (Kp.refl w : Kp (fun b_ => AL = some ⟨b_, 0, none⟩) w w)⟩
  · refine W.skip ?_
    refine W.seq ?_
    refine W.regS (SR.q' (r_mv (v := .slice _ _ _) rfl) <| SR.q' (r_len und25 rfl) <| SR.q' (r_as (v := .int .i64 _) rfl) <| SR.nil ?_)
    refine W.seq ?_
    refine W.seq ?_
    refine W.regS (SR.q' (r_mv (v := .int .i64 _) rfl) <| SR.q' (r_mv (v := .int .i64 _) rfl) <| SR.q' (r_eq rfl rfl) <| SR.nil ?_)
    refine W.cond_d rfl (fun h2 => ?_) (fun h2 => ?_)
    · refine W.seq ?_
      refine W.regS (SR.q' (r_mv (v := .slice _ _ _) rfl) <| SR.q' (r_mv (v := .slice _ _ _) rfl) <| SR.app tel25 rfl rfl (hL) ((hV).rd) (fun _ => rfl) (by omega) (by omega) ?_)
      intro A3 c4 w5 hk6 hO7 hN8
      have hz9 := hk6.size
      have hB10 := (Kp.refl w : Kp (fun b_ => AL = some ⟨b_, 0, none⟩) w w).step hk6 (fun i_ hi_ e' => by have := ((hL)).base_le e'; first | omega | (exfalso; omega) | exact e' | exact .inl e' | exact .inr e')
      refine SR.q' (r_as (v := .slice _ _ _) rfl) <| SR.nil ?_
      refine W.ret ?_
      refine ret1 rfl (v := .slice _ _ _) rfl ?_
      exact ⟨A3, nL + nV, c4, eR rfl, (SlO.eqv (hO7) (by first | (have hV0 : V = [] := List.eq_nil_of_length_eq_zero (by omega); subst hV0; simp; done) | (exact ins_end hleL (show nL ≤ i_ by omega)) | (exact ins_grow hleL hleV (by omega) (by omega)))), (fun b_ h_ => (hN8 b_ h_).elim (fun h => (fun b_ h_ => .inl (h_)) b_ (h.trans h_)) (fun h => .inr (by omega))), hB10⟩
    · refine W.skip ?_
      refine W.seq ?_
      refine W.seq ?_
      refine W.regS (SR.q' (r_mv (v := .int .i64 _) rfl) <| SR.q' (r_mv (v := .int .i64 _) rfl) <| SR.q' (r_add rfl rfl (by omega)) <| SR.q' (r_mv (v := .slice _ _ _) rfl) <| SR.q' (r_cap und25 rfl) <| SR.q' (r_gt rfl rfl) <| SR.nil ?_)
      refine W.cond_d rfl (fun h11 => ?_) (fun h11 => ?_)
      · refine W.seq ?_
        refine W.regS (SR.q' (r_mv (v := .slice _ _ _) rfl) <| SR.q' (r_mv (v := .int .i64 _) rfl) <| SR.q' (r_cuth (h := i_) tsl25 rfl rfl rfl (Nat.le_trans (by omega : i_ ≤ nL) (hL).rd.cap)) <| SR.q' (r_mv (v := .int .i64 _) rfl) <| SR.q' (r_mv (v := .int .i64 _) rfl) <| SR.q' (r_add rfl rfl (by omega)) <| SR.q' (r_mv (v := .int .i64 _) rfl) <| SR.q' (r_sub rfl rfl (by omega)) <| SR.appZ (k := ((nL + nV) - i_)) (zx := (⟨0, 0⟩ : Away)) tel25 und3 rfl rfl (by first | rfl | (rw [show (((nL : Int) + (nV : Int)) - (i_ : Int) : Int) = ((((nL + nV) - i_) : Nat) : Int) from by omega]; rfl)) ((hL).head (h := i_) (by omega)) (by omega) (by omega) (by omega) (by omega) ?_)
        intro g12 c13 w14 hg15 hk16 hO17
        have hz18 := hk16.size
        have hB19 := (Kp.refl w : Kp (fun b_ => AL = some ⟨b_, 0, none⟩) w w).lo hk16
        refine SR.q' (r_as (v := .slice _ _ _) rfl) <| SR.nil ?_
        refine W.seq ?_
        refine W.regS (SR.q' (r_mv (v := .slice _ _ _) rfl) <| SR.q' (r_mv (v := .int .i64 _) rfl) <| SR.q' (r_cutl (l := i_) tsl25 rfl rfl rfl (by omega)) <| SR.q' (r_mv (v := .slice _ _ _) rfl) <| SR.copyO (l := i_) (q := nV) tel25 rfl rfl (hO17) (((hV).lo hk16).rd) (by simp only [Nat.min_def]; split <;> omega) (by omega) (fun _ => rfl) ?_)
        intro w22 hk23 hO24
        have hz25 := hk23.size
        have hB26 := hB19.step hk23 (fun i_ hi_ e' => by have := ((hO17)).base_le e'; first | omega | (exfalso; omega) | exact e' | exact .inl e' | exact .inr e')
        refine SR.nil ?_
        refine W.seq ?_
        refine W.regA (Kp (fun b_ => (pA g12) = some ⟨b_, 0, none⟩) w22) (fun f' w' => At f' [(0, .slice AL nL cL), (1, .int .i64 (i_ : Int)), (2, .slice AV nV cV), (6, .slice none 0 0), (7, .int .i64 (nV : Int)), (8, .int .i64 (nL : Int)), (9, .slice (pA g12) (i_ + ((nL + nV) - i_)) c13)] ∧ (Kp (fun b_ => (pA g12) = some ⟨b_, 0, none⟩) w22 w') ∧ (SlO w' w.heap.size encAway 2 63 (pA g12) (i_ + ((nL + nV) - i_)) c13 ((((L.take i_) ++ List.replicate ((nL + nV) - i_) (⟨0, 0⟩ : Away)).take i_ ++ V.take nV ++ ((L.take i_) ++ List.replicate ((nL + nV) - i_) (⟨0, 0⟩ : Away)).drop (i_ + nV)).take (i_ + nV) ++ (L.drop i_).take (nL - i_) ++ (((L.take i_) ++ List.replicate ((nL + nV) - i_) (⟨0, 0⟩ : Away)).take i_ ++ V.take nV ++ ((L.take i_) ++ List.replicate ((nL + nV) - i_) (⟨0, 0⟩ : Away)).drop (i_ + nV)).drop ((i_ + nV) + (nL - i_))))) mo ?_ ?_
        · intro w49 hk50
          have hz51 := hk50.size
          have hB52 := hB26.lo hk50
          refine AH.take 0 rfl (by kernel_rfl) trivial ((Kp.refl w22 : Kp (fun b_ => (pA g12) = some ⟨b_, 0, none⟩) w22 w22).lo hk50) (fun w' hw' => r_mv (v := .slice _ _ _) rfl) <| AH.take 1 rfl (by kernel_rfl) trivial ((Kp.refl w22 : Kp (fun b_ => (pA g12) = some ⟨b_, 0, none⟩) w22 w22).lo hk50) (fun w' hw' => r_mv (v := .int .i64 _) rfl) <| AH.take 2 rfl (by kernel_rfl) trivial ((Kp.refl w22 : Kp (fun b_ => (pA g12) = some ⟨b_, 0, none⟩) w22 w22).lo hk50) (fun w' hw' => r_mv (v := .int .i64 _) rfl) <| AH.take 3 rfl (by kernel_rfl) trivial ((Kp.refl w22 : Kp (fun b_ => (pA g12) = some ⟨b_, 0, none⟩) w22 w22).lo hk50) (fun w' hw' => r_add rfl rfl (by omega)) <| AH.take 4 rfl (by kernel_rfl) trivial ((Kp.refl w22 : Kp (fun b_ => (pA g12) = some ⟨b_, 0, none⟩) w22 w22).lo hk50) (fun w' hw' => r_cutl (l := (i_ + nV)) tsl25 rfl rfl (by omega) (by omega)) <| AH.take 5 rfl (by kernel_rfl) trivial ((Kp.refl w22 : Kp (fun b_ => (pA g12) = some ⟨b_, 0, none⟩) w22 w22).lo hk50) (fun w' hw' => r_mv (v := .slice _ _ _) rfl) <| AH.take 6 rfl (by kernel_rfl) trivial ((Kp.refl w22 : Kp (fun b_ => (pA g12) = some ⟨b_, 0, none⟩) w22 w22).lo hk50) (fun w' hw' => r_mv (v := .int .i64 _) rfl) <| AH.take 7 rfl (by kernel_rfl) trivial ((Kp.refl w22 : Kp (fun b_ => (pA g12) = some ⟨b_, 0, none⟩) w22 w22).lo hk50) (fun w' hw' => r_cutl (l := i_) tsl25 rfl rfl rfl (by omega)) <| AH.br [8] (by kernel_rfl) rfl ⟨Br.mk' rfl trivial ?_, trivial⟩
          refine SR.copyO (l := (i_ + nV)) (q := nL - i_) tel25 rfl rfl ((hO24).lo hk50) (((((hL).lo hk16).kp hk23 (fun b_ hb e' => by have h1 := ((hO17)).base_le e'; have h2 := ((hL).lo hk16).base_le hb; have h3 := (hL).base_le hb; omega)).rd.cutl (l := i_) (by omega)).lo hk50) (by simp only [Nat.min_def]; split <;> omega) (by omega) (fun _ => rfl) ?_
          intro w53 hk54 hO55
          have hz56 := hk54.size
          have hB57 := hB52.step hk54 (fun i_ hi_ e' => by have := (((hO24).lo hk50)).base_le e'; first | omega | (exfalso; omega) | exact e' | exact .inl e' | exact .inr e')
          have hS58 := ((Kp.refl w22 : Kp (fun b_ => (pA g12) = some ⟨b_, 0, none⟩) w22 w22).lo hk50).step hk54 (fun _ _ e => e)
          refine SR.nil ⟨hS58, _, rfl, ?_⟩
          refine AH.done (by kernel_rfl) ?_
          exact ⟨⟨rfl, rfl, rfl, rfl, rfl, rfl, rfl, trivial⟩, hS58, (hO55)⟩
        rintro f59 w60 ⟨hat62, hR61, hm48⟩
        rw [← sets_of_at hat62]
        have hz63 := hR61.size
        have hB64 := hB26.step hR61 (fun i_ hi_ e' => by have := ((hO24)).base_le e'; first | omega | (exfalso; omega) | exact e' | exact .inl e' | exact .inr e')
        refine W.seq ?_
        refine W.regS (SR.q' (r_mv (v := .slice _ _ _) rfl) <| SR.q' (r_as (v := .slice _ _ _) rfl) <| SR.nil ?_)
        refine W.ret ?_
        refine ret1 rfl (v := .slice _ _ _) rfl ?_
        exact ⟨(pA g12), i_ + ((nL + nV) - i_), c13, eR rfl, (SlO.eqv ((hm48).down (by omega)) (by first | (have hV0 : V = [] := List.eq_nil_of_length_eq_zero (by omega); subst hV0; simp; done) | (exact ins_end hleL (show nL ≤ i_ by omega)) | (exact ins_grow hleL hleV (by omega) (by omega)))), (fun b_ h => .inr (by have := (hm48).base_le h; omega)), hB64⟩
      · refine W.skip ?_
        refine W.seq ?_
        have hrL := hL.rd
        have hrV := hV.rd
        obtain ⟨gL, cs, rfl, hRw, htk, hcc⟩ := hL.raw (hrL.some (by omega))
        obtain ⟨gV, cv, rfl, hRv, _, _⟩ := hV.raw (hrV.some (by omega))
        have hne : gV ≠ gL := fun e => hp3 gV rfl (by rw [e])
        refine W.regS (SR.q' (r_mv (v := .slice _ _ _) rfl) <| SR.q' (r_mv (v := .int .i64 _) rfl) <| SR.q' (r_mv (v := .int .i64 _) rfl) <| SR.q' (r_add rfl rfl (by omega)) <| SR.q' (r_cuth (h := nL + nV) tsl25 rfl rfl (by omega) (by omega)) <| SR.q' (r_as (v := .slice _ _ _) rfl) <| SR.nil ?_)
        refine W.seq ?_
        refine W.seq ?_
        refine W.regS (SR.q' (r_mv (v := .slice _ _ _) rfl) <| SR.q' (r_mv (v := .slice _ _ _) rfl) <| SR.q' (r_mv (v := .int .i64 _) rfl) <| SR.q' (r_mv (v := .int .i64 _) rfl) <| SR.q' (r_add rfl rfl (by omega)) <| SR.q' (r_cutl (l := i_ + nV) tsl25 rfl rfl (by omega) (by omega)) <| SR.over ovl76 tel25 rfl rfl hne hRv.heap hRw (by omega) <| SR.q' (r_not rfl) <| SR.nil ?_)
        refine W.cond_t rfl ?_
        refine W.seq ?_
        refine W.regT 8 mo (by kernel_rfl) ?_
        intro wd hkd
        refine TR.q' (r_mv (v := .slice _ _ _) rfl) <| TR.q' (r_mv (v := .int .i64 _) rfl) <| TR.q' (r_mv (v := .int .i64 _) rfl) <| TR.q' (r_add rfl rfl (by omega)) <| TR.q' (r_cutl (l := i_ + nV) tsl25 rfl rfl (by omega) (by omega)) <| TR.q' (r_mv (v := .slice _ _ _) rfl) <| TR.q' (r_mv (v := .int .i64 _) rfl) <| TR.q' (r_cutl (l := i_) tsl25 rfl rfl (by omega) (by omega)) <| TR.nil ?_
        refine SR.copyR (l := i_ + nV) (m := nL - i_) (vs := (L.drop i_).flatMap encAway) tel25 rfl rfl (hRw.lo hkd) (by simp only [Nat.min_def]; split <;> omega) (by omega) (by rw [flat_len (sz := 2) (fun _ => rfl), List.length_drop, ← hleL]) (fun _ => ((hrL.lo hkd).cutl (l := i_) (by omega)).flat) (fun h => (hrL.cutl (l := i_) (by omega)).some (by omega)) (fun u hu => by obtain ⟨q, _, hu⟩ := List.mem_flatMap.1 hu; exact List.all_eq_true.1 (show (encAway q).all (·.oneCell') = true from rfl) u hu) ?_
        intro we hke hRe
        refine SR.nil ?_
        refine W.seq ?_
        refine W.regS (SR.q' (r_mv (v := .slice _ _ _) rfl) <| SR.q' (r_mv (v := .int .i64 _) rfl) <| SR.q' (r_cutl (l := i_) tsl25 rfl rfl (by omega) (by omega)) <| SR.q' (r_mv (v := .slice _ _ _) rfl) <| SR.copyR (l := i_) (m := nV) (vs := V.flatMap encAway) tel25 rfl rfl hRe (by simp only [Nat.min_def]; split <;> omega) (by omega) (by rw [flat_len (sz := 2) (fun _ => rfl), ← hleV]) (fun _ => ((((hV).lo hkd).kp hke (fun b hb e' => hne (by injection hb with hb; injection hb with hb; rw [hb, e'])))).rd.flat) (fun h => hrV.some h) (fun u hu => by obtain ⟨q, _, hu⟩ := List.mem_flatMap.1 hu; exact List.all_eq_true.1 (show (encAway q).all (·.oneCell') = true from rfl) u hu) ?_)
        intro wf hkf hRf
        refine SR.nil ?_
        have hBf := ((((Kp.refl w : Kp (fun b_ => (pA gL) = some ⟨b_, 0, none⟩) w w)).lo hkd).step hke (fun _ _ e' => by rw [e'])).step hkf (fun _ _ e' => by rw [e'])
        refine W.seq ?_
        refine W.regS (SR.q' (r_mv (v := .slice _ _ _) rfl) <| SR.q' (r_as (v := .slice _ _ _) rfl) <| SR.nil ?_)
        refine W.ret ?_
        refine ret1 rfl (v := .slice _ _ _) rfl ?_
        exact ⟨(pA gL), nL + nV, cL, eR rfl, hRf.own (by omega) (by rw [List.length_append, List.length_append, List.length_take, List.length_drop]; omega) (fun _ => rfl) (ins_flat (enc := encAway) (sz := 2) (i := i_) (cs := cs) (fun _ => rfl) hleL hleV (by omega) (by rw [hRw.len]; exact Nat.mul_le_mul_right 2 (show nL + nV ≤ cL by omega)) htk), (fun b_ h_ => .inl h_), hBf⟩

theorem c_slices_Delete___impl_Away_impl_Away_ (w : World) {AL : Option Addr} {nL cL BL : Nat}  (L : List Away) (hL : SlO w BL encAway 2 63 AL nL cL L) (i : Int) (j : Int) (hp0 : 0 ≤ i) (hp1 : i ≤ j) (hp2 : j ≤ (nL : Int)) : Calls Try.prog 73 #[.slice AL nL cL, .int .i64 i, .int .i64 j] w fun e w' => ∃ (A1' : Option Addr) (n1' c1' : Nat), e = .returned (.slice A1' n1' c1') ∧ SlO w' BL encAway 2 63 A1' n1' c1' (L.take i.toNat ++ L.drop j.toNat) ∧ (∀ b_, A1' = some ⟨b_, 0, none⟩ → (AL = some ⟨b_, 0, none⟩) ∨ w.heap.size ≤ b_) ∧ Kp (fun b_ => AL = some ⟨b_, 0, none⟩) w w' := by
  refine calls_W 33 Try.func73 rfl rfl rfl ?_
  have hcpL := hL.rd.cap
  have hbbL := hL.rd.bd
  have hbdL := hL.rd.bound
  have hleL := hL.len
  have hBbL := hL.bd
  refine W.seq ?_
  refine W.regS (SR.q' (r_as (v := .slice none 0 0) rfl) <| SR.nil ?_)
  refine W.seq ?_
  refine W.regS (SR.q' (r_mv (v := .slice _ _ _) rfl) <| SR.q' (r_mv (v := .int .i64 _) rfl) <| SR.q' (r_mv (v := .int .i64 _) rfl) <| SR.q' (r_mv (v := .slice _ _ _) rfl) <| SR.q' (r_len und25 rfl) <| SR.q' (r_cut3 (l := i.toNat) (h' := j.toNat) (m' := nL) tsl25 rfl rfl rfl rfl (by omega) (by omega) rfl (by omega) (by omega) (Nat.le_trans (by omega : nL ≤ nL) (hL).rd.cap)) <| SR.nil ?_)
  refine W.seq ?_
  refine W.seq ?_
  refine W.regS (SR.q' (r_mv (v := .int .i64 _) rfl) <| SR.q' (r_mv (v := .int .i64 _) rfl) <| SR.q' (r_eq rfl rfl) <| SR.nil ?_)
  refine W.cond_d rfl (fun h1 => ?_) (fun h1 => ?_)
  · refine W.seq ?_
    refine W.regS (SR.q' (r_mv (v := .slice _ _ _) rfl) <| SR.q' (r_as (v := .slice _ _ _) rfl) <| SR.nil ?_)
    refine W.ret ?_
    refine ret1 rfl (v := .slice _ _ _) rfl ?_
    exact ⟨AL, nL, cL, eR rfl, (SlO.eqv (hL) (by first | rfl | (obtain rfl : i = j := (by omega); exact (List.take_append_drop ..).symm))), (fun b_ h_ => .inl (h_)), (Kp.refl w : Kp (fun b_ => AL = some ⟨b_, 0, none⟩) w w)⟩
  · refine W.skip ?_
    refine W.seq ?_
    refine W.regS (SR.q' (r_mv (v := .slice _ _ _) rfl) <| SR.q' (r_len und25 rfl) <| SR.q' (r_as (v := .int .i64 _) rfl) <| SR.nil ?_)
    refine W.seq ?_
    refine W.regA (Kp (fun b_ => AL = some ⟨b_, 0, none⟩) w) (fun f' w' => At f' [(0, .slice AL (i.toNat + (nL - j.toNat)) cL), (6, .slice none 0 0), (7, .int .i64 (nL : Int))] ∧ (Kp (fun b_ => AL = some ⟨b_, 0, none⟩) w w') ∧ (SlO w' BL encAway 2 63 AL (i.toNat + (nL - j.toNat)) cL ((L.take i.toNat) ++ (L.drop j.toNat)))) mo ?_ ?_
    · intro w25 hk26
      have hz27 := hk26.size
      have hB28 := (Kp.refl w : Kp (fun b_ => AL = some ⟨b_, 0, none⟩) w w).lo hk26
      refine AH.take 0 rfl (by kernel_rfl) trivial ((Kp.refl w : Kp (fun b_ => AL = some ⟨b_, 0, none⟩) w w).lo hk26) (fun w' hw' => r_mv (v := .slice _ _ _) rfl) <| AH.take 1 rfl (by kernel_rfl) trivial ((Kp.refl w : Kp (fun b_ => AL = some ⟨b_, 0, none⟩) w w).lo hk26) (fun w' hw' => r_mv (v := .int .i64 _) rfl) <| AH.take 2 rfl (by kernel_rfl) trivial ((Kp.refl w : Kp (fun b_ => AL = some ⟨b_, 0, none⟩) w w).lo hk26) (fun w' hw' => r_cuth (h := i.toNat) tsl25 rfl rfl (by omega) (Nat.le_trans (by omega : i.toNat ≤ nL) (hL).rd.cap)) <| AH.take 3 rfl (by kernel_rfl) trivial ((Kp.refl w : Kp (fun b_ => AL = some ⟨b_, 0, none⟩) w w).lo hk26) (fun w' hw' => r_mv (v := .slice _ _ _) rfl) <| AH.take 4 rfl (by kernel_rfl) trivial ((Kp.refl w : Kp (fun b_ => AL = some ⟨b_, 0, none⟩) w w).lo hk26) (fun w' hw' => r_mv (v := .int .i64 _) rfl) <| AH.take 5 rfl (by kernel_rfl) trivial ((Kp.refl w : Kp (fun b_ => AL = some ⟨b_, 0, none⟩) w w).lo hk26) (fun w' hw' => r_cutl (l := j.toNat) tsl25 rfl rfl (by omega) (by omega)) <| AH.br [6] (by kernel_rfl) rfl ⟨Br.mk' rfl trivial ?_, trivial⟩
      refine SR.appI tel25 rfl rfl (((hL).head (h := i.toNat) (by omega)).lo hk26) (((hL).rd.cutl (l := j.toNat) (by omega)).lo hk26) (fun _ => rfl) (by omega) ?_
      intro w29 hk30 hO31
      have hz32 := hk30.size
      have hB33 := hB28.step hk30 (fun i_ hi_ e' => by have := ((((hL).head (h := i.toNat) (by omega)).lo hk26)).base_le e'; first | omega | (exfalso; omega) | exact e' | exact .inl e' | exact .inr e')
      have hS34 := ((Kp.refl w : Kp (fun b_ => AL = some ⟨b_, 0, none⟩) w w).lo hk26).step hk30 (fun _ _ e => e)
      refine SR.nil ⟨hS34, _, rfl, ?_⟩
      refine AH.take 7 rfl (by kernel_rfl) trivial (hS34) (fun w' hw' => r_as (v := .slice _ _ _) rfl) <| AH.done (by kernel_rfl) ?_
      exact ⟨⟨rfl, rfl, rfl, trivial⟩, hS34, (hO31)⟩
    rintro f35 w36 ⟨hat38, hR37, hm24⟩
    rw [← sets_of_at hat38]
    have hz39 := hR37.size
    have hB40 := (Kp.refl w : Kp (fun b_ => AL = some ⟨b_, 0, none⟩) w w).step hR37 (fun i_ hi_ e' => by have := ((hL)).base_le e'; first | omega | (exfalso; omega) | exact e' | exact .inl e' | exact .inr e')
    refine W.seq ?_
    refine W.regS (SR.q' (r_mv (v := .slice _ _ _) rfl) <| SR.q' (r_mv (v := .slice _ _ _) rfl) <| SR.q' (r_len und25 rfl) <| SR.q' (r_mv (v := .int .i64 _) rfl) <| SR.q' (r_cut (l := (i.toNat + (nL - j.toNat))) (h := nL) tsl25 rfl rfl rfl rfl rfl (by omega) (by omega)) <| SR.clearO (l := (i.toNat + (nL - j.toNat))) (k := nL - (i.toNat + (nL - j.toNat))) tel25 rfl (hm24) (by omega) (by omega) (by kernel_rfl) ?_)
    intro w41 hk42 hO43
    have hz44 := hk42.size
    have hB45 := hB40.step hk42 (fun i_ hi_ e' => by have := ((hm24)).base_le e'; first | omega | (exfalso; omega) | exact e' | exact .inl e' | exact .inr e')
    refine SR.nil ?_
    refine W.seq ?_
    refine W.regS (SR.q' (r_mv (v := .slice _ _ _) rfl) <| SR.q' (r_as (v := .slice _ _ _) rfl) <| SR.nil ?_)
    refine W.ret ?_
    refine ret1 rfl (v := .slice _ _ _) rfl ?_
    exact ⟨AL, i.toNat + (nL - j.toNat), cL, eR rfl, (SlO.eqv (hO43) (by first | rfl | (obtain rfl : i = j := (by omega); exact (List.take_append_drop ..).symm))), (fun b_ h_ => .inl (h_)), hB45⟩

theorem c__impl_Library__own (w : World) (x : Library) {Ax_Maps : Option Addr} {nx_Maps cx_Maps Bx_Maps : Nat} (hx_Maps : SlR w Bx_Maps encLMap 3 Ax_Maps nx_Maps cx_Maps x.Maps) {Ax_Away : Option Addr} {nx_Away cx_Away Bx_Away : Nat} (hx_Away : SlR w Bx_Away encAway 2 Ax_Away nx_Away cx_Away x.Away) (hp0 : (nx_Maps : Int) ≤ 1048576) (hp1 : (nx_Away : Int) ≤ 1048576) : Calls Try.prog 38 #[.agg (List.toArray [.slice Ax_Maps nx_Maps cx_Maps, .slice Ax_Away nx_Away cx_Away, .int .i64 x.Bought, .int .i64 x.Dropped, .int .i64 x.Mended])] w fun e w' => ∃ (A1' : Option Addr) (n1' c1' : Nat) (A2' : Option Addr) (n2' c2' : Nat), e = .returned (.agg (List.toArray [.slice A1' n1' c1', .slice A2' n2' c2', .int .i64 x.Bought, .int .i64 x.Dropped, .int .i64 x.Mended])) ∧ SlO w' w.heap.size encLMap 3 59 A1' n1' c1' x.Maps ∧ SlO w' w.heap.size encAway 2 63 A2' n2' c2' x.Away ∧ (∀ b_, A1' = some ⟨b_, 0, none⟩ → ¬ A2' = some ⟨b_, 0, none⟩) ∧ Lo w w' := by
  refine calls_W 12 Try.func38 rfl rfl rfl ?_
  have hbdx_Maps := hx_Maps.bound
  have hlex_Maps := hx_Maps.len
  have hBbx_Maps := hx_Maps.bd
  have hbdx_Away := hx_Away.bound
  have hlex_Away := hx_Away.len
  have hBbx_Away := hx_Away.bd
  refine W.seq ?_
  refine W.regS (SR.box (v := .agg (List.toArray _)) (l := [.slice Ax_Maps nx_Maps cx_Maps, .slice Ax_Away nx_Away cx_Away, .int .i64 x.Bought, .int .i64 x.Dropped, .int .i64 x.Mended]) rfl rfl ?_)
  intro g1 w2 hg3 hk4 hs5 hb6
  have hz7 := hk4.size
  have hB8 := (Lo.refl w).lo hk4
  refine SR.alloc (l := [.slice none 0 0, .slice none 0 0, .int .i64 0, .int .i64 0, .int .i64 0]) tz27 rfl ?_
  intro g9 w10 hg11 hk12 hs13 hb14
  have hz15 := hk12.size
  have hB16 := hB8.lo hk12
  refine SR.nil ?_
  refine W.seq ?_
  have hm17 := ((hx_Maps).lo hk4).lo hk12
  have hm18 := ((hx_Away).lo hk4).lo hk12
  refine W.regA (Kp (fun b_ => b_ = g1) w10) (fun f' w' => ∃ (A64 : Option Addr) (n65 : Nat) (c66 : Nat) (A79 : Option Addr) (n80 : Nat) (c81 : Nat), At f' [(1, .pointer (pA g1)), (2, .pointer (pA g9))] ∧ (Kp (fun b_ => b_ = g1) w10 w') ∧ (SlO w' w10.heap.size encLMap 3 59 A64 n65 c66 x.Maps) ∧ (SlO w' w10.heap.size encAway 2 63 A79 n80 c81 x.Away) ∧ (Blk w' g1 27 [.slice A64 n65 c66, .slice A79 n80 c81, .int .i64 x.Bought, .int .i64 x.Dropped, .int .i64 x.Mended]) ∧ (∀ b_, A64 = some ⟨b_, 0, none⟩ → ¬ A79 = some ⟨b_, 0, none⟩) ∧ (n65 = (x.Maps).length) ∧ ((n65 : Int) ≤ 9223372036854775807) ∧ (n80 = (x.Away).length) ∧ ((n80 : Int) ≤ 9223372036854775807)) mo ?_ ?_
  · intro w127 hk128
    have hz129 := hk128.size
    have hB130 := hB16.lo hk128
    refine AH.via #[true, true, true, true, true, false, true, false, false, false] 4 (fun f' w' => ∃ (A64 : Option Addr) (n65 : Nat) (c66 : Nat), At f' [(1, .pointer (pA g1)), (2, .pointer (pA g9)), (5, .slice A64 n65 c66), (7, .slice Ax_Away nx_Away cx_Away), (9, .pointer (some (((⟨g1, 0, none⟩ : Addr)).add 0)))] ∧ (Kp (fun b_ => b_ = g1) w10 w') ∧ (SlO w' w10.heap.size encLMap 3 59 A64 n65 c66 x.Maps) ∧ (Blk w' g1 27 [.slice Ax_Maps nx_Maps cx_Maps, .slice Ax_Away nx_Away cx_Away, .int .i64 x.Bought, .int .i64 x.Dropped, .int .i64 x.Mended]) ∧ (n65 = (x.Maps).length) ∧ ((n65 : Int) ≤ 9223372036854775807)) ?_ (fun hn131 => ?_)
    · rintro f132 w133 ⟨A64, n65, c66, hat135, hR134, hm75, hm76, hl71, hl72⟩
      rw [← sets_of_at hat135]
      have hz136 := hR134.size
      have hB137 := hB16.new hR134 (by omega)
      refine AH.br [5] (by kernel_rfl) rfl ⟨Br.mk' rfl trivial ?_, trivial⟩
      refine SR.call ent60 (c_slices_Clone___impl_Away_impl_Away_ w133 x.Away (((hm18).kn hR134 (by omega))) (by omega)) rfl ?_
      rintro e w138 ⟨A140, n141, c142, rfl, hO143, hk139⟩
      refine ⟨_, rfl, ?_⟩
      have hz144 := hk139.size
      have hB145 := hB137.lo hk139
      have hS146 := (hR134).lo hk139
      have hl147 := hO143.len
      have hl148 := hO143.rd.bound
      refine SR.nil ⟨hS146, _, rfl, ?_⟩
      refine AH.br [7] (by kernel_rfl) rfl ⟨Br.mk' rfl trivial ?_, trivial⟩
      refine SR.store (o := 0) (vs := [.slice A64 n65 c66]) sca24.2 rfl rfl rfl rfl ((hm76).lo hk139) (Nat.le_of_ble_eq_true rfl) rfl ?_
      intro w149 hk150 hs151 hb152
      have hz153 := hk150.size
      have hB154 := hB145.new hk150 (by omega)
      have hS155 := (hS146).step hk150 (fun _ _ e => e)
      refine SR.nil ⟨hS155, _, rfl, ?_⟩
      refine AH.take 8 rfl (by kernel_rfl) trivial (hS155) (fun w' hw' => r_fa fa27_1 rfl) <| AH.br [9] (by kernel_rfl) rfl ⟨Br.mk' rfl trivial ?_, trivial⟩
      refine SR.store (o := 1) (vs := [.slice A140 n141 c142]) sca25.2 rfl rfl rfl rfl (hb152) (Nat.le_of_ble_eq_true rfl) rfl ?_
      intro w156 hk157 hs158 hb159
      have hz160 := hk157.size
      have hB161 := hB154.new hk157 (by omega)
      have hS162 := (hS155).step hk157 (fun _ _ e => e)
      refine SR.nil ⟨hS162, _, rfl, ?_⟩
      refine AH.done (by kernel_rfl) ?_
      exact ⟨A64, n65, c66, A140, n141, c142, ⟨rfl, rfl, trivial⟩, hS162, (((((hm75).lo hk139).kn hk150 (by omega)).kn hk157 (by omega)).down (by omega)), ((((hO143).kn hk150 (by omega)).kn hk157 (by omega)).down (by omega)), (hb159), (fun b_ h h' => by have h1 := (hm75).base_le h; have h2 := (((hO143).kn hk150 (by omega)).kn hk157 (by omega)).base_le h'; omega), hl71, hl72, hl147, hl148⟩
    refine AH.via #[true, true, false, true, true, false, false, false, false, false] 6 (fun f' w' => At f' [(1, .pointer (pA g1)), (2, .pointer (pA g9)), (4, .slice Ax_Maps nx_Maps cx_Maps), (7, .slice Ax_Away nx_Away cx_Away)] ∧ (Kp (fun b_ => b_ = g1) w10 w') ∧ (Blk w' g1 27 [.slice Ax_Maps nx_Maps cx_Maps, .slice Ax_Away nx_Away cx_Away, .int .i64 x.Bought, .int .i64 x.Dropped, .int .i64 x.Mended])) ?_ (fun hn164 => ?_)
    · rintro f165 w166 ⟨hat168, hR167, hm114⟩
      rw [← sets_of_at hat168]
      have hz169 := hR167.size
      have hB170 := hB16.new hR167 (by omega)
      refine AH.br [2] (by kernel_rfl) rfl ⟨Br.mk' rfl trivial ?_, trivial⟩
      refine SR.call ent59 (c_slices_Clone___impl_Map_impl_Map_ w166 x.Maps (((hm17).kn hR167 (by omega))) (by omega)) rfl ?_
      rintro e w171 ⟨A173, n174, c175, rfl, hO176, hk172⟩
      refine ⟨_, rfl, ?_⟩
      have hz177 := hk172.size
      have hB178 := hB170.lo hk172
      have hS179 := (hR167).lo hk172
      have hl180 := hO176.len
      have hl181 := hO176.rd.bound
      refine SR.nil ⟨hS179, _, rfl, ?_⟩
      refine AH.take 6 rfl (by kernel_rfl) trivial (hS179) (fun w' hw' => r_fa fa27_0 rfl) <| AH.goto (by kernel_rfl) rfl (hn131 _ _ ?_)
      exact ⟨A173, n174, c175, ⟨rfl, rfl, rfl, rfl, rfl, trivial⟩, hS179, ((hO176).down (by omega)), ((hm114).lo hk172), hl180, hl181⟩
    refine AH.take 0 rfl (by kernel_rfl) trivial ((Kp.refl w10 : Kp (fun b_ => b_ = g1) w10 w10).lo hk128) (fun w' hw' => r_fa fa27_0 rfl) <| AH.take 3 rfl (by kernel_rfl) trivial ((Kp.refl w10 : Kp (fun b_ => b_ = g1) w10 w10).lo hk128) (fun w' hw' => r_fa fa27_1 rfl) <| AH.br [1, 4] (by kernel_rfl) rfl ⟨Br.mk' rfl trivial ?_, Br.mk' rfl trivial ?_, trivial⟩
    · refine SR.q' (r_ld (v := .slice Ax_Maps nx_Maps cx_Maps) sca24 rfl ((((hb6).lo hk12).lo hk128).cell rfl)) ?_
      refine SR.nil ⟨(Kp.refl w10 : Kp (fun b_ => b_ = g1) w10 w10).lo hk128, _, rfl, ?_⟩
      refine AH.br [2, 4] (by kernel_rfl) rfl ⟨Br.mk' rfl trivial ?_, Br.mk' rfl trivial ?_, trivial⟩
      · refine SR.call ent59 (c_slices_Clone___impl_Map_impl_Map_ w127 x.Maps (((hm17).lo hk128)) (by omega)) rfl ?_
        rintro e w182 ⟨A184, n185, c186, rfl, hO187, hk183⟩
        refine ⟨_, rfl, ?_⟩
        have hz188 := hk183.size
        have hB189 := hB130.lo hk183
        have hS190 := ((Kp.refl w10 : Kp (fun b_ => b_ = g1) w10 w10).lo hk128).lo hk183
        have hl191 := hO187.len
        have hl192 := hO187.rd.bound
        refine SR.nil ⟨hS190, _, rfl, ?_⟩
        refine AH.br [4] (by kernel_rfl) rfl ⟨Br.mk' rfl trivial ?_, trivial⟩
        refine SR.q' (r_ld (v := .slice Ax_Away nx_Away cx_Away) sca25 rfl (((((hb6).lo hk12).lo hk128).lo hk183).cell rfl)) ?_
        refine SR.nil ⟨hS190, _, rfl, ?_⟩
        refine AH.take 6 rfl (by kernel_rfl) trivial (hS190) (fun w' hw' => r_fa fa27_0 rfl) <| AH.goto (by kernel_rfl) rfl (hn131 _ _ ?_)
        exact ⟨A184, n185, c186, ⟨rfl, rfl, rfl, rfl, rfl, trivial⟩, hS190, ((hO187).down (by omega)), ((((hb6).lo hk12).lo hk128).lo hk183), hl191, hl192⟩
      · refine SR.q' (r_ld (v := .slice Ax_Away nx_Away cx_Away) sca25 rfl ((((hb6).lo hk12).lo hk128).cell rfl)) ?_
        refine SR.nil ⟨(Kp.refl w10 : Kp (fun b_ => b_ = g1) w10 w10).lo hk128, _, rfl, ?_⟩
        refine AH.goto (by kernel_rfl) rfl (hn164 _ _ ?_)
        exact ⟨⟨rfl, rfl, rfl, rfl, trivial⟩, (Kp.refl w10 : Kp (fun b_ => b_ = g1) w10 w10).lo hk128, (((hb6).lo hk12).lo hk128)⟩
    · refine SR.q' (r_ld (v := .slice Ax_Away nx_Away cx_Away) sca25 rfl ((((hb6).lo hk12).lo hk128).cell rfl)) ?_
      refine SR.nil ⟨(Kp.refl w10 : Kp (fun b_ => b_ = g1) w10 w10).lo hk128, _, rfl, ?_⟩
      refine AH.br [1] (by kernel_rfl) rfl ⟨Br.mk' rfl trivial ?_, trivial⟩
      refine SR.q' (r_ld (v := .slice Ax_Maps nx_Maps cx_Maps) sca24 rfl ((((hb6).lo hk12).lo hk128).cell rfl)) ?_
      refine SR.nil ⟨(Kp.refl w10 : Kp (fun b_ => b_ = g1) w10 w10).lo hk128, _, rfl, ?_⟩
      refine AH.goto (by kernel_rfl) rfl (hn164 _ _ ?_)
      exact ⟨⟨rfl, rfl, rfl, rfl, trivial⟩, (Kp.refl w10 : Kp (fun b_ => b_ = g1) w10 w10).lo hk128, (((hb6).lo hk12).lo hk128)⟩
  rintro f193 w194 ⟨A64, n65, c66, A79, n80, c81, hat196, hR195, hm110, hm111, hm112, hd113, hl71, hl72, hl86, hl87⟩
  rw [← sets_of_at hat196]
  have hz197 := hR195.size
  have hB198 := hB16.new hR195 (by omega)
  refine W.seq ?_
  refine W.regS (SR.q' (r_lda (l := [.slice A64 n65 c66, .slice A79 n80 c81, .int .i64 x.Bought, .int .i64 x.Dropped, .int .i64 x.Mended]) agg27 rfl (fun _ _ hu => (hm112).cell hu) rfl) <| SR.store (o := 0) (vs := [.slice A64 n65 c66, .slice A79 n80 c81, .int .i64 x.Bought, .int .i64 x.Dropped, .int .i64 x.Mended]) agg27.2 rfl rfl rfl rfl ((hb14).kn hR195 (by omega)) (Nat.le_of_ble_eq_true rfl) rfl ?_)
  intro w199 hk200 hs201 hb202
  have hz203 := hk200.size
  have hB204 := hB198.new hk200 (by omega)
  refine SR.nil ?_
  refine W.ret ?_
  refine retC rfl rfl agg27 (hb202) rfl ?_
  exact ⟨A64, n65, c66, A79, n80, c81, eR rfl, (((hm110).kn hk200 (by omega)).down (by omega)), (((hm111).kn hk200 (by omega)).down (by omega)), hd113, hB204⟩

theorem c_spec_l32Own (w : World) (x : Library) {Ax_Maps : Option Addr} {nx_Maps cx_Maps Bx_Maps : Nat} (hx_Maps : SlR w Bx_Maps encLMap 3 Ax_Maps nx_Maps cx_Maps x.Maps) {Ax_Away : Option Addr} {nx_Away cx_Away Bx_Away : Nat} (hx_Away : SlR w Bx_Away encAway 2 Ax_Away nx_Away cx_Away x.Away) (hp0 : (nx_Maps : Int) ≤ 1048576) (hp1 : (nx_Away : Int) ≤ 1048576) : Calls Try.prog 39 #[.agg (List.toArray [.slice Ax_Maps nx_Maps cx_Maps, .slice Ax_Away nx_Away cx_Away, .int .i64 x.Bought, .int .i64 x.Dropped, .int .i64 x.Mended])] w fun e w' => ∃ (A1' : Option Addr) (n1' c1' : Nat) (A2' : Option Addr) (n2' c2' : Nat), e = .returned (.agg (List.toArray [.slice A1' n1' c1', .slice A2' n2' c2', .int .i64 x.Bought, .int .i64 x.Dropped, .int .i64 x.Mended])) ∧ SlO w' w.heap.size encLMap 3 59 A1' n1' c1' x.Maps ∧ SlO w' w.heap.size encAway 2 63 A2' n2' c2' x.Away ∧ (∀ b_, A1' = some ⟨b_, 0, none⟩ → ¬ A2' = some ⟨b_, 0, none⟩) ∧ Lo w w' := by
  refine calls_W 18 Try.func39 rfl rfl rfl ?_
  have hbdx_Maps := hx_Maps.bound
  have hlex_Maps := hx_Maps.len
  have hBbx_Maps := hx_Maps.bd
  have hbdx_Away := hx_Away.bound
  have hlex_Away := hx_Away.len
  have hBbx_Away := hx_Away.bd
  refine W.seq ?_
  refine W.regS (SR.box (v := .agg (List.toArray _)) (l := [.slice Ax_Maps nx_Maps cx_Maps, .slice Ax_Away nx_Away cx_Away, .int .i64 x.Bought, .int .i64 x.Dropped, .int .i64 x.Mended]) rfl rfl ?_)
  intro g1 w2 hg3 hk4 hs5 hb6
  have hz7 := hk4.size
  have hB8 := (Lo.refl w).lo hk4
  refine SR.alloc (l := [.slice none 0 0, .slice none 0 0, .int .i64 0, .int .i64 0, .int .i64 0]) tz27 rfl ?_
  intro g9 w10 hg11 hk12 hs13 hb14
  have hz15 := hk12.size
  have hB16 := hB8.lo hk12
  refine SR.nil ?_
  refine W.seq ?_
  have hm17 := ((hx_Maps).lo hk4).lo hk12
  have hm18 := ((hx_Away).lo hk4).lo hk12
  refine W.regA (Kp (fun b_ => b_ = g9) w10) (fun f' w' => ∃ (g79 : Nat) (A89 : Option Addr) (c90 : Nat) (g100 : Nat) (A113 : Option Addr) (c114 : Nat), At f' [(2, .pointer (pA g9))] ∧ (Kp (fun b_ => b_ = g9) w10 w') ∧ (SlO w' w10.heap.size encLMap 3 59 A89 (0 + nx_Maps) c90 x.Maps) ∧ (SlO w' w10.heap.size encAway 2 63 A113 (0 + nx_Away) c114 x.Away) ∧ (Blk w' g9 27 [.slice A89 (0 + nx_Maps) c90, .slice A113 (0 + nx_Away) c114, .int .i64 x.Bought, .int .i64 x.Dropped, .int .i64 x.Mended]) ∧ (∀ b_, A89 = some ⟨b_, 0, none⟩ → ¬ A113 = some ⟨b_, 0, none⟩)) mo ?_ ?_
  · intro w180 hk181
    have hz182 := hk181.size
    have hB183 := hB16.lo hk181
    refine AH.via #[true, true, true, true, true, true, true, false, true, true, true, true, true, true, false, false] 3 (fun f' w' => ∃ (g79 : Nat) (A89 : Option Addr) (c90 : Nat) (g100 : Nat), At f' [(2, .pointer (pA g9)), (6, .slice A89 (0 + nx_Maps) c90), (7, .slice (pA g100) 0 0), (9, .slice Ax_Away nx_Away cx_Away), (12, .int .i64 x.Bought), (14, .int .i64 x.Dropped), (16, .int .i64 x.Mended)] ∧ (Kp (fun b_ => b_ = g9) w10 w') ∧ (SlO w' w10.heap.size encLMap 3 59 A89 (0 + nx_Maps) c90 x.Maps) ∧ (SlO w' w10.heap.size encAway 2 63 (pA g100) 0 0 ([] : List Away)) ∧ (Blk w' g9 27 [.slice none 0 0, .slice none 0 0, .int .i64 0, .int .i64 0, .int .i64 0]) ∧ (∀ b_, A89 = some ⟨b_, 0, none⟩ → ¬ (pA g100) = some ⟨b_, 0, none⟩)) ?_ (fun hn184 => ?_)
    · rintro f185 w186 ⟨g79, A89, c90, g100, hat188, hR187, hm109, hm110, hm111, hd112⟩
      rw [← sets_of_at hat188]
      have hz189 := hR187.size
      have hB190 := hB16.new hR187 (by omega)
      refine AH.br [7] (by kernel_rfl) rfl ⟨Br.mk' rfl trivial ?_, trivial⟩
      refine SR.app tel25 rfl rfl (hm110) ((hm18).kn hR187 (by omega)) (fun _ => rfl) (by omega) (by omega) ?_
      intro A191 c192 w193 hk194 hO195 hN196
      have hz197 := hk194.size
      have hB198 := hB190.step hk194 (fun i_ hi_ e' => by have := ((hm110)).base_le e'; first | omega | (exfalso; omega) | exact e' | exact .inl e' | exact .inr e')
      have hS199 := (hR187).step hk194 (fun i_ hi_ e' => by have := ((hm110)).base_le e'; exfalso; omega)
      rw [List.nil_append] at hO195
      have hd200 : ∀ b_, A191 = some ⟨b_, 0, none⟩ → ¬ A89 = some ⟨b_, 0, none⟩ := fun b_ e' h' => (hN196 b_ e').elim (fun h => (fun b_ h h' => hd112 b_ h' h) b_ (h.trans e') h') (fun h => by have := (hm109).base_le h'; omega)
      refine SR.nil ⟨hS199, _, rfl, ?_⟩
      refine AH.take 14 rfl (by kernel_rfl) trivial (hS199) (fun w' hw' => r_build (vs := [(0, .slice A89 (0 + nx_Maps) c90), (1, .slice A191 (0 + nx_Away) c192), (2, .int .i64 x.Bought), (3, .int .i64 x.Dropped), (4, .int .i64 x.Mended)]) rfl (bld27_0_1_2_3_4 _ _ _ _ _ _ _ _ _)) <| AH.br [15] (by kernel_rfl) rfl ⟨Br.mk' rfl trivial ?_, trivial⟩
      refine SR.store (o := 0) (vs := [.slice A89 (0 + nx_Maps) c90, .slice A191 (0 + nx_Away) c192, .int .i64 x.Bought, .int .i64 x.Dropped, .int .i64 x.Mended]) agg27.2 rfl rfl rfl rfl ((hm111).kp hk194 (fun e' => by have := ((hm110)).base_le e'; omega)) (Nat.le_of_ble_eq_true rfl) rfl ?_
      intro w201 hk202 hs203 hb204
      have hz205 := hk202.size
      have hB206 := hB198.new hk202 (by omega)
      have hS207 := (hS199).step hk202 (fun _ _ e => e)
      refine SR.nil ⟨hS207, _, rfl, ?_⟩
      refine AH.done (by kernel_rfl) ?_
      exact ⟨g79, A89, c90, g100, A191, c192, ⟨rfl, trivial⟩, hS207, ((((hm109).kp hk194 (fun b_ hb e' => hd112 b_ hb e')).kn hk202 (by omega)).down (by omega)), (((hO195).kn hk202 (by omega)).down (by omega)), (hb204), (fun b_ h h' => hd200 b_ h' h)⟩
    refine AH.via #[true, true, true, false, true, true, true, false, true, true, true, true, true, true, false, false] 4 (fun f' w' => ∃ (g79 : Nat) (g138 : Nat), At f' [(2, .pointer (pA g9)), (3, .slice (pA g79) 0 0), (5, .slice Ax_Maps nx_Maps cx_Maps), (7, .slice (pA g138) 0 0), (9, .slice Ax_Away nx_Away cx_Away), (12, .int .i64 x.Bought), (14, .int .i64 x.Dropped), (16, .int .i64 x.Mended)] ∧ (Kp (fun b_ => b_ = g9) w10 w') ∧ (SlO w' w10.heap.size encLMap 3 59 (pA g79) 0 0 ([] : List LMap)) ∧ (SlO w' w10.heap.size encAway 2 63 (pA g138) 0 0 ([] : List Away)) ∧ (Blk w' g9 27 [.slice none 0 0, .slice none 0 0, .int .i64 0, .int .i64 0, .int .i64 0]) ∧ (∀ b_, (pA g79) = some ⟨b_, 0, none⟩ → ¬ (pA g138) = some ⟨b_, 0, none⟩)) ?_ (fun hn209 => ?_)
    · rintro f210 w211 ⟨g79, g138, hat213, hR212, hm147, hm148, hm149, hd150⟩
      rw [← sets_of_at hat213]
      have hz214 := hR212.size
      have hB215 := hB16.new hR212 (by omega)
      refine AH.br [3] (by kernel_rfl) rfl ⟨Br.mk' rfl trivial ?_, trivial⟩
      refine SR.app tel24 rfl rfl (hm147) ((hm17).kn hR212 (by omega)) (fun _ => rfl) (by omega) (by omega) ?_
      intro A216 c217 w218 hk219 hO220 hN221
      have hz222 := hk219.size
      have hB223 := hB215.step hk219 (fun i_ hi_ e' => by have := ((hm147)).base_le e'; first | omega | (exfalso; omega) | exact e' | exact .inl e' | exact .inr e')
      have hS224 := (hR212).step hk219 (fun i_ hi_ e' => by have := ((hm147)).base_le e'; exfalso; omega)
      rw [List.nil_append] at hO220
      have hd225 : ∀ b_, A216 = some ⟨b_, 0, none⟩ → ¬ (pA g138) = some ⟨b_, 0, none⟩ := fun b_ e' h' => (hN221 b_ e').elim (fun h => hd150 b_ (h.trans e') h') (fun h => by have := (hm148).base_le h'; omega)
      refine SR.nil ⟨hS224, _, rfl, ?_⟩
      refine AH.goto (by kernel_rfl) rfl (hn184 _ _ ?_)
      exact ⟨g79, A216, c217, g138, ⟨rfl, rfl, rfl, rfl, rfl, rfl, rfl, trivial⟩, hS224, ((hO220).down (by omega)), (((hm148).kp hk219 (fun b_ hb e' => hd150 b_ e' hb)).down (by omega)), ((hm149).kp hk219 (fun e' => by have := ((hm147)).base_le e'; omega)), hd225⟩
    refine AH.take 1 rfl (by kernel_rfl) trivial ((Kp.refl w10 : Kp (fun b_ => b_ = g9) w10 w10).lo hk181) (fun w' hw' => r_fa fa27_0 rfl) <| AH.take 2 rfl (by kernel_rfl) trivial ((Kp.refl w10 : Kp (fun b_ => b_ = g9) w10 w10).lo hk181) (fun w' hw' => r_ld (v := .slice Ax_Maps nx_Maps cx_Maps) sca24 rfl ((((hb6).lo hk12).kn hw' (by omega)).cell rfl)) <| AH.take 5 rfl (by kernel_rfl) trivial ((Kp.refl w10 : Kp (fun b_ => b_ = g9) w10 w10).lo hk181) (fun w' hw' => r_fa fa27_1 rfl) <| AH.take 6 rfl (by kernel_rfl) trivial ((Kp.refl w10 : Kp (fun b_ => b_ = g9) w10 w10).lo hk181) (fun w' hw' => r_ld (v := .slice Ax_Away nx_Away cx_Away) sca25 rfl ((((hb6).lo hk12).kn hw' (by omega)).cell rfl)) <| AH.take 8 rfl (by kernel_rfl) trivial ((Kp.refl w10 : Kp (fun b_ => b_ = g9) w10 w10).lo hk181) (fun w' hw' => r_fa fa27_2 rfl) <| AH.take 9 rfl (by kernel_rfl) trivial ((Kp.refl w10 : Kp (fun b_ => b_ = g9) w10 w10).lo hk181) (fun w' hw' => r_ld (v := .int .i64 x.Bought) sca3 rfl ((((hb6).lo hk12).kn hw' (by omega)).cell rfl)) <| AH.take 10 rfl (by kernel_rfl) trivial ((Kp.refl w10 : Kp (fun b_ => b_ = g9) w10 w10).lo hk181) (fun w' hw' => r_fa fa27_3 rfl) <| AH.take 11 rfl (by kernel_rfl) trivial ((Kp.refl w10 : Kp (fun b_ => b_ = g9) w10 w10).lo hk181) (fun w' hw' => r_ld (v := .int .i64 x.Dropped) sca3 rfl ((((hb6).lo hk12).kn hw' (by omega)).cell rfl)) <| AH.take 12 rfl (by kernel_rfl) trivial ((Kp.refl w10 : Kp (fun b_ => b_ = g9) w10 w10).lo hk181) (fun w' hw' => r_fa fa27_4 rfl) <| AH.take 13 rfl (by kernel_rfl) trivial ((Kp.refl w10 : Kp (fun b_ => b_ = g9) w10 w10).lo hk181) (fun w' hw' => r_ld (v := .int .i64 x.Mended) sca3 rfl ((((hb6).lo hk12).kn hw' (by omega)).cell rfl)) <| AH.br [0, 4] (by kernel_rfl) rfl ⟨Br.mk' rfl trivial ?_, Br.mk' rfl trivial ?_, trivial⟩
    · refine SR.lit (vs := []) (L := ([] : List LMap)) (enc := encLMap) tel24 (fun _ => rfl) rfl rfl rfl (by decide) ?_
      intro g227 w228 hg229 hk230 hO231
      have hz232 := hk230.size
      have hB233 := hB183.lo hk230
      have hS234 := ((Kp.refl w10 : Kp (fun b_ => b_ = g9) w10 w10).lo hk181).lo hk230
      refine SR.nil ⟨hS234, _, rfl, ?_⟩
      refine AH.br [3, 4] (by kernel_rfl) rfl ⟨Br.mk' rfl trivial ?_, Br.mk' rfl trivial ?_, trivial⟩
      · refine SR.app tel24 rfl rfl (hO231) (((hm17).lo hk181).lo hk230) (fun _ => rfl) (by omega) (by omega) ?_
        intro A235 c236 w237 hk238 hO239 hN240
        have hz241 := hk238.size
        have hB242 := hB233.step hk238 (fun i_ hi_ e' => by have := ((hO231)).base_le e'; first | omega | (exfalso; omega) | exact e' | exact .inl e' | exact .inr e')
        have hS243 := (hS234).step hk238 (fun i_ hi_ e' => by have := ((hO231)).base_le e'; exfalso; omega)
        rw [List.nil_append] at hO239
        refine SR.nil ⟨hS243, _, rfl, ?_⟩
        refine AH.br [4] (by kernel_rfl) rfl ⟨Br.mk' rfl trivial ?_, trivial⟩
        refine SR.lit (vs := []) (L := ([] : List Away)) (enc := encAway) tel25 (fun _ => rfl) rfl rfl rfl (by decide) ?_
        intro g244 w245 hg246 hk247 hO248
        have hz249 := hk247.size
        have hB250 := hB242.lo hk247
        have hS251 := (hS243).lo hk247
        have hd252 : ¬ A235 = some ⟨g244, 0, none⟩ := fun e' => by have := (hO239).base_le e'; omega
        refine SR.nil ⟨hS251, _, rfl, ?_⟩
        refine AH.goto (by kernel_rfl) rfl (hn184 _ _ ?_)
        exact ⟨g227, A235, c236, g244, ⟨rfl, rfl, rfl, rfl, rfl, rfl, rfl, trivial⟩, hS251, (((hO239).lo hk247).down (by omega)), ((hO248).down (by omega)), (((((hb14).lo hk181).lo hk230).kp hk238 (fun e' => by have := ((hO231)).base_le e'; omega)).lo hk247), (fun b_ h h' => hd252 (h.trans h'.symm))⟩
      · refine SR.lit (vs := []) (L := ([] : List Away)) (enc := encAway) tel25 (fun _ => rfl) rfl rfl rfl (by decide) ?_
        intro g254 w255 hg256 hk257 hO258
        have hz259 := hk257.size
        have hB260 := hB233.lo hk257
        have hS261 := (hS234).lo hk257
        have hd262 : ¬ (pA g227) = some ⟨g254, 0, none⟩ := fun e' => by have := (hO231).base_le e'; omega
        refine SR.nil ⟨hS261, _, rfl, ?_⟩
        refine AH.goto (by kernel_rfl) rfl (hn209 _ _ ?_)
        exact ⟨g227, g254, ⟨rfl, rfl, rfl, rfl, rfl, rfl, rfl, rfl, trivial⟩, hS261, (((hO231).lo hk257).down (by omega)), ((hO258).down (by omega)), ((((hb14).lo hk181).lo hk230).lo hk257), (fun b_ h h' => hd262 (h.trans h'.symm))⟩
    · refine SR.lit (vs := []) (L := ([] : List Away)) (enc := encAway) tel25 (fun _ => rfl) rfl rfl rfl (by decide) ?_
      intro g264 w265 hg266 hk267 hO268
      have hz269 := hk267.size
      have hB270 := hB183.lo hk267
      have hS271 := ((Kp.refl w10 : Kp (fun b_ => b_ = g9) w10 w10).lo hk181).lo hk267
      refine SR.nil ⟨hS271, _, rfl, ?_⟩
      refine AH.br [0] (by kernel_rfl) rfl ⟨Br.mk' rfl trivial ?_, trivial⟩
      refine SR.lit (vs := []) (L := ([] : List LMap)) (enc := encLMap) tel24 (fun _ => rfl) rfl rfl rfl (by decide) ?_
      intro g272 w273 hg274 hk275 hO276
      have hz277 := hk275.size
      have hB278 := hB270.lo hk275
      have hS279 := (hS271).lo hk275
      have hd280 : ¬ (pA g264) = some ⟨g272, 0, none⟩ := fun e' => by have := (hO268).base_le e'; omega
      refine SR.nil ⟨hS279, _, rfl, ?_⟩
      refine AH.goto (by kernel_rfl) rfl (hn209 _ _ ?_)
      exact ⟨g272, g264, ⟨rfl, rfl, rfl, rfl, rfl, rfl, rfl, rfl, trivial⟩, hS279, ((hO276).down (by omega)), (((hO268).lo hk275).down (by omega)), ((((hb14).lo hk181).lo hk267).lo hk275), (fun b_ h h' => hd280 (h'.trans h.symm))⟩
  rintro f282 w283 ⟨g79, A89, c90, g100, A113, c114, hat285, hR284, hm134, hm135, hm136, hd137⟩
  rw [← sets_of_at hat285]
  have hz286 := hR284.size
  have hB287 := hB16.new hR284 (by omega)
  refine W.ret ?_
  refine retC rfl rfl agg27 (hm136) rfl ?_
  exact ⟨A89, 0 + nx_Maps, c90, A113, 0 + nx_Away, c114, eR rfl, ((hm134).down (by omega)), ((hm135).down (by omega)), hd137, hB287⟩

theorem c__impl_Library__awayAt (w : World) (x : Library) {Ax_Maps : Option Addr} {nx_Maps cx_Maps Bx_Maps : Nat} (hx_Maps : SlR w Bx_Maps encLMap 3 Ax_Maps nx_Maps cx_Maps x.Maps) {Ax_Away : Option Addr} {nx_Away cx_Away Bx_Away : Nat} (hx_Away : SlR w Bx_Away encAway 2 Ax_Away nx_Away cx_Away x.Away) (id : Int) (r : Int) (hp0 : (nx_Away : Int) ≤ 1048576) : Calls Try.prog 71 #[.agg (List.toArray [.slice Ax_Maps nx_Maps cx_Maps, .slice Ax_Away nx_Away cx_Away, .int .i64 x.Bought, .int .i64 x.Dropped, .int .i64 x.Mended]), .int .i64 id, .int .i64 r] w fun e w' => e = .returned (.tuple (List.toArray [.int .i64 (bsP cmpA (⟨id, r⟩ : Away) x.Away : Int), .bool (decide (bsF cmpA (⟨id, r⟩ : Away) x.Away))])) ∧ Lo w w' := by
  refine calls_W 16 Try.func71 rfl rfl rfl ?_
  have hbdx_Maps := hx_Maps.bound
  have hlex_Maps := hx_Maps.len
  have hBbx_Maps := hx_Maps.bd
  have hbdx_Away := hx_Away.bound
  have hlex_Away := hx_Away.len
  have hBbx_Away := hx_Away.bd
  refine W.seq ?_
  refine W.regS (SR.box (v := .agg (List.toArray _)) (l := [.slice Ax_Maps nx_Maps cx_Maps, .slice Ax_Away nx_Away cx_Away, .int .i64 x.Bought, .int .i64 x.Dropped, .int .i64 x.Mended]) rfl rfl ?_)
  intro g1 w2 hg3 hk4 hs5 hb6
  have hz7 := hk4.size
  have hB8 := (Lo.refl w).lo hk4
  refine SR.q' (r_as (v := .int .i64 0) rfl) <| SR.q' (r_as (v := .bool false) rfl) <| SR.nil ?_
  refine W.seq ?_
  refine W.regS (SR.q' (r_fa fa27_1 rfl) <| SR.q' (r_ld (v := .slice Ax_Away nx_Away cx_Away) sca25 rfl ((hb6).cell rfl)) <| SR.q' (r_mv (v := .int .i64 _) rfl) <| SR.q' (r_mv (v := .int .i64 _) rfl) <| SR.q' (r_build (vs := [(0, .int .i64 id), (1, .int .i64 r)]) rfl (bld63_0_1 _ _)) <| SR.call ent75 (c_slices_BinarySearchFunc___impl_Away_impl_Away_impl_Away_ w2 x.Away (((hx_Away).lo hk4)) (⟨id, r⟩ : Away) (fun (u_ : Away) (v_ : Away) => cmpA u_ v_) ⟨ent32, fun w'' hw'' x y => (c_impl_compareAway w'' x y).mono fun _ _ h => ⟨h.1, h.2⟩⟩ (by omega)) rfl ?_)
  rintro e w9 ⟨rfl, hk10⟩
  refine ⟨_, rfl, ?_⟩
  have hz11 := hk10.size
  have hB12 := hB8.lo hk10
  have hq13 : bsP (fun (u_ : Away) (v_ : Away) => cmpA u_ v_) (⟨id, r⟩ : Away) x.Away ≤ x.Away.length := bsP_le
  refine SR.q' (r_ext (v := .int .i64 _) rfl rfl) <| SR.q' (r_ext (v := .bool _) rfl rfl) <| SR.q' (r_as (v := .int .i64 _) rfl) <| SR.q' (r_as (v := .bool _) rfl) <| SR.nil ?_
  refine W.ret ?_
  refine ret2 rfl (v := .int .i64 _) (v' := .bool _) rfl rfl ?_
  exact ⟨eR (eT2 (eI (by rfl)) (eDD (by exact Iff.rfl))), hB12⟩

open Classical in
noncomputable def impl_Library_buy (x : Library) (s : LibraryStep) : Library :=
  if bsF cmpM s.Id x.Maps then (⟨x.Maps.set ((bsP cmpM s.Id x.Maps : Int).toNat) ({ (gt x.Maps ((bsP cmpM s.Id x.Maps : Int).toNat)) with Copies := IntKind.i64.wrap (((gt x.Maps ((bsP cmpM s.Id x.Maps : Int).toNat)).Copies) + s.Value) }), x.Away, IntKind.i64.wrap (x.Bought + s.Value), x.Dropped, x.Mended⟩ : Library) else (⟨(x.Maps.take (bsP cmpM s.Id x.Maps : Int).toNat ++ ([(⟨s.Id, 0, 0⟩ : LMap)] : List LMap) ++ x.Maps.drop (bsP cmpM s.Id x.Maps : Int).toNat).set ((bsP cmpM s.Id x.Maps : Int).toNat) ({ (gt (x.Maps.take (bsP cmpM s.Id x.Maps : Int).toNat ++ ([(⟨s.Id, 0, 0⟩ : LMap)] : List LMap) ++ x.Maps.drop (bsP cmpM s.Id x.Maps : Int).toNat) ((bsP cmpM s.Id x.Maps : Int).toNat)) with Copies := IntKind.i64.wrap (((gt (x.Maps.take (bsP cmpM s.Id x.Maps : Int).toNat ++ ([(⟨s.Id, 0, 0⟩ : LMap)] : List LMap) ++ x.Maps.drop (bsP cmpM s.Id x.Maps : Int).toNat) ((bsP cmpM s.Id x.Maps : Int).toNat)).Copies) + s.Value) }), x.Away, IntKind.i64.wrap (x.Bought + s.Value), x.Dropped, x.Mended⟩ : Library)
theorem c__impl_Library__buy (w : World) (x : Library) {Ax_Maps : Option Addr} {nx_Maps cx_Maps Bx_Maps : Nat} (hx_Maps : SlO w Bx_Maps encLMap 3 59 Ax_Maps nx_Maps cx_Maps x.Maps) {Ax_Away : Option Addr} {nx_Away cx_Away Bx_Away : Nat} (hx_Away : SlO w Bx_Away encAway 2 63 Ax_Away nx_Away cx_Away x.Away) (s : LibraryStep) (hdx_Maps_x_Away : ∀ b_, Ax_Maps = some ⟨b_, 0, none⟩ → ¬ Ax_Away = some ⟨b_, 0, none⟩) (hp0 : (nx_Maps : Int) ≤ 100) (hp1 : (nx_Away : Int) ≤ 100) : Calls Try.prog 43 #[.agg (List.toArray [.slice Ax_Maps nx_Maps cx_Maps, .slice Ax_Away nx_Away cx_Away, .int .i64 x.Bought, .int .i64 x.Dropped, .int .i64 x.Mended]), .agg (List.toArray (encLibraryStep s))] w fun e w' => ∃ (A1' : Option Addr) (n1' c1' : Nat) (A2' : Option Addr) (n2' c2' : Nat), e = .returned (.agg (List.toArray [.slice A1' n1' c1', .slice A2' n2' c2', .int .i64 ((impl_Library_buy x s).Bought), .int .i64 ((impl_Library_buy x s).Dropped), .int .i64 ((impl_Library_buy x s).Mended)])) ∧ SlO w' Bx_Maps encLMap 3 59 A1' n1' c1' ((impl_Library_buy x s).Maps) ∧ SlO w' Bx_Away encAway 2 63 A2' n2' c2' ((impl_Library_buy x s).Away) ∧ (∀ b_, A1' = some ⟨b_, 0, none⟩ → ¬ A2' = some ⟨b_, 0, none⟩) ∧ (∀ b_, A1' = some ⟨b_, 0, none⟩ → (Ax_Maps = some ⟨b_, 0, none⟩ ∨ Ax_Away = some ⟨b_, 0, none⟩) ∨ w.heap.size ≤ b_) ∧ (∀ b_, A2' = some ⟨b_, 0, none⟩ → (Ax_Maps = some ⟨b_, 0, none⟩ ∨ Ax_Away = some ⟨b_, 0, none⟩) ∨ w.heap.size ≤ b_) ∧ Kp (fun b_ => Ax_Maps = some ⟨b_, 0, none⟩ ∨ Ax_Away = some ⟨b_, 0, none⟩) w w' := by
  refine calls_W 43 Try.func43 rfl rfl rfl ?_
  have hcpx_Maps := hx_Maps.rd.cap
  have hbbx_Maps := hx_Maps.rd.bd
  have hbdx_Maps := hx_Maps.rd.bound
  have hlex_Maps := hx_Maps.len
  have hBbx_Maps := hx_Maps.bd
  have hcpx_Away := hx_Away.rd.cap
  have hbbx_Away := hx_Away.rd.bd
  have hbdx_Away := hx_Away.rd.bound
  have hlex_Away := hx_Away.len
  have hBbx_Away := hx_Away.bd
  have hcpx_Maps := hx_Maps.rd.cap
  have hbbx_Maps := hx_Maps.rd.bd
  have hbdx_Maps := hx_Maps.rd.bound
  have hlex_Maps := hx_Maps.len
  have hBbx_Maps := hx_Maps.bd
  have hcpx_Away := hx_Away.rd.cap
  have hbbx_Away := hx_Away.rd.bd
  have hbdx_Away := hx_Away.rd.bound
  have hlex_Away := hx_Away.len
  have hBbx_Away := hx_Away.bd
  refine W.seq ?_
  refine W.regS (SR.box (v := .agg (List.toArray _)) (l := [.slice Ax_Maps nx_Maps cx_Maps, .slice Ax_Away nx_Away cx_Away, .int .i64 x.Bought, .int .i64 x.Dropped, .int .i64 x.Mended]) rfl rfl ?_)
  intro g1 w2 hg3 hk4 hs5 hb6
  have hz7 := hk4.size
  have hB8 := (Kp.refl w : Kp (fun b_ => Ax_Maps = some ⟨b_, 0, none⟩ ∨ Ax_Away = some ⟨b_, 0, none⟩) w w).lo hk4
  have hd9 : ¬ Ax_Maps = some ⟨g1, 0, none⟩ := fun e' => by have := (hx_Maps).base_le e'; omega
  have hd10 : ¬ Ax_Away = some ⟨g1, 0, none⟩ := fun e' => by have := (hx_Away).base_le e'; omega
  refine SR.box (v := .agg (List.toArray _)) (l := [.int .i64 s.Kind, .int .i64 s.Id, .int .i64 s.Reader, .int .i64 s.Value]) rfl rfl ?_
  intro g11 w12 hg13 hk14 hs15 hb16
  have hz17 := hk14.size
  have hB18 := hB8.lo hk14
  have hd19 : ¬ Ax_Maps = some ⟨g11, 0, none⟩ := fun e' => by have := ((hx_Maps).lo hk4).base_le e'; omega
  refine SR.alloc (l := [.slice none 0 0, .slice none 0 0, .int .i64 0, .int .i64 0, .int .i64 0]) tz27 rfl ?_
  intro g21 w22 hg23 hk24 hs25 hb26
  have hz27 := hk24.size
  have hB28 := hB18.lo hk24
  have hd29 : ¬ Ax_Maps = some ⟨g21, 0, none⟩ := fun e' => by have := (((hx_Maps).lo hk4).lo hk14).base_le e'; omega
  have hd30 : ¬ Ax_Away = some ⟨g21, 0, none⟩ := fun e' => by have := (((hx_Away).lo hk4).lo hk14).base_le e'; omega
  refine SR.nil ?_
  refine W.seq ?_
  have hm31 := ((hb6).lo hk14).lo hk24
  have hm32 := (((hx_Maps).lo hk4).lo hk14).lo hk24
  have hm33 := (((hx_Away).lo hk4).lo hk14).lo hk24
  refine W.regS (SR.q' (r_lda (l := [.slice Ax_Maps nx_Maps cx_Maps, .slice Ax_Away nx_Away cx_Away, .int .i64 x.Bought, .int .i64 x.Dropped, .int .i64 x.Mended]) agg27 rfl (fun _ _ hu => (hm31).cell hu) rfl) <| SR.q' (r_fa fa29_1 rfl) <| SR.q' (r_ld (v := .int .i64 s.Id) sca3 rfl (((hb16).lo hk24).cell rfl)) <| SR.call ent30 (c__impl_Library__mapAt w22 x (((hm32).rd)) (((hm33).rd)) s.Id (by omega)) rfl ?_)
  rintro e w34 ⟨rfl, hk35⟩
  refine ⟨_, rfl, ?_⟩
  have hz36 := hk35.size
  have hB37 := hB28.lo hk35
  have hq38 : bsP cmpM s.Id x.Maps ≤ x.Maps.length := bsP_le
  refine SR.q' (r_mv (v := .tuple (List.toArray _)) rfl) <| SR.q' (r_ext (v := .int .i64 _) rfl rfl) <| SR.q' (r_ext (v := .bool _) rfl rfl) <| SR.q' (r_as (v := .int .i64 _) rfl) <| SR.q' (r_as (v := .bool _) rfl) <| SR.nil ?_
  refine W.seq ?_
  refine W.seq ?_
  have hm39 := ((hb16).lo hk24).lo hk35
  refine W.regS (SR.q' (r_mv (v := .bool _) rfl) <| SR.q' (r_not rfl) <| SR.nil ?_)
  refine W.cond_n rfl (fun h40 => ?_) (fun h40 => ?_)
  · refine W.regS (SR.q' (r_fa fa27_0 rfl) <| SR.q' (r_ld (v := .slice Ax_Maps nx_Maps cx_Maps) sca24 rfl (((hm31).lo hk35).cell rfl)) <| SR.q' (r_mv (v := .int .i64 _) rfl) <| SR.q' (r_fa fa29_1 rfl) <| SR.q' (r_ld (v := .int .i64 s.Id) sca3 rfl ((hm39).cell rfl)) <| SR.q' (r_build (vs := [(0, .int .i64 s.Id)]) rfl (bld59_0 _)) <| SR.lit (vs := [.agg (List.toArray [.int .i64 s.Id, .int .i64 0, .int .i64 0])]) (L := ([(⟨s.Id, 0, 0⟩ : LMap)] : List LMap)) (enc := encLMap) tel24 (fun _ => rfl) rfl rfl rfl (by decide) ?_)
    intro g41 w42 hg43 hk44 hO45
    have hz46 := hk44.size
    have hB47 := hB37.lo hk44
    have hd48 : ¬ Ax_Maps = some ⟨g41, 0, none⟩ := fun e' => by have := ((hm32).lo hk35).base_le e'; omega
    refine SR.call ent61 (c_slices_Insert___impl_Map_impl_Map_ w42 x.Maps (((hm32).lo hk35).lo hk44) (bsP cmpM s.Id x.Maps : Int) ([(⟨s.Id, 0, 0⟩ : LMap)] : List LMap) (hO45) (by omega) (by omega) (by omega) (fun b_ h h' => hd48 (h'.trans h.symm))) rfl ?_
    rintro e w50 ⟨A52, n53, c54, rfl, hO55, hN56, hk51⟩
    refine ⟨_, rfl, ?_⟩
    have hz57 := hk51.size
    have hB58 := hB47.step hk51 (fun i_ hi_ e' => by have := ((((hm32).lo hk35).lo hk44)).base_le e'; first | omega | (exfalso; omega) | exact e' | exact .inl e' | exact .inr e')
    have hd59 : ∀ b_, A52 = some ⟨b_, 0, none⟩ → ¬ Ax_Away = some ⟨b_, 0, none⟩ := fun b_ e' h' => (hN56 b_ e').elim (fun h => hdx_Maps_x_Away b_ h h') (fun h => by have := (((hm33).lo hk35).lo hk44).base_le h'; omega)
    have hd61 : ¬ A52 = some ⟨g1, 0, none⟩ := fun e' => (hN56 g1 e').elim (fun h => hd9 h) (fun h => by have := (((hm31).lo hk35).lo hk44).lt; omega)
    have hd62 : ¬ A52 = some ⟨g11, 0, none⟩ := fun e' => (hN56 g11 e').elim (fun h => hd19 h) (fun h => by have := ((hm39).lo hk44).lt; omega)
    have hd63 : ¬ A52 = some ⟨g21, 0, none⟩ := fun e' => (hN56 g21 e').elim (fun h => hd29 h) (fun h => by have := (((hb26).lo hk35).lo hk44).lt; omega)
    have hl64 := hO55.len
    have hl65 := hO55.rd.bound
    have hq66 := ins_len1 x.Maps ((⟨s.Id, 0, 0⟩ : LMap)) ((bsP cmpM s.Id x.Maps : Int).toNat)
    refine SR.q' (r_fa fa27_0 rfl) <| SR.store (o := 0) (vs := [.slice A52 n53 c54]) sca24.2 rfl rfl rfl rfl ((((hm31).lo hk35).lo hk44).kp hk51 (fun e' => hd9 e')) (Nat.le_of_ble_eq_true rfl) rfl ?_
    intro w67 hk68 hs69 hb70
    have hz71 := hk68.size
    have hB72 := hB58.new hk68 (by omega)
    refine SR.nil ?_
    refine W.seq ?_
    have hm73 := ((((hm33).lo hk35).lo hk44).kp hk51 (fun b_ hb e' => hdx_Maps_x_Away b_ e' hb)).kd hk68 hd10
    have hm74 := (((hm39).lo hk44).kp hk51 (fun e' => hd19 e')).kn hk68 (by omega)
    have hm75 := ((((hb26).lo hk35).lo hk44).kp hk51 (fun e' => hd29 e')).kn hk68 (by omega)
    refine W.regA (Kp (fun b_ => A52 = some ⟨b_, 0, none⟩) w67) (fun f' w' => At f' [(2, .pointer (pA g1)), (3, .pointer (pA g11)), (4, .pointer (pA g21))] ∧ (Kp (fun b_ => A52 = some ⟨b_, 0, none⟩) w67 w') ∧ (SlO w' Bx_Maps encLMap 3 59 A52 n53 c54 ((x.Maps.take (bsP cmpM s.Id x.Maps : Int).toNat ++ ([(⟨s.Id, 0, 0⟩ : LMap)] : List LMap) ++ x.Maps.drop (bsP cmpM s.Id x.Maps : Int).toNat).set ((bsP cmpM s.Id x.Maps : Int).toNat) ({ (gt (x.Maps.take (bsP cmpM s.Id x.Maps : Int).toNat ++ ([(⟨s.Id, 0, 0⟩ : LMap)] : List LMap) ++ x.Maps.drop (bsP cmpM s.Id x.Maps : Int).toNat) ((bsP cmpM s.Id x.Maps : Int).toNat)) with Copies := IntKind.i64.wrap (((gt (x.Maps.take (bsP cmpM s.Id x.Maps : Int).toNat ++ ([(⟨s.Id, 0, 0⟩ : LMap)] : List LMap) ++ x.Maps.drop (bsP cmpM s.Id x.Maps : Int).toNat) ((bsP cmpM s.Id x.Maps : Int).toNat)).Copies) + s.Value) }))) ∧ ((x.Maps.take (bsP cmpM s.Id x.Maps : Int).toNat ++ ([(⟨s.Id, 0, 0⟩ : LMap)] : List LMap) ++ x.Maps.drop (bsP cmpM s.Id x.Maps : Int).toNat)[(bsP cmpM s.Id x.Maps : Int).toNat]? = some (gt (x.Maps.take (bsP cmpM s.Id x.Maps : Int).toNat ++ ([(⟨s.Id, 0, 0⟩ : LMap)] : List LMap) ++ x.Maps.drop (bsP cmpM s.Id x.Maps : Int).toNat) ((bsP cmpM s.Id x.Maps : Int).toNat))) ∧ (((x.Maps.take (bsP cmpM s.Id x.Maps : Int).toNat ++ ([(⟨s.Id, 0, 0⟩ : LMap)] : List LMap) ++ x.Maps.drop (bsP cmpM s.Id x.Maps : Int).toNat).set ((bsP cmpM s.Id x.Maps : Int).toNat) ({ (gt (x.Maps.take (bsP cmpM s.Id x.Maps : Int).toNat ++ ([(⟨s.Id, 0, 0⟩ : LMap)] : List LMap) ++ x.Maps.drop (bsP cmpM s.Id x.Maps : Int).toNat) ((bsP cmpM s.Id x.Maps : Int).toNat)) with Copies := IntKind.i64.wrap (((gt (x.Maps.take (bsP cmpM s.Id x.Maps : Int).toNat ++ ([(⟨s.Id, 0, 0⟩ : LMap)] : List LMap) ++ x.Maps.drop (bsP cmpM s.Id x.Maps : Int).toNat) ((bsP cmpM s.Id x.Maps : Int).toNat)).Copies) + s.Value) }))[(bsP cmpM s.Id x.Maps : Int).toNat]? = some ({ (gt (x.Maps.take (bsP cmpM s.Id x.Maps : Int).toNat ++ ([(⟨s.Id, 0, 0⟩ : LMap)] : List LMap) ++ x.Maps.drop (bsP cmpM s.Id x.Maps : Int).toNat) ((bsP cmpM s.Id x.Maps : Int).toNat)) with Copies := IntKind.i64.wrap (((gt (x.Maps.take (bsP cmpM s.Id x.Maps : Int).toNat ++ ([(⟨s.Id, 0, 0⟩ : LMap)] : List LMap) ++ x.Maps.drop (bsP cmpM s.Id x.Maps : Int).toNat) ((bsP cmpM s.Id x.Maps : Int).toNat)).Copies) + s.Value) }))) mo ?_ ?_
    · intro w108 hk109
      have hz110 := hk109.size
      have hB111 := hB72.lo hk109
      refine AH.take 0 rfl (by kernel_rfl) trivial ((Kp.refl w67 : Kp (fun b_ => A52 = some ⟨b_, 0, none⟩) w67 w67).lo hk109) (fun w' hw' => r_fa fa27_0 rfl) <| AH.take 1 rfl (by kernel_rfl) trivial ((Kp.refl w67 : Kp (fun b_ => A52 = some ⟨b_, 0, none⟩) w67 w67).lo hk109) (fun w' hw' => r_ld (v := .slice A52 n53 c54) sca24 rfl (((hb70).kp hw' (fun e' => hd61 e')).cell rfl)) <| AH.take 2 rfl (by kernel_rfl) trivial ((Kp.refl w67 : Kp (fun b_ => A52 = some ⟨b_, 0, none⟩) w67 w67).lo hk109) (fun w' hw' => r_mv (v := .int .i64 _) rfl) <| ?_
      have hx113 := ((((hO55).kd hk68 hd61).lo hk109).rd).elem (i := (bsP cmpM s.Id x.Maps : Int).toNat) (by omega)
      refine AH.take 6 rfl (by kernel_rfl) trivial ((Kp.refl w67 : Kp (fun b_ => A52 = some ⟨b_, 0, none⟩) w67 w67).lo hk109) (fun w' hw' => r_fa fa29_3 rfl) <| AH.take 7 rfl (by kernel_rfl) trivial ((Kp.refl w67 : Kp (fun b_ => A52 = some ⟨b_, 0, none⟩) w67 w67).lo hk109) (fun w' hw' => r_ld (v := .int .i64 s.Value) sca3 rfl (((hm74).kp hw' (fun e' => hd62 e')).cell rfl)) <| AH.br [3] (by kernel_rfl) rfl ⟨Br.mk' rfl trivial ?_, trivial⟩
      refine SR.q' (r_ixR tsl24 ((((hO55).kd hk68 hd61).lo hk109).rd) rfl rfl (by omega)) ?_
      refine SR.nil ⟨(Kp.refl w67 : Kp (fun b_ => A52 = some ⟨b_, 0, none⟩) w67 w67).lo hk109, _, rfl, ?_⟩
      refine AH.take 4 rfl (by kernel_rfl) trivial ((Kp.refl w67 : Kp (fun b_ => A52 = some ⟨b_, 0, none⟩) w67 w67).lo hk109) (fun w' hw' => r_fa fa59_1 rfl) <| AH.br [5] (by kernel_rfl) rfl ⟨Br.mk' rfl trivial ?_, trivial⟩
      refine SR.q' (r_ld (v := .int .i64 ((gt (x.Maps.take (bsP cmpM s.Id x.Maps : Int).toNat ++ ([(⟨s.Id, 0, 0⟩ : LMap)] : List LMap) ++ x.Maps.drop (bsP cmpM s.Id x.Maps : Int).toNat) ((bsP cmpM s.Id x.Maps : Int).toNat)).Copies)) sca3 rfl (((((hO55).kd hk68 hd61).lo hk109).rd).cell hx113 rfl)) ?_
      refine SR.nil ⟨(Kp.refl w67 : Kp (fun b_ => A52 = some ⟨b_, 0, none⟩) w67 w67).lo hk109, _, rfl, ?_⟩
      refine AH.take 8 rfl (by kernel_rfl) trivial ((Kp.refl w67 : Kp (fun b_ => A52 = some ⟨b_, 0, none⟩) w67 w67).lo hk109) (fun w' hw' => r_addW rfl rfl) <| AH.br [9] (by kernel_rfl) rfl ⟨Br.mk' rfl trivial ?_, trivial⟩
      refine SR.q' (r_ixR tsl24 ((((hO55).kd hk68 hd61).lo hk109).rd) rfl rfl (by omega)) ?_
      refine SR.nil ⟨(Kp.refl w67 : Kp (fun b_ => A52 = some ⟨b_, 0, none⟩) w67 w67).lo hk109, _, rfl, ?_⟩
      refine AH.take 10 rfl (by kernel_rfl) trivial ((Kp.refl w67 : Kp (fun b_ => A52 = some ⟨b_, 0, none⟩) w67 w67).lo hk109) (fun w' hw' => r_fa fa59_1 rfl) <| AH.br [11] (by kernel_rfl) rfl ⟨Br.mk' rfl trivial ?_, trivial⟩
      refine SR.storeO (o := 1) (vs := [.int .i64 (IntKind.i64.wrap (((gt (x.Maps.take (bsP cmpM s.Id x.Maps : Int).toNat ++ ([(⟨s.Id, 0, 0⟩ : LMap)] : List LMap) ++ x.Maps.drop (bsP cmpM s.Id x.Maps : Int).toNat) ((bsP cmpM s.Id x.Maps : Int).toNat)).Copies) + s.Value))]) (x1 := { (gt (x.Maps.take (bsP cmpM s.Id x.Maps : Int).toNat ++ ([(⟨s.Id, 0, 0⟩ : LMap)] : List LMap) ++ x.Maps.drop (bsP cmpM s.Id x.Maps : Int).toNat) ((bsP cmpM s.Id x.Maps : Int).toNat)) with Copies := IntKind.i64.wrap (((gt (x.Maps.take (bsP cmpM s.Id x.Maps : Int).toNat ++ ([(⟨s.Id, 0, 0⟩ : LMap)] : List LMap) ++ x.Maps.drop (bsP cmpM s.Id x.Maps : Int).toNat) ((bsP cmpM s.Id x.Maps : Int).toNat)).Copies) + s.Value) }) sca3.2 rfl (add_add _ _ _) rfl rfl (((hO55).kd hk68 hd61).lo hk109) hx113 rfl (Nat.le_of_ble_eq_true rfl) rfl ?_
      intro w114 hk115 hs116 hO117
      have hz118 := hk115.size
      have hB119 := hB111.step hk115 (fun i_ hi_ e' => ((show ∀ b_, A52 = some ⟨b_, 0, none⟩ → (Ax_Maps = some ⟨b_, 0, none⟩ ∨ Ax_Away = some ⟨b_, 0, none⟩) ∨ w.heap.size ≤ b_ from (fun b_ h_ => (hN56 b_ h_).elim (fun h => ((show ∀ b_, Ax_Maps = some ⟨b_, 0, none⟩ → (Ax_Maps = some ⟨b_, 0, none⟩ ∨ Ax_Away = some ⟨b_, 0, none⟩) ∨ w.heap.size ≤ b_ from (fun b_ h_ => .inl (.inl h_))) b_ h)) (fun h => .inr (by omega)))) i_ e').elim (fun e_ => e_) (fun e_ => by exfalso; omega))
      have hS120 := ((Kp.refl w67 : Kp (fun b_ => A52 = some ⟨b_, 0, none⟩) w67 w67).lo hk109).step hk115 (fun _ _ e => e)
      have hx121 : ((x.Maps.take (bsP cmpM s.Id x.Maps : Int).toNat ++ ([(⟨s.Id, 0, 0⟩ : LMap)] : List LMap) ++ x.Maps.drop (bsP cmpM s.Id x.Maps : Int).toNat).set ((bsP cmpM s.Id x.Maps : Int).toNat) ({ (gt (x.Maps.take (bsP cmpM s.Id x.Maps : Int).toNat ++ ([(⟨s.Id, 0, 0⟩ : LMap)] : List LMap) ++ x.Maps.drop (bsP cmpM s.Id x.Maps : Int).toNat) ((bsP cmpM s.Id x.Maps : Int).toNat)) with Copies := IntKind.i64.wrap (((gt (x.Maps.take (bsP cmpM s.Id x.Maps : Int).toNat ++ ([(⟨s.Id, 0, 0⟩ : LMap)] : List LMap) ++ x.Maps.drop (bsP cmpM s.Id x.Maps : Int).toNat) ((bsP cmpM s.Id x.Maps : Int).toNat)).Copies) + s.Value) }))[(bsP cmpM s.Id x.Maps : Int).toNat]? = some ({ (gt (x.Maps.take (bsP cmpM s.Id x.Maps : Int).toNat ++ ([(⟨s.Id, 0, 0⟩ : LMap)] : List LMap) ++ x.Maps.drop (bsP cmpM s.Id x.Maps : Int).toNat) ((bsP cmpM s.Id x.Maps : Int).toNat)) with Copies := IntKind.i64.wrap (((gt (x.Maps.take (bsP cmpM s.Id x.Maps : Int).toNat ++ ([(⟨s.Id, 0, 0⟩ : LMap)] : List LMap) ++ x.Maps.drop (bsP cmpM s.Id x.Maps : Int).toNat) ((bsP cmpM s.Id x.Maps : Int).toNat)).Copies) + s.Value) }) := List.getElem?_set_self (List.getElem?_eq_some_iff.1 hx113).1
      refine SR.nil ⟨hS120, _, rfl, ?_⟩
      refine AH.done (by kernel_rfl) ?_
      exact ⟨⟨rfl, rfl, rfl, trivial⟩, hS120, (hO117), hx113, hx121⟩
    rintro f122 w123 ⟨hat125, hR124, hm107, hx94, hx106⟩
    rw [← sets_of_at hat125]
    have hz126 := hR124.size
    have hB127 := hB72.step hR124 (fun i_ hi_ e' => ((show ∀ b_, A52 = some ⟨b_, 0, none⟩ → (Ax_Maps = some ⟨b_, 0, none⟩ ∨ Ax_Away = some ⟨b_, 0, none⟩) ∨ w.heap.size ≤ b_ from (fun b_ h_ => (hN56 b_ h_).elim (fun h => ((show ∀ b_, Ax_Maps = some ⟨b_, 0, none⟩ → (Ax_Maps = some ⟨b_, 0, none⟩ ∨ Ax_Away = some ⟨b_, 0, none⟩) ∨ w.heap.size ≤ b_ from (fun b_ h_ => .inl (.inl h_))) b_ h)) (fun h => .inr (by omega)))) i_ e').elim (fun e_ => e_) (fun e_ => by exfalso; omega))
    refine W.seq ?_
    refine W.regS (SR.q' (r_fa fa27_2 rfl) <| SR.q' (r_ld (v := .int .i64 x.Bought) sca3 rfl (((hb70).kp hR124 (fun e' => hd61 e')).cell rfl)) <| SR.q' (r_fa fa29_3 rfl) <| SR.q' (r_ld (v := .int .i64 s.Value) sca3 rfl (((hm74).kp hR124 (fun e' => hd62 e')).cell rfl)) <| SR.q' (r_addW rfl rfl) <| SR.q' (r_fa fa27_2 rfl) <| SR.store (o := 2) (vs := [.int .i64 (IntKind.i64.wrap (x.Bought + s.Value))]) sca3.2 rfl rfl rfl rfl ((hb70).kp hR124 (fun e' => hd61 e')) (Nat.le_of_ble_eq_true rfl) rfl ?_)
    intro w128 hk129 hs130 hb131
    have hz132 := hk129.size
    have hB133 := hB127.new hk129 (by omega)
    refine SR.nil ?_
    refine W.seq ?_
    have hm134 := ((hm73).kp hR124 (fun b_ hb e' => hd59 b_ e' hb)).kd hk129 hd10
    have hm135 := ((hm75).kp hR124 (fun e' => hd63 e')).kn hk129 (by omega)
    refine W.regS (SR.q' (r_lda (l := [.slice A52 n53 c54, .slice Ax_Away nx_Away cx_Away, .int .i64 (IntKind.i64.wrap (x.Bought + s.Value)), .int .i64 x.Dropped, .int .i64 x.Mended]) agg27 rfl (fun _ _ hu => (hb131).cell hu) rfl) <| SR.store (o := 0) (vs := [.slice A52 n53 c54, .slice Ax_Away nx_Away cx_Away, .int .i64 (IntKind.i64.wrap (x.Bought + s.Value)), .int .i64 x.Dropped, .int .i64 x.Mended]) agg27.2 rfl rfl rfl rfl (hm135) (Nat.le_of_ble_eq_true rfl) rfl ?_)
    intro w136 hk137 hs138 hb139
    have hz140 := hk137.size
    have hB141 := hB133.new hk137 (by omega)
    refine SR.nil ?_
    refine W.ret ?_
    refine retC rfl rfl agg27 (hb139) rfl ?_
    exact ⟨A52, n53, c54, Ax_Away, nx_Away, cx_Away, eR (eA (eC rfl (eC rfl (eC (eI (by subst hlex_Away hl64; unfold impl_Library_buy; rw [if_neg h40] <;> rfl)) (eC (eI (by subst hlex_Away hl64; unfold impl_Library_buy; rw [if_neg h40] <;> rfl)) (eC (eI (by subst hlex_Away hl64; unfold impl_Library_buy; rw [if_neg h40] <;> rfl)) rfl)))))), (SlO.eqv (((hm107).kd hk129 hd61).kd hk137 hd63) (by subst hlex_Away hl64; unfold impl_Library_buy; rw [if_neg h40] <;> rfl)), (SlO.eqv ((hm134).kd hk137 hd30) (by subst hlex_Away hl64; unfold impl_Library_buy; rw [if_neg h40] <;> rfl)), hd59, (fun b_ h_ => (hN56 b_ h_).elim (fun h => ((show ∀ b_, Ax_Maps = some ⟨b_, 0, none⟩ → (Ax_Maps = some ⟨b_, 0, none⟩ ∨ Ax_Away = some ⟨b_, 0, none⟩) ∨ w.heap.size ≤ b_ from (fun b_ h_ => .inl (.inl h_))) b_ h)) (fun h => .inr (by omega))), (fun b_ h_ => .inl (.inr (h_))), hB141⟩
  · have hq142 := And.left h40
    refine W.skip ?_
    refine W.seq ?_
    refine W.regA (Kp (fun b_ => Ax_Maps = some ⟨b_, 0, none⟩) w34) (fun f' w' => At f' [(2, .pointer (pA g1)), (3, .pointer (pA g11)), (4, .pointer (pA g21))] ∧ (Kp (fun b_ => Ax_Maps = some ⟨b_, 0, none⟩) w34 w') ∧ (SlO w' Bx_Maps encLMap 3 59 Ax_Maps nx_Maps cx_Maps (x.Maps.set ((bsP cmpM s.Id x.Maps : Int).toNat) ({ (gt x.Maps ((bsP cmpM s.Id x.Maps : Int).toNat)) with Copies := IntKind.i64.wrap (((gt x.Maps ((bsP cmpM s.Id x.Maps : Int).toNat)).Copies) + s.Value) }))) ∧ (x.Maps[(bsP cmpM s.Id x.Maps : Int).toNat]? = some (gt x.Maps ((bsP cmpM s.Id x.Maps : Int).toNat))) ∧ ((x.Maps.set ((bsP cmpM s.Id x.Maps : Int).toNat) ({ (gt x.Maps ((bsP cmpM s.Id x.Maps : Int).toNat)) with Copies := IntKind.i64.wrap (((gt x.Maps ((bsP cmpM s.Id x.Maps : Int).toNat)).Copies) + s.Value) }))[(bsP cmpM s.Id x.Maps : Int).toNat]? = some ({ (gt x.Maps ((bsP cmpM s.Id x.Maps : Int).toNat)) with Copies := IntKind.i64.wrap (((gt x.Maps ((bsP cmpM s.Id x.Maps : Int).toNat)).Copies) + s.Value) }))) mo ?_ ?_
    · intro w175 hk176
      have hz177 := hk176.size
      have hB178 := hB37.lo hk176
      refine AH.take 0 rfl (by kernel_rfl) trivial ((Kp.refl w34 : Kp (fun b_ => Ax_Maps = some ⟨b_, 0, none⟩) w34 w34).lo hk176) (fun w' hw' => r_fa fa27_0 rfl) <| AH.take 1 rfl (by kernel_rfl) trivial ((Kp.refl w34 : Kp (fun b_ => Ax_Maps = some ⟨b_, 0, none⟩) w34 w34).lo hk176) (fun w' hw' => r_ld (v := .slice Ax_Maps nx_Maps cx_Maps) sca24 rfl ((((hm31).lo hk35).kp hw' (fun e' => hd9 e')).cell rfl)) <| AH.take 2 rfl (by kernel_rfl) trivial ((Kp.refl w34 : Kp (fun b_ => Ax_Maps = some ⟨b_, 0, none⟩) w34 w34).lo hk176) (fun w' hw' => r_mv (v := .int .i64 _) rfl) <| ?_
      have hx180 := ((((hm32).lo hk35).lo hk176).rd).elem (i := (bsP cmpM s.Id x.Maps : Int).toNat) (by omega)
      refine AH.take 6 rfl (by kernel_rfl) trivial ((Kp.refl w34 : Kp (fun b_ => Ax_Maps = some ⟨b_, 0, none⟩) w34 w34).lo hk176) (fun w' hw' => r_fa fa29_3 rfl) <| AH.take 7 rfl (by kernel_rfl) trivial ((Kp.refl w34 : Kp (fun b_ => Ax_Maps = some ⟨b_, 0, none⟩) w34 w34).lo hk176) (fun w' hw' => r_ld (v := .int .i64 s.Value) sca3 rfl (((hm39).kp hw' (fun e' => hd19 e')).cell rfl)) <| AH.br [3] (by kernel_rfl) rfl ⟨Br.mk' rfl trivial ?_, trivial⟩
      refine SR.q' (r_ixR tsl24 ((((hm32).lo hk35).lo hk176).rd) rfl rfl (by omega)) ?_
      refine SR.nil ⟨(Kp.refl w34 : Kp (fun b_ => Ax_Maps = some ⟨b_, 0, none⟩) w34 w34).lo hk176, _, rfl, ?_⟩
      refine AH.take 4 rfl (by kernel_rfl) trivial ((Kp.refl w34 : Kp (fun b_ => Ax_Maps = some ⟨b_, 0, none⟩) w34 w34).lo hk176) (fun w' hw' => r_fa fa59_1 rfl) <| AH.br [5] (by kernel_rfl) rfl ⟨Br.mk' rfl trivial ?_, trivial⟩
      refine SR.q' (r_ld (v := .int .i64 ((gt x.Maps ((bsP cmpM s.Id x.Maps : Int).toNat)).Copies)) sca3 rfl (((((hm32).lo hk35).lo hk176).rd).cell hx180 rfl)) ?_
      refine SR.nil ⟨(Kp.refl w34 : Kp (fun b_ => Ax_Maps = some ⟨b_, 0, none⟩) w34 w34).lo hk176, _, rfl, ?_⟩
      refine AH.take 8 rfl (by kernel_rfl) trivial ((Kp.refl w34 : Kp (fun b_ => Ax_Maps = some ⟨b_, 0, none⟩) w34 w34).lo hk176) (fun w' hw' => r_addW rfl rfl) <| AH.br [9] (by kernel_rfl) rfl ⟨Br.mk' rfl trivial ?_, trivial⟩
      refine SR.q' (r_ixR tsl24 ((((hm32).lo hk35).lo hk176).rd) rfl rfl (by omega)) ?_
      refine SR.nil ⟨(Kp.refl w34 : Kp (fun b_ => Ax_Maps = some ⟨b_, 0, none⟩) w34 w34).lo hk176, _, rfl, ?_⟩
      refine AH.take 10 rfl (by kernel_rfl) trivial ((Kp.refl w34 : Kp (fun b_ => Ax_Maps = some ⟨b_, 0, none⟩) w34 w34).lo hk176) (fun w' hw' => r_fa fa59_1 rfl) <| AH.br [11] (by kernel_rfl) rfl ⟨Br.mk' rfl trivial ?_, trivial⟩
      refine SR.storeO (o := 1) (vs := [.int .i64 (IntKind.i64.wrap (((gt x.Maps ((bsP cmpM s.Id x.Maps : Int).toNat)).Copies) + s.Value))]) (x1 := { (gt x.Maps ((bsP cmpM s.Id x.Maps : Int).toNat)) with Copies := IntKind.i64.wrap (((gt x.Maps ((bsP cmpM s.Id x.Maps : Int).toNat)).Copies) + s.Value) }) sca3.2 rfl (add_add _ _ _) rfl rfl (((hm32).lo hk35).lo hk176) hx180 rfl (Nat.le_of_ble_eq_true rfl) rfl ?_
      intro w181 hk182 hs183 hO184
      have hz185 := hk182.size
      have hB186 := hB178.step hk182 (fun i_ hi_ e' => by have := ((((hm32).lo hk35).lo hk176)).base_le e'; first | omega | (exfalso; omega) | exact e' | exact .inl e' | exact .inr e')
      have hS187 := ((Kp.refl w34 : Kp (fun b_ => Ax_Maps = some ⟨b_, 0, none⟩) w34 w34).lo hk176).step hk182 (fun _ _ e => e)
      have hx188 : (x.Maps.set ((bsP cmpM s.Id x.Maps : Int).toNat) ({ (gt x.Maps ((bsP cmpM s.Id x.Maps : Int).toNat)) with Copies := IntKind.i64.wrap (((gt x.Maps ((bsP cmpM s.Id x.Maps : Int).toNat)).Copies) + s.Value) }))[(bsP cmpM s.Id x.Maps : Int).toNat]? = some ({ (gt x.Maps ((bsP cmpM s.Id x.Maps : Int).toNat)) with Copies := IntKind.i64.wrap (((gt x.Maps ((bsP cmpM s.Id x.Maps : Int).toNat)).Copies) + s.Value) }) := List.getElem?_set_self (List.getElem?_eq_some_iff.1 hx180).1
      refine SR.nil ⟨hS187, _, rfl, ?_⟩
      refine AH.done (by kernel_rfl) ?_
      exact ⟨⟨rfl, rfl, rfl, trivial⟩, hS187, (hO184), hx180, hx188⟩
    rintro f189 w190 ⟨hat192, hR191, hm174, hx161, hx173⟩
    rw [← sets_of_at hat192]
    have hz193 := hR191.size
    have hB194 := hB37.step hR191 (fun i_ hi_ e' => by have := (((hm32).lo hk35)).base_le e'; first | omega | (exfalso; omega) | exact e' | exact .inl e' | exact .inr e')
    refine W.seq ?_
    have hm195 := ((hm31).lo hk35).kp hR191 (fun e' => hd9 e')
    have hm196 := ((hm33).lo hk35).kp hR191 (fun b_ hb e' => hdx_Maps_x_Away b_ e' hb)
    have hm197 := ((hb26).lo hk35).kp hR191 (fun e' => hd29 e')
    refine W.regS (SR.q' (r_fa fa27_2 rfl) <| SR.q' (r_ld (v := .int .i64 x.Bought) sca3 rfl ((hm195).cell rfl)) <| SR.q' (r_fa fa29_3 rfl) <| SR.q' (r_ld (v := .int .i64 s.Value) sca3 rfl (((hm39).kp hR191 (fun e' => hd19 e')).cell rfl)) <| SR.q' (r_addW rfl rfl) <| SR.q' (r_fa fa27_2 rfl) <| SR.store (o := 2) (vs := [.int .i64 (IntKind.i64.wrap (x.Bought + s.Value))]) sca3.2 rfl rfl rfl rfl (hm195) (Nat.le_of_ble_eq_true rfl) rfl ?_)
    intro w198 hk199 hs200 hb201
    have hz202 := hk199.size
    have hB203 := hB194.new hk199 (by omega)
    refine SR.nil ?_
    refine W.seq ?_
    refine W.regS (SR.q' (r_lda (l := [.slice Ax_Maps nx_Maps cx_Maps, .slice Ax_Away nx_Away cx_Away, .int .i64 (IntKind.i64.wrap (x.Bought + s.Value)), .int .i64 x.Dropped, .int .i64 x.Mended]) agg27 rfl (fun _ _ hu => (hb201).cell hu) rfl) <| SR.store (o := 0) (vs := [.slice Ax_Maps nx_Maps cx_Maps, .slice Ax_Away nx_Away cx_Away, .int .i64 (IntKind.i64.wrap (x.Bought + s.Value)), .int .i64 x.Dropped, .int .i64 x.Mended]) agg27.2 rfl rfl rfl rfl ((hm197).kn hk199 (by omega)) (Nat.le_of_ble_eq_true rfl) rfl ?_)
    intro w204 hk205 hs206 hb207
    have hz208 := hk205.size
    have hB209 := hB203.new hk205 (by omega)
    refine SR.nil ?_
    refine W.ret ?_
    refine retC rfl rfl agg27 (hb207) rfl ?_
    exact ⟨Ax_Maps, nx_Maps, cx_Maps, Ax_Away, nx_Away, cx_Away, eR (eA (eC rfl (eC rfl (eC (eI (by subst hlex_Maps hlex_Away; unfold impl_Library_buy; rw [if_pos h40] <;> rfl)) (eC (eI (by subst hlex_Maps hlex_Away; unfold impl_Library_buy; rw [if_pos h40] <;> rfl)) (eC (eI (by subst hlex_Maps hlex_Away; unfold impl_Library_buy; rw [if_pos h40] <;> rfl)) rfl)))))), (SlO.eqv (((hm174).kd hk199 hd9).kd hk205 hd29) (by subst hlex_Maps hlex_Away; unfold impl_Library_buy; rw [if_pos h40] <;> rfl)), (SlO.eqv (((hm196).kd hk199 hd10).kd hk205 hd30) (by subst hlex_Maps hlex_Away; unfold impl_Library_buy; rw [if_pos h40] <;> rfl)), hdx_Maps_x_Away, (fun b_ h_ => .inl (.inl h_)), (fun b_ h_ => .inl (.inr (h_))), hB209⟩

open Classical in
noncomputable def impl_Library_give (x : Library) (id : Int) (reader : Int) : Library × Bool :=
  if bsF cmpA (⟨id, reader⟩ : Away) x.Away then ((⟨([] : List LMap), ([] : List Away), 0, 0, 0⟩ : Library), false) else ((⟨x.Maps, x.Away.take (bsP cmpA (⟨id, reader⟩ : Away) x.Away : Int).toNat ++ ([(⟨id, reader⟩ : Away)] : List Away) ++ x.Away.drop (bsP cmpA (⟨id, reader⟩ : Away) x.Away : Int).toNat, x.Bought, x.Dropped, x.Mended⟩ : Library), true)
theorem c__impl_Library__give (w : World) (x : Library) {Ax_Maps : Option Addr} {nx_Maps cx_Maps Bx_Maps : Nat} (hx_Maps : SlO w Bx_Maps encLMap 3 59 Ax_Maps nx_Maps cx_Maps x.Maps) {Ax_Away : Option Addr} {nx_Away cx_Away Bx_Away : Nat} (hx_Away : SlO w Bx_Away encAway 2 63 Ax_Away nx_Away cx_Away x.Away) (id : Int) (reader : Int) (hdx_Maps_x_Away : ∀ b_, Ax_Maps = some ⟨b_, 0, none⟩ → ¬ Ax_Away = some ⟨b_, 0, none⟩) (hp0 : (nx_Maps : Int) ≤ 100) (hp1 : (nx_Away : Int) ≤ 100) : Calls Try.prog 62 #[.agg (List.toArray [.slice Ax_Maps nx_Maps cx_Maps, .slice Ax_Away nx_Away cx_Away, .int .i64 x.Bought, .int .i64 x.Dropped, .int .i64 x.Mended]), .int .i64 id, .int .i64 reader] w fun e w' => ∃ (A1' : Option Addr) (n1' c1' : Nat) (A2' : Option Addr) (n2' c2' : Nat), e = .returned (.tuple (List.toArray [.agg (List.toArray [.slice A1' n1' c1', .slice A2' n2' c2', .int .i64 (((impl_Library_give x id reader).1).Bought), .int .i64 (((impl_Library_give x id reader).1).Dropped), .int .i64 (((impl_Library_give x id reader).1).Mended)]), .bool ((impl_Library_give x id reader).2)])) ∧ SlO w' Bx_Maps encLMap 3 59 A1' n1' c1' (((impl_Library_give x id reader).1).Maps) ∧ SlO w' Bx_Away encAway 2 63 A2' n2' c2' (((impl_Library_give x id reader).1).Away) ∧ (∀ b_, A1' = some ⟨b_, 0, none⟩ → ¬ A2' = some ⟨b_, 0, none⟩) ∧ (∀ b_, A1' = some ⟨b_, 0, none⟩ → (Ax_Maps = some ⟨b_, 0, none⟩ ∨ Ax_Away = some ⟨b_, 0, none⟩) ∨ w.heap.size ≤ b_) ∧ (∀ b_, A2' = some ⟨b_, 0, none⟩ → (Ax_Maps = some ⟨b_, 0, none⟩ ∨ Ax_Away = some ⟨b_, 0, none⟩) ∨ w.heap.size ≤ b_) ∧ Kp (fun b_ => Ax_Maps = some ⟨b_, 0, none⟩ ∨ Ax_Away = some ⟨b_, 0, none⟩) w w' := by
  refine calls_W 29 Try.func62 rfl rfl rfl ?_
  have hcpx_Maps := hx_Maps.rd.cap
  have hbbx_Maps := hx_Maps.rd.bd
  have hbdx_Maps := hx_Maps.rd.bound
  have hlex_Maps := hx_Maps.len
  have hBbx_Maps := hx_Maps.bd
  have hcpx_Away := hx_Away.rd.cap
  have hbbx_Away := hx_Away.rd.bd
  have hbdx_Away := hx_Away.rd.bound
  have hlex_Away := hx_Away.len
  have hBbx_Away := hx_Away.bd
  have hcpx_Maps := hx_Maps.rd.cap
  have hbbx_Maps := hx_Maps.rd.bd
  have hbdx_Maps := hx_Maps.rd.bound
  have hlex_Maps := hx_Maps.len
  have hBbx_Maps := hx_Maps.bd
  have hcpx_Away := hx_Away.rd.cap
  have hbbx_Away := hx_Away.rd.bd
  have hbdx_Away := hx_Away.rd.bound
  have hlex_Away := hx_Away.len
  have hBbx_Away := hx_Away.bd
  refine W.seq ?_
  refine W.regS (SR.box (v := .agg (List.toArray _)) (l := [.slice Ax_Maps nx_Maps cx_Maps, .slice Ax_Away nx_Away cx_Away, .int .i64 x.Bought, .int .i64 x.Dropped, .int .i64 x.Mended]) rfl rfl ?_)
  intro g1 w2 hg3 hk4 hs5 hb6
  have hz7 := hk4.size
  have hB8 := (Kp.refl w : Kp (fun b_ => Ax_Maps = some ⟨b_, 0, none⟩ ∨ Ax_Away = some ⟨b_, 0, none⟩) w w).lo hk4
  have hd9 : ¬ Ax_Maps = some ⟨g1, 0, none⟩ := fun e' => by have := (hx_Maps).base_le e'; omega
  have hd10 : ¬ Ax_Away = some ⟨g1, 0, none⟩ := fun e' => by have := (hx_Away).base_le e'; omega
  refine SR.alloc (l := [.slice none 0 0, .slice none 0 0, .int .i64 0, .int .i64 0, .int .i64 0]) tz27 rfl ?_
  intro g11 w12 hg13 hk14 hs15 hb16
  have hz17 := hk14.size
  have hB18 := hB8.lo hk14
  have hd19 : ¬ Ax_Maps = some ⟨g11, 0, none⟩ := fun e' => by have := ((hx_Maps).lo hk4).base_le e'; omega
  have hd20 : ¬ Ax_Away = some ⟨g11, 0, none⟩ := fun e' => by have := ((hx_Away).lo hk4).base_le e'; omega
  refine SR.q' (r_as (v := .bool false) rfl) <| SR.nil ?_
  refine W.seq ?_
  have hm21 := ((hx_Maps).lo hk4).lo hk14
  have hm22 := ((hx_Away).lo hk4).lo hk14
  refine W.regS (SR.q' (r_lda (l := [.slice Ax_Maps nx_Maps cx_Maps, .slice Ax_Away nx_Away cx_Away, .int .i64 x.Bought, .int .i64 x.Dropped, .int .i64 x.Mended]) agg27 rfl (fun _ _ hu => ((hb6).lo hk14).cell hu) rfl) <| SR.q' (r_mv (v := .int .i64 _) rfl) <| SR.q' (r_mv (v := .int .i64 _) rfl) <| SR.call ent71 (c__impl_Library__awayAt w12 x (((hm21).rd)) (((hm22).rd)) id reader (by omega)) rfl ?_)
  rintro e w23 ⟨rfl, hk24⟩
  refine ⟨_, rfl, ?_⟩
  have hz25 := hk24.size
  have hB26 := hB18.lo hk24
  have hq27 : bsP cmpA (⟨id, reader⟩ : Away) x.Away ≤ x.Away.length := bsP_le
  refine SR.q' (r_mv (v := .tuple (List.toArray _)) rfl) <| SR.q' (r_ext (v := .int .i64 _) rfl rfl) <| SR.q' (r_ext (v := .bool _) rfl rfl) <| SR.q' (r_as (v := .int .i64 _) rfl) <| SR.q' (r_as (v := .bool _) rfl) <| SR.nil ?_
  refine W.seq ?_
  refine W.seq ?_
  have hm28 := ((hb6).lo hk14).lo hk24
  refine W.regS (SR.q' (r_mv (v := .bool _) rfl) <| SR.nil ?_)
  refine W.cond_d rfl (fun h29 => ?_) (fun h29 => ?_)
  · have hq30 := And.left h29
    refine W.seq ?_
    refine W.regS (SR.q' (r_build (vs := []) rfl (bld27_)) <| SR.store (o := 0) (vs := [.slice none 0 0, .slice none 0 0, .int .i64 0, .int .i64 0, .int .i64 0]) agg27.2 rfl rfl rfl rfl ((hb16).lo hk24) (Nat.le_of_ble_eq_true rfl) rfl ?_)
    intro w31 hk32 hs33 hb34
    have hz35 := hk32.size
    have hB36 := hB26.new hk32 (by omega)
    refine SR.q' (r_as (v := .bool false) rfl) <| SR.nil ?_
    refine W.ret ?_
    refine retCT rfl rfl agg27 (hb34) rfl (v := .bool _) rfl ?_
    exact ⟨none, 0, 0, none, 0, 0, eR (eT2 (eA (eC rfl (eC rfl (eC (eI (by unfold impl_Library_give; rw [if_pos h29] <;> rfl)) (eC (eI (by unfold impl_Library_give; rw [if_pos h29] <;> rfl)) (eC (eI (by unfold impl_Library_give; rw [if_pos h29] <;> rfl)) rfl)))))) (eB (by unfold impl_Library_give; rw [if_pos h29] <;> rfl))), (SlO.eqv (SlO.nil (e := 59) (enc := encLMap) (fun _ => rfl) (by omega)) (by unfold impl_Library_give; rw [if_pos h29] <;> rfl)), (SlO.eqv (SlO.nil (e := 63) (enc := encAway) (fun _ => rfl) (by omega)) (by unfold impl_Library_give; rw [if_pos h29] <;> rfl)), (fun b_ h => by cases h), (fun b_ h => by cases h), (fun b_ h => by cases h), hB36⟩
  · refine W.skip ?_
    refine W.seq ?_
    refine W.regS (SR.q' (r_fa fa27_1 rfl) <| SR.q' (r_ld (v := .slice Ax_Away nx_Away cx_Away) sca25 rfl ((hm28).cell rfl)) <| SR.q' (r_mv (v := .int .i64 _) rfl) <| SR.q' (r_mv (v := .int .i64 _) rfl) <| SR.q' (r_mv (v := .int .i64 _) rfl) <| SR.q' (r_build (vs := [(0, .int .i64 id), (1, .int .i64 reader)]) rfl (bld63_0_1 _ _)) <| SR.lit (vs := [.agg (List.toArray [.int .i64 id, .int .i64 reader])]) (L := ([(⟨id, reader⟩ : Away)] : List Away)) (enc := encAway) tel25 (fun _ => rfl) rfl rfl rfl (by decide) ?_)
    intro g37 w38 hg39 hk40 hO41
    have hz42 := hk40.size
    have hB43 := hB26.lo hk40
    have hd45 : ¬ Ax_Away = some ⟨g37, 0, none⟩ := fun e' => by have := ((hm22).lo hk24).base_le e'; omega
    refine SR.call ent72 (c_slices_Insert___impl_Away_impl_Away_ w38 x.Away (((hm22).lo hk24).lo hk40) (bsP cmpA (⟨id, reader⟩ : Away) x.Away : Int) ([(⟨id, reader⟩ : Away)] : List Away) (hO41) (by omega) (by omega) (by omega) (fun b_ h h' => hd45 (h'.trans h.symm))) rfl ?_
    rintro e w46 ⟨A48, n49, c50, rfl, hO51, hN52, hk47⟩
    refine ⟨_, rfl, ?_⟩
    have hz53 := hk47.size
    have hB54 := hB43.step hk47 (fun i_ hi_ e' => by have := ((((hm22).lo hk24).lo hk40)).base_le e'; first | omega | (exfalso; omega) | exact e' | exact .inl e' | exact .inr e')
    have hd55 : ∀ b_, A48 = some ⟨b_, 0, none⟩ → ¬ Ax_Maps = some ⟨b_, 0, none⟩ := fun b_ e' h' => (hN52 b_ e').elim (fun h => (fun b_ h h' => hdx_Maps_x_Away b_ h' h) b_ h h') (fun h => by have := (((hm21).lo hk24).lo hk40).base_le h'; omega)
    have hd57 : ¬ A48 = some ⟨g1, 0, none⟩ := fun e' => (hN52 g1 e').elim (fun h => hd10 h) (fun h => by have := ((hm28).lo hk40).lt; omega)
    have hd58 : ¬ A48 = some ⟨g11, 0, none⟩ := fun e' => (hN52 g11 e').elim (fun h => hd20 h) (fun h => by have := (((hb16).lo hk24).lo hk40).lt; omega)
    have hl59 := hO51.len
    have hl60 := hO51.rd.bound
    have hq61 := ins_len1 x.Away ((⟨id, reader⟩ : Away)) ((bsP cmpA (⟨id, reader⟩ : Away) x.Away : Int).toNat)
    refine SR.q' (r_fa fa27_1 rfl) <| SR.store (o := 1) (vs := [.slice A48 n49 c50]) sca25.2 rfl rfl rfl rfl (((hm28).lo hk40).kp hk47 (fun e' => hd10 e')) (Nat.le_of_ble_eq_true rfl) rfl ?_
    intro w62 hk63 hs64 hb65
    have hz66 := hk63.size
    have hB67 := hB54.new hk63 (by omega)
    refine SR.nil ?_
    refine W.seq ?_
    have hm68 := ((((hm21).lo hk24).lo hk40).kp hk47 (fun b_ hb e' => hdx_Maps_x_Away b_ hb e')).kd hk63 hd9
    have hm69 := ((((hb16).lo hk24).lo hk40).kp hk47 (fun e' => hd20 e')).kn hk63 (by omega)
    refine W.regS (SR.q' (r_lda (l := [.slice Ax_Maps nx_Maps cx_Maps, .slice A48 n49 c50, .int .i64 x.Bought, .int .i64 x.Dropped, .int .i64 x.Mended]) agg27 rfl (fun _ _ hu => (hb65).cell hu) rfl) <| SR.store (o := 0) (vs := [.slice Ax_Maps nx_Maps cx_Maps, .slice A48 n49 c50, .int .i64 x.Bought, .int .i64 x.Dropped, .int .i64 x.Mended]) agg27.2 rfl rfl rfl rfl (hm69) (Nat.le_of_ble_eq_true rfl) rfl ?_)
    intro w70 hk71 hs72 hb73
    have hz74 := hk71.size
    have hB75 := hB67.new hk71 (by omega)
    refine SR.q' (r_as (v := .bool true) rfl) <| SR.nil ?_
    refine W.ret ?_
    refine retCT rfl rfl agg27 (hb73) rfl (v := .bool _) rfl ?_
    exact ⟨Ax_Maps, nx_Maps, cx_Maps, A48, n49, c50, eR (eT2 (eA (eC rfl (eC rfl (eC (eI (by subst hlex_Maps hl59; unfold impl_Library_give; rw [if_neg h29] <;> rfl)) (eC (eI (by subst hlex_Maps hl59; unfold impl_Library_give; rw [if_neg h29] <;> rfl)) (eC (eI (by subst hlex_Maps hl59; unfold impl_Library_give; rw [if_neg h29] <;> rfl)) rfl)))))) (eB (by subst hlex_Maps hl59; unfold impl_Library_give; rw [if_neg h29] <;> rfl))), (SlO.eqv ((hm68).kd hk71 hd19) (by subst hlex_Maps hl59; unfold impl_Library_give; rw [if_neg h29] <;> rfl)), (SlO.eqv (((hO51).kd hk63 hd57).kd hk71 hd58) (by subst hlex_Maps hl59; unfold impl_Library_give; rw [if_neg h29] <;> rfl)), (fun b_ h h' => hd55 b_ h' h), (fun b_ h_ => .inl (.inl h_)), (fun b_ h_ => (hN52 b_ h_).elim (fun h => ((show ∀ b_, Ax_Away = some ⟨b_, 0, none⟩ → (Ax_Maps = some ⟨b_, 0, none⟩ ∨ Ax_Away = some ⟨b_, 0, none⟩) ∨ w.heap.size ≤ b_ from (fun b_ h_ => .inl (.inr (h_)))) b_ h)) (fun h => .inr (by omega))), hB75⟩

open Classical in
noncomputable def impl_Library_fetch (x : Library) (id : Int) (reader : Int) : Library × Bool :=
  if bsF cmpA (⟨id, reader⟩ : Away) x.Away then ((⟨x.Maps, x.Away.take (bsP cmpA (⟨id, reader⟩ : Away) x.Away : Int).toNat ++ x.Away.drop ((bsP cmpA (⟨id, reader⟩ : Away) x.Away : Int) + 1).toNat, x.Bought, x.Dropped, x.Mended⟩ : Library), true) else ((⟨([] : List LMap), ([] : List Away), 0, 0, 0⟩ : Library), false)
theorem c__impl_Library__fetch (w : World) (x : Library) {Ax_Maps : Option Addr} {nx_Maps cx_Maps Bx_Maps : Nat} (hx_Maps : SlO w Bx_Maps encLMap 3 59 Ax_Maps nx_Maps cx_Maps x.Maps) {Ax_Away : Option Addr} {nx_Away cx_Away Bx_Away : Nat} (hx_Away : SlO w Bx_Away encAway 2 63 Ax_Away nx_Away cx_Away x.Away) (id : Int) (reader : Int) (hdx_Maps_x_Away : ∀ b_, Ax_Maps = some ⟨b_, 0, none⟩ → ¬ Ax_Away = some ⟨b_, 0, none⟩) (hp0 : (nx_Maps : Int) ≤ 100) (hp1 : (nx_Away : Int) ≤ 100) : Calls Try.prog 63 #[.agg (List.toArray [.slice Ax_Maps nx_Maps cx_Maps, .slice Ax_Away nx_Away cx_Away, .int .i64 x.Bought, .int .i64 x.Dropped, .int .i64 x.Mended]), .int .i64 id, .int .i64 reader] w fun e w' => ∃ (A1' : Option Addr) (n1' c1' : Nat) (A2' : Option Addr) (n2' c2' : Nat), e = .returned (.tuple (List.toArray [.agg (List.toArray [.slice A1' n1' c1', .slice A2' n2' c2', .int .i64 (((impl_Library_fetch x id reader).1).Bought), .int .i64 (((impl_Library_fetch x id reader).1).Dropped), .int .i64 (((impl_Library_fetch x id reader).1).Mended)]), .bool ((impl_Library_fetch x id reader).2)])) ∧ SlO w' Bx_Maps encLMap 3 59 A1' n1' c1' (((impl_Library_fetch x id reader).1).Maps) ∧ SlO w' Bx_Away encAway 2 63 A2' n2' c2' (((impl_Library_fetch x id reader).1).Away) ∧ (∀ b_, A1' = some ⟨b_, 0, none⟩ → ¬ A2' = some ⟨b_, 0, none⟩) ∧ (∀ b_, A1' = some ⟨b_, 0, none⟩ → (Ax_Maps = some ⟨b_, 0, none⟩ ∨ Ax_Away = some ⟨b_, 0, none⟩) ∨ w.heap.size ≤ b_) ∧ (∀ b_, A2' = some ⟨b_, 0, none⟩ → (Ax_Maps = some ⟨b_, 0, none⟩ ∨ Ax_Away = some ⟨b_, 0, none⟩) ∨ w.heap.size ≤ b_) ∧ Kp (fun b_ => Ax_Maps = some ⟨b_, 0, none⟩ ∨ Ax_Away = some ⟨b_, 0, none⟩) w w' := by
  refine calls_W 28 Try.func63 rfl rfl rfl ?_
  have hcpx_Maps := hx_Maps.rd.cap
  have hbbx_Maps := hx_Maps.rd.bd
  have hbdx_Maps := hx_Maps.rd.bound
  have hlex_Maps := hx_Maps.len
  have hBbx_Maps := hx_Maps.bd
  have hcpx_Away := hx_Away.rd.cap
  have hbbx_Away := hx_Away.rd.bd
  have hbdx_Away := hx_Away.rd.bound
  have hlex_Away := hx_Away.len
  have hBbx_Away := hx_Away.bd
  have hcpx_Maps := hx_Maps.rd.cap
  have hbbx_Maps := hx_Maps.rd.bd
  have hbdx_Maps := hx_Maps.rd.bound
  have hlex_Maps := hx_Maps.len
  have hBbx_Maps := hx_Maps.bd
  have hcpx_Away := hx_Away.rd.cap
  have hbbx_Away := hx_Away.rd.bd
  have hbdx_Away := hx_Away.rd.bound
  have hlex_Away := hx_Away.len
  have hBbx_Away := hx_Away.bd
  refine W.seq ?_
  refine W.regS (SR.box (v := .agg (List.toArray _)) (l := [.slice Ax_Maps nx_Maps cx_Maps, .slice Ax_Away nx_Away cx_Away, .int .i64 x.Bought, .int .i64 x.Dropped, .int .i64 x.Mended]) rfl rfl ?_)
  intro g1 w2 hg3 hk4 hs5 hb6
  have hz7 := hk4.size
  have hB8 := (Kp.refl w : Kp (fun b_ => Ax_Maps = some ⟨b_, 0, none⟩ ∨ Ax_Away = some ⟨b_, 0, none⟩) w w).lo hk4
  have hd9 : ¬ Ax_Maps = some ⟨g1, 0, none⟩ := fun e' => by have := (hx_Maps).base_le e'; omega
  have hd10 : ¬ Ax_Away = some ⟨g1, 0, none⟩ := fun e' => by have := (hx_Away).base_le e'; omega
  refine SR.alloc (l := [.slice none 0 0, .slice none 0 0, .int .i64 0, .int .i64 0, .int .i64 0]) tz27 rfl ?_
  intro g11 w12 hg13 hk14 hs15 hb16
  have hz17 := hk14.size
  have hB18 := hB8.lo hk14
  have hd19 : ¬ Ax_Maps = some ⟨g11, 0, none⟩ := fun e' => by have := ((hx_Maps).lo hk4).base_le e'; omega
  have hd20 : ¬ Ax_Away = some ⟨g11, 0, none⟩ := fun e' => by have := ((hx_Away).lo hk4).base_le e'; omega
  refine SR.q' (r_as (v := .bool false) rfl) <| SR.nil ?_
  refine W.seq ?_
  have hm21 := ((hx_Maps).lo hk4).lo hk14
  have hm22 := ((hx_Away).lo hk4).lo hk14
  refine W.regS (SR.q' (r_lda (l := [.slice Ax_Maps nx_Maps cx_Maps, .slice Ax_Away nx_Away cx_Away, .int .i64 x.Bought, .int .i64 x.Dropped, .int .i64 x.Mended]) agg27 rfl (fun _ _ hu => ((hb6).lo hk14).cell hu) rfl) <| SR.q' (r_mv (v := .int .i64 _) rfl) <| SR.q' (r_mv (v := .int .i64 _) rfl) <| SR.call ent71 (c__impl_Library__awayAt w12 x (((hm21).rd)) (((hm22).rd)) id reader (by omega)) rfl ?_)
  rintro e w23 ⟨rfl, hk24⟩
  refine ⟨_, rfl, ?_⟩
  have hz25 := hk24.size
  have hB26 := hB18.lo hk24
  have hq27 : bsP cmpA (⟨id, reader⟩ : Away) x.Away ≤ x.Away.length := bsP_le
  refine SR.q' (r_mv (v := .tuple (List.toArray _)) rfl) <| SR.q' (r_ext (v := .int .i64 _) rfl rfl) <| SR.q' (r_ext (v := .bool _) rfl rfl) <| SR.q' (r_as (v := .int .i64 _) rfl) <| SR.q' (r_as (v := .bool _) rfl) <| SR.nil ?_
  refine W.seq ?_
  refine W.seq ?_
  have hm28 := ((hb6).lo hk14).lo hk24
  refine W.regS (SR.q' (r_mv (v := .bool _) rfl) <| SR.q' (r_not rfl) <| SR.nil ?_)
  refine W.cond_n rfl (fun h29 => ?_) (fun h29 => ?_)
  · refine W.seq ?_
    refine W.regS (SR.q' (r_build (vs := []) rfl (bld27_)) <| SR.store (o := 0) (vs := [.slice none 0 0, .slice none 0 0, .int .i64 0, .int .i64 0, .int .i64 0]) agg27.2 rfl rfl rfl rfl ((hb16).lo hk24) (Nat.le_of_ble_eq_true rfl) rfl ?_)
    intro w30 hk31 hs32 hb33
    have hz34 := hk31.size
    have hB35 := hB26.new hk31 (by omega)
    refine SR.q' (r_as (v := .bool false) rfl) <| SR.nil ?_
    refine W.ret ?_
    refine retCT rfl rfl agg27 (hb33) rfl (v := .bool _) rfl ?_
    exact ⟨none, 0, 0, none, 0, 0, eR (eT2 (eA (eC rfl (eC rfl (eC (eI (by unfold impl_Library_fetch; rw [if_neg h29] <;> rfl)) (eC (eI (by unfold impl_Library_fetch; rw [if_neg h29] <;> rfl)) (eC (eI (by unfold impl_Library_fetch; rw [if_neg h29] <;> rfl)) rfl)))))) (eB (by unfold impl_Library_fetch; rw [if_neg h29] <;> rfl))), (SlO.eqv (SlO.nil (e := 59) (enc := encLMap) (fun _ => rfl) (by omega)) (by unfold impl_Library_fetch; rw [if_neg h29] <;> rfl)), (SlO.eqv (SlO.nil (e := 63) (enc := encAway) (fun _ => rfl) (by omega)) (by unfold impl_Library_fetch; rw [if_neg h29] <;> rfl)), (fun b_ h => by cases h), (fun b_ h => by cases h), (fun b_ h => by cases h), hB35⟩
  · have hq36 := And.left h29
    refine W.skip ?_
    refine W.seq ?_
    refine W.regS (SR.q' (r_fa fa27_1 rfl) <| SR.q' (r_ld (v := .slice Ax_Away nx_Away cx_Away) sca25 rfl ((hm28).cell rfl)) <| SR.q' (r_mv (v := .int .i64 _) rfl) <| SR.q' (r_mv (v := .int .i64 _) rfl) <| SR.q' (r_add rfl rfl (by omega)) <| SR.call ent73 (c_slices_Delete___impl_Away_impl_Away_ w23 x.Away ((hm22).lo hk24) (bsP cmpA (⟨id, reader⟩ : Away) x.Away : Int) ((bsP cmpA (⟨id, reader⟩ : Away) x.Away : Int) + 1) (by omega) (by omega) (by omega)) rfl ?_)
    rintro e w37 ⟨A39, n40, c41, rfl, hO42, hN43, hk38⟩
    refine ⟨_, rfl, ?_⟩
    have hz44 := hk38.size
    have hB45 := hB26.step hk38 (fun i_ hi_ e' => by have := (((hm22).lo hk24)).base_le e'; first | omega | (exfalso; omega) | exact e' | exact .inl e' | exact .inr e')
    have hd46 : ∀ b_, A39 = some ⟨b_, 0, none⟩ → ¬ Ax_Maps = some ⟨b_, 0, none⟩ := fun b_ e' h' => (hN43 b_ e').elim (fun h => (fun b_ h h' => hdx_Maps_x_Away b_ h' h) b_ h h') (fun h => by have := ((hm21).lo hk24).base_le h'; omega)
    have hd47 : ¬ A39 = some ⟨g1, 0, none⟩ := fun e' => (hN43 g1 e').elim (fun h => hd10 h) (fun h => by have := (hm28).lt; omega)
    have hd48 : ¬ A39 = some ⟨g11, 0, none⟩ := fun e' => (hN43 g11 e').elim (fun h => hd20 h) (fun h => by have := ((hb16).lo hk24).lt; omega)
    have hl49 := hO42.len
    have hl50 := hO42.rd.bound
    have hq51 := del_lenT x.Away (i := (bsP cmpA (⟨id, reader⟩ : Away) x.Away : Int).toNat) (j := ((bsP cmpA (⟨id, reader⟩ : Away) x.Away : Int) + 1).toNat) (by omega)
    refine SR.q' (r_fa fa27_1 rfl) <| SR.store (o := 1) (vs := [.slice A39 n40 c41]) sca25.2 rfl rfl rfl rfl ((hm28).kp hk38 (fun e' => hd10 e')) (Nat.le_of_ble_eq_true rfl) rfl ?_
    intro w52 hk53 hs54 hb55
    have hz56 := hk53.size
    have hB57 := hB45.new hk53 (by omega)
    refine SR.nil ?_
    refine W.seq ?_
    have hm58 := (((hm21).lo hk24).kp hk38 (fun b_ hb e' => hdx_Maps_x_Away b_ hb e')).kd hk53 hd9
    have hm59 := (((hb16).lo hk24).kp hk38 (fun e' => hd20 e')).kn hk53 (by omega)
    refine W.regS (SR.q' (r_lda (l := [.slice Ax_Maps nx_Maps cx_Maps, .slice A39 n40 c41, .int .i64 x.Bought, .int .i64 x.Dropped, .int .i64 x.Mended]) agg27 rfl (fun _ _ hu => (hb55).cell hu) rfl) <| SR.store (o := 0) (vs := [.slice Ax_Maps nx_Maps cx_Maps, .slice A39 n40 c41, .int .i64 x.Bought, .int .i64 x.Dropped, .int .i64 x.Mended]) agg27.2 rfl rfl rfl rfl (hm59) (Nat.le_of_ble_eq_true rfl) rfl ?_)
    intro w60 hk61 hs62 hb63
    have hz64 := hk61.size
    have hB65 := hB57.new hk61 (by omega)
    refine SR.q' (r_as (v := .bool true) rfl) <| SR.nil ?_
    refine W.ret ?_
    refine retCT rfl rfl agg27 (hb63) rfl (v := .bool _) rfl ?_
    exact ⟨Ax_Maps, nx_Maps, cx_Maps, A39, n40, c41, eR (eT2 (eA (eC rfl (eC rfl (eC (eI (by subst hlex_Maps hl49; unfold impl_Library_fetch; rw [if_pos h29] <;> rfl)) (eC (eI (by subst hlex_Maps hl49; unfold impl_Library_fetch; rw [if_pos h29] <;> rfl)) (eC (eI (by subst hlex_Maps hl49; unfold impl_Library_fetch; rw [if_pos h29] <;> rfl)) rfl)))))) (eB (by subst hlex_Maps hl49; unfold impl_Library_fetch; rw [if_pos h29] <;> rfl))), (SlO.eqv ((hm58).kd hk61 hd19) (by subst hlex_Maps hl49; unfold impl_Library_fetch; rw [if_pos h29] <;> rfl)), (SlO.eqv (((hO42).kd hk53 hd47).kd hk61 hd48) (by subst hlex_Maps hl49; unfold impl_Library_fetch; rw [if_pos h29] <;> rfl)), (fun b_ h h' => hd46 b_ h' h), (fun b_ h_ => .inl (.inl h_)), (fun b_ h_ => (hN43 b_ h_).elim (fun h => ((show ∀ b_, Ax_Away = some ⟨b_, 0, none⟩ → (Ax_Maps = some ⟨b_, 0, none⟩ ∨ Ax_Away = some ⟨b_, 0, none⟩) ∨ w.heap.size ≤ b_ from (fun b_ h_ => .inl (.inr (h_)))) b_ h)) (fun h => .inr (by omega))), hB65⟩
end Go.Proofs.Ytgobbcilgcbkaaa
